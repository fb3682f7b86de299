-- merged by merge.py (the session's own program)
import Derived.Deep.Slices
import Derived.ChangeArms
import Derived.WideShapes
import Derived.OpenShut
import Derived.Test.YtabapiofkipkoaaRows
import Derived.WalkKit
import Derived.ProofKit
import Derived.WideLaws
import Derived.ShutString
import Derived.ChangeOld
import Derived.Below
import Derived.SizedLaws
import Derived.Carry
import Derived.Test.YtabapiofkipkoaaZOctetBack1
namespace Go.Proofs.Ytabapiofkipkoaa.F
open Go.RowKit Go.Proofs.YtabapiofkipkoaaX Go.Proofs.YtabapiofkipkoaaW.PrintWords Go.Proofs.YtabapiofkipkoaaW.PrintLast Go.Proofs.YtabapiofkipkoaaW.PrintMore
attribute [local go_sem] max2_int min2_int max_two min_two max_three min_three max_four min_four   -- for this text's walks alone
attribute [local go_sem high] str_geq str_leq str_gtr
set_option linter.unusedVariables false
set_option linter.unusedSimpArgs false

/-! ### backhaulref05_Put: function 36 -/
def backhaulref05_Put.l0 : Nat → Int → Int → ByteArray → Int → Option (ByteArray × Int)
  | 0, _, _, _, _ => none
  | k + 1, x0, x1, x6, x7 => if x7 < x1 then ((some (([(Int.tmod x0 256) % 256] : List Int) : List Int)).bind fun y437 => (if (strOfNums y437).size + x6.size ≤ 9223372036854775807 then (backhaulref05_Put.l0 k (wrap64 (Int.tdiv x0 256)) x1 ((strOfNums y437) ++ x6) (wrap64 (x7 + 1))) else (none))) else (if x0 > 0 then (some ((⟨#[]⟩ : ByteArray), 8)) else (some (x6, 0)))
def backhaulref05_Put.f (k : Nat) (a0 : Int) (a1 : Int) : Option (ByteArray × Int) := (backhaulref05_wide.f a1).bind fun t436 => (if t436 = true then (if a0 < 0 then (some ((⟨#[]⟩ : ByteArray), 8)) else (backhaulref05_Put.l0 k a0 a1 (⟨#[]⟩ : ByteArray) 0)) else (some ((⟨#[]⟩ : ByteArray), 2)))
theorem backhaulref05_Put.mono_l : ∀ k, (∀ y0 y1 y2 y3, LeO (backhaulref05_Put.l0 k y0 y1 y2 y3) (backhaulref05_Put.l0 (k + 1) y0 y1 y2 y3))
  | 0 => fun _ _ _ _ r h => by simp [backhaulref05_Put.l0] at h
  | k + 1 => by
    have ih0 := backhaulref05_Put.mono_l k
    · intro y0 y1 y2 y3
      unfold backhaulref05_Put.l0
      repeat' first
      | (with_reducible exact ih0 _ _ _ _)
      | (with_reducible exact LeO.refl _)
      | (with_reducible exact LeO.none _)
      | (with_reducible refine LeO.ite ?_ ?_)
      | (with_reducible refine LeO.bind ?_ (fun _ => ?_))
      | exact ih0 _ _ _ _
      | exact LeO.none _
      | refine LeO.ite ?_ ?_
      | refine LeO.bind ?_ (fun _ => ?_)
theorem backhaulref05_Put.mono : ∀ a0 a1 k, LeO (backhaulref05_Put.f k a0 a1) (backhaulref05_Put.f (k + 1) a0 a1) := by
  intro a0 a1 k
  have ih0 := backhaulref05_Put.mono_l k
  unfold backhaulref05_Put.f
  repeat' first
      | (with_reducible exact ih0 _ _ _ _)
      | (with_reducible exact LeO.refl _)
      | (with_reducible exact LeO.none _)
      | (with_reducible refine LeO.ite ?_ ?_)
      | (with_reducible refine LeO.bind ?_ (fun _ => ?_))
      | exact ih0 _ _ _ _
      | exact LeO.none _
      | refine LeO.ite ?_ ?_
      | refine LeO.bind ?_ (fun _ => ?_)
set_option maxHeartbeats 8000000 in
set_option maxRecDepth 100000 in
theorem backhaulref05_Put.calls (k : Nat) (a0 : Int) (a1 : Int) (r1 : ByteArray) (r2 : Int) (w : World) (h : backhaulref05_Put.f k a0 a1 = some (r1, r2)) :
    Calls Try.prog 36 #[.int .i64 a0, .int .i64 a1] w fun e w' => e = .returned (.tuple #[.string r1, .int .i64 r2]) ∧ Below w.heap.size w w' := by
  have HB := Aside0.mk (Below.refl w.heap.size w)
  have H : ((backhaulref05_wide.f a1).bind fun t436 => (if t436 = true then (if a0 < 0 then (some ((⟨#[]⟩ : ByteArray), 8)) else (backhaulref05_Put.l0 k a0 a1 (⟨#[]⟩ : ByteArray) 0)) else (some ((⟨#[]⟩ : ByteArray), 2)))) = some (r1, r2) := h
  clear h
  replace H := Option.bind_eq_some_iff.mp H
  obtain ⟨t436, A30, H⟩ := H
  replace H : (if t436 = true then (if a0 < 0 then (some ((⟨#[]⟩ : ByteArray), 8)) else (backhaulref05_Put.l0 k a0 a1 (⟨#[]⟩ : ByteArray) 0)) else (some ((⟨#[]⟩ : ByteArray), 2))) = some (r1, r2) := H
  have A3 := Aside0.mk A30
  clear A30
  by_cases c4 : t436 = true
  · subst c4
    have H1 : (if a0 < 0 then (some ((⟨#[]⟩ : ByteArray), 8)) else (backhaulref05_Put.l0 k a0 a1 (⟨#[]⟩ : ByteArray) 0)) = some (r1, r2) := by first | (rw [if_pos rfl] at H; exact H) | rfl
    clear H
    have H := H1
    clear H1
    by_cases c5 : a0 < 0
    · rw [if_pos c5] at H
      have c5b0 : decide (a0 < 0) = true := decide_eq_true c5
      clear c5
      simp only [Option.some.injEq, Prod.mk.injEq] at H
      obtain ⟨rfl, rfl⟩ := H
      go_enter Try.func36, Try.ntmps36
      go_wp2_with (first | ((with_reducible refine gate_callee (f := 70) rfl ?_); refine goesL_ (some 9) rfl rfl Try.func70 (by kernel_rfl) rfl #[.int .i64 a1] rfl (by (try simp only [List.map_toArray, List.map_cons, List.map_nil]); first | done | rfl | (simp only [List.length_drop, List.length_take]; rfl)) ?_; (with_reducible refine (backhaulref05_wide.calls a1 true _ A3.out).mono ?_); rintro e w' ⟨rfl, ⟨nd, rfl⟩⟩; refine ⟨_, rfl, ?_⟩))
      go_ret2
      exact ⟨by first | rfl | (simp [errW_none, errW_some] <;> rfl) | (simp [*, errW_none, errW_some] <;> rfl), by repeat (first | (with_reducible first | exact HB.out | apply below_alloc | apply pw_below_drewN | apply below_drew1) | exact HB.out)⟩
    · rw [if_neg c5] at H
      have c5b0 : decide (a0 < 0) = false := decide_eq_false c5
      clear c5
      have H' := Aside0.mk H
      clear H
      go_enter Try.func36, Try.ntmps36
      go_wp2_with (first | ((with_reducible refine gate_callee (f := 70) rfl ?_); refine goesL_ (some 9) rfl rfl Try.func70 (by kernel_rfl) rfl #[.int .i64 a1] rfl (by (try simp only [List.map_toArray, List.map_cons, List.map_nil]); first | done | rfl | (simp only [List.length_drop, List.length_take]; rfl)) ?_; (with_reducible refine (backhaulref05_wide.calls a1 true _ A3.out).mono ?_); rintro e w' ⟨rfl, ⟨nd, rfl⟩⟩; refine ⟨_, rfl, ?_⟩))
      go_loopg [0, 6, 7] k (fun kq v0 v6 v7 w' => ∃ (x0_1 : Int) (x6_1 : ByteArray) (x7_1 : Int), v0 = .int .i64 x0_1 ∧ v6 = .string x6_1 ∧ v7 = .int .i64 x7_1 ∧ Aside0 (backhaulref05_Put.l0 kq x0_1 a1 x6_1 x7_1 = some (r1, r2)) ∧ Aside0 (kq ≤ k) ∧ Aside0 (Below w.heap.size w w'))
      case atStart => exact ⟨(a0), ((⟨#[]⟩ : ByteArray)), (0), (by first | rfl | (simp; done) | (simp [*]; done)), (by first | rfl | (simp; done) | (simp [*]; done)), (by first | rfl | (simp; done) | (simp [*]; done)), H', ⟨Nat.le_refl _⟩, ⟨by repeat (first | (with_reducible first | exact HB.out | apply below_alloc | apply pw_below_drewN | apply below_drew1) | exact HB.out)⟩⟩
      case round =>
        clear H'
        try clear p2
        try clear c3
        try clear c4
        try clear c5
        try clear c5b0
        obtain ⟨x0_1, x6_1, x7_1, rfl, rfl, rfl, HA, HK1, HB⟩ := hrel
        cases gk with
        | zero => exact absurd HA.out (by simp [backhaulref05_Put.l0])
        | succ k1 =>
          have H := HA.out
          clear HA
          simp only [backhaulref05_Put.l0] at H
          by_cases c6 : x7_1 < a1
          · rw [if_pos c6] at H
            have c6b0 : decide (x7_1 < a1) = true := decide_eq_true c6
            clear c6
            obtain ⟨y437, hy437⟩ : ∃ y_ : List Int, y_ = (([(Int.tmod x0_1 256) % 256] : List Int)) := ⟨_, rfl⟩
            replace H : (if (strOfNums y437).size + x6_1.size ≤ 9223372036854775807 then (backhaulref05_Put.l0 k1 (wrap64 (Int.tdiv x0_1 256)) a1 ((strOfNums y437) ++ x6_1) (wrap64 (x7_1 + 1))) else (none)) = some (r1, r2) := by first | (rw [hy437]; with_reducible exact H) | (have H2_ := (Option.bind_some _ _).symm.trans H; rw [hy437]; with_reducible exact H2_) | (have H2_ := (Option.bind_some _ _).symm.trans H; with_reducible exact H2_) | with_reducible exact H | (rw [hy437]; exact H) | exact H
            have Ny437 := Aside0.mk hy437
            clear hy437
            by_cases c7 : (strOfNums y437).size + x6_1.size ≤ 9223372036854775807
            · rw [if_pos c7] at H
              have c7b0 := eq_true c7
              have c7b1 : decide ((strOfNums y437).size + x6_1.size ≤ 9223372036854775807) = true := decide_eq_true c7
              try have c7b2 : (9223372036854775807 < (strOfNums y437).size + x6_1.size) = False := eq_false (Nat.not_lt.2 c7)
              have H' := Aside0.mk H
              clear H
              go_wp2_with (first | ((with_reducible refine gate_dst (N := 21) rfl ?_); refine Kd.R_lit (Kd.int .u8) _ 5 ?hg (N := 21) ?hd (xs := ([(Int.tmod x0_1 256) % 256] : List Int)) (inner := [.int .u8 ((Int.tmod x0_1 256) % 256)]) (ok := fun _ => True) (okp := fun _ => True) ?hr ?hp (fun _ hk => hk) trivial (Below.refl _ _) (Nat.le_refl _) (by simp) ?_; (case hd => rfl); (case hg => rfl); (case hr => first | (go_simp; done) | (go_simp; rfl)); (case hp => exact (Reps.one (show Kd.M (Kd.int .u8) _ _ _ ((Int.tmod x0_1 256) % 256) [.int .u8 ((Int.tmod x0_1 256) % 256)] from rfl) (Reps.none _ _))); intro v438 w8 ho9 hb hg_ hnew_; clear hg_ hnew_; (first | rw [← Ny437.out] at ho9 | (simp only [Int.reduceToNat] at ho9; rw [← Ny437.out] at ho9)); have n0_ := Aside0.mk (Kd.R_lower ho9 (below_size (by repeat (first | (with_reducible first | exact HB.out | apply below_alloc | apply pw_below_drewN | apply below_drew1) | exact HB.out)))); have n1_ := Aside0.mk (below_step (by repeat (first | (with_reducible first | exact HB.out | apply below_alloc | apply pw_below_drewN | apply below_drew1) | exact HB.out)) hb); clear HB; have HO439 := n0_; have HB := n1_; clear n0_ n1_; clear hb ho9; have hcv10 := own_string (P := Try.prog) Try.underlying92 Try.underlying5 Try.underlying9 (Kd.own_of_R HO439.out)))
              go_roundg k1
              case measure => have := HK1.out; omega
              case rel => exact ⟨(wrap64 (Int.tdiv x0_1 256)), ((strOfNums y437) ++ x6_1), (wrap64 (x7_1 + 1)), (by first | rfl | (simp; done) | (simp [*]; done)), (by first | rfl | (simp; done) | (simp [*]; done)), (by first | rfl | (simp; done) | (simp [*]; done)), H', ⟨by have := HK1.out; omega⟩, ⟨by repeat (first | (with_reducible first | exact HB.out | apply below_alloc | apply pw_below_drewN | apply below_drew1) | exact HB.out)⟩⟩
            · rw [if_neg c7] at H
              exact absurd H (by simp)
          · rw [if_neg c6] at H
            have c6b0 : decide (x7_1 < a1) = false := decide_eq_false c6
            clear c6
            by_cases c11 : x0_1 > 0
            · rw [if_pos c11] at H
              have c11b0 : decide (0 < x0_1) = true := decide_eq_true c11
              clear c11
              simp only [Option.some.injEq, Prod.mk.injEq] at H
              obtain ⟨rfl, rfl⟩ := H
              go_wp2
              go_ret2
              exact ⟨by first | rfl | (simp [errW_none, errW_some] <;> rfl) | (simp [*, errW_none, errW_some] <;> rfl), by repeat (first | (with_reducible first | exact HB.out | apply below_alloc | apply pw_below_drewN | apply below_drew1) | exact HB.out)⟩
            · rw [if_neg c11] at H
              have c11b0 : decide (0 < x0_1) = false := decide_eq_false c11
              clear c11
              simp only [Option.some.injEq, Prod.mk.injEq] at H
              obtain ⟨rfl, rfl⟩ := H
              go_wp2
              go_ret2
              exact ⟨by first | rfl | (simp [errW_none, errW_some] <;> rfl) | (simp [*, errW_none, errW_some] <;> rfl), by repeat (first | (with_reducible first | exact HB.out | apply below_alloc | apply pw_below_drewN | apply below_drew1) | exact HB.out)⟩
  · replace c4 := Bool.eq_false_iff.mpr c4
    subst c4
    have H1 : (some ((⟨#[]⟩ : ByteArray), 2)) = some (r1, r2) := by first | (rw [if_neg (show ¬ (false = true) by decide)] at H; exact H) | rfl
    clear H
    have H := H1
    clear H1
    simp only [Option.some.injEq, Prod.mk.injEq] at H
    obtain ⟨rfl, rfl⟩ := H
    go_enter Try.func36, Try.ntmps36
    go_wp2_with (first | ((with_reducible refine gate_callee (f := 70) rfl ?_); refine goesL_ (some 9) rfl rfl Try.func70 (by kernel_rfl) rfl #[.int .i64 a1] rfl (by (try simp only [List.map_toArray, List.map_cons, List.map_nil]); first | done | rfl | (simp only [List.length_drop, List.length_take]; rfl)) ?_; (with_reducible refine (backhaulref05_wide.calls a1 false _ A3.out).mono ?_); rintro e w' ⟨rfl, ⟨nd, rfl⟩⟩; refine ⟨_, rfl, ?_⟩))
    go_ret2
    exact ⟨by first | rfl | (simp [errW_none, errW_some] <;> rfl) | (simp [*, errW_none, errW_some] <;> rfl), by repeat (first | (with_reducible first | exact HB.out | apply below_alloc | apply pw_below_drewN | apply below_drew1) | exact HB.out)⟩

end Go.Proofs.Ytabapiofkipkoaa.F

namespace Go.Proofs.Ytabapiofkipkoaa.F
open Go.RowKit Go.Proofs.YtabapiofkipkoaaX Go.Proofs.YtabapiofkipkoaaW.PrintWords Go.Proofs.YtabapiofkipkoaaW.PrintLast Go.Proofs.YtabapiofkipkoaaW.PrintMore
attribute [local go_sem] max2_int min2_int max_two min_two max_three min_three max_four min_four   -- for this text's walks alone
attribute [local go_sem high] str_geq str_leq str_gtr
set_option linter.unusedVariables false
set_option linter.unusedSimpArgs false

/-! ### backhaulref05_Get: function 38 -/
mutual
def backhaulref05_Get.j0 : Nat → ByteArray → Int → Int → Bool → Option (Int × Int × Int)
  | 0, _, _, _, _ => none
  | k + 1, x0, x1, x2, x23 => if x23 = true then (some (0, 0, 2)) else (if (wrap64 ((x0.size : Int) - x1)) < x2 then (some (0, 0, 4)) else (if x2 = 8 then (if 0 ≤ x1 then (if x1 < (x0.size : Int) then (backhaulref05_Get.j1 k x0 x1 x2 (decide ((bt x0 x1) > 127))) else (none)) else (none)) else (backhaulref05_Get.j1 k x0 x1 x2 false)))
def backhaulref05_Get.j1 : Nat → ByteArray → Int → Int → Bool → Option (Int × Int × Int)
  | 0, _, _, _, _ => none
  | k + 1, x0, x1, x2, x37 => if x37 = true then (some (0, 0, 8)) else (backhaulref05_Get.l0 k x0 x1 x2 0 x1)
def backhaulref05_Get.l0 : Nat → ByteArray → Int → Int → Int → Int → Option (Int × Int × Int)
  | 0, _, _, _, _, _ => none
  | k + 1, x0, x1, x2, x9, x10 => if x10 < (wrap64 (x1 + x2)) then (if 0 ≤ x10 then (if x10 < (x0.size : Int) then (backhaulref05_Get.l0 k x0 x1 x2 (wrap64 ((wrap64 (256 * x9)) + (wrap64 (bt x0 x10)))) (wrap64 (x10 + 1))) else (none)) else (none)) else (some (x9, wrap64 (x1 + x2), 0))
end
def backhaulref05_Get.f (k : Nat) (a0 : ByteArray) (a1 : Int) (a2 : Int) : Option (Int × Int × Int) := (backhaulref05_wide.f a2).bind fun t440 => (if t440 = true then (if a1 < 0 then (backhaulref05_Get.j0 k a0 a1 a2 true) else (backhaulref05_Get.j0 k a0 a1 a2 (decide (a1 > (a0.size : Int))))) else (backhaulref05_Get.j0 k a0 a1 a2 true))
theorem backhaulref05_Get.mono_l : ∀ k, (∀ y0 y1 y2 y3, LeO (backhaulref05_Get.j0 k y0 y1 y2 y3) (backhaulref05_Get.j0 (k + 1) y0 y1 y2 y3)) ∧ (∀ y0 y1 y2 y3, LeO (backhaulref05_Get.j1 k y0 y1 y2 y3) (backhaulref05_Get.j1 (k + 1) y0 y1 y2 y3)) ∧ (∀ y0 y1 y2 y3 y4, LeO (backhaulref05_Get.l0 k y0 y1 y2 y3 y4) (backhaulref05_Get.l0 (k + 1) y0 y1 y2 y3 y4))
  | 0 => ⟨fun _ _ _ _ r h => by simp [backhaulref05_Get.j0] at h, fun _ _ _ _ r h => by simp [backhaulref05_Get.j1] at h, fun _ _ _ _ _ r h => by simp [backhaulref05_Get.l0] at h⟩
  | k + 1 => by
    obtain ⟨ih0, ih1, ih2⟩ := backhaulref05_Get.mono_l k
    refine ⟨?_, ?_, ?_⟩
    · intro y0 y1 y2 y3
      unfold backhaulref05_Get.j0
      repeat' first
      | (with_reducible exact ih0 _ _ _ _)
      | (with_reducible exact ih1 _ _ _ _)
      | (with_reducible exact ih2 _ _ _ _ _)
      | (with_reducible exact LeO.refl _)
      | (with_reducible exact LeO.none _)
      | (with_reducible refine LeO.ite ?_ ?_)
      | (with_reducible refine LeO.bind ?_ (fun _ => ?_))
      | exact ih0 _ _ _ _
      | exact ih1 _ _ _ _
      | exact ih2 _ _ _ _ _
      | exact LeO.none _
      | refine LeO.ite ?_ ?_
      | refine LeO.bind ?_ (fun _ => ?_)
    · intro y0 y1 y2 y3
      unfold backhaulref05_Get.j1
      repeat' first
      | (with_reducible exact ih0 _ _ _ _)
      | (with_reducible exact ih1 _ _ _ _)
      | (with_reducible exact ih2 _ _ _ _ _)
      | (with_reducible exact LeO.refl _)
      | (with_reducible exact LeO.none _)
      | (with_reducible refine LeO.ite ?_ ?_)
      | (with_reducible refine LeO.bind ?_ (fun _ => ?_))
      | exact ih0 _ _ _ _
      | exact ih1 _ _ _ _
      | exact ih2 _ _ _ _ _
      | exact LeO.none _
      | refine LeO.ite ?_ ?_
      | refine LeO.bind ?_ (fun _ => ?_)
    · intro y0 y1 y2 y3 y4
      unfold backhaulref05_Get.l0
      repeat' first
      | (with_reducible exact ih0 _ _ _ _)
      | (with_reducible exact ih1 _ _ _ _)
      | (with_reducible exact ih2 _ _ _ _ _)
      | (with_reducible exact LeO.refl _)
      | (with_reducible exact LeO.none _)
      | (with_reducible refine LeO.ite ?_ ?_)
      | (with_reducible refine LeO.bind ?_ (fun _ => ?_))
      | exact ih0 _ _ _ _
      | exact ih1 _ _ _ _
      | exact ih2 _ _ _ _ _
      | exact LeO.none _
      | refine LeO.ite ?_ ?_
      | refine LeO.bind ?_ (fun _ => ?_)
theorem backhaulref05_Get.mono : ∀ a0 a1 a2 k, LeO (backhaulref05_Get.f k a0 a1 a2) (backhaulref05_Get.f (k + 1) a0 a1 a2) := by
  intro a0 a1 a2 k
  obtain ⟨ih0, ih1, ih2⟩ := backhaulref05_Get.mono_l k
  unfold backhaulref05_Get.f
  repeat' first
      | (with_reducible exact ih0 _ _ _ _)
      | (with_reducible exact ih1 _ _ _ _)
      | (with_reducible exact ih2 _ _ _ _ _)
      | (with_reducible exact LeO.refl _)
      | (with_reducible exact LeO.none _)
      | (with_reducible refine LeO.ite ?_ ?_)
      | (with_reducible refine LeO.bind ?_ (fun _ => ?_))
      | exact ih0 _ _ _ _
      | exact ih1 _ _ _ _
      | exact ih2 _ _ _ _ _
      | exact LeO.none _
      | refine LeO.ite ?_ ?_
      | refine LeO.bind ?_ (fun _ => ?_)
set_option maxHeartbeats 8000000 in
set_option maxRecDepth 100000 in
theorem backhaulref05_Get.calls (k : Nat) (a0 : ByteArray) (a1 : Int) (a2 : Int) (r1 : Int) (r2 : Int) (r3 : Int) (w : World) (h : backhaulref05_Get.f k a0 a1 a2 = some (r1, r2, r3)) :
    Calls Try.prog 38 #[.string a0, .int .i64 a1, .int .i64 a2] w fun e w' => e = .returned (.tuple #[.int .i64 r1, .int .i64 r2, .int .i64 r3]) ∧ Drawn0 w w' := by
  have H : ((backhaulref05_wide.f a2).bind fun t440 => (if t440 = true then (if a1 < 0 then (backhaulref05_Get.j0 k a0 a1 a2 true) else (backhaulref05_Get.j0 k a0 a1 a2 (decide (a1 > (a0.size : Int))))) else (backhaulref05_Get.j0 k a0 a1 a2 true))) = some (r1, r2, r3) := h
  clear h
  have HC4 := Aside0.mk H
  clear H
  go_enter Try.func38, Try.ntmps38
  go_upto_region 1 with (fail)
  go_cut [23] (fun v23 wc => ∃ (kq : Nat) (x23_3 : Bool), v23 = .bool x23_3 ∧ Aside0 (backhaulref05_Get.j0 kq a0 a1 a2 x23_3 = some (r1, r2, r3)) ∧ Aside0 (kq ≤ k) ∧ Drawn0 w wc)
  case first =>
    have H := HC4.out
    clear HC4
    replace H := Option.bind_eq_some_iff.mp H
    obtain ⟨t440, A50, H⟩ := H
    replace H : (if t440 = true then (if a1 < 0 then (backhaulref05_Get.j0 k a0 a1 a2 true) else (backhaulref05_Get.j0 k a0 a1 a2 (decide (a1 > (a0.size : Int))))) else (backhaulref05_Get.j0 k a0 a1 a2 true)) = some (r1, r2, r3) := H
    have A5 := Aside0.mk A50
    clear A50
    by_cases c6 : t440 = true
    · subst c6
      have H1 : (if a1 < 0 then (backhaulref05_Get.j0 k a0 a1 a2 true) else (backhaulref05_Get.j0 k a0 a1 a2 (decide (a1 > (a0.size : Int))))) = some (r1, r2, r3) := by first | (rw [if_pos rfl] at H; exact H) | rfl
      clear H
      have H := H1
      clear H1
      by_cases c7 : a1 < 0
      · rw [if_pos c7] at H
        have c7b0 : decide (a1 < 0) = true := decide_eq_true c7
        clear c7
        (first | rw [c7b0] | (simp only [i64_w, i32_w]; rw [c7b0]) | skip)
        have H' := Aside0.mk H
        clear H
        go_wp2_with (first | ((with_reducible refine gate_callee (f := 70) rfl ?_); refine goesL_ (some 12) rfl rfl Try.func70 (by kernel_rfl) rfl #[.int .i64 a2] rfl (by (try simp only [List.map_toArray, List.map_cons, List.map_nil]); first | done | rfl | (simp only [List.length_drop, List.length_take]; rfl)) ?_; (with_reducible refine (backhaulref05_wide.calls a2 true _ A5.out).mono ?_); rintro e w' ⟨rfl, ⟨nd, rfl⟩⟩; refine ⟨_, rfl, ?_⟩))
        go_meet
        case rel => exact ⟨_, (true), (by first | rfl | (simp; done) | (simp [*]; done)), H', ⟨by first | omega | exact Nat.le_refl _⟩, by repeat (first | exact Drawn0.refl _ | apply Drawn0.step)⟩
      · rw [if_neg c7] at H
        have c7b0 : decide (a1 < 0) = false := decide_eq_false c7
        clear c7
        (first | rw [c7b0] | (simp only [i64_w, i32_w]; rw [c7b0]) | skip)
        have H' := Aside0.mk H
        clear H
        go_wp2_with (first | ((with_reducible refine gate_callee (f := 70) rfl ?_); refine goesL_ (some 12) rfl rfl Try.func70 (by kernel_rfl) rfl #[.int .i64 a2] rfl (by (try simp only [List.map_toArray, List.map_cons, List.map_nil]); first | done | rfl | (simp only [List.length_drop, List.length_take]; rfl)) ?_; (with_reducible refine (backhaulref05_wide.calls a2 true _ A5.out).mono ?_); rintro e w' ⟨rfl, ⟨nd, rfl⟩⟩; refine ⟨_, rfl, ?_⟩))
        go_meet
        case rel => exact ⟨_, (decide (a1 > (a0.size : Int))), (by first | rfl | (simp; done) | (simp [*]; done)), H', ⟨by first | omega | exact Nat.le_refl _⟩, by repeat (first | exact Drawn0.refl _ | apply Drawn0.step)⟩
    · replace c6 := Bool.eq_false_iff.mpr c6
      subst c6
      have H1 : (backhaulref05_Get.j0 k a0 a1 a2 true) = some (r1, r2, r3) := by first | (rw [if_neg (show ¬ (false = true) by decide)] at H; exact H) | rfl
      clear H
      have H := H1
      clear H1
      have H' := Aside0.mk H
      clear H
      go_wp2_with (first | ((with_reducible refine gate_callee (f := 70) rfl ?_); refine goesL_ (some 12) rfl rfl Try.func70 (by kernel_rfl) rfl #[.int .i64 a2] rfl (by (try simp only [List.map_toArray, List.map_cons, List.map_nil]); first | done | rfl | (simp only [List.length_drop, List.length_take]; rfl)) ?_; (with_reducible refine (backhaulref05_wide.calls a2 false _ A5.out).mono ?_); rintro e w' ⟨rfl, ⟨nd, rfl⟩⟩; refine ⟨_, rfl, ?_⟩))
      go_meet
      case rel => exact ⟨_, (true), (by first | rfl | (simp; done) | (simp [*]; done)), H', ⟨by first | omega | exact Nat.le_refl _⟩, by repeat (first | exact Drawn0.refl _ | apply Drawn0.step)⟩
  case rest =>
    clear HC4
    try clear p2
    try clear c3
    try clear c6
    try clear c7
    try clear c7b0
    obtain ⟨kq, x23_3, rfl, HA, HJ3, ⟨mc3, rfl⟩⟩ := hcut
    cases kq with
    | zero => exact absurd HA.out (by simp [backhaulref05_Get.j0])
    | succ kj3 =>
      have H := HA.out
      clear HA
      simp only [backhaulref05_Get.j0] at H
      by_cases c8 : x23_3 = true
      · subst c8
        have H1 : (some (0, 0, 2)) = some (r1, r2, r3) := by first | (rw [if_pos rfl] at H; exact H) | rfl
        clear H
        have H := H1
        clear H1
        simp only [Option.some.injEq, Prod.mk.injEq] at H
        obtain ⟨rfl, rfl, rfl⟩ := H
        go_wp2
        go_ret3
        exact ⟨by first | rfl | (simp; done) | (simp [*]; done), by repeat (first | exact Drawn0.refl _ | apply Drawn0.step)⟩
      · replace c8 := Bool.eq_false_iff.mpr c8
        subst c8
        have H1 : (if (wrap64 ((a0.size : Int) - a1)) < a2 then (some (0, 0, 4)) else (if a2 = 8 then (if 0 ≤ a1 then (if a1 < (a0.size : Int) then (backhaulref05_Get.j1 kj3 a0 a1 a2 (decide ((bt a0 a1) > 127))) else (none)) else (none)) else (backhaulref05_Get.j1 kj3 a0 a1 a2 false))) = some (r1, r2, r3) := by first | (rw [if_neg (show ¬ (false = true) by decide)] at H; exact H) | rfl
        clear H
        have H := H1
        clear H1
        by_cases c9 : (wrap64 ((a0.size : Int) - a1)) < a2
        · rw [if_pos c9] at H
          have c9b0 : decide ((wrap64 ((a0.size : Int) - a1)) < a2) = true := decide_eq_true c9
          clear c9
          simp only [Option.some.injEq, Prod.mk.injEq] at H
          obtain ⟨rfl, rfl, rfl⟩ := H
          go_wp2
          go_ret3
          exact ⟨by first | rfl | (simp; done) | (simp [*]; done), by repeat (first | exact Drawn0.refl _ | apply Drawn0.step)⟩
        · rw [if_neg c9] at H
          have c9b0 : decide ((wrap64 ((a0.size : Int) - a1)) < a2) = false := decide_eq_false c9
          clear c9
          have HC10 := Aside0.mk H
          clear H
          go_upto_region 5 with (fail)
          go_cut [37] (fun v37 wc => ∃ (kq : Nat) (x37_9 : Bool), v37 = .bool x37_9 ∧ Aside0 (backhaulref05_Get.j1 kq a0 a1 a2 x37_9 = some (r1, r2, r3)) ∧ Aside0 (kq ≤ kj3) ∧ Drawn0 w wc)
          case first =>
            have H := HC10.out
            clear HC10
            by_cases c11 : a2 = 8
            · rw [if_pos c11] at H
              have c11b0 : (a2 == 8) = true := beq_iff_eq.mpr c11
              have c11b1 : (a2 != 8) = false := bne_eq_false_iff_eq.mpr c11
              clear c11
              (first | rw [c11b0] | (simp only [i64_w, i32_w]; rw [c11b0]) | skip)
              by_cases c12 : 0 ≤ a1
              · rw [if_pos c12] at H
                have c12b0 : decide (0 ≤ a1) = true := decide_eq_true c12
                clear c12
                by_cases c13 : a1 < (a0.size : Int)
                · rw [if_pos c13] at H
                  have c13b0 : decide (a1 < (a0.size : Int)) = true := decide_eq_true c13
                  clear c13
                  have H' := Aside0.mk H
                  clear H
                  have p14 : 0 ≤ (a1 : Int) := of_decide_eq_true (by first | (with_reducible assumption) | assumption)
                  have q14 : a1 < (a0.size : Int) := of_decide_eq_true (by first | (with_reducible assumption) | assumption)
                  have hx14 := bt_at a0 a1
                  replace p14 := eq_true p14
                  replace q14 := eq_true q14
                  go_wp2
                  go_meet
                  case rel => exact ⟨_, (decide ((bt a0 a1) > 127)), (by first | rfl | (simp; done) | (simp [*]; done)), H', ⟨by have := HJ3.out; first | omega | exact Nat.le_refl _⟩, by repeat (first | exact Drawn0.refl _ | apply Drawn0.step)⟩
                · rw [if_neg c13] at H
                  exact absurd H (by simp)
              · rw [if_neg c12] at H
                exact absurd H (by simp)
            · rw [if_neg c11] at H
              have c11b0 : (a2 == 8) = false := beq_eq_false_iff_ne.mpr c11
              have c11b1 : (a2 != 8) = true := bne_iff_ne.mpr c11
              (first | rw [c11b0] | (simp only [i64_w, i32_w]; rw [c11b0]) | skip)
              have H' := Aside0.mk H
              clear H
              go_wp2
              go_meet
              case rel => exact ⟨_, (false), (by first | rfl | (simp; done) | (simp [*]; done)), H', ⟨by have := HJ3.out; first | omega | exact Nat.le_refl _⟩, by repeat (first | exact Drawn0.refl _ | apply Drawn0.step)⟩
          case rest =>
            clear HC10
            try clear c1
            try clear p1
            try clear q1
            try clear hx1
            try clear p2
            try clear c3
            try clear c6
            try clear p6
            try clear c7
            try clear c7b0
            try clear c8
            try clear c9
            try clear c9b0
            try clear c11
            try clear c11b0
            try clear c11b1
            try clear c12
            try clear c12b0
            try clear c13
            try clear c13b0
            try clear p14
            try clear q14
            try clear hx14
            try clear p14
            try clear p2
            try clear q14
            obtain ⟨kq, x37_9, rfl, HA, HJ9, ⟨mc9, rfl⟩⟩ := hcut
            cases kq with
            | zero => exact absurd HA.out (by simp [backhaulref05_Get.j1])
            | succ kj9 =>
              have H := HA.out
              clear HA
              simp only [backhaulref05_Get.j1] at H
              by_cases c15 : x37_9 = true
              · subst c15
                have H1 : (some (0, 0, 8)) = some (r1, r2, r3) := by first | (rw [if_pos rfl] at H; exact H) | rfl
                clear H
                have H := H1
                clear H1
                simp only [Option.some.injEq, Prod.mk.injEq] at H
                obtain ⟨rfl, rfl, rfl⟩ := H
                go_wp2
                go_ret3
                exact ⟨by first | rfl | (simp; done) | (simp [*]; done), by repeat (first | exact Drawn0.refl _ | apply Drawn0.step)⟩
              · replace c15 := Bool.eq_false_iff.mpr c15
                subst c15
                have H1 : (backhaulref05_Get.l0 kj9 a0 a1 a2 0 a1) = some (r1, r2, r3) := by first | (rw [if_neg (show ¬ (false = true) by decide)] at H; exact H) | rfl
                clear H
                have H := H1
                clear H1
                have H' := Aside0.mk H
                clear H
                go_wp2
                go_loopg [9, 10] kj9 (fun kq v9 v10 w' => ∃ (x9_3 : Int) (x10_3 : Int), v9 = .int .i64 x9_3 ∧ v10 = .int .i64 x10_3 ∧ Aside0 (backhaulref05_Get.l0 kq a0 a1 a2 x9_3 x10_3 = some (r1, r2, r3)) ∧ Aside0 (kq ≤ kj9) ∧ Drawn0 w w')
                case atStart => exact ⟨(0), (a1), (by first | rfl | (simp; done) | (simp [*]; done)), (by first | rfl | (simp; done) | (simp [*]; done)), H', ⟨Nat.le_refl _⟩, by repeat (first | exact Drawn0.refl _ | apply Drawn0.step)⟩
                case round =>
                  clear H'
                  try clear c1
                  try clear p1
                  try clear q1
                  try clear hx1
                  try clear p2
                  try clear c3
                  try clear c6
                  try clear p6
                  try clear c7
                  try clear c7b0
                  try clear c8
                  try clear c9
                  try clear c9b0
                  try clear c11
                  try clear c11b0
                  try clear c11b1
                  try clear c12
                  try clear c12b0
                  try clear c13
                  try clear c13b0
                  try clear p14
                  try clear q14
                  try clear hx14
                  try clear c15
                  try clear p1
                  try clear p14
                  try clear p2
                  try clear p6
                  try clear q1
                  try clear q14
                  obtain ⟨x9_3, x10_3, rfl, rfl, HA, HK3, ⟨m3, rfl⟩⟩ := hrel
                  cases gk with
                  | zero => exact absurd HA.out (by simp [backhaulref05_Get.l0])
                  | succ k3 =>
                    have H := HA.out
                    clear HA
                    simp only [backhaulref05_Get.l0] at H
                    by_cases c16 : x10_3 < (wrap64 (a1 + a2))
                    · rw [if_pos c16] at H
                      have c16b0 : decide (x10_3 < (wrap64 (a1 + a2))) = true := decide_eq_true c16
                      clear c16
                      by_cases c17 : 0 ≤ x10_3
                      · rw [if_pos c17] at H
                        have c17b0 : decide (0 ≤ x10_3) = true := decide_eq_true c17
                        clear c17
                        by_cases c18 : x10_3 < (a0.size : Int)
                        · rw [if_pos c18] at H
                          have c18b0 : decide (x10_3 < (a0.size : Int)) = true := decide_eq_true c18
                          clear c18
                          have H' := Aside0.mk H
                          clear H
                          have p19 : 0 ≤ (x10_3 : Int) := of_decide_eq_true (by first | (with_reducible assumption) | assumption)
                          have q19 : x10_3 < (a0.size : Int) := of_decide_eq_true (by first | (with_reducible assumption) | assumption)
                          have hx19 := bt_at a0 x10_3
                          replace p19 := eq_true p19
                          replace q19 := eq_true q19
                          go_wp2
                          go_roundg k3
                          case measure => have := HJ3.out; have := HJ9.out; have := HK3.out; omega
                          case rel => exact ⟨(wrap64 ((wrap64 (256 * x9_3)) + (wrap64 (bt a0 x10_3)))), (wrap64 (x10_3 + 1)), (by first | rfl | (simp; done) | (simp [*]; done)), (by first | rfl | (simp; done) | (simp [*]; done)), H', ⟨by have := HJ3.out; have := HJ9.out; have := HK3.out; omega⟩, by repeat (first | exact Drawn0.refl _ | apply Drawn0.step)⟩
                        · rw [if_neg c18] at H
                          exact absurd H (by simp)
                      · rw [if_neg c17] at H
                        exact absurd H (by simp)
                    · rw [if_neg c16] at H
                      have c16b0 : decide (x10_3 < (wrap64 (a1 + a2))) = false := decide_eq_false c16
                      clear c16
                      simp only [Option.some.injEq, Prod.mk.injEq] at H
                      obtain ⟨rfl, rfl, rfl⟩ := H
                      go_wp2
                      go_ret3
                      exact ⟨by first | rfl | (simp; done) | (simp [*]; done), by repeat (first | exact Drawn0.refl _ | apply Drawn0.step)⟩

end Go.Proofs.Ytabapiofkipkoaa.F

namespace Go.Proofs.Ytabapiofkipkoaa.F
open Go.RowKit Go.Proofs.YtabapiofkipkoaaX Go.Proofs.YtabapiofkipkoaaW.PrintWords Go.Proofs.YtabapiofkipkoaaW.PrintLast Go.Proofs.YtabapiofkipkoaaW.PrintMore
attribute [local go_sem] max2_int min2_int max_two min_two max_three min_three max_four min_four   -- for this text's walks alone
attribute [local go_sem high] str_geq str_leq str_gtr
set_option linter.unusedVariables false
set_option linter.unusedSimpArgs false

/-! ### backhaulref05_Lay: function 40 -/
def backhaulref05_Lay.f (a0 : ByteArray) : Option (ByteArray × Int) := if (a0.size : Int) > 65535 then (some ((⟨#[]⟩ : ByteArray), 3)) else ((some (([((a0.size : Int) / 256) % 256, (a0.size : Int) % 256] : List Int) : List Int)).bind fun y455 => (if (strOfNums y455).size + a0.size ≤ 9223372036854775807 then (some ((strOfNums y455) ++ a0, 0)) else (none)))
set_option maxHeartbeats 8000000 in
set_option maxRecDepth 100000 in
theorem backhaulref05_Lay.calls (a0 : ByteArray) (r1 : ByteArray) (r2 : Int) (w : World) (h : backhaulref05_Lay.f a0 = some (r1, r2)) :
    Calls Try.prog 40 #[.string a0] w fun e w' => e = .returned (.tuple #[.string r1, .int .i64 r2]) ∧ Below w.heap.size w w' := by
  have HB := Aside0.mk (Below.refl w.heap.size w)
  have H : (if (a0.size : Int) > 65535 then (some ((⟨#[]⟩ : ByteArray), 3)) else ((some (([((a0.size : Int) / 256) % 256, (a0.size : Int) % 256] : List Int) : List Int)).bind fun y455 => (if (strOfNums y455).size + a0.size ≤ 9223372036854775807 then (some ((strOfNums y455) ++ a0, 0)) else (none)))) = some (r1, r2) := h
  clear h
  by_cases c2 : (a0.size : Int) > 65535
  · rw [if_pos c2] at H
    have c2b0 : decide (65535 < (a0.size : Int)) = true := decide_eq_true c2
    have c2b1 : decide (65535 < a0.size) = true := decide_eq_true (by omega)
    clear c2
    simp only [Option.some.injEq, Prod.mk.injEq] at H
    obtain ⟨rfl, rfl⟩ := H
    go_enter Try.func40, Try.ntmps40
    go_wp2
    go_ret2
    exact ⟨by first | rfl | (simp [errW_none, errW_some] <;> rfl) | (simp [*, errW_none, errW_some] <;> rfl), by repeat (first | (with_reducible first | exact HB.out | apply below_alloc | apply pw_below_drewN | apply below_drew1) | exact HB.out)⟩
  · rw [if_neg c2] at H
    have c2b0 : decide (65535 < (a0.size : Int)) = false := decide_eq_false c2
    have c2b1 : decide (65535 < a0.size) = false := decide_eq_false (by omega)
    clear c2
    obtain ⟨y455, hy455⟩ : ∃ y_ : List Int, y_ = (([((a0.size : Int) / 256) % 256, (a0.size : Int) % 256] : List Int)) := ⟨_, rfl⟩
    replace H : (if (strOfNums y455).size + a0.size ≤ 9223372036854775807 then (some ((strOfNums y455) ++ a0, 0)) else (none)) = some (r1, r2) := by first | (rw [hy455]; with_reducible exact H) | (have H2_ := (Option.bind_some _ _).symm.trans H; rw [hy455]; with_reducible exact H2_) | (have H2_ := (Option.bind_some _ _).symm.trans H; with_reducible exact H2_) | with_reducible exact H | (rw [hy455]; exact H) | exact H
    have Ny455 := Aside0.mk hy455
    clear hy455
    by_cases c3 : (strOfNums y455).size + a0.size ≤ 9223372036854775807
    · rw [if_pos c3] at H
      have c3b0 := eq_true c3
      have c3b1 : decide ((strOfNums y455).size + a0.size ≤ 9223372036854775807) = true := decide_eq_true c3
      try have c3b2 : (9223372036854775807 < (strOfNums y455).size + a0.size) = False := eq_false (Nat.not_lt.2 c3)
      simp only [Option.some.injEq, Prod.mk.injEq] at H
      obtain ⟨rfl, rfl⟩ := H
      go_enter Try.func40, Try.ntmps40
      go_wp2_with (first | ((with_reducible refine gate_dst (N := 15) rfl ?_); refine Kd.R_lit (Kd.int .u8) _ 5 ?hg (N := 15) ?hd (xs := ([((a0.size : Int) / 256) % 256, (a0.size : Int) % 256] : List Int)) (inner := [.int .u8 (((a0.size : Int) / 256) % 256), .int .u8 ((a0.size : Int) % 256)]) (ok := fun _ => True) (okp := fun _ => True) ?hr ?hp (fun _ hk => hk) trivial (Below.refl _ _) (Nat.le_refl _) (by simp) ?_; (case hd => rfl); (case hg => rfl); (case hr => first | (go_simp; done) | (go_simp; rfl)); (case hp => exact (Reps.one (show Kd.M (Kd.int .u8) _ _ _ (((a0.size : Int) / 256) % 256) [.int .u8 (((a0.size : Int) / 256) % 256)] from rfl) (Reps.one (show Kd.M (Kd.int .u8) _ _ _ ((a0.size : Int) % 256) [.int .u8 ((a0.size : Int) % 256)] from rfl) (Reps.none _ _)))); intro v456 w4 ho5 hb hg_ hnew_; clear hg_ hnew_; (first | rw [← Ny455.out] at ho5 | (simp only [Int.reduceToNat] at ho5; rw [← Ny455.out] at ho5)); have n0_ := Aside0.mk (Kd.R_lower ho5 (below_size (by repeat (first | (with_reducible first | exact HB.out | apply below_alloc | apply pw_below_drewN | apply below_drew1) | exact HB.out)))); have n1_ := Aside0.mk (below_step (by repeat (first | (with_reducible first | exact HB.out | apply below_alloc | apply pw_below_drewN | apply below_drew1) | exact HB.out)) hb); clear HB; have HO457 := n0_; have HB := n1_; clear n0_ n1_; clear hb ho5; have hcv6 := own_string (P := Try.prog) Try.underlying92 Try.underlying5 Try.underlying9 (Kd.own_of_R HO457.out)))
      go_ret2
      exact ⟨by first | rfl | (simp [errW_none, errW_some] <;> rfl) | (simp [*, errW_none, errW_some] <;> rfl), by repeat (first | (with_reducible first | exact HB.out | apply below_alloc | apply pw_below_drewN | apply below_drew1) | exact HB.out)⟩
    · rw [if_neg c3] at H
      exact absurd H (by simp)

end Go.Proofs.Ytabapiofkipkoaa.F

namespace Go.Proofs.Ytabapiofkipkoaa.F
open Go.RowKit Go.Proofs.YtabapiofkipkoaaX Go.Proofs.YtabapiofkipkoaaW.PrintWords Go.Proofs.YtabapiofkipkoaaW.PrintLast Go.Proofs.YtabapiofkipkoaaW.PrintMore
attribute [local go_sem] max2_int min2_int max_two min_two max_three min_three max_four min_four   -- for this text's walks alone
attribute [local go_sem high] str_geq str_leq str_gtr
set_option linter.unusedVariables false
set_option linter.unusedSimpArgs false

/-! ### backhaulref05_Take: function 42 -/
def backhaulref05_Take.j0 : Nat → ByteArray → Int → Int → Bool → Option (ByteArray × Int × Int)
  | 0, _, _, _, _ => none
  | k + 1, x0, x1, x2, x23 => if x23 = true then (some ((⟨#[]⟩ : ByteArray), 0, 2)) else ((backhaulref05_Get.f k x0 x1 2).bind fun bt458 => (if bt458.2.2 = 0 then (if bt458.1 > x2 then (some ((⟨#[]⟩ : ByteArray), 0, 3)) else (if (wrap64 (bt458.2.1 + bt458.1)) > (x0.size : Int) then (some ((⟨#[]⟩ : ByteArray), 0, 4)) else (if 0 ≤ bt458.2.1 then (if bt458.2.1 ≤ (wrap64 (bt458.2.1 + bt458.1)) then (if (wrap64 (bt458.2.1 + bt458.1)) ≤ (x0.size : Int) then (some (x0.extract (bt458.2.1 : Int).toNat ((wrap64 (bt458.2.1 + bt458.1)) : Int).toNat, wrap64 (bt458.2.1 + bt458.1), 0)) else (none)) else (none)) else (none)))) else (some ((⟨#[]⟩ : ByteArray), 0, bt458.2.2))))
def backhaulref05_Take.f (k : Nat) (a0 : ByteArray) (a1 : Int) (a2 : Int) : Option (ByteArray × Int × Int) := if a2 < 0 then (backhaulref05_Take.j0 k a0 a1 a2 true) else (if a1 < 0 then (backhaulref05_Take.j0 k a0 a1 a2 true) else (backhaulref05_Take.j0 k a0 a1 a2 (decide (a1 > (a0.size : Int)))))
theorem backhaulref05_Take.mono_l : ∀ k, (∀ y0 y1 y2 y3, LeO (backhaulref05_Take.j0 k y0 y1 y2 y3) (backhaulref05_Take.j0 (k + 1) y0 y1 y2 y3))
  | 0 => fun _ _ _ _ r h => by simp [backhaulref05_Take.j0] at h
  | k + 1 => by
    have ih0 := backhaulref05_Take.mono_l k
    · intro y0 y1 y2 y3
      unfold backhaulref05_Take.j0
      repeat' first
      | (with_reducible exact ih0 _ _ _ _)
      | (with_reducible exact backhaulref05_Get.mono _ _ _ _)
      | (with_reducible exact LeO.refl _)
      | (with_reducible exact LeO.none _)
      | (with_reducible refine LeO.ite ?_ ?_)
      | (with_reducible refine LeO.bind ?_ (fun _ => ?_))
      | exact ih0 _ _ _ _
      | exact backhaulref05_Get.mono _ _ _ _
      | exact LeO.none _
      | refine LeO.ite ?_ ?_
      | refine LeO.bind ?_ (fun _ => ?_)
theorem backhaulref05_Take.mono : ∀ a0 a1 a2 k, LeO (backhaulref05_Take.f k a0 a1 a2) (backhaulref05_Take.f (k + 1) a0 a1 a2) := by
  intro a0 a1 a2 k
  have ih0 := backhaulref05_Take.mono_l k
  unfold backhaulref05_Take.f
  repeat' first
      | (with_reducible exact ih0 _ _ _ _)
      | (with_reducible exact backhaulref05_Get.mono _ _ _ _)
      | (with_reducible exact LeO.refl _)
      | (with_reducible exact LeO.none _)
      | (with_reducible refine LeO.ite ?_ ?_)
      | (with_reducible refine LeO.bind ?_ (fun _ => ?_))
      | exact ih0 _ _ _ _
      | exact backhaulref05_Get.mono _ _ _ _
      | exact LeO.none _
      | refine LeO.ite ?_ ?_
      | refine LeO.bind ?_ (fun _ => ?_)
set_option maxHeartbeats 8000000 in
set_option maxRecDepth 100000 in
theorem backhaulref05_Take.calls (k : Nat) (a0 : ByteArray) (a1 : Int) (a2 : Int) (r1 : ByteArray) (r2 : Int) (r3 : Int) (w : World) (h : backhaulref05_Take.f k a0 a1 a2 = some (r1, r2, r3)) :
    Calls Try.prog 42 #[.string a0, .int .i64 a1, .int .i64 a2] w fun e w' => e = .returned (.tuple #[.string r1, .int .i64 r2, .int .i64 r3]) ∧ Drawn0 w w' := by
  have H : (if a2 < 0 then (backhaulref05_Take.j0 k a0 a1 a2 true) else (if a1 < 0 then (backhaulref05_Take.j0 k a0 a1 a2 true) else (backhaulref05_Take.j0 k a0 a1 a2 (decide (a1 > (a0.size : Int)))))) = some (r1, r2, r3) := h
  clear h
  have HC4 := Aside0.mk H
  clear H
  go_enter Try.func42, Try.ntmps42
  go_upto_region 1 with (fail)
  go_cut [23] (fun v23 wc => ∃ (kq : Nat) (x23_3 : Bool), v23 = .bool x23_3 ∧ Aside0 (backhaulref05_Take.j0 kq a0 a1 a2 x23_3 = some (r1, r2, r3)) ∧ Aside0 (kq ≤ k) ∧ Drawn0 w wc)
  case first =>
    have H := HC4.out
    clear HC4
    by_cases c5 : a2 < 0
    · rw [if_pos c5] at H
      have c5b0 : decide (a2 < 0) = true := decide_eq_true c5
      clear c5
      (first | rw [c5b0] | (simp only [i64_w, i32_w]; rw [c5b0]) | skip)
      have H' := Aside0.mk H
      clear H
      go_wp2
      go_meet
      case rel => exact ⟨_, (true), (by first | rfl | (simp; done) | (simp [*]; done)), H', ⟨by first | omega | exact Nat.le_refl _⟩, by repeat (first | exact Drawn0.refl _ | apply Drawn0.step)⟩
    · rw [if_neg c5] at H
      have c5b0 : decide (a2 < 0) = false := decide_eq_false c5
      clear c5
      (first | rw [c5b0] | (simp only [i64_w, i32_w]; rw [c5b0]) | skip)
      by_cases c6 : a1 < 0
      · rw [if_pos c6] at H
        have c6b0 : decide (a1 < 0) = true := decide_eq_true c6
        clear c6
        have H' := Aside0.mk H
        clear H
        go_wp2
        go_meet
        case rel => exact ⟨_, (true), (by first | rfl | (simp; done) | (simp [*]; done)), H', ⟨by first | omega | exact Nat.le_refl _⟩, by repeat (first | exact Drawn0.refl _ | apply Drawn0.step)⟩
      · rw [if_neg c6] at H
        have c6b0 : decide (a1 < 0) = false := decide_eq_false c6
        clear c6
        have H' := Aside0.mk H
        clear H
        go_wp2
        go_meet
        case rel => exact ⟨_, (decide (a1 > (a0.size : Int))), (by first | rfl | (simp; done) | (simp [*]; done)), H', ⟨by first | omega | exact Nat.le_refl _⟩, by repeat (first | exact Drawn0.refl _ | apply Drawn0.step)⟩
  case rest =>
    clear HC4
    try clear p2
    try clear c4
    try clear c5
    try clear c5b0
    try clear c6
    try clear c6b0
    obtain ⟨kq, x23_3, rfl, HA, HJ3, ⟨mc3, rfl⟩⟩ := hcut
    cases kq with
    | zero => exact absurd HA.out (by simp [backhaulref05_Take.j0])
    | succ kj3 =>
      have H := HA.out
      clear HA
      simp only [backhaulref05_Take.j0] at H
      by_cases c7 : x23_3 = true
      · subst c7
        have H1 : (some ((⟨#[]⟩ : ByteArray), 0, 2)) = some (r1, r2, r3) := by first | (rw [if_pos rfl] at H; exact H) | rfl
        clear H
        have H := H1
        clear H1
        simp only [Option.some.injEq, Prod.mk.injEq] at H
        obtain ⟨rfl, rfl, rfl⟩ := H
        go_wp2
        go_ret3
        exact ⟨by first | rfl | (simp; done) | (simp [*]; done), by repeat (first | exact Drawn0.refl _ | apply Drawn0.step)⟩
      · replace c7 := Bool.eq_false_iff.mpr c7
        subst c7
        have H1 : ((backhaulref05_Get.f kj3 a0 a1 2).bind fun bt458 => (if bt458.2.2 = 0 then (if bt458.1 > a2 then (some ((⟨#[]⟩ : ByteArray), 0, 3)) else (if (wrap64 (bt458.2.1 + bt458.1)) > (a0.size : Int) then (some ((⟨#[]⟩ : ByteArray), 0, 4)) else (if 0 ≤ bt458.2.1 then (if bt458.2.1 ≤ (wrap64 (bt458.2.1 + bt458.1)) then (if (wrap64 (bt458.2.1 + bt458.1)) ≤ (a0.size : Int) then (some (a0.extract (bt458.2.1 : Int).toNat ((wrap64 (bt458.2.1 + bt458.1)) : Int).toNat, wrap64 (bt458.2.1 + bt458.1), 0)) else (none)) else (none)) else (none)))) else (some ((⟨#[]⟩ : ByteArray), 0, bt458.2.2)))) = some (r1, r2, r3) := by first | (rw [if_neg (show ¬ (false = true) by decide)] at H; exact H) | rfl
        clear H
        have H := H1
        clear H1
        replace H := Option.bind_eq_some_iff.mp H
        obtain ⟨⟨t458, t459, t460⟩, A80, H⟩ := H
        replace H : (if t460 = 0 then (if t458 > a2 then (some ((⟨#[]⟩ : ByteArray), 0, 3)) else (if (wrap64 (t459 + t458)) > (a0.size : Int) then (some ((⟨#[]⟩ : ByteArray), 0, 4)) else (if 0 ≤ t459 then (if t459 ≤ (wrap64 (t459 + t458)) then (if (wrap64 (t459 + t458)) ≤ (a0.size : Int) then (some (a0.extract (t459 : Int).toNat ((wrap64 (t459 + t458)) : Int).toNat, wrap64 (t459 + t458), 0)) else (none)) else (none)) else (none)))) else (some ((⟨#[]⟩ : ByteArray), 0, t460))) = some (r1, r2, r3) := H
        have A8 := Aside0.mk A80
        clear A80
        by_cases c9 : t460 = 0
        · rw [if_pos c9] at H
          have c9b0 : (t460 == 0) = true := beq_iff_eq.mpr c9
          have c9b1 : (t460 != 0) = false := bne_eq_false_iff_eq.mpr c9
          clear c9
          by_cases c10 : t458 > a2
          · rw [if_pos c10] at H
            have c10b0 : decide (a2 < t458) = true := decide_eq_true c10
            clear c10
            simp only [Option.some.injEq, Prod.mk.injEq] at H
            obtain ⟨rfl, rfl, rfl⟩ := H
            go_wp2_with (first | ((with_reducible refine gate_callee (f := 38) rfl ?_); refine goesL_ (some 27) rfl rfl Try.func38 (by kernel_rfl) rfl #[.string a0, .int .i64 a1, .int .i64 2] rfl (by (try simp only [List.map_toArray, List.map_cons, List.map_nil]); first | done | rfl | (simp only [List.length_drop, List.length_take]; rfl)) ?_; (with_reducible refine (backhaulref05_Get.calls kj3 a0 a1 2 t458 t459 t460 _ A8.out).mono ?_); rintro e w' ⟨rfl, ⟨nd, rfl⟩⟩; refine ⟨_, rfl, ?_⟩))
            go_ret3
            exact ⟨by first | rfl | (simp; done) | (simp [*]; done), by repeat (first | exact Drawn0.refl _ | apply Drawn0.step)⟩
          · rw [if_neg c10] at H
            have c10b0 : decide (a2 < t458) = false := decide_eq_false c10
            clear c10
            by_cases c11 : (wrap64 (t459 + t458)) > (a0.size : Int)
            · rw [if_pos c11] at H
              have c11b0 : decide ((a0.size : Int) < (wrap64 (t459 + t458))) = true := decide_eq_true c11
              clear c11
              simp only [Option.some.injEq, Prod.mk.injEq] at H
              obtain ⟨rfl, rfl, rfl⟩ := H
              go_wp2_with (first | ((with_reducible refine gate_callee (f := 38) rfl ?_); refine goesL_ (some 27) rfl rfl Try.func38 (by kernel_rfl) rfl #[.string a0, .int .i64 a1, .int .i64 2] rfl (by (try simp only [List.map_toArray, List.map_cons, List.map_nil]); first | done | rfl | (simp only [List.length_drop, List.length_take]; rfl)) ?_; (with_reducible refine (backhaulref05_Get.calls kj3 a0 a1 2 t458 t459 t460 _ A8.out).mono ?_); rintro e w' ⟨rfl, ⟨nd, rfl⟩⟩; refine ⟨_, rfl, ?_⟩))
              go_ret3
              exact ⟨by first | rfl | (simp; done) | (simp [*]; done), by repeat (first | exact Drawn0.refl _ | apply Drawn0.step)⟩
            · rw [if_neg c11] at H
              have c11b0 : decide ((a0.size : Int) < (wrap64 (t459 + t458))) = false := decide_eq_false c11
              clear c11
              by_cases c12 : 0 ≤ t459
              · rw [if_pos c12] at H
                have c12b0 := eq_true c12
                have c12b1 : decide (0 ≤ t459) = true := decide_eq_true c12
                clear c12
                by_cases c13 : t459 ≤ (wrap64 (t459 + t458))
                · rw [if_pos c13] at H
                  have c13b0 := eq_true c13
                  have c13b1 : decide (t459 ≤ (wrap64 (t459 + t458))) = true := decide_eq_true c13
                  by_cases c14 : (wrap64 (t459 + t458)) ≤ (a0.size : Int)
                  · rw [if_pos c14] at H
                    have c14b0 := eq_true c14
                    have c14b1 : decide ((wrap64 (t459 + t458)) ≤ (a0.size : Int)) = true := decide_eq_true c14
                    simp only [Option.some.injEq, Prod.mk.injEq] at H
                    obtain ⟨rfl, rfl, rfl⟩ := H
                    go_wp2_with (first | ((with_reducible refine gate_callee (f := 38) rfl ?_); refine goesL_ (some 27) rfl rfl Try.func38 (by kernel_rfl) rfl #[.string a0, .int .i64 a1, .int .i64 2] rfl (by (try simp only [List.map_toArray, List.map_cons, List.map_nil]); first | done | rfl | (simp only [List.length_drop, List.length_take]; rfl)) ?_; (with_reducible refine (backhaulref05_Get.calls kj3 a0 a1 2 t458 t459 t460 _ A8.out).mono ?_); rintro e w' ⟨rfl, ⟨nd, rfl⟩⟩; refine ⟨_, rfl, ?_⟩))
                    go_ret3
                    exact ⟨by first | rfl | (simp; done) | (simp [*]; done), by repeat (first | exact Drawn0.refl _ | apply Drawn0.step)⟩
                  · rw [if_neg c14] at H
                    exact absurd H (by simp)
                · rw [if_neg c13] at H
                  exact absurd H (by simp)
              · rw [if_neg c12] at H
                exact absurd H (by simp)
        · rw [if_neg c9] at H
          have c9b0 : (t460 == 0) = false := beq_eq_false_iff_ne.mpr c9
          have c9b1 : (t460 != 0) = true := bne_iff_ne.mpr c9
          simp only [Option.some.injEq, Prod.mk.injEq] at H
          obtain ⟨rfl, rfl, rfl⟩ := H
          go_wp2_with (first | ((with_reducible refine gate_callee (f := 38) rfl ?_); refine goesL_ (some 27) rfl rfl Try.func38 (by kernel_rfl) rfl #[.string a0, .int .i64 a1, .int .i64 2] rfl (by (try simp only [List.map_toArray, List.map_cons, List.map_nil]); first | done | rfl | (simp only [List.length_drop, List.length_take]; rfl)) ?_; (with_reducible refine (backhaulref05_Get.calls kj3 a0 a1 2 t458 t459 t460 _ A8.out).mono ?_); rintro e w' ⟨rfl, ⟨nd, rfl⟩⟩; refine ⟨_, rfl, ?_⟩))
          go_ret3
          exact ⟨by first | rfl | (simp; done) | (simp [*]; done), by repeat (first | exact Drawn0.refl _ | apply Drawn0.step)⟩

end Go.Proofs.Ytabapiofkipkoaa.F

/- What octet's functions (and the document's) come to: numbers and texts put and got; condition: numbers are of 64 bits. -/
set_option linter.unusedVariables false
namespace Go.Proofs.Ytabapiofkipkoaa.Q
open Go.RowKit Go.Proofs.Ytabapiofkipkoaa.F Go.Proofs.YtabapiofkipkoaaW.PrintWords Go.Proofs.YtabapiofkipkoaaW.PrintLast Go.Proofs.YtabapiofkipkoaaW.PrintMore

theorem wide_dec (w : Int) : (if w = 1 then some true else if w = 2 then some true else if w = 4 then some true else some (w == 8)) = some (decide (wide w)) := by
  unfold wide
  by_cases h1 : w = 1
  · rw [if_pos h1]; simp [h1]
  · rw [if_neg h1]
    by_cases h2 : w = 2
    · rw [if_pos h2]; simp [h2]
    · rw [if_neg h2]
      by_cases h4 : w = 4
      · rw [if_pos h4]; simp [h4]
      · rw [if_neg h4]
        by_cases h8 : w = 8
        · simp [h8]
        · simp [h1, h2, h4, h8]
theorem octet_wide_f (w : Int) : octet_wide.f w = some (decide (wide w)) := by
  unfold octet_wide.f
  exact wide_dec w
theorem ref05_wide_f (w : Int) : backhaulref05_wide.f w = some (decide (wide w)) := by
  unfold backhaulref05_wide.f
  exact wide_dec w
theorem octet_inside_f (s : ByteArray) (a : Int) : octet_inside.f s a = some (decide (0 ≤ a ∧ a ≤ s.size)) := by
  unfold octet_inside.f
  by_cases h : a ≥ 0
  · rw [if_pos h]; congr 1; exact decide_eq_decide.2 ⟨fun x => ⟨h, x⟩, fun x => x.2⟩
  · rw [if_neg h]; congr 1; exact (decide_eq_false (fun x => h x.1)).symm
def natI (l : List UInt8) : List Int := l.map (fun b => (b.toNat : Int))
theorem strOfNums_nat (l : List UInt8) : strOfNums (natI l) = bytesB l := by
  unfold strOfNums natI bytesB
  rw [List.map_map]
  congr 2
  exact (List.map_congr_left fun b _ => by simp).trans (List.map_id l)
theorem byte_mod (n : Int) (h : 0 ≤ n) : n % 256 = (((UInt8.ofNat n.toNat).toNat : Nat) : Int) := by
  rw [toNat_ofNat]; omega
theorem octet_put_l0 (d : Nat) : ∀ (n : Int) (t : List UInt8), 0 ≤ n → d ≤ 8 → Ev (fun k => octet_Put.l0 k n (List.replicate d 0 ++ natI t) ((d : Int) - 1)) (bytesB (beL d n.toNat ++ t), 0) := by
  induction d with
  | zero =>
    intro n t hn hd
    refine Ev.step (fun k => by simp only [octet_Put.l0]; rfl) ?_
    refine Ev.neg (by omega) (Ev.ok ?_)
    simp only [List.replicate_zero, List.nil_append, beL]
    rw [strOfNums_nat]
  | succ d ih =>
    intro n t hn hd
    refine Ev.step (fun k => by simp only [octet_Put.l0]; rfl) ?_
    refine Ev.pos (by omega) (Ev.pos (by omega) (Ev.pos (by simp only [List.length_append, List.length_replicate]; omega) ?_))
    have e1 : ((((d + 1 : Nat) : Int) - 1) : Int).toNat = d := by omega
    have e2 : wrap64 (((d + 1 : Nat) : Int) - 1 - 1) = (d : Int) - 1 := by rw [wrap_eq (by omega) (by omega)]; omega
    have e3 : (List.replicate (d + 1) 0 ++ natI t).set d (n % 256) = List.replicate d 0 ++ natI (UInt8.ofNat n.toNat :: t) := by
      rw [List.replicate_succ', List.append_assoc, List.set_append_right _ _ (by simp)]
      simp only [List.length_replicate, Nat.sub_self, List.cons_append, List.nil_append, List.set_cons_zero, natI, List.map_cons, byte_mod n hn]
    rw [e1, e2, e3]
    refine Ev.eq (ih (n / 256) (UInt8.ofNat n.toNat :: t) (by omega) (by omega)) ?_
    rw [beL, show (n / 256).toNat = n.toNat / 256 by omega, List.append_assoc]
    rfl
theorem octet_put_j0 {n w : Int} (hw : wide w) (hn : 0 ≤ n) (hlt : n < 256 ^ w.toNat) : Ev (fun k => octet_Put.j0 k n w false) (putS n w) := by
  have hw' := wide_nat hw
  refine Ev.step (fun k => by simp only [octet_Put.j0]; rfl) ?_
  refine Ev.neg (by decide) (Ev.pos (by omega) (Ev.pos (by omega) ?_))
  have h := octet_put_l0 w.toNat n [] hn (by omega)
  simp only [natI, List.map_nil, List.append_nil] at h
  rw [wrap_eq (by omega) (by omega), show w - 1 = ((w.toNat : Nat) : Int) - 1 by omega]
  refine Ev.eq h ?_
  unfold putS
  rw [if_pos hw, if_pos ⟨hn, hlt⟩]
theorem octet_put_t {n w : Int} (hw : wide w) (h : ¬ (0 ≤ n ∧ n < 256 ^ w.toNat)) : Ev (fun k => octet_Put.j0 k n w true) (putS n w) := by
  refine Ev.step (fun k => by simp only [octet_Put.j0]; rfl) ?_
  refine Ev.pos trivial (Ev.ok ?_)
  unfold putS
  rw [if_pos hw, if_neg h]
theorem octet_put_f {n : Int} (w : Int) (h1 : n ≤ 9223372036854775807) : Ev (fun k => octet_Put.f k n w) (putS n w) := by
  unfold octet_Put.f
  refine Ev.bindc (octet_wide_f w) ?_
  by_cases hw : wide w
  · refine Ev.pos (decide_eq_true hw) ?_
    refine Ev.ite (fun h => octet_put_t hw (by omega)) (fun h => ?_)
    have key : ∀ b : Bool, (b = true ↔ ¬ n < 256 ^ w.toNat) → Ev (fun k => octet_Put.j0 k n w b) (putS n w) := by
      intro b hb
      cases b with
      | true => exact octet_put_t hw (fun x => (hb.1 rfl) x.2)
      | false => exact octet_put_j0 hw (by omega) (Classical.byContradiction fun x => by have := hb.2 x; cases this)
    rcases hw with rfl | rfl | rfl | rfl
    · rw [show wrap64 (8 * 1) = 8 from wrap_eq (by decide) (by decide)]
      refine Ev.pos (by decide) (Ev.pos (by decide) (key _ ?_))
      rw [decide_eq_true_eq, show shr .i64 n 8 = n / 256 from rfl]
      show n / 256 > 0 ↔ ¬ n < 256
      omega
    · rw [show wrap64 (8 * 2) = 16 from wrap_eq (by decide) (by decide)]
      refine Ev.pos (by decide) (Ev.pos (by decide) (key _ ?_))
      rw [decide_eq_true_eq, show shr .i64 n 16 = n / 65536 from rfl]
      show n / 65536 > 0 ↔ ¬ n < 65536
      omega
    · rw [show wrap64 (8 * 4) = 32 from wrap_eq (by decide) (by decide)]
      refine Ev.pos (by decide) (Ev.pos (by decide) (key _ ?_))
      rw [decide_eq_true_eq, show shr .i64 n 32 = n / 4294967296 from rfl]
      show n / 4294967296 > 0 ↔ ¬ n < 4294967296
      omega
    · refine Ev.neg (by decide) (key false ?_)
      show false = true ↔ ¬ n < 18446744073709551616
      simp
      omega
  · refine Ev.neg (fun x => hw (of_decide_eq_true x)) (Ev.ok ?_)
    unfold putS
    rw [if_neg hw]
theorem ref05_put_l0 (d : Nat) : ∀ (n w : Int) (i : Nat) (t : List UInt8), 0 ≤ n → n ≤ 9223372036854775807 → w ≤ 8 → w - i = d → t.length ≤ i → Ev (fun k => backhaulref05_Put.l0 k n w (bytesB t) (i : Int)) (if n < 256 ^ d then (bytesB (beL d n.toNat ++ t), 0) else (⟨#[]⟩, 8)) := by
  induction d with
  | zero =>
    intro n w i t hn hn' hw hd ht
    refine Ev.step (fun k => by simp only [backhaulref05_Put.l0]; rfl) ?_
    refine Ev.neg (by omega) (Ev.ite (fun h => Ev.ok ?_) (fun h => Ev.ok ?_))
    · rw [if_neg (show ¬ n < 256 ^ 0 by show ¬ n < 1; omega)]
    · rw [if_pos (show n < 256 ^ 0 by show n < 1; omega)]; rfl
  | succ d ih =>
    intro n w i t hn hn' hw hd ht
    refine Ev.step (fun k => by simp only [backhaulref05_Put.l0]; rfl) ?_
    refine Ev.pos (by omega) (Ev.bindc rfl ?_)
    have e1 : strOfNums [(Int.tmod n 256) % 256] = bytesB [UInt8.ofNat n.toNat] := by
      rw [Int.tmod_eq_emod_of_nonneg hn, Int.emod_emod, byte_mod n hn]
      exact strOfNums_nat [UInt8.ofNat n.toNat]
    have e2 : wrap64 (Int.tdiv n 256) = n / 256 := by
      rw [Int.tdiv_eq_ediv_of_nonneg hn, wrap_eq (by omega) (by omega)]
    rw [e1, e2, wrap_eq (by omega) (by omega), bytesB_append]
    refine Ev.pos (by simp only [bytesB_size, List.length_cons, List.length_nil]; omega) ?_
    refine Ev.eq (ih (n / 256) w (i + 1) _ (by omega) (by omega) hw (by omega) (by simp only [List.length_append, List.length_cons, List.length_nil]; omega)) ?_
    have e3 : n / 256 < 256 ^ d ↔ n < 256 ^ (d + 1) := by
      rw [Int.pow_succ]
      generalize (256 : Int) ^ d = P
      omega
    by_cases h : n / 256 < 256 ^ d
    · rw [if_pos h, if_pos (e3.1 h), beL, show (n / 256).toNat = n.toNat / 256 by omega, List.append_assoc]
    · rw [if_neg h, if_neg (fun x => h (e3.2 x))]
theorem ref05_put_f {n : Int} (w : Int) (h1 : n ≤ 9223372036854775807) : Ev (fun k => backhaulref05_Put.f k n w) (putS n w) := by
  unfold backhaulref05_Put.f putS
  refine Ev.bindc (ref05_wide_f w) ?_
  by_cases hw : wide w
  · have hw' := wide_nat hw
    rw [if_pos hw]
    refine Ev.pos (decide_eq_true hw) (Ev.ite (fun h => Ev.ok ?_) (fun h => ?_))
    · rw [if_neg (by omega)]
    · refine Ev.eq (ref05_put_l0 w.toNat n w 0 [] (by omega) h1 (by omega) (by omega) (by simp)) ?_
      rw [List.append_nil]
      by_cases hlt : n < 256 ^ w.toNat
      · rw [if_pos hlt, if_pos ⟨by omega, hlt⟩]
      · rw [if_neg hlt, if_neg (fun x => hlt x.2)]
  · rw [if_neg hw]
    exact Ev.neg (fun x => hw (of_decide_eq_true x)) (Ev.ok rfl)
theorem numAt_succ {s : ByteArray} {a i : Nat} (h : a + i < s.size) : (numAt s a (i + 1) : Int) = 256 * (numAt s a i : Int) + bt s ((a + i : Nat) : Int) := by
  have hl : a + i < s.data.toList.length := by rw [size_data]; exact h
  unfold numAt
  rw [List.take_succ_eq_append_getElem (by rw [List.length_drop]; omega), beN_append, bt_data s (a + i) h, List.getElem_drop]
  omega
theorem numAt_lt' {s : ByteArray} {a i : Nat} (h : a + i ≤ s.size) : (numAt s a i : Int) < 256 ^ i := pow_cast (numAt_lt h)
theorem pow_le8 {i : Nat} (h : i ≤ 7) : (256 : Int) ^ i ≤ 72057594037927936 := by
  have : i = 0 ∨ i = 1 ∨ i = 2 ∨ i = 3 ∨ i = 4 ∨ i = 5 ∨ i = 6 ∨ i = 7 := by omega
  rcases this with rfl | rfl | rfl | rfl | rfl | rfl | rfl | rfl <;> decide
theorem bt_range (s : ByteArray) (i : Int) : 0 ≤ bt s i ∧ bt s i < 256 := by
  unfold bt
  split
  · rename_i h
    have := (s[i.toNat]'h).toNat_lt
    omega
  · omega
theorem or_byte {x y : Int} (h0 : 0 ≤ x) (h1 : x < 72057594037927936) (h2 : 0 ≤ y) (h3 : y < 256) : Go.bits .or .u64 (IntKind.u64.wrap (x * 256)) (IntKind.u64.wrap y) = 256 * x + y := by
  rw [u64_eq (x := x * 256) (by omega) (by omega), u64_eq (x := y) (by omega) (by omega)]
  rw [bits_join .u64 64 (by decide) (fun n h0 h1 => u64_eq h0 h1) 8 (x * 256) y (by omega) (by omega) (by omega) (by omega) (by omega) (by omega)]
  omega
theorem getS_in {s : ByteArray} {a w : Int} (hw : wide w) (h0 : 0 ≤ a) (h1 : a + w ≤ s.size) : getS s a w = if (numAt s a.toNat w.toNat : Int) > 9223372036854775807 then (0, 0, 8) else ((numAt s a.toNat w.toNat : Int), a + w, 0) := by
  have hw' := wide_nat hw
  unfold getS
  rw [if_pos ⟨hw, h0, by omega⟩, if_neg (by omega)]
theorem octet_get_l0 {s : ByteArray} {a w : Int} (hs : s.size ≤ 9223372036854775807) (hw : wide w) (h0 : 0 ≤ a) (h1 : a + w ≤ s.size) (d : Nat) : ∀ i : Nat, w - i = d → Ev (fun k => octet_Get.l0 k s a w (numAt s a.toNat i : Int) w (i : Int)) (getS s a w) := by
  have hw' := wide_nat hw
  induction d with
  | zero =>
    intro i hi
    refine Ev.step (fun k => by simp only [octet_Get.l0]; rfl) ?_
    refine Ev.neg (by omega) ?_
    rw [getS_in hw h0 h1, show w.toNat = i by omega]
    refine Ev.ite (fun h => ?_) (fun h => ?_)
    · rw [if_pos h]; exact Ev.ok rfl
    · rw [if_neg h, wrap_eq (x := (numAt s a.toNat i : Int)) (by omega) (by omega), wrap_eq (by omega) (by omega)]
      exact Ev.ok rfl
  | succ d ih =>
    intro i hi
    have hlt := numAt_lt' (s := s) (a := a.toNat) (i := i) (by omega)
    have hp := pow_le8 (i := i) (by omega)
    refine Ev.step (fun k => by simp only [octet_Get.l0]; rfl) ?_
    rw [wrap_eq (x := a + (i : Int)) (by omega) (by omega), wrap_eq (x := (i : Int) + 1) (by omega) (by omega)]
    refine Ev.pos (by omega) (Ev.pos (by omega) (Ev.pos (by omega) ?_))
    have hb := bt_range s (a + i)
    rw [or_byte (by omega) (by omega) hb.1 hb.2]
    have e := numAt_succ (s := s) (a := a.toNat) (i := i) (by omega)
    rw [show ((a.toNat + i : Nat) : Int) = a + i by omega] at e
    rw [← e]
    exact ih (i + 1) (by omega)
theorem octet_get_f {s : ByteArray} (a w : Int) (hs : s.size ≤ 9223372036854775807) : Ev (fun k => octet_Get.f k s a w) (getS s a w) := by
  have bad : ¬ (wide w ∧ 0 ≤ a ∧ a ≤ s.size) → Ev (fun k => octet_Get.j0 k s a w true) (getS s a w) := by
    intro h
    refine Ev.step (fun k => by simp only [octet_Get.j0]; rfl) ?_
    refine Ev.pos trivial (Ev.ok ?_)
    unfold getS
    rw [if_neg h]
  unfold octet_Get.f
  refine Ev.bindc (octet_wide_f w) ?_
  by_cases hw : wide w
  · have hw' := wide_nat hw
    refine Ev.pos (decide_eq_true hw) (Ev.bindc (octet_inside_f s a) ?_)
    by_cases ha : 0 ≤ a ∧ a ≤ s.size
    · rw [decide_eq_true ha]
      refine Ev.step (fun k => by simp only [octet_Get.j0]; rfl) ?_
      refine Ev.neg (by decide) ?_
      rw [wrap_eq (by omega) (by omega)]
      refine Ev.ite (fun h => Ev.ok ?_) (fun h => ?_)
      · unfold getS
        rw [if_pos ⟨hw, ha⟩, if_pos h]
      · exact octet_get_l0 hs hw ha.1 (by omega) w.toNat 0 (by omega)
    · rw [decide_eq_false ha]
      exact bad (fun x => ha x.2)
  · exact Ev.neg (fun x => hw (of_decide_eq_true x)) (bad (fun x => hw x.1))
theorem ref05_get_l0 {s : ByteArray} {a w : Int} (hs : s.size ≤ 9223372036854775807) (hw : wide w) (h0 : 0 ≤ a) (h1 : a + w ≤ s.size) (hm : (numAt s a.toNat w.toNat : Int) ≤ 9223372036854775807) (d : Nat) : ∀ i : Nat, w - i = d → (numAt s a.toNat i : Int) * 256 ^ d ≤ 9223372036854775807 → Ev (fun k => backhaulref05_Get.l0 k s a w (numAt s a.toNat i : Int) (a + i)) ((numAt s a.toNat w.toNat : Int), a + w, 0) := by
  have hw' := wide_nat hw
  induction d with
  | zero =>
    intro i hi hb
    refine Ev.step (fun k => by simp only [backhaulref05_Get.l0]; rfl) ?_
    rw [wrap_eq (x := a + w) (by omega) (by omega)]
    refine Ev.neg (by omega) (Ev.ok ?_)
    rw [show w.toNat = i by omega]
  | succ d ih =>
    intro i hi hb
    have hlt := numAt_lt' (s := s) (a := a.toNat) (i := i) (by omega)
    have hp := pow_le8 (i := i) (by omega)
    have hb' := bt_range s (a + i)
    have e := numAt_succ (s := s) (a := a.toNat) (i := i) (by omega)
    rw [show ((a.toNat + i : Nat) : Int) = a + i by omega] at e
    have hpos : (0 : Int) < 256 ^ d := Int.pow_pos (by decide)
    have hle : (numAt s a.toNat (i + 1) : Int) * 256 ^ d ≤ 9223372036854775807 := by
      have key := numAt_split (s := s) (a := a.toNat) (i := i + 1) (d := d) (by omega)
      rw [show i + 1 + d = w.toNat by omega] at key
      have h2 : (0 : Int) ≤ (numAt s (a.toNat + (i + 1)) d : Int) := by omega
      omega
    have hone : (numAt s a.toNat (i + 1) : Int) ≤ 9223372036854775807 := by
      have h3 : (numAt s a.toNat (i + 1) : Int) * 1 ≤ (numAt s a.toNat (i + 1) : Int) * 256 ^ d := Int.mul_le_mul_of_nonneg_left (by omega) (by omega)
      omega
    refine Ev.step (fun k => by simp only [backhaulref05_Get.l0]; rfl) ?_
    rw [wrap_eq (x := a + w) (by omega) (by omega), wrap_eq (x := 256 * (numAt s a.toNat i : Int)) (by omega) (by omega), wrap_eq (x := bt s (a + i)) (by omega) (by omega), wrap_eq (x := 256 * (numAt s a.toNat i : Int) + bt s (a + i)) (by omega) (by omega), wrap_eq (x := a + (i : Int) + 1) (by omega) (by omega)]
    refine Ev.pos (by omega) (Ev.pos (by omega) (Ev.pos (by omega) ?_))
    rw [← e, show a + (i : Int) + 1 = a + ((i + 1 : Nat) : Int) by omega]
    exact ih (i + 1) (by omega) hle
theorem ref05_get_f {s : ByteArray} (a w : Int) (hs : s.size ≤ 9223372036854775807) : Ev (fun k => backhaulref05_Get.f k s a w) (getS s a w) := by
  have bad : ¬ (wide w ∧ 0 ≤ a ∧ a ≤ s.size) → Ev (fun k => backhaulref05_Get.j0 k s a w true) (getS s a w) := by
    intro h
    refine Ev.step (fun k => by simp only [backhaulref05_Get.j0]; rfl) ?_
    refine Ev.pos trivial (Ev.ok ?_)
    unfold getS
    rw [if_neg h]
  unfold backhaulref05_Get.f
  refine Ev.bindc (ref05_wide_f w) ?_
  by_cases hw : wide w
  · have hw' := wide_nat hw
    refine Ev.pos (decide_eq_true hw) (Ev.ite (fun h => bad (by omega)) (fun h => ?_))
    by_cases h1 : a > s.size
    · rw [decide_eq_true (show a > (s.size : Int) from h1)]
      exact bad (by omega)
    · rw [decide_eq_false (show ¬ a > (s.size : Int) from h1)]
      refine Ev.step (fun k => by simp only [backhaulref05_Get.j0]; rfl) ?_
      refine Ev.neg (by decide) ?_
      rw [wrap_eq (by omega) (by omega)]
      refine Ev.ite (fun h2 => Ev.ok ?_) (fun h2 => ?_)
      · unfold getS
        rw [if_pos ⟨hw, by omega, by omega⟩, if_pos h2]
      · rw [getS_in hw (by omega) (by omega)]
        have fin : (numAt s a.toNat w.toNat : Int) ≤ 9223372036854775807 → Ev (fun k => backhaulref05_Get.j1 k s a w false) (if (numAt s a.toNat w.toNat : Int) > 9223372036854775807 then (0, 0, 8) else ((numAt s a.toNat w.toNat : Int), a + w, 0)) := by
          intro hm
          rw [if_neg (by omega)]
          refine Ev.step (fun k => by simp only [backhaulref05_Get.j1]; rfl) ?_
          refine Ev.neg (by decide) ?_
          have := ref05_get_l0 hs hw (by omega) (by omega) hm w.toNat 0 (by omega) (by show (0 : Int) * _ ≤ _; omega)
          rw [show a + ((0 : Nat) : Int) = a by omega] at this
          exact this
        refine Ev.ite (fun h3 => ?_) (fun h3 => ?_)
        · subst h3
          refine Ev.pos (by omega) (Ev.pos (by omega) ?_)
          have key : (numAt s a.toNat (Int.toNat 8) : Int) = (numAt s a.toNat 1 : Int) * 256 ^ 7 + (numAt s (a.toNat + 1) 7 : Int) := numAt_split (s := s) (a := a.toNat) (i := 1) (d := 7) (by omega)
          have hl := numAt_lt' (s := s) (a := a.toNat + 1) (i := 7) (by omega)
          have e : (numAt s a.toNat 1 : Int) = 256 * (numAt s a.toNat 0 : Int) + bt s ((a.toNat + 0 : Nat) : Int) := numAt_succ (s := s) (a := a.toNat) (i := 0) (by omega)
          have e0 : (numAt s a.toNat 0 : Int) = 0 := by unfold numAt; simp [beN]
          rw [e0, show ((a.toNat + 0 : Nat) : Int) = a by omega] at e
          have p7 : (256 : Int) ^ 7 = 72057594037927936 := by decide
          rw [p7] at key hl
          by_cases h4 : bt s a > 127
          · rw [decide_eq_true h4]
            refine Ev.step (fun k => by simp only [backhaulref05_Get.j1]; rfl) ?_
            refine Ev.pos trivial (Ev.ok ?_)
            rw [if_pos (by omega)]
          · rw [decide_eq_false h4]
            exact fin (by omega)
        · have hl := numAt_lt' (s := s) (a := a.toNat) (i := w.toNat) (by omega)
          have h4 : w.toNat ≤ 4 := by unfold wide at hw; omega
          have hp := pow_le8 (i := w.toNat) (by omega)
          exact fin (by omega)
  · exact Ev.neg (fun x => hw (of_decide_eq_true x)) (bad (fun x => hw x.1))
theorem getS2_lt {s : ByteArray} {a n tt : Int} (h : getS s a 2 = (n, tt, 0)) : n < 65536 := (putS_ok (put_of_get h)).2.2.1
theorem octet_lay_f {t : ByteArray} (ht : t.size ≤ 4611686018427387904) : Ev (fun k => octet_Lay.f k t) (layS t) := by
  unfold octet_Lay.f layS
  refine Ev.ite (fun h => Ev.ok ?_) (fun h => ?_)
  · rw [if_pos (by omega)]
  · rw [if_neg (by omega)]
    refine Ev.bind (octet_put_f 2 (by omega)) ?_
    rw [put2 (by omega)]
    refine Ev.pos ?_ (Ev.ok rfl)
    simp only [bytesB_size, beL_length]; omega
theorem ref05_lay_f {t : ByteArray} (ht : t.size ≤ 4611686018427387904) : backhaulref05_Lay.f t = some (layS t) := by
  unfold backhaulref05_Lay.f layS
  by_cases h : (t.size : Int) > 65535
  · rw [if_pos h, if_pos (by omega)]
  · rw [if_neg h, if_neg (by omega), Option.bind_some]
    have e : strOfNums [((t.size : Int) / 256) % 256, (t.size : Int) % 256] = bytesB (beL 2 t.size) := by
      rw [byte_mod _ (by omega), byte_mod (t.size : Int) (by omega)]
      rw [show ((t.size : Int) / 256).toNat = t.size / 256 by omega, Int.toNat_natCast]
      exact strOfNums_nat [UInt8.ofNat (t.size / 256), UInt8.ofNat t.size]
    rw [e, if_pos (by simp only [bytesB_size, beL_length]; omega)]
theorem octet_take_f {s : ByteArray} (a m : Int) (hs : s.size ≤ 4611686018427387904) : Ev (fun k => octet_Take.f k s a m) (takeS s a m) := by
  unfold octet_Take.f takeS
  refine Ev.ite (fun h => ?_) (fun h => ?_)
  · rw [if_pos h]; exact Ev.ok rfl
  · rw [if_neg h]
    refine Ev.bind (octet_get_f a 2 (by omega)) ?_
    refine Ev.ite (fun h1 => ?_) (fun h1 => ?_)
    · rw [if_pos h1]
      have hg : getS s a 2 = ((getS s a 2).1, (getS s a 2).2.1, 0) := by rw [← h1]
      obtain ⟨_, h2, h3, h4, h5, h6, h7⟩ := getS_ok hg
      refine Ev.ite (fun h8 => ?_) (fun h8 => ?_)
      · rw [if_pos h8]; exact Ev.ok rfl
      · rw [if_neg h8, wrap_eq (x := (s.size : Int) - (getS s a 2).2.1) (by omega) (by omega)]
        refine Ev.ite (fun h9 => ?_) (fun h9 => ?_)
        · rw [if_pos h9]; exact Ev.ok rfl
        · rw [if_neg h9, wrap_eq (by omega) (by omega)]
          exact Ev.pos (by omega) (Ev.pos (by omega) (Ev.pos (by omega) (Ev.ok rfl)))
    · rw [if_neg h1]; exact Ev.ok rfl
theorem ref05_take_f {s : ByteArray} (a m : Int) (hs : s.size ≤ 4611686018427387904) : Ev (fun k => backhaulref05_Take.f k s a m) (takeS s a m) := by
  have bad : m < 0 ∨ a < 0 ∨ a > s.size → Ev (fun k => backhaulref05_Take.j0 k s a m true) (takeS s a m) := by
    intro h
    refine Ev.step (fun k => by simp only [backhaulref05_Take.j0]; rfl) ?_
    refine Ev.pos trivial (Ev.ok ?_)
    unfold takeS
    by_cases hm : m < 0
    · rw [if_pos hm]
    · rw [if_neg hm]
      have e : getS s a 2 = (0, 0, 2) := by unfold getS; rw [if_neg (by omega)]
      rw [e]; rfl
  unfold backhaulref05_Take.f
  refine Ev.ite (fun h => bad (.inl h)) (fun h => Ev.ite (fun h1 => bad (.inr (.inl h1))) (fun h1 => ?_))
  by_cases h2 : a > (s.size : Int)
  · rw [decide_eq_true h2]; exact bad (.inr (.inr h2))
  · rw [decide_eq_false h2]
    refine Ev.step (fun k => by simp only [backhaulref05_Take.j0]; rfl) ?_
    refine Ev.neg (by decide) (Ev.bind (ref05_get_f a 2 (by omega)) ?_)
    unfold takeS
    rw [if_neg h]
    refine Ev.ite (fun h1 => ?_) (fun h1 => ?_)
    · rw [if_pos h1]
      have hg : getS s a 2 = ((getS s a 2).1, (getS s a 2).2.1, 0) := by rw [← h1]
      obtain ⟨_, h2, h3, h4, h5, h6, h7⟩ := getS_ok hg
      refine Ev.ite (fun h8 => ?_) (fun h8 => ?_)
      · rw [if_pos h8]; exact Ev.ok rfl
      · have h10 := getS2_lt hg
        rw [if_neg h8, wrap_eq (x := (getS s a 2).2.1 + (getS s a 2).1) (by omega) (by omega)]
        refine Ev.ite (fun h9 => ?_) (fun h9 => ?_)
        · rw [if_pos (by omega)]; exact Ev.ok rfl
        · rw [if_neg (show ¬ (getS s a 2).1 > (s.size : Int) - (getS s a 2).2.1 by omega)]
          exact Ev.pos (by omega) (Ev.pos (by omega) (Ev.pos (by omega) (Ev.ok rfl)))
    · rw [if_neg h1]; exact Ev.ok rfl
end Go.Proofs.Ytabapiofkipkoaa.Q

namespace Go.Proofs.Ytabapiofkipkoaa.F
open Go.RowKit Go.Proofs.YtabapiofkipkoaaX Go.Proofs.YtabapiofkipkoaaW.PrintWords Go.Proofs.YtabapiofkipkoaaW.PrintLast Go.Proofs.YtabapiofkipkoaaW.PrintMore
attribute [local go_sem] max2_int min2_int max_two min_two max_three min_three max_four min_four   -- for this text's walks alone
attribute [local go_sem high] str_geq str_leq str_gtr
set_option linter.unusedVariables false
set_option linter.unusedSimpArgs false

/-! ### backhaulref05_Row: function 45 -/
def backhaulref05_Row.l0 : Nat → Int → List Int → ByteArray → Int → Option (ByteArray × Int)
  | 0, _, _, _, _ => none
  | k + 1, x0, x1, x6, x8 => if x8 < (x1.length : Int) then (if 0 ≤ x8 then ((backhaulref05_Put.f k (rd x1 x8) x0).bind fun bt481 => (if bt481.2 = 0 then (if x6.size + bt481.1.size ≤ 9223372036854775807 then (backhaulref05_Row.l0 k x0 x1 (x6 ++ bt481.1) (wrap64 (x8 + 1))) else (none)) else (some ((⟨#[]⟩ : ByteArray), bt481.2)))) else (none)) else (some (x6, 0))
def backhaulref05_Row.f (k : Nat) (a0 : Int) (l1 : List Int) : Option (ByteArray × Int) := (backhaulref05_wide.f a0).bind fun t477 => (if t477 = true then (if (l1.length : Int) > 1000 then (some ((⟨#[]⟩ : ByteArray), 3)) else ((backhaulref05_Put.f k (l1.length : Int) 2).bind fun bt478 => (backhaulref05_Row.l0 k a0 l1 bt478.1 0))) else (some ((⟨#[]⟩ : ByteArray), 2)))
theorem backhaulref05_Row.mono_l : ∀ k, (∀ y0 y1 y2 y3, LeO (backhaulref05_Row.l0 k y0 y1 y2 y3) (backhaulref05_Row.l0 (k + 1) y0 y1 y2 y3))
  | 0 => fun _ _ _ _ r h => by simp [backhaulref05_Row.l0] at h
  | k + 1 => by
    have ih0 := backhaulref05_Row.mono_l k
    · intro y0 y1 y2 y3
      unfold backhaulref05_Row.l0
      repeat' first
      | (with_reducible exact ih0 _ _ _ _)
      | (with_reducible exact backhaulref05_Put.mono _ _ _)
      | (with_reducible exact LeO.refl _)
      | (with_reducible exact LeO.none _)
      | (with_reducible refine LeO.ite ?_ ?_)
      | (with_reducible refine LeO.bind ?_ (fun _ => ?_))
      | exact ih0 _ _ _ _
      | exact backhaulref05_Put.mono _ _ _
      | exact LeO.none _
      | refine LeO.ite ?_ ?_
      | refine LeO.bind ?_ (fun _ => ?_)
theorem backhaulref05_Row.mono : ∀ a0 a1 k, LeO (backhaulref05_Row.f k a0 a1) (backhaulref05_Row.f (k + 1) a0 a1) := by
  intro a0 a1 k
  have ih0 := backhaulref05_Row.mono_l k
  unfold backhaulref05_Row.f
  repeat' first
      | (with_reducible exact ih0 _ _ _ _)
      | (with_reducible exact backhaulref05_Put.mono _ _ _)
      | (with_reducible exact LeO.refl _)
      | (with_reducible exact LeO.none _)
      | (with_reducible refine LeO.ite ?_ ?_)
      | (with_reducible refine LeO.bind ?_ (fun _ => ?_))
      | exact ih0 _ _ _ _
      | exact backhaulref05_Put.mono _ _ _
      | exact LeO.none _
      | refine LeO.ite ?_ ?_
      | refine LeO.bind ?_ (fun _ => ?_)
set_option maxHeartbeats 8000000 in
set_option maxRecDepth 100000 in
theorem backhaulref05_Row.calls (k : Nat) (a0 : Int) (A1 : Option Addr) (c1 : Nat) (l1 : List Int) (r1 : ByteArray) (r2 : Int) (w : World) (hr1 : Kd.C (Kd.int .i64) w A1 l1.length l1) (hc1 : l1.length ≤ c1) (h : backhaulref05_Row.f k a0 l1 = some (r1, r2)) :
    Calls Try.prog 45 #[.int .i64 a0, .slice A1 l1.length c1] w fun e w' => e = .returned (.tuple #[.string r1, .int .i64 r2]) ∧ Below w.heap.size w w' := by
  have HR1 := Aside0.mk hr1
  have HC1 := Aside0.mk hc1
  clear hr1 hc1
  have HB := Aside0.mk (Below.refl w.heap.size w)
  have H : ((backhaulref05_wide.f a0).bind fun t477 => (if t477 = true then (if (l1.length : Int) > 1000 then (some ((⟨#[]⟩ : ByteArray), 3)) else ((backhaulref05_Put.f k (l1.length : Int) 2).bind fun bt478 => (backhaulref05_Row.l0 k a0 l1 bt478.1 0))) else (some ((⟨#[]⟩ : ByteArray), 2)))) = some (r1, r2) := h
  clear h
  replace H := Option.bind_eq_some_iff.mp H
  obtain ⟨t477, A30, H⟩ := H
  replace H : (if t477 = true then (if (l1.length : Int) > 1000 then (some ((⟨#[]⟩ : ByteArray), 3)) else ((backhaulref05_Put.f k (l1.length : Int) 2).bind fun bt478 => (backhaulref05_Row.l0 k a0 l1 bt478.1 0))) else (some ((⟨#[]⟩ : ByteArray), 2))) = some (r1, r2) := H
  have A3 := Aside0.mk A30
  clear A30
  by_cases c4 : t477 = true
  · subst c4
    have H1 : (if (l1.length : Int) > 1000 then (some ((⟨#[]⟩ : ByteArray), 3)) else ((backhaulref05_Put.f k (l1.length : Int) 2).bind fun bt478 => (backhaulref05_Row.l0 k a0 l1 bt478.1 0))) = some (r1, r2) := by first | (rw [if_pos rfl] at H; exact H) | rfl
    clear H
    have H := H1
    clear H1
    by_cases c5 : (l1.length : Int) > 1000
    · rw [if_pos c5] at H
      have c5b0 : decide (1000 < (l1.length : Int)) = true := decide_eq_true c5
      have c5b1 : decide (1000 < l1.length) = true := decide_eq_true (by omega)
      clear c5
      simp only [Option.some.injEq, Prod.mk.injEq] at H
      obtain ⟨rfl, rfl⟩ := H
      go_enter Try.func45, Try.ntmps45
      go_wp2_with (first | ((with_reducible refine gate_callee (f := 70) rfl ?_); refine goesL_ (some 12) rfl rfl Try.func70 (by kernel_rfl) rfl #[.int .i64 a0] rfl (by (try simp only [List.map_toArray, List.map_cons, List.map_nil]); first | done | rfl | (simp only [List.length_drop, List.length_take]; rfl)) ?_; (with_reducible refine (backhaulref05_wide.calls a0 true _ A3.out).mono ?_); rintro e w' ⟨rfl, ⟨nd, rfl⟩⟩; refine ⟨_, rfl, ?_⟩))
      go_ret2
      exact ⟨by first | rfl | (simp [errW_none, errW_some] <;> rfl) | (simp [*, errW_none, errW_some] <;> rfl), by repeat (first | (with_reducible first | exact HB.out | apply below_alloc | apply pw_below_drewN | apply below_drew1) | exact HB.out)⟩
    · rw [if_neg c5] at H
      have c5b0 : decide (1000 < (l1.length : Int)) = false := decide_eq_false c5
      have c5b1 : decide (1000 < l1.length) = false := decide_eq_false (by omega)
      clear c5
      replace H := Option.bind_eq_some_iff.mp H
      obtain ⟨⟨t478, t479⟩, A60, H⟩ := H
      replace H : (backhaulref05_Row.l0 k a0 l1 t478 0) = some (r1, r2) := H
      have A6 := Aside0.mk A60
      clear A60
      have H' := Aside0.mk H
      clear H
      go_enter Try.func45, Try.ntmps45
      go_wp2_with (first | ((with_reducible refine gate_callee (f := 70) rfl ?_); refine goesL_ (some 12) rfl rfl Try.func70 (by kernel_rfl) rfl #[.int .i64 a0] rfl (by (try simp only [List.map_toArray, List.map_cons, List.map_nil]); first | done | rfl | (simp only [List.length_drop, List.length_take]; rfl)) ?_; (with_reducible refine (backhaulref05_wide.calls a0 true _ A3.out).mono ?_); rintro e w' ⟨rfl, ⟨nd, rfl⟩⟩; refine ⟨_, rfl, ?_⟩) | ((with_reducible refine gate_callee (f := 36) rfl ?_); refine goesL_ (some 20) rfl rfl Try.func36 (by kernel_rfl) rfl #[.int .i64 (l1.length : Int), .int .i64 2] rfl (by (try simp only [List.map_toArray, List.map_cons, List.map_nil]); first | done | rfl | (simp only [List.length_drop, List.length_take]; rfl)) ?_; (with_reducible refine (backhaulref05_Put.calls k (l1.length : Int) 2 t478 t479 _ A6.out).mono ?_); rintro e w7 ⟨rfl, hb⟩; refine ⟨_, rfl, ?_⟩; have n0_ := Aside0.mk (below_step (by repeat (first | (with_reducible first | exact HB.out | apply below_alloc | apply pw_below_drewN | apply below_drew1) | exact HB.out)) hb); clear HB; have HB := n0_; clear n0_; (try clear hb); (try clear hb2); (try clear hk); (try clear hi)))
      go_loopg [6, 8] k (fun kq v6 v8 w' => ∃ (x6_1 : ByteArray) (x8_1 : Int), v6 = .string x6_1 ∧ v8 = .int .i64 x8_1 ∧ Aside0 (backhaulref05_Row.l0 kq a0 l1 x6_1 x8_1 = some (r1, r2)) ∧ Aside0 (kq ≤ k) ∧ Aside0 (Below w.heap.size w w'))
      case atStart => exact ⟨(t478), (0), (by first | rfl | (simp; done) | (simp [*]; done)), (by first | rfl | (simp; done) | (simp [*]; done)), H', ⟨Nat.le_refl _⟩, ⟨by repeat (first | (with_reducible first | exact HB.out | apply below_alloc | apply pw_below_drewN | apply below_drew1) | exact HB.out)⟩⟩
      case round =>
        clear H'
        try clear c1
        try clear p2
        try clear c3
        try clear c4
        try clear c5
        try clear c5b0
        try clear c5b1
        try clear c7
        obtain ⟨x6_1, x8_1, rfl, rfl, HA, HK1, HB⟩ := hrel
        cases gk with
        | zero => exact absurd HA.out (by simp [backhaulref05_Row.l0])
        | succ k1 =>
          have H := HA.out
          clear HA
          simp only [backhaulref05_Row.l0] at H
          by_cases c8 : x8_1 < (l1.length : Int)
          · rw [if_pos c8] at H
            have c8b0 : decide (x8_1 < (l1.length : Int)) = true := decide_eq_true c8
            clear c8
            by_cases c9 : 0 ≤ x8_1
            · rw [if_pos c9] at H
              have c9b0 : decide (0 ≤ x8_1) = true := decide_eq_true c9
              clear c9
              replace H := Option.bind_eq_some_iff.mp H
              obtain ⟨⟨t481, t482⟩, A100, H⟩ := H
              replace H : (if t482 = 0 then (if x6_1.size + t481.size ≤ 9223372036854775807 then (backhaulref05_Row.l0 k1 a0 l1 (x6_1 ++ t481) (wrap64 (x8_1 + 1))) else (none)) else (some ((⟨#[]⟩ : ByteArray), t482))) = some (r1, r2) := H
              have A10 := Aside0.mk A100
              clear A100
              by_cases c11 : t482 = 0
              · rw [if_pos c11] at H
                have c11b0 : (t482 == 0) = true := beq_iff_eq.mpr c11
                have c11b1 : (t482 != 0) = false := bne_eq_false_iff_eq.mpr c11
                clear c11
                by_cases c12 : x6_1.size + t481.size ≤ 9223372036854775807
                · rw [if_pos c12] at H
                  have c12b0 := eq_true c12
                  have c12b1 : decide (x6_1.size + t481.size ≤ 9223372036854775807) = true := decide_eq_true c12
                  try have c12b2 : (9223372036854775807 < x6_1.size + t481.size) = False := eq_false (Nat.not_lt.2 c12)
                  have H' := Aside0.mk H
                  clear H
                  have p480 : 0 ≤ (x8_1 : Int) := of_decide_eq_true (by first | (with_reducible assumption) | assumption)
                  have q480 : x8_1 < (l1.length : Int) := of_decide_eq_true (by first | (with_reducible assumption) | assumption)
                  obtain ⟨ad480, e480, hx480_0⟩ := Kd.at_int HR1.out x8_1 p480 q480
                  cases e480
                  replace hx480_0 := (HB.out.cell (World.block_lt_of_cell? w _ hx480_0)).trans hx480_0
                  replace p480 := eq_true p480
                  replace q480 := eq_true q480
                  go_wp2_with (first | ((with_reducible refine gate_callee (f := 36) rfl ?_); refine goesL_ (some 35) rfl rfl Try.func36 (by kernel_rfl) rfl #[.int .i64 (rd l1 x8_1), .int .i64 a0] rfl (by (try simp only [List.map_toArray, List.map_cons, List.map_nil]); first | done | rfl | (simp only [List.length_drop, List.length_take]; rfl)) ?_; (with_reducible refine (backhaulref05_Put.calls k1 (rd l1 x8_1) a0 t481 t482 _ A10.out).mono ?_); rintro e w13 ⟨rfl, hb⟩; refine ⟨_, rfl, ?_⟩; have n0_ := Aside0.mk (below_step (by repeat (first | (with_reducible first | exact HB.out | apply below_alloc | apply pw_below_drewN | apply below_drew1) | exact HB.out)) hb); clear HB; have HB := n0_; clear n0_; (try clear hb); (try clear hb2); (try clear hk); (try clear hi)))
                  go_roundg k1
                  case measure => have := HK1.out; omega
                  case rel => exact ⟨(x6_1 ++ t481), (wrap64 (x8_1 + 1)), (by first | rfl | (simp; done) | (simp [*]; done)), (by first | rfl | (simp; done) | (simp [*]; done)), H', ⟨by have := HK1.out; omega⟩, ⟨by repeat (first | (with_reducible first | exact HB.out | apply below_alloc | apply pw_below_drewN | apply below_drew1) | exact HB.out)⟩⟩
                · rw [if_neg c12] at H
                  exact absurd H (by simp)
              · rw [if_neg c11] at H
                have c11b0 : (t482 == 0) = false := beq_eq_false_iff_ne.mpr c11
                have c11b1 : (t482 != 0) = true := bne_iff_ne.mpr c11
                simp only [Option.some.injEq, Prod.mk.injEq] at H
                obtain ⟨rfl, rfl⟩ := H
                have p480 : 0 ≤ (x8_1 : Int) := of_decide_eq_true (by first | (with_reducible assumption) | assumption)
                have q480 : x8_1 < (l1.length : Int) := of_decide_eq_true (by first | (with_reducible assumption) | assumption)
                obtain ⟨ad480, e480, hx480_0⟩ := Kd.at_int HR1.out x8_1 p480 q480
                cases e480
                replace hx480_0 := (HB.out.cell (World.block_lt_of_cell? w _ hx480_0)).trans hx480_0
                replace p480 := eq_true p480
                replace q480 := eq_true q480
                go_wp2_with (first | ((with_reducible refine gate_callee (f := 36) rfl ?_); refine goesL_ (some 35) rfl rfl Try.func36 (by kernel_rfl) rfl #[.int .i64 (rd l1 x8_1), .int .i64 a0] rfl (by (try simp only [List.map_toArray, List.map_cons, List.map_nil]); first | done | rfl | (simp only [List.length_drop, List.length_take]; rfl)) ?_; (with_reducible refine (backhaulref05_Put.calls k1 (rd l1 x8_1) a0 t481 t482 _ A10.out).mono ?_); rintro e w14 ⟨rfl, hb⟩; refine ⟨_, rfl, ?_⟩; have n0_ := Aside0.mk (below_step (by repeat (first | (with_reducible first | exact HB.out | apply below_alloc | apply pw_below_drewN | apply below_drew1) | exact HB.out)) hb); clear HB; have HB := n0_; clear n0_; (try clear hb); (try clear hb2); (try clear hk); (try clear hi)))
                go_ret2
                exact ⟨by first | rfl | (simp [errW_none, errW_some] <;> rfl) | (simp [*, errW_none, errW_some] <;> rfl), by repeat (first | (with_reducible first | exact HB.out | apply below_alloc | apply pw_below_drewN | apply below_drew1) | exact HB.out)⟩
            · rw [if_neg c9] at H
              exact absurd H (by simp)
          · rw [if_neg c8] at H
            have c8b0 : decide (x8_1 < (l1.length : Int)) = false := decide_eq_false c8
            clear c8
            simp only [Option.some.injEq, Prod.mk.injEq] at H
            obtain ⟨rfl, rfl⟩ := H
            go_wp2
            go_ret2
            exact ⟨by first | rfl | (simp [errW_none, errW_some] <;> rfl) | (simp [*, errW_none, errW_some] <;> rfl), by repeat (first | (with_reducible first | exact HB.out | apply below_alloc | apply pw_below_drewN | apply below_drew1) | exact HB.out)⟩
  · replace c4 := Bool.eq_false_iff.mpr c4
    subst c4
    have H1 : (some ((⟨#[]⟩ : ByteArray), 2)) = some (r1, r2) := by first | (rw [if_neg (show ¬ (false = true) by decide)] at H; exact H) | rfl
    clear H
    have H := H1
    clear H1
    simp only [Option.some.injEq, Prod.mk.injEq] at H
    obtain ⟨rfl, rfl⟩ := H
    go_enter Try.func45, Try.ntmps45
    go_wp2_with (first | ((with_reducible refine gate_callee (f := 70) rfl ?_); refine goesL_ (some 12) rfl rfl Try.func70 (by kernel_rfl) rfl #[.int .i64 a0] rfl (by (try simp only [List.map_toArray, List.map_cons, List.map_nil]); first | done | rfl | (simp only [List.length_drop, List.length_take]; rfl)) ?_; (with_reducible refine (backhaulref05_wide.calls a0 false _ A3.out).mono ?_); rintro e w' ⟨rfl, ⟨nd, rfl⟩⟩; refine ⟨_, rfl, ?_⟩))
    go_ret2
    exact ⟨by first | rfl | (simp [errW_none, errW_some] <;> rfl) | (simp [*, errW_none, errW_some] <;> rfl), by repeat (first | (with_reducible first | exact HB.out | apply below_alloc | apply pw_below_drewN | apply below_drew1) | exact HB.out)⟩

end Go.Proofs.Ytabapiofkipkoaa.F

namespace Go.Proofs.Ytabapiofkipkoaa.F
open Go.RowKit Go.Proofs.YtabapiofkipkoaaX Go.Proofs.YtabapiofkipkoaaW.PrintWords Go.Proofs.YtabapiofkipkoaaW.PrintLast Go.Proofs.YtabapiofkipkoaaW.PrintMore
attribute [local go_sem] max2_int min2_int max_two min_two max_three min_three max_four min_four   -- for this text's walks alone
attribute [local go_sem high] str_geq str_leq str_gtr
set_option linter.unusedVariables false
set_option linter.unusedSimpArgs false

/-! ### backhaulref05_Unrow: function 47 -/
mutual
def backhaulref05_Unrow.j0 : Nat → ByteArray → Int → Int → Int → Bool → Option (List Int × Int × Int)
  | 0, _, _, _, _, _ => none
  | k + 1, x0, x1, x2, x3, x35 => if x35 = true then (some (([] : List Int), 0, 2)) else ((backhaulref05_Get.f k x0 x1 2).bind fun bt484 => (if bt484.2.2 = 0 then (if bt484.1 > x3 then (backhaulref05_Unrow.j1 k x0 x2 bt484.1 bt484.2.1 true) else (backhaulref05_Unrow.j1 k x0 x2 bt484.1 bt484.2.1 (decide (bt484.1 > 1000)))) else (some (([] : List Int), 0, bt484.2.2))))
def backhaulref05_Unrow.j1 : Nat → ByteArray → Int → Int → Int → Bool → Option (List Int × Int × Int)
  | 0, _, _, _, _, _ => none
  | k + 1, x0, x2, x11, x12, x52 => if x52 = true then (some (([] : List Int), 0, 3)) else (backhaulref05_Unrow.l0 k x0 x2 x11 x12 ([] : List Int) 0)
def backhaulref05_Unrow.l0 : Nat → ByteArray → Int → Int → Int → List Int → Int → Option (List Int × Int × Int)
  | 0, _, _, _, _, _, _ => none
  | k + 1, x0, x2, x11, x12, x14, x15 => if x15 < x11 then ((backhaulref05_Get.f k x0 x12 x2).bind fun bt487 => (if bt487.2.2 = 0 then (if x14.length < 17592186044416 then (backhaulref05_Unrow.l0 k x0 x2 x11 bt487.2.1 (x14 ++ [bt487.1]) (wrap64 (x15 + 1))) else (none)) else (some (([] : List Int), 0, bt487.2.2)))) else (some (x14, x12, 0))
end
def backhaulref05_Unrow.f (k : Nat) (a0 : ByteArray) (a1 : Int) (a2 : Int) (a3 : Int) : Option (List Int × Int × Int) := (backhaulref05_wide.f a2).bind fun t483 => (if t483 = true then (if a1 < 0 then (backhaulref05_Unrow.j0 k a0 a1 a2 a3 true) else (if a1 > (a0.size : Int) then (backhaulref05_Unrow.j0 k a0 a1 a2 a3 true) else (backhaulref05_Unrow.j0 k a0 a1 a2 a3 (decide (a3 < 0))))) else (backhaulref05_Unrow.j0 k a0 a1 a2 a3 true))
theorem backhaulref05_Unrow.mono_l : ∀ k, (∀ y0 y1 y2 y3 y4, LeO (backhaulref05_Unrow.j0 k y0 y1 y2 y3 y4) (backhaulref05_Unrow.j0 (k + 1) y0 y1 y2 y3 y4)) ∧ (∀ y0 y1 y2 y3 y4, LeO (backhaulref05_Unrow.j1 k y0 y1 y2 y3 y4) (backhaulref05_Unrow.j1 (k + 1) y0 y1 y2 y3 y4)) ∧ (∀ y0 y1 y2 y3 y4 y5, LeO (backhaulref05_Unrow.l0 k y0 y1 y2 y3 y4 y5) (backhaulref05_Unrow.l0 (k + 1) y0 y1 y2 y3 y4 y5))
  | 0 => ⟨fun _ _ _ _ _ r h => by simp [backhaulref05_Unrow.j0] at h, fun _ _ _ _ _ r h => by simp [backhaulref05_Unrow.j1] at h, fun _ _ _ _ _ _ r h => by simp [backhaulref05_Unrow.l0] at h⟩
  | k + 1 => by
    obtain ⟨ih0, ih1, ih2⟩ := backhaulref05_Unrow.mono_l k
    refine ⟨?_, ?_, ?_⟩
    · intro y0 y1 y2 y3 y4
      unfold backhaulref05_Unrow.j0
      repeat' first
      | (with_reducible exact ih0 _ _ _ _ _)
      | (with_reducible exact ih1 _ _ _ _ _)
      | (with_reducible exact ih2 _ _ _ _ _ _)
      | (with_reducible exact backhaulref05_Get.mono _ _ _ _)
      | (with_reducible exact LeO.refl _)
      | (with_reducible exact LeO.none _)
      | (with_reducible refine LeO.ite ?_ ?_)
      | (with_reducible refine LeO.bind ?_ (fun _ => ?_))
      | exact ih0 _ _ _ _ _
      | exact ih1 _ _ _ _ _
      | exact ih2 _ _ _ _ _ _
      | exact backhaulref05_Get.mono _ _ _ _
      | exact LeO.none _
      | refine LeO.ite ?_ ?_
      | refine LeO.bind ?_ (fun _ => ?_)
    · intro y0 y1 y2 y3 y4
      unfold backhaulref05_Unrow.j1
      repeat' first
      | (with_reducible exact ih0 _ _ _ _ _)
      | (with_reducible exact ih1 _ _ _ _ _)
      | (with_reducible exact ih2 _ _ _ _ _ _)
      | (with_reducible exact backhaulref05_Get.mono _ _ _ _)
      | (with_reducible exact LeO.refl _)
      | (with_reducible exact LeO.none _)
      | (with_reducible refine LeO.ite ?_ ?_)
      | (with_reducible refine LeO.bind ?_ (fun _ => ?_))
      | exact ih0 _ _ _ _ _
      | exact ih1 _ _ _ _ _
      | exact ih2 _ _ _ _ _ _
      | exact backhaulref05_Get.mono _ _ _ _
      | exact LeO.none _
      | refine LeO.ite ?_ ?_
      | refine LeO.bind ?_ (fun _ => ?_)
    · intro y0 y1 y2 y3 y4 y5
      unfold backhaulref05_Unrow.l0
      repeat' first
      | (with_reducible exact ih0 _ _ _ _ _)
      | (with_reducible exact ih1 _ _ _ _ _)
      | (with_reducible exact ih2 _ _ _ _ _ _)
      | (with_reducible exact backhaulref05_Get.mono _ _ _ _)
      | (with_reducible exact LeO.refl _)
      | (with_reducible exact LeO.none _)
      | (with_reducible refine LeO.ite ?_ ?_)
      | (with_reducible refine LeO.bind ?_ (fun _ => ?_))
      | exact ih0 _ _ _ _ _
      | exact ih1 _ _ _ _ _
      | exact ih2 _ _ _ _ _ _
      | exact backhaulref05_Get.mono _ _ _ _
      | exact LeO.none _
      | refine LeO.ite ?_ ?_
      | refine LeO.bind ?_ (fun _ => ?_)
theorem backhaulref05_Unrow.mono : ∀ a0 a1 a2 a3 k, LeO (backhaulref05_Unrow.f k a0 a1 a2 a3) (backhaulref05_Unrow.f (k + 1) a0 a1 a2 a3) := by
  intro a0 a1 a2 a3 k
  obtain ⟨ih0, ih1, ih2⟩ := backhaulref05_Unrow.mono_l k
  unfold backhaulref05_Unrow.f
  repeat' first
      | (with_reducible exact ih0 _ _ _ _ _)
      | (with_reducible exact ih1 _ _ _ _ _)
      | (with_reducible exact ih2 _ _ _ _ _ _)
      | (with_reducible exact backhaulref05_Get.mono _ _ _ _)
      | (with_reducible exact LeO.refl _)
      | (with_reducible exact LeO.none _)
      | (with_reducible refine LeO.ite ?_ ?_)
      | (with_reducible refine LeO.bind ?_ (fun _ => ?_))
      | exact ih0 _ _ _ _ _
      | exact ih1 _ _ _ _ _
      | exact ih2 _ _ _ _ _ _
      | exact backhaulref05_Get.mono _ _ _ _
      | exact LeO.none _
      | refine LeO.ite ?_ ?_
      | refine LeO.bind ?_ (fun _ => ?_)
set_option maxHeartbeats 8000000 in
set_option maxRecDepth 100000 in
theorem backhaulref05_Unrow.calls (k : Nat) (a0 : ByteArray) (a1 : Int) (a2 : Int) (a3 : Int) (r1 : List Int) (r2 : Int) (r3 : Int) (w : World) (h : backhaulref05_Unrow.f k a0 a1 a2 a3 = some (r1, r2, r3)) :
    Calls Try.prog 47 #[.string a0, .int .i64 a1, .int .i64 a2, .int .i64 a3] w fun e w' => ∃ v0_ : Value, e = .returned (.tuple #[v0_, .int .i64 r2, .int .i64 r3]) ∧ Kd.R (Kd.int .i64) 3 w' w.heap.size (fun _ => True) v0_ r1 ∧ Below w.heap.size w w' := by
  have HB := Aside0.mk (Below.refl w.heap.size w)
  have H : ((backhaulref05_wide.f a2).bind fun t483 => (if t483 = true then (if a1 < 0 then (backhaulref05_Unrow.j0 k a0 a1 a2 a3 true) else (if a1 > (a0.size : Int) then (backhaulref05_Unrow.j0 k a0 a1 a2 a3 true) else (backhaulref05_Unrow.j0 k a0 a1 a2 a3 (decide (a3 < 0))))) else (backhaulref05_Unrow.j0 k a0 a1 a2 a3 true))) = some (r1, r2, r3) := h
  clear h
  have HC5 := Aside0.mk H
  clear H
  go_enter Try.func47, Try.ntmps47
  go_upto_region 1 with (fail)
  go_cut [35] (fun v35 wc => ∃ (kq : Nat) (x35_4 : Bool), v35 = .bool x35_4 ∧ Aside0 (backhaulref05_Unrow.j0 kq a0 a1 a2 a3 x35_4 = some (r1, r2, r3)) ∧ Aside0 (kq ≤ k) ∧ Aside0 (Below w.heap.size w wc))
  case first =>
    have H := HC5.out
    clear HC5
    replace H := Option.bind_eq_some_iff.mp H
    obtain ⟨t483, A60, H⟩ := H
    replace H : (if t483 = true then (if a1 < 0 then (backhaulref05_Unrow.j0 k a0 a1 a2 a3 true) else (if a1 > (a0.size : Int) then (backhaulref05_Unrow.j0 k a0 a1 a2 a3 true) else (backhaulref05_Unrow.j0 k a0 a1 a2 a3 (decide (a3 < 0))))) else (backhaulref05_Unrow.j0 k a0 a1 a2 a3 true)) = some (r1, r2, r3) := H
    have A6 := Aside0.mk A60
    clear A60
    by_cases c7 : t483 = true
    · subst c7
      have H1 : (if a1 < 0 then (backhaulref05_Unrow.j0 k a0 a1 a2 a3 true) else (if a1 > (a0.size : Int) then (backhaulref05_Unrow.j0 k a0 a1 a2 a3 true) else (backhaulref05_Unrow.j0 k a0 a1 a2 a3 (decide (a3 < 0))))) = some (r1, r2, r3) := by first | (rw [if_pos rfl] at H; exact H) | rfl
      clear H
      have H := H1
      clear H1
      by_cases c8 : a1 < 0
      · rw [if_pos c8] at H
        have c8b0 : decide (a1 < 0) = true := decide_eq_true c8
        clear c8
        (first | rw [c8b0] | (simp only [i64_w, i32_w]; rw [c8b0]) | skip)
        have H' := Aside0.mk H
        clear H
        go_wp2_with (first | ((with_reducible refine gate_callee (f := 70) rfl ?_); refine goesL_ (some 20) rfl rfl Try.func70 (by kernel_rfl) rfl #[.int .i64 a2] rfl (by (try simp only [List.map_toArray, List.map_cons, List.map_nil]); first | done | rfl | (simp only [List.length_drop, List.length_take]; rfl)) ?_; (with_reducible refine (backhaulref05_wide.calls a2 true _ A6.out).mono ?_); rintro e w' ⟨rfl, ⟨nd, rfl⟩⟩; refine ⟨_, rfl, ?_⟩))
        go_meet
        case rel => exact ⟨_, (true), (by first | rfl | (simp; done) | (simp [*]; done)), H', ⟨by first | omega | exact Nat.le_refl _⟩, ⟨by repeat (first | (with_reducible first | exact HB.out | apply below_alloc | apply pw_below_drewN | apply below_drew1) | exact HB.out)⟩⟩
      · rw [if_neg c8] at H
        have c8b0 : decide (a1 < 0) = false := decide_eq_false c8
        clear c8
        (first | rw [c8b0] | (simp only [i64_w, i32_w]; rw [c8b0]) | skip)
        by_cases c9 : a1 > (a0.size : Int)
        · rw [if_pos c9] at H
          have c9b0 : decide ((a0.size : Int) < a1) = true := decide_eq_true c9
          clear c9
          have H' := Aside0.mk H
          clear H
          go_wp2_with (first | ((with_reducible refine gate_callee (f := 70) rfl ?_); refine goesL_ (some 20) rfl rfl Try.func70 (by kernel_rfl) rfl #[.int .i64 a2] rfl (by (try simp only [List.map_toArray, List.map_cons, List.map_nil]); first | done | rfl | (simp only [List.length_drop, List.length_take]; rfl)) ?_; (with_reducible refine (backhaulref05_wide.calls a2 true _ A6.out).mono ?_); rintro e w' ⟨rfl, ⟨nd, rfl⟩⟩; refine ⟨_, rfl, ?_⟩))
          go_meet
          case rel => exact ⟨_, (true), (by first | rfl | (simp; done) | (simp [*]; done)), H', ⟨by first | omega | exact Nat.le_refl _⟩, ⟨by repeat (first | (with_reducible first | exact HB.out | apply below_alloc | apply pw_below_drewN | apply below_drew1) | exact HB.out)⟩⟩
        · rw [if_neg c9] at H
          have c9b0 : decide ((a0.size : Int) < a1) = false := decide_eq_false c9
          clear c9
          have H' := Aside0.mk H
          clear H
          go_wp2_with (first | ((with_reducible refine gate_callee (f := 70) rfl ?_); refine goesL_ (some 20) rfl rfl Try.func70 (by kernel_rfl) rfl #[.int .i64 a2] rfl (by (try simp only [List.map_toArray, List.map_cons, List.map_nil]); first | done | rfl | (simp only [List.length_drop, List.length_take]; rfl)) ?_; (with_reducible refine (backhaulref05_wide.calls a2 true _ A6.out).mono ?_); rintro e w' ⟨rfl, ⟨nd, rfl⟩⟩; refine ⟨_, rfl, ?_⟩))
          go_meet
          case rel => exact ⟨_, (decide (a3 < 0)), (by first | rfl | (simp; done) | (simp [*]; done)), H', ⟨by first | omega | exact Nat.le_refl _⟩, ⟨by repeat (first | (with_reducible first | exact HB.out | apply below_alloc | apply pw_below_drewN | apply below_drew1) | exact HB.out)⟩⟩
    · replace c7 := Bool.eq_false_iff.mpr c7
      subst c7
      have H1 : (backhaulref05_Unrow.j0 k a0 a1 a2 a3 true) = some (r1, r2, r3) := by first | (rw [if_neg (show ¬ (false = true) by decide)] at H; exact H) | rfl
      clear H
      have H := H1
      clear H1
      have H' := Aside0.mk H
      clear H
      go_wp2_with (first | ((with_reducible refine gate_callee (f := 70) rfl ?_); refine goesL_ (some 20) rfl rfl Try.func70 (by kernel_rfl) rfl #[.int .i64 a2] rfl (by (try simp only [List.map_toArray, List.map_cons, List.map_nil]); first | done | rfl | (simp only [List.length_drop, List.length_take]; rfl)) ?_; (with_reducible refine (backhaulref05_wide.calls a2 false _ A6.out).mono ?_); rintro e w' ⟨rfl, ⟨nd, rfl⟩⟩; refine ⟨_, rfl, ?_⟩))
      go_meet
      case rel => exact ⟨_, (true), (by first | rfl | (simp; done) | (simp [*]; done)), H', ⟨by first | omega | exact Nat.le_refl _⟩, ⟨by repeat (first | (with_reducible first | exact HB.out | apply below_alloc | apply pw_below_drewN | apply below_drew1) | exact HB.out)⟩⟩
  case rest =>
    clear HC5
    try clear p2
    try clear c4
    try clear c7
    try clear c8
    try clear c8b0
    try clear c9
    try clear c9b0
    obtain ⟨kq, x35_4, rfl, HA, HJ4, HB⟩ := hcut
    cases kq with
    | zero => exact absurd HA.out (by simp [backhaulref05_Unrow.j0])
    | succ kj4 =>
      have H := HA.out
      clear HA
      simp only [backhaulref05_Unrow.j0] at H
      by_cases c10 : x35_4 = true
      · subst c10
        have H1 : (some (([] : List Int), 0, 2)) = some (r1, r2, r3) := by first | (rw [if_pos rfl] at H; exact H) | rfl
        clear H
        have H := H1
        clear H1
        simp only [Option.some.injEq, Prod.mk.injEq] at H
        obtain ⟨rfl, rfl, rfl⟩ := H
        go_wp2
        go_ret3
        exact ⟨_, by first | rfl | (simp [errW_none, errW_some] <;> rfl) | (simp [*, errW_none, errW_some] <;> rfl), by first | exact Kd.R_nil _ _ _ _ _ | exact Kd.N_nil _ _ _ _ _ | exact Kd.V_nil _ _ _ _ _ | exact Kd.Q_nil _ _ _ _ _ | exact Kd.S_nil _ _ _ _ _, by repeat (first | (with_reducible first | exact HB.out | apply below_alloc | apply pw_below_drewN | apply below_drew1) | exact HB.out)⟩
      · replace c10 := Bool.eq_false_iff.mpr c10
        subst c10
        have H1 : ((backhaulref05_Get.f kj4 a0 a1 2).bind fun bt484 => (if bt484.2.2 = 0 then (if bt484.1 > a3 then (backhaulref05_Unrow.j1 kj4 a0 a2 bt484.1 bt484.2.1 true) else (backhaulref05_Unrow.j1 kj4 a0 a2 bt484.1 bt484.2.1 (decide (bt484.1 > 1000)))) else (some (([] : List Int), 0, bt484.2.2)))) = some (r1, r2, r3) := by first | (rw [if_neg (show ¬ (false = true) by decide)] at H; exact H) | rfl
        clear H
        have H := H1
        clear H1
        replace H := Option.bind_eq_some_iff.mp H
        obtain ⟨⟨t484, t485, t486⟩, A110, H⟩ := H
        replace H : (if t486 = 0 then (if t484 > a3 then (backhaulref05_Unrow.j1 kj4 a0 a2 t484 t485 true) else (backhaulref05_Unrow.j1 kj4 a0 a2 t484 t485 (decide (t484 > 1000)))) else (some (([] : List Int), 0, t486))) = some (r1, r2, r3) := H
        have A11 := Aside0.mk A110
        clear A110
        by_cases c12 : t486 = 0
        · rw [if_pos c12] at H
          have c12b0 : (t486 == 0) = true := beq_iff_eq.mpr c12
          have c12b1 : (t486 != 0) = false := bne_eq_false_iff_eq.mpr c12
          clear c12
          have HC13 := Aside0.mk H
          clear H
          go_upto_region 6 with (first | ((with_reducible refine gate_callee (f := 38) rfl ?_); refine goesL_ (some 39) rfl rfl Try.func38 (by kernel_rfl) rfl #[.string a0, .int .i64 a1, .int .i64 2] rfl (by (try simp only [List.map_toArray, List.map_cons, List.map_nil]); first | done | rfl | (simp only [List.length_drop, List.length_take]; rfl)) ?_; (with_reducible refine (backhaulref05_Get.calls kj4 a0 a1 2 t484 t485 t486 _ A11.out).mono ?_); rintro e w' ⟨rfl, ⟨nd, rfl⟩⟩; refine ⟨_, rfl, ?_⟩))
          (try simp only [Act.put, List.setIfInBounds_toArray, List.set_cons_zero, List.set_cons_succ])
          go_cut [52] (fun v52 wc => ∃ (kq : Nat) (x52_12 : Bool), v52 = .bool x52_12 ∧ Aside0 (backhaulref05_Unrow.j1 kq a0 a2 t484 t485 x52_12 = some (r1, r2, r3)) ∧ Aside0 (kq ≤ kj4) ∧ Aside0 (Below w.heap.size w wc))
          case first =>
            have H := HC13.out
            clear HC13
            by_cases c14 : t484 > a3
            · rw [if_pos c14] at H
              have c14b0 : decide (a3 < t484) = true := decide_eq_true c14
              clear c14
              (first | rw [c14b0] | (simp only [i64_w, i32_w]; rw [c14b0]) | skip)
              have H' := Aside0.mk H
              clear H
              go_wp2
              go_meet
              case rel => exact ⟨_, (true), (by first | rfl | (simp; done) | (simp [*]; done)), H', ⟨by have := HJ4.out; first | omega | exact Nat.le_refl _⟩, ⟨by repeat (first | (with_reducible first | exact HB.out | apply below_alloc | apply pw_below_drewN | apply below_drew1) | exact HB.out)⟩⟩
            · rw [if_neg c14] at H
              have c14b0 : decide (a3 < t484) = false := decide_eq_false c14
              clear c14
              (first | rw [c14b0] | (simp only [i64_w, i32_w]; rw [c14b0]) | skip)
              have H' := Aside0.mk H
              clear H
              go_wp2
              go_meet
              case rel => exact ⟨_, (decide (t484 > 1000)), (by first | rfl | (simp; done) | (simp [*]; done)), H', ⟨by have := HJ4.out; first | omega | exact Nat.le_refl _⟩, ⟨by repeat (first | (with_reducible first | exact HB.out | apply below_alloc | apply pw_below_drewN | apply below_drew1) | exact HB.out)⟩⟩
          case rest =>
            clear HC13
            try clear c1
            try clear p2
            try clear c3
            try clear c4
            try clear c7
            try clear c8
            try clear c8b0
            try clear c9
            try clear c9b0
            try clear c10
            try clear c12
            try clear c12b0
            try clear c12b1
            try clear c14
            try clear c14b0
            try clear p2
            obtain ⟨kq, x52_12, rfl, HA, HJ12, HB⟩ := hcut
            cases kq with
            | zero => exact absurd HA.out (by simp [backhaulref05_Unrow.j1])
            | succ kj12 =>
              have H := HA.out
              clear HA
              simp only [backhaulref05_Unrow.j1] at H
              by_cases c15 : x52_12 = true
              · subst c15
                have H1 : (some (([] : List Int), 0, 3)) = some (r1, r2, r3) := by first | (rw [if_pos rfl] at H; exact H) | rfl
                clear H
                have H := H1
                clear H1
                simp only [Option.some.injEq, Prod.mk.injEq] at H
                obtain ⟨rfl, rfl, rfl⟩ := H
                go_wp2
                go_ret3
                exact ⟨_, by first | rfl | (simp [errW_none, errW_some] <;> rfl) | (simp [*, errW_none, errW_some] <;> rfl), by first | exact Kd.R_nil _ _ _ _ _ | exact Kd.N_nil _ _ _ _ _ | exact Kd.V_nil _ _ _ _ _ | exact Kd.Q_nil _ _ _ _ _ | exact Kd.S_nil _ _ _ _ _, by repeat (first | (with_reducible first | exact HB.out | apply below_alloc | apply pw_below_drewN | apply below_drew1) | exact HB.out)⟩
              · replace c15 := Bool.eq_false_iff.mpr c15
                subst c15
                have H1 : (backhaulref05_Unrow.l0 kj12 a0 a2 t484 t485 ([] : List Int) 0) = some (r1, r2, r3) := by first | (rw [if_neg (show ¬ (false = true) by decide)] at H; exact H) | rfl
                clear H
                have H := H1
                clear H1
                have H' := Aside0.mk H
                clear H
                go_wp2
                go_loopg [12, 14, 15] kj12 (fun kq v12 v14 v15 w' => ∃ (x12_3 : Int) (x14_3 : List Int) (x15_3 : Int), v12 = .int .i64 x12_3 ∧ v15 = .int .i64 x15_3 ∧ Aside0 (backhaulref05_Unrow.l0 kq a0 a2 t484 x12_3 x14_3 x15_3 = some (r1, r2, r3)) ∧ Aside0 (kq ≤ kj12) ∧ Aside0 (Kd.R (Kd.int .i64) 3 w' w.heap.size (fun _ => True) v14 x14_3) ∧ Aside0 (Below w.heap.size w w'))
                case atStart => exact ⟨(t485), (([] : List Int)), (0), (by first | rfl | (simp; done) | (simp [*]; done)), (by first | rfl | (simp; done) | (simp [*]; done)), H', ⟨Nat.le_refl _⟩, ⟨by first | exact Kd.R_nil _ _ _ _ _ | exact Kd.N_nil _ _ _ _ _ | exact Kd.V_nil _ _ _ _ _ | exact Kd.Q_nil _ _ _ _ _ | exact Kd.S_nil _ _ _ _ _⟩, ⟨by repeat (first | (with_reducible first | exact HB.out | apply below_alloc | apply pw_below_drewN | apply below_drew1) | exact HB.out)⟩⟩
                case round =>
                  clear H'
                  try clear c1
                  try clear p2
                  try clear c3
                  try clear c4
                  try clear c7
                  try clear c8
                  try clear c8b0
                  try clear c9
                  try clear c9b0
                  try clear c10
                  try clear c12
                  try clear c12b0
                  try clear c12b1
                  try clear c14
                  try clear c14b0
                  try clear c15
                  try clear p2
                  obtain ⟨x12_3, x14_3, x15_3, rfl, rfl, HA, HK3, HO_14, HB⟩ := hrel
                  cases gk with
                  | zero => exact absurd HA.out (by simp [backhaulref05_Unrow.l0])
                  | succ k3 =>
                    have H := HA.out
                    clear HA
                    simp only [backhaulref05_Unrow.l0] at H
                    by_cases c16 : x15_3 < t484
                    · rw [if_pos c16] at H
                      have c16b0 : decide (x15_3 < t484) = true := decide_eq_true c16
                      clear c16
                      replace H := Option.bind_eq_some_iff.mp H
                      obtain ⟨⟨t487, t488, t489⟩, A170, H⟩ := H
                      replace H : (if t489 = 0 then (if x14_3.length < 17592186044416 then (backhaulref05_Unrow.l0 k3 a0 a2 t484 t488 (x14_3 ++ [t487]) (wrap64 (x15_3 + 1))) else (none)) else (some (([] : List Int), 0, t489))) = some (r1, r2, r3) := H
                      have A17 := Aside0.mk A170
                      clear A170
                      by_cases c18 : t489 = 0
                      · rw [if_pos c18] at H
                        have c18b0 : (t489 == 0) = true := beq_iff_eq.mpr c18
                        have c18b1 : (t489 != 0) = false := bne_eq_false_iff_eq.mpr c18
                        clear c18
                        by_cases c19 : x14_3.length < 17592186044416
                        · rw [if_pos c19] at H
                          have LMc19 := Aside0.mk c19
                          clear c19
                          obtain ⟨y490, hy490⟩ : ∃ y_ : List Int, y_ = (x14_3 ++ [t487]) := ⟨_, rfl⟩
                          replace H : (backhaulref05_Unrow.l0 k3 a0 a2 t484 t488 y490 (wrap64 (x15_3 + 1))) = some (r1, r2, r3) := by first | (rw [hy490]; with_reducible exact H) | (have H2_ := (Option.bind_some _ _).symm.trans H; rw [hy490]; with_reducible exact H2_) | (have H2_ := (Option.bind_some _ _).symm.trans H; with_reducible exact H2_) | with_reducible exact H | (rw [hy490]; exact H) | exact H
                          have Ny490 := Aside0.mk hy490
                          clear hy490
                          have H' := Aside0.mk H
                          clear H
                          go_wp2_with (first | ((with_reducible refine gate_callee (f := 38) rfl ?_); refine goesL_ (some 62) rfl rfl Try.func38 (by kernel_rfl) rfl #[.string a0, .int .i64 x12_3, .int .i64 a2] rfl (by (try simp only [List.map_toArray, List.map_cons, List.map_nil]); first | done | rfl | (simp only [List.length_drop, List.length_take]; rfl)) ?_; (with_reducible refine (backhaulref05_Get.calls k3 a0 x12_3 a2 t487 t488 t489 _ A17.out).mono ?_); rintro e w' ⟨rfl, ⟨nd, rfl⟩⟩; refine ⟨_, rfl, ?_⟩) | ((with_reducible refine gate_builtin (b := .append) (xs := #[.tmp 69, .tmp 71]) rfl ?_); (try (refine gate_guard (by rfl) ?_; dsimp only)); at_builtin; refine Kd.R_append (Kd.int .i64) (w0 := w) w.heap.size rfl (.tmp 69) (.tmp 71) 22 3 (.int .i64 0) 8 rfl Try.underlying22 info3 rfl (by decide) (by omega) u14 x14_3 t487 [.int .i64 t487] (fun _ => True) (fun _ => False) rfl rfl ?aP (fun _ hk => hk.elim) ?aF ?aO ?aB ?aS ?aL ?_; (case aP => exact rfl); (case aB => exact (by repeat (first | (with_reducible first | exact HB.out | apply below_alloc | apply pw_below_drewN | apply below_drew1) | exact HB.out))); (case aF => exact (fun _ _ => trivial)); (case aO => exact (by (with_reducible repeat (first | apply Kd.R_alloc | apply Kd.R_drewN | apply Kd.R_drew)); exact HO_14.out)); (case aS => exact (below_size (by repeat (first | (with_reducible first | exact HB.out | apply below_alloc | apply pw_below_drewN | apply below_drew1) | exact HB.out)))); (case aL => have := LMc19.out; omega); intro v491 w20 ho hb hg hat; rw [← Ny490.out] at ho; have n0_ := Aside0.mk (hb); have n1_ := Aside0.mk (ho); clear HB; clear HO_14; have HB := n0_; have HO492 := n1_; clear n0_ n1_; clear ho hb hg hat))
                          go_roundg k3
                          case measure => have := HJ4.out; have := HJ12.out; have := HK3.out; omega
                          case rel => exact ⟨(t488), (y490), (wrap64 (x15_3 + 1)), (by first | rfl | (simp; done) | (simp [*]; done)), (by first | rfl | (simp; done) | (simp [*]; done)), H', ⟨by have := HJ4.out; have := HJ12.out; have := HK3.out; omega⟩, ⟨by (with_reducible repeat (first | apply Kd.R_alloc | apply Kd.R_drewN | apply Kd.R_drew)); exact HO492.out⟩, ⟨by repeat (first | (with_reducible first | exact HB.out | apply below_alloc | apply pw_below_drewN | apply below_drew1) | exact HB.out)⟩⟩
                        · rw [if_neg c19] at H
                          exact absurd H (by simp)
                      · rw [if_neg c18] at H
                        have c18b0 : (t489 == 0) = false := beq_eq_false_iff_ne.mpr c18
                        have c18b1 : (t489 != 0) = true := bne_iff_ne.mpr c18
                        simp only [Option.some.injEq, Prod.mk.injEq] at H
                        obtain ⟨rfl, rfl, rfl⟩ := H
                        go_wp2_with (first | ((with_reducible refine gate_callee (f := 38) rfl ?_); refine goesL_ (some 62) rfl rfl Try.func38 (by kernel_rfl) rfl #[.string a0, .int .i64 x12_3, .int .i64 a2] rfl (by (try simp only [List.map_toArray, List.map_cons, List.map_nil]); first | done | rfl | (simp only [List.length_drop, List.length_take]; rfl)) ?_; (with_reducible refine (backhaulref05_Get.calls k3 a0 x12_3 a2 t487 t488 t489 _ A17.out).mono ?_); rintro e w' ⟨rfl, ⟨nd, rfl⟩⟩; refine ⟨_, rfl, ?_⟩))
                        go_ret3
                        exact ⟨_, by first | rfl | (simp [errW_none, errW_some] <;> rfl) | (simp [*, errW_none, errW_some] <;> rfl), by first | exact Kd.R_nil _ _ _ _ _ | exact Kd.N_nil _ _ _ _ _ | exact Kd.V_nil _ _ _ _ _ | exact Kd.Q_nil _ _ _ _ _ | exact Kd.S_nil _ _ _ _ _, by repeat (first | (with_reducible first | exact HB.out | apply below_alloc | apply pw_below_drewN | apply below_drew1) | exact HB.out)⟩
                    · rw [if_neg c16] at H
                      have c16b0 : decide (x15_3 < t484) = false := decide_eq_false c16
                      clear c16
                      simp only [Option.some.injEq, Prod.mk.injEq] at H
                      obtain ⟨rfl, rfl, rfl⟩ := H
                      go_wp2
                      go_ret3
                      exact ⟨_, by first | rfl | (simp [errW_none, errW_some] <;> rfl) | (simp [*, errW_none, errW_some] <;> rfl), by (with_reducible repeat (first | apply Kd.R_alloc | apply Kd.R_drewN | apply Kd.R_drew)); exact HO_14.out, by repeat (first | (with_reducible first | exact HB.out | apply below_alloc | apply pw_below_drewN | apply below_drew1) | exact HB.out)⟩
        · rw [if_neg c12] at H
          have c12b0 : (t486 == 0) = false := beq_eq_false_iff_ne.mpr c12
          have c12b1 : (t486 != 0) = true := bne_iff_ne.mpr c12
          simp only [Option.some.injEq, Prod.mk.injEq] at H
          obtain ⟨rfl, rfl, rfl⟩ := H
          go_wp2_with (first | ((with_reducible refine gate_callee (f := 38) rfl ?_); refine goesL_ (some 39) rfl rfl Try.func38 (by kernel_rfl) rfl #[.string a0, .int .i64 a1, .int .i64 2] rfl (by (try simp only [List.map_toArray, List.map_cons, List.map_nil]); first | done | rfl | (simp only [List.length_drop, List.length_take]; rfl)) ?_; (with_reducible refine (backhaulref05_Get.calls kj4 a0 a1 2 t484 t485 t486 _ A11.out).mono ?_); rintro e w' ⟨rfl, ⟨nd, rfl⟩⟩; refine ⟨_, rfl, ?_⟩))
          go_ret3
          exact ⟨_, by first | rfl | (simp [errW_none, errW_some] <;> rfl) | (simp [*, errW_none, errW_some] <;> rfl), by first | exact Kd.R_nil _ _ _ _ _ | exact Kd.N_nil _ _ _ _ _ | exact Kd.V_nil _ _ _ _ _ | exact Kd.Q_nil _ _ _ _ _ | exact Kd.S_nil _ _ _ _ _, by repeat (first | (with_reducible first | exact HB.out | apply below_alloc | apply pw_below_drewN | apply below_drew1) | exact HB.out)⟩

end Go.Proofs.Ytabapiofkipkoaa.F

/- What octet's rows (and the document's) come to; lists of numbers that are the same; condition: numbers are of 64 bits. -/
set_option linter.unusedVariables false
namespace Go.Proofs.Ytabapiofkipkoaa.Q
open Go.RowKit Go.Proofs.Ytabapiofkipkoaa.F Go.Proofs.YtabapiofkipkoaaW.PrintWords Go.Proofs.YtabapiofkipkoaaW.PrintLast Go.Proofs.YtabapiofkipkoaaW.PrintMore

theorem put_size {n w : Int} : (putS n w).1.size ≤ 8 := by
  unfold putS
  by_cases hw : wide w
  · rw [if_pos hw]
    split
    · have := wide_nat hw
      show (bytesB _).size ≤ 8
      rw [bytesB_size, beL_length]; omega
    · exact Nat.zero_le _
  · rw [if_neg hw]; exact Nat.zero_le _
def rowA (acc : ByteArray) (r : ByteArray × Int) : ByteArray × Int := if r.2 = 0 then (acc ++ r.1, 0) else (⟨#[]⟩, r.2)
theorem rowA_cons {w x : Int} {xs : List Int} {acc : ByteArray} (h : (putS x w).2 = 0) : rowA (acc ++ (putS x w).1) (rowL w xs) = rowA acc (rowL w (x :: xs)) := by
  unfold rowA
  simp only [rowL, if_pos h]
  by_cases h2 : (rowL w xs).2 = 0
  · rw [if_pos h2, if_pos h2, if_pos rfl, ByteArray.append_assoc]
  · rw [if_neg h2, if_neg h2, if_neg h2]
theorem rowA_bad {w x : Int} {xs : List Int} {acc : ByteArray} (h : (putS x w).2 ≠ 0) : ((⟨#[]⟩ : ByteArray), (putS x w).2) = rowA acc (rowL w (x :: xs)) := by
  unfold rowA
  simp only [rowL, if_neg h]
theorem octet_row_go {w : Int} : ∀ (l : List Int) (acc : ByteArray), (∀ x ∈ l, x ≤ 9223372036854775807) → acc.size + 8 * l.length < 140737488355328 → Ev (fun k => octet_Row.go k w l acc) (rowA acc (rowL w l))
  | [], acc, _, _ => by
    refine Ev.ok ?_
    unfold rowA
    simp only [rowL, if_true]
    congr 1
    apply ext_list
    rw [data_append]; simp
  | x :: xs, acc, hx, hs => by
    simp only [octet_Row.go]
    refine Ev.bind (octet_put_f w (hx x List.mem_cons_self)) ?_
    have hp := put_size (n := x) (w := w)
    rw [List.length_cons] at hs
    refine Ev.ite (fun h => ?_) (fun h => Ev.ok (rowA_bad h))
    refine Ev.pos (by omega) ?_
    rw [← rowA_cons h]
    exact octet_row_go xs _ (fun y hy => hx y (List.mem_cons_of_mem _ hy)) (by rw [ByteArray.size_append]; omega)
theorem octet_row_f {l : List Int} (w : Int) (hx : ∀ x ∈ l, x ≤ 9223372036854775807) : Ev (fun k => octet_Row.f k w l) (rowS w l) := by
  unfold octet_Row.f rowS
  refine Ev.bindc (octet_wide_f w) ?_
  by_cases hw : wide w
  · rw [if_pos hw]
    refine Ev.pos (decide_eq_true hw) (Ev.ite (fun h => ?_) (fun h => ?_))
    · rw [if_pos (by omega)]; exact Ev.ok rfl
    · rw [if_neg (by omega)]
      have hb := octet_put_f (n := (l.length : Int)) 2 (by omega)
      rw [put2 (by omega)] at hb
      refine Ev.bind hb (Ev.pos rfl (Ev.pos ?_ ?_))
      · simp only [bytesB_size, beL_length]; omega
      · exact octet_row_go l _ hx (by simp only [bytesB_size, beL_length]; omega)
  · rw [if_neg hw]
    exact Ev.neg (fun x => hw (of_decide_eq_true x)) (Ev.ok rfl)
theorem ref05_row_l0 {l : List Int} {w : Int} (hx : ∀ x ∈ l, x ≤ 9223372036854775807) (hl : l.length ≤ 1000) (d : Nat) : ∀ (i : Nat) (acc : ByteArray), l.length - i = d → i ≤ l.length → acc.size ≤ 2 + 8 * i → Ev (fun k => backhaulref05_Row.l0 k w l acc (i : Int)) (rowA acc (rowL w (l.drop i))) := by
  induction d with
  | zero =>
    intro i acc hd hi hs
    refine Ev.step (fun k => by simp only [backhaulref05_Row.l0]; rfl) ?_
    refine Ev.neg (by omega) (Ev.ok ?_)
    rw [List.drop_eq_nil_of_le (by omega)]
    unfold rowA
    simp only [rowL, if_true]
    congr 1
    apply ext_list
    rw [data_append]; simp
  | succ d ih =>
    intro i acc hd hi hs
    have h : i < l.length := by omega
    refine Ev.step (fun k => by simp only [backhaulref05_Row.l0]; rfl) ?_
    refine Ev.pos (by omega) (Ev.pos (by omega) ?_)
    rw [rd_nat h, wrap_eq (by omega) (by omega), drop_cons h]
    refine Ev.bind (ref05_put_f w (hx _ (List.getElem_mem h))) ?_
    have hp := put_size (n := l[i]) (w := w)
    refine Ev.ite (fun h1 => ?_) (fun h1 => Ev.ok (rowA_bad h1))
    refine Ev.pos (by omega) ?_
    rw [← rowA_cons h1]
    exact ih (i + 1) _ (by omega) (by omega) (by rw [ByteArray.size_append]; omega)
theorem ref05_row_f {l : List Int} (w : Int) (hx : ∀ x ∈ l, x ≤ 9223372036854775807) : Ev (fun k => backhaulref05_Row.f k w l) (rowS w l) := by
  unfold backhaulref05_Row.f rowS
  refine Ev.bindc (ref05_wide_f w) ?_
  by_cases hw : wide w
  · rw [if_pos hw]
    refine Ev.pos (decide_eq_true hw) (Ev.ite (fun h => ?_) (fun h => ?_))
    · rw [if_pos (by omega)]; exact Ev.ok rfl
    · rw [if_neg (by omega)]
      have hb := ref05_put_f (n := (l.length : Int)) 2 (by omega)
      rw [put2 (by omega)] at hb
      exact Ev.bind hb (ref05_row_l0 hx (by omega) l.length 0 _ (by omega) (by omega) (by simp only [bytesB_size, beL_length]; omega))
  · rw [if_neg hw]
    exact Ev.neg (fun x => hw (of_decide_eq_true x)) (Ev.ok rfl)
def unrowA (acc : List Int) (r : List Int × Int × Int) : List Int × Int × Int := if r.2.2 = 0 then (acc ++ r.1, r.2.1, 0) else ([], 0, r.2.2)
theorem unrowA_cons {s : ByteArray} {w t : Int} {n : Nat} {acc : List Int} (h : (getS s t w).2.2 = 0) : unrowA (acc ++ [(getS s t w).1]) (unrowL s w n (getS s t w).2.1) = unrowA acc (unrowL s w (n + 1) t) := by
  unfold unrowA
  simp only [unrowL, if_pos h]
  by_cases h2 : (unrowL s w n (getS s t w).2.1).2.2 = 0
  · rw [if_pos h2, if_pos h2, if_pos h2]; simp
  · rw [if_neg h2, if_neg h2, if_neg h2]
theorem unrowA_bad {s : ByteArray} {w t : Int} {n : Nat} {acc : List Int} (h : (getS s t w).2.2 ≠ 0) : (([] : List Int), (0 : Int), (getS s t w).2.2) = unrowA acc (unrowL s w (n + 1) t) := by
  unfold unrowA
  simp only [unrowL, if_neg h]
theorem unrowA_nil {r : List Int × Int × Int} (h : r.2.2 ≠ 0 → r = ([], 0, r.2.2)) : unrowA [] r = r := by
  unfold unrowA
  by_cases h2 : r.2.2 = 0
  · rw [if_pos h2, List.nil_append, ← h2]
  · rw [if_neg h2]; exact (h h2).symm
theorem unrowL_bad {s : ByteArray} {w : Int} : ∀ (n : Nat) (t : Int), (unrowL s w n t).2.2 ≠ 0 → unrowL s w n t = ([], 0, (unrowL s w n t).2.2)
  | 0, t, h => absurd rfl h
  | n + 1, t, h => by
    simp only [unrowL] at h ⊢
    by_cases h1 : (getS s t w).2.2 = 0
    · rw [if_pos h1] at h ⊢
      by_cases h2 : (unrowL s w n (getS s t w).2.1).2.2 = 0
      · rw [if_pos h2] at h; exact absurd h2 h
      · rw [if_neg h2]
    · rw [if_neg h1]
theorem octet_unrow_l0 {s : ByteArray} {w : Int} {n : Nat} (hs : s.size ≤ 4611686018427387904) (hn : n ≤ 1000) (d : Nat) : ∀ (i : Nat) (acc : List Int) (t : Int), n - i = d → i ≤ n → acc.length ≤ i → Ev (fun k => octet_Unrow.l0 k s w acc t (n : Int) (i : Int)) (unrowA acc (unrowL s w d t)) := by
  induction d with
  | zero =>
    intro i acc t hd hi ha
    refine Ev.step (fun k => by simp only [octet_Unrow.l0]; rfl) ?_
    refine Ev.neg (by omega) (Ev.ok ?_)
    unfold unrowA
    simp [unrowL]
  | succ d ih =>
    intro i acc t hd hi ha
    refine Ev.step (fun k => by simp only [octet_Unrow.l0]; rfl) ?_
    rw [wrap_eq (x := (i : Int) + 1) (by omega) (by omega)]
    refine Ev.pos (by omega) (Ev.bind (octet_get_f t w (by omega)) ?_)
    refine Ev.ite (fun h1 => Ev.pos (by omega) ?_) (fun h1 => Ev.ok (unrowA_bad h1))
    rw [← unrowA_cons h1]
    exact ih (i + 1) _ _ (by omega) (by omega) (by simp only [List.length_append, List.length_cons, List.length_nil]; omega)
theorem ref05_unrow_l0 {s : ByteArray} {w : Int} {n : Nat} (hs : s.size ≤ 4611686018427387904) (hn : n ≤ 1000) (d : Nat) : ∀ (i : Nat) (acc : List Int) (t : Int), n - i = d → i ≤ n → acc.length ≤ i → Ev (fun k => backhaulref05_Unrow.l0 k s w (n : Int) t acc (i : Int)) (unrowA acc (unrowL s w d t)) := by
  induction d with
  | zero =>
    intro i acc t hd hi ha
    refine Ev.step (fun k => by simp only [backhaulref05_Unrow.l0]; rfl) ?_
    refine Ev.neg (by omega) (Ev.ok ?_)
    unfold unrowA
    simp [unrowL]
  | succ d ih =>
    intro i acc t hd hi ha
    refine Ev.step (fun k => by simp only [backhaulref05_Unrow.l0]; rfl) ?_
    rw [wrap_eq (x := (i : Int) + 1) (by omega) (by omega)]
    refine Ev.pos (by omega) (Ev.bind (ref05_get_f t w (by omega)) ?_)
    refine Ev.ite (fun h1 => Ev.pos (by omega) ?_) (fun h1 => Ev.ok (unrowA_bad h1))
    rw [← unrowA_cons h1]
    exact ih (i + 1) _ _ (by omega) (by omega) (by simp only [List.length_append, List.length_cons, List.length_nil]; omega)
theorem getS_bad {s : ByteArray} {a w : Int} (h : (getS s a w).2.2 ≠ 0) : getS s a w = (0, 0, (getS s a w).2.2) := by
  unfold getS at h ⊢
  split
  · rename_i h1
    rw [if_pos h1] at h
    split
    · rfl
    · rename_i h2
      rw [if_neg h2] at h
      split
      · rfl
      · rename_i h3
        rw [if_neg h3] at h
        exact absurd rfl h
  · rfl
theorem octet_unrow_f {s : ByteArray} (a w m : Int) (hs : s.size ≤ 4611686018427387904) : Ev (fun k => octet_Unrow.f k s a w m) (unrowS s a w m) := by
  have bad : (¬ wide w ∨ a < 0 ∨ a > s.size ∨ m < 0) → Ev (fun k => octet_Unrow.j0 k s a w m true) (unrowS s a w m) := by
    intro h
    refine Ev.step (fun k => by simp only [octet_Unrow.j0]; rfl) ?_
    refine Ev.pos trivial (Ev.ok ?_)
    unfold unrowS
    rw [if_pos h]
  unfold octet_Unrow.f
  refine Ev.bindc (octet_wide_f w) ?_
  by_cases hw : wide w
  · refine Ev.pos (decide_eq_true hw) (Ev.bindc (octet_inside_f s a) ?_)
    by_cases ha : 0 ≤ a ∧ a ≤ s.size
    · refine Ev.pos (decide_eq_true ha) ?_
      by_cases hm : m < 0
      · rw [decide_eq_true hm]; exact bad (.inr (.inr (.inr hm)))
      · rw [decide_eq_false hm]
        have e : unrowS s a w m = if (getS s a 2).2.2 = 0 then (if (getS s a 2).1 > m ∨ (getS s a 2).1 > 1000 then ([], 0, 3) else unrowL s w (getS s a 2).1.toNat (getS s a 2).2.1) else ([], 0, (getS s a 2).2.2) := by
          unfold unrowS
          rw [if_neg (fun x => by rcases x with x | x | x | x; exact x hw; omega; omega; omega)]
        rw [e]
        refine Ev.step (fun k => by simp only [octet_Unrow.j0]; rfl) ?_
        refine Ev.neg (by decide) (Ev.bind (octet_get_f a 2 (by omega)) ?_)
        refine Ev.ite (fun h1 => ?_) (fun h1 => ?_)
        · rw [if_pos h1]
          have hg : getS s a 2 = ((getS s a 2).1, (getS s a 2).2.1, 0) := by rw [← h1]
          obtain ⟨_, h2, h3, h4, h5, h6, h7⟩ := getS_ok hg
          have hmn : mn m 1000 = if 1000 < m then 1000 else m := rfl
          refine Ev.ite (fun h8 => ?_) (fun h8 => ?_)
          · rw [if_pos (by rw [hmn] at h8; split at h8 <;> omega)]; exact Ev.ok rfl
          · have h9 : ¬ ((getS s a 2).1 > m ∨ (getS s a 2).1 > 1000) := by rw [hmn] at h8; split at h8 <;> omega
            rw [if_neg h9]
            have := octet_unrow_l0 (w := w) (n := (getS s a 2).1.toNat) hs (by omega) (getS s a 2).1.toNat 0 [] (getS s a 2).2.1 (by omega) (by omega) (by simp)
            rw [Int.toNat_of_nonneg h7, unrowA_nil (unrowL_bad _ _)] at this
            exact this
        · rw [if_neg h1]; exact Ev.ok rfl
    · refine Ev.neg (fun x => ha (of_decide_eq_true x)) (bad (by omega))
  · exact Ev.neg (fun x => hw (of_decide_eq_true x)) (bad (.inl hw))
theorem ref05_unrow_f {s : ByteArray} (a w m : Int) (hs : s.size ≤ 4611686018427387904) : Ev (fun k => backhaulref05_Unrow.f k s a w m) (unrowS s a w m) := by
  have bad : (¬ wide w ∨ a < 0 ∨ a > s.size ∨ m < 0) → Ev (fun k => backhaulref05_Unrow.j0 k s a w m true) (unrowS s a w m) := by
    intro h
    refine Ev.step (fun k => by simp only [backhaulref05_Unrow.j0]; rfl) ?_
    refine Ev.pos trivial (Ev.ok ?_)
    unfold unrowS
    rw [if_pos h]
  unfold backhaulref05_Unrow.f
  refine Ev.bindc (ref05_wide_f w) ?_
  by_cases hw : wide w
  · refine Ev.pos (decide_eq_true hw) (Ev.ite (fun h => bad (.inr (.inl h))) (fun h => Ev.ite (fun h' => bad (.inr (.inr (.inl h')))) (fun h' => ?_)))
    by_cases hm : m < 0
    · rw [decide_eq_true hm]; exact bad (.inr (.inr (.inr hm)))
    · rw [decide_eq_false hm]
      have e : unrowS s a w m = if (getS s a 2).2.2 = 0 then (if (getS s a 2).1 > m ∨ (getS s a 2).1 > 1000 then ([], 0, 3) else unrowL s w (getS s a 2).1.toNat (getS s a 2).2.1) else ([], 0, (getS s a 2).2.2) := by
        unfold unrowS
        rw [if_neg (fun x => by rcases x with x | x | x | x; exact x hw; omega; omega; omega)]
      rw [e]
      refine Ev.step (fun k => by simp only [backhaulref05_Unrow.j0]; rfl) ?_
      refine Ev.neg (by decide) (Ev.bind (ref05_get_f a 2 (by omega)) ?_)
      refine Ev.ite (fun h1 => ?_) (fun h1 => ?_)
      · rw [if_pos h1]
        have hg : getS s a 2 = ((getS s a 2).1, (getS s a 2).2.1, 0) := by rw [← h1]
        obtain ⟨_, h2, h3, h4, h5, h6, h7⟩ := getS_ok hg
        have out : ∀ b : Bool, (b = true ↔ ((getS s a 2).1 > m ∨ (getS s a 2).1 > 1000)) → Ev (fun k => backhaulref05_Unrow.j1 k s w (getS s a 2).1 (getS s a 2).2.1 b) (if (getS s a 2).1 > m ∨ (getS s a 2).1 > 1000 then ([], 0, 3) else unrowL s w (getS s a 2).1.toNat (getS s a 2).2.1) := by
          intro b hb
          refine Ev.step (fun k => by simp only [backhaulref05_Unrow.j1]; rfl) ?_
          refine Ev.ite (fun h8 => ?_) (fun h8 => ?_)
          · rw [if_pos (hb.1 h8)]; exact Ev.ok rfl
          · have h9 : ¬ ((getS s a 2).1 > m ∨ (getS s a 2).1 > 1000) := fun x => h8 (hb.2 x)
            rw [if_neg h9]
            have := ref05_unrow_l0 (w := w) (n := (getS s a 2).1.toNat) hs (by omega) (getS s a 2).1.toNat 0 [] (getS s a 2).2.1 (by omega) (by omega) (by simp)
            rw [Int.toNat_of_nonneg h7, unrowA_nil (unrowL_bad _ _)] at this
            exact this
        refine Ev.ite (fun h8 => out true (by simp [h8])) (fun h8 => out _ (by simp; omega))
      · rw [if_neg h1]; exact Ev.ok rfl
  · exact Ev.neg (fun x => hw (of_decide_eq_true x)) (bad (.inl hw))
theorem same_ints_l0 {a b : List Int} (hl : a.length < 9223372036854775807) (hab : a.length = b.length) (d : Nat) : ∀ i : Nat, a.length - i = d → i ≤ a.length →
    Ev (fun k => backhaulref02_SameInts.l0 k a b (i : Int)) (decide (a.drop i = b.drop i)) := by
  induction d with
  | zero =>
    intro i hd hi
    refine Ev.step (fun k => by simp only [backhaulref02_SameInts.l0]; rfl) ?_
    refine Ev.neg (by omega) (Ev.ok ?_)
    rw [List.drop_eq_nil_of_le (by omega), List.drop_eq_nil_of_le (by omega)]; simp
  | succ d ih =>
    intro i hd hi
    have h : i < a.length := by omega
    have h' : i < b.length := by omega
    refine Ev.step (fun k => by simp only [backhaulref02_SameInts.l0]; rfl) ?_
    refine Ev.pos (by omega) (Ev.pos (by omega) (Ev.pos (by omega) ?_))
    rw [rd_nat h, rd_nat h', drop_cons h, drop_cons h']
    refine Ev.ite (fun he => ?_) (fun he => Ev.ok ?_)
    · rw [wrap_eq (by omega) (by omega)]
      refine Ev.eq (ih (i + 1) (by omega) (by omega)) ?_
      rw [he]
      exact decide_eq_decide.2 ⟨fun e => by rw [e], fun e => by injection e⟩
    · exact (decide_eq_false (fun e => he (by injection e))).symm
theorem same_ints_f {a b : List Int} (hl : a.length < 9223372036854775807) : Ev (fun k => backhaulref02_SameInts.f k a b) (decide (a = b)) := by
  unfold backhaulref02_SameInts.f
  refine Ev.ite (fun h => ?_) (fun h => Ev.ok ?_)
  · exact same_ints_l0 hl (by omega) a.length 0 (by omega) (by omega)
  · have : ¬ a = b := fun e => h (by rw [e])
    simp [this]
end Go.Proofs.Ytabapiofkipkoaa.Q

/- OctetBack: what was put, laid or rowed stands there again, between other bytes; no condition. -/
namespace Go.Proofs.Ytabapiofkipkoaa.Pure
open Go.RowKit Go.Proofs.Ytabapiofkipkoaa.F Go.Proofs.Ytabapiofkipkoaa.Q Go.Proofs.YtabapiofkipkoaaW.PrintWords Go.Proofs.YtabapiofkipkoaaW.PrintLast

theorem bef : (⟨#[98, 101, 102, 111, 114, 101]⟩ : ByteArray).size = 6 := by rfl
theorem beh : (⟨#[98, 101, 104, 105, 110, 100]⟩ : ByteArray).size = 6 := by rfl
theorem rowL_size {w : Int} : ∀ l : List Int, (rowL w l).1.size ≤ 8 * l.length
  | [] => Nat.zero_le _
  | x :: xs => by
    have h1 := rowL_size (w := w) xs
    have h2 := put_size (n := x) (w := w)
    simp only [rowL, List.length_cons]
    split
    · split
      · simp only [ByteArray.size_append]; omega
      · exact Nat.zero_le _
    · exact Nat.zero_le _
theorem rowS_size {w : Int} {l : List Int} : (rowS w l).1.size ≤ 2 + 8 * l.length := by
  have := rowL_size (w := w) l
  unfold rowS
  split
  · split
    · exact Nat.zero_le _
    · split
      · simp only [ByteArray.size_append, bytesB_size, beL_length]; omega
      · exact Nat.zero_le _
  · exact Nat.zero_le _
theorem back_j2 {a : Int} {t : ByteArray} {l : List Int} {w : Int} (hl : l.length ≤ 100) (hx : ∀ x ∈ l, x ≤ 9223372036854775807) (hw : w ≤ 8) (hw0 : 0 ≤ w) (h : Ev (fun k => backhaullaw05_OctetBack.l0 k a t l (w + w)) true) : Ev (fun k => backhaullaw05_OctetBack.j2 k a t l w) true := by
  refine Ev.step (fun k => by simp only [backhaullaw05_OctetBack.j2]; rfl) ?_
  rw [wrap_eq (x := w + w) (by omega) (by omega)]
  refine Ev.bind (octet_row_f w hx) (Q.Ev.ite (fun h1 => ?_) (fun _ => h))
  have hs := rowS_size (w := w) (l := l)
  have e : rowS w l = ((rowS w l).1, 0) := by rw [← h1]
  have hu := unrow_of_row (x := ⟨#[98, 101, 102, 111, 114, 101]⟩) (y := ⟨#[98, 101, 104, 105, 110, 100]⟩) (top := (l.length : Int)) e hx (by omega)
  rw [bef] at hu
  have hf := octet_unrow_f (s := (⟨#[98, 101, 102, 111, 114, 101]⟩ : ByteArray) ++ (rowS w l).1 ++ (⟨#[98, 101, 104, 105, 110, 100]⟩ : ByteArray)) 6 w (l.length : Int) (by simp only [ByteArray.size_append, bef, beh]; omega)
  rw [show (6 : Int) = ((6 : Nat) : Int) from rfl, hu] at hf
  refine Q.Ev.pos (by omega) (Q.Ev.pos (by simp only [ByteArray.size_append, bef]; omega) (Ev.bind hf (Ev.bind (same_ints_f (a := l) (b := l) (by omega)) ?_)))
  exact Q.Ev.pos (decide_eq_true rfl) (Q.Ev.pos rfl (Q.Ev.pos rfl h))
theorem back_round {a : Int} {t : ByteArray} {l : List Int} {w : Int} (ha : a ≤ 9223372036854775807) (hl : l.length ≤ 100) (hx : ∀ x ∈ l, x ≤ 9223372036854775807) (hw : w ≤ 8) (hw0 : 0 ≤ w) (h : Ev (fun k => backhaullaw05_OctetBack.l0 k a t l (w + w)) true) : Ev (fun k => backhaullaw05_OctetBack.l0 k a t l w) true := by
  have hj := back_j2 (a := a) (t := t) hl hx hw hw0 h
  refine Ev.step (fun k => by simp only [backhaullaw05_OctetBack.l0]; rfl) ?_
  refine Q.Ev.pos hw (Ev.bind (octet_put_f w ha) (Q.Ev.ite (fun h1 => ?_) (fun _ => hj)))
  have hs := put_size (n := a) (w := w)
  have e : putS a w = ((putS a w).1, 0) := by rw [← h1]
  obtain ⟨hu, hz⟩ := get_of_put (x := ⟨#[98, 101, 102, 111, 114, 101]⟩) (y := ⟨#[98, 101, 104, 105, 110, 100]⟩) e ha
  rw [bef] at hu
  have hf := octet_get_f (s := (⟨#[98, 101, 102, 111, 114, 101]⟩ : ByteArray) ++ (putS a w).1 ++ (⟨#[98, 101, 104, 105, 110, 100]⟩ : ByteArray)) 6 w (by simp only [ByteArray.size_append, bef, beh]; omega)
  rw [show (6 : Int) = ((6 : Nat) : Int) from rfl, hu] at hf
  refine Q.Ev.pos (by omega) (Q.Ev.pos (by simp only [ByteArray.size_append, bef]; omega) (Ev.bind hf ?_))
  rw [wrap_eq (x := 6 + w) (by omega) (by omega)]
  exact Q.Ev.pos rfl (Q.Ev.pos rfl (Q.Ev.pos rfl (Q.Ev.pos (by rw [hz]; omega) hj)))
theorem OctetBack : backhaullaw05_OctetBack.Pure := by
  intro a t l ha ht hl
  refine Ev.rounds (r := true) ?_
  unfold backhaullaw05_OctetBack.f
  have h1 := (i64_bounds ha).2
  have hx : ∀ x ∈ l, x ≤ 9223372036854775807 := fun x hx => (i64_bounds (hl.2 x hx)).2
  refine Q.Ev.ite (fun hb => ?_) (fun hb => ?_)
  · refine Ev.step (fun k => by simp only [backhaullaw05_OctetBack.j0]; rfl) ?_
    exact Q.Ev.pos trivial (Q.Ev.const rfl)
  refine Ev.step (fun k => by simp only [backhaullaw05_OctetBack.j0]; rfl) ?_
  refine Q.Ev.ite (fun _ => Q.Ev.const rfl) (fun h2 => ?_)
  have hlen : l.length ≤ 100 := by
    rw [decide_eq_true_eq] at h2; omega
  refine back_round h1 hlen hx (by decide) (by decide) (back_round h1 hlen hx (by decide) (by decide) (back_round h1 hlen hx (by decide) (by decide) (back_round h1 hlen hx (by decide) (by decide) ?_)))
  refine Ev.step (fun k => by simp only [backhaullaw05_OctetBack.l0]; rfl) ?_
  refine Q.Ev.neg (by decide) ?_
  refine Ev.bind (octet_lay_f (by omega)) ?_
  have e : layS t = (bytesB (beL 2 t.size) ++ t, 0) := by
    unfold layS; rw [if_neg (by omega)]
  have hz : (layS t).1.size = 2 + t.size := by
    rw [e]; simp only [ByteArray.size_append, bytesB_size, beL_length]
  have e' : layS t = ((layS t).1, 0) := by rw [e]
  have hu := take_of_lay (x := ⟨#[98, 101, 102, 111, 114, 101]⟩) (y := ⟨#[98, 101, 104, 105, 110, 100]⟩) (most := (t.size : Int)) e' (by omega)
  rw [bef] at hu
  have hf := octet_take_f (s := (⟨#[98, 101, 102, 111, 114, 101]⟩ : ByteArray) ++ (layS t).1 ++ (⟨#[98, 101, 104, 105, 110, 100]⟩ : ByteArray)) 6 (t.size : Int) (by simp only [ByteArray.size_append, bef, beh]; omega)
  rw [show (6 : Int) = ((6 : Nat) : Int) from rfl, hu] at hf
  refine Q.Ev.pos (by omega) (Q.Ev.pos (by simp only [ByteArray.size_append, bef]; omega) (Ev.bind hf ?_))
  refine Q.Ev.pos ?_ (Q.Ev.pos rfl (Q.Ev.pos rfl (Q.Ev.pos rfl (Q.Ev.const rfl))))
  rw [e]
end Go.Proofs.Ytabapiofkipkoaa.Pure

-- What an argument's reading as data says of its cells, kind by kind: for the rows of laws. (A template: seat's name for Ytabapiofkipkoaa.)
set_option linter.unusedVariables false
set_option linter.unusedSimpArgs false
namespace Go.Proofs.YtabapiofkipkoaaX
open Go.RowKit Go.Proofs.YtabapiofkipkoaaW.PrintWords Go.Proofs.YtabapiofkipkoaaW.PrintLast Go.Proofs.YtabapiofkipkoaaW.PrintMore

/-- Whatever reads as data of type t is of kind k, and is ok. -/
def Opens {α : Type} (P : Program) (t : TypeId) (k : Kd α) (Ok : α → Prop) : Prop :=
  ∀ {H : Type} {enc : TypeId × Value → H} {w : World} {base : Nat} {spare : Nat → Bool} {held : Bool} {fuel : Nat} {cs : List Value} {x : DataW H × List MemPlace},
    DataW.trod enc P w base spare held fuel t cs = some x → ∃ a : α, k.K w a cs ∧ Ok a

theorem Opens.int {P : Program} {t : TypeId} {k : IntKind} (ht : P.underlying t = some (.int k)) : Opens P t (Kd.int k) (fun a => (Lit.int k a).wf = true) := by
  intro H enc w base spare held fuel cs x h
  obtain ⟨n, rfl, _, hw⟩ := DataW.trod_int ht h
  exact ⟨n, rfl, hw⟩
theorem Opens.bool {P : Program} {t : TypeId} (ht : P.underlying t = some .bool) : Opens P t Kd.bool (fun _ => True) := by
  intro H enc w base spare held fuel cs x h
  obtain ⟨n, rfl, _⟩ := DataW.trod_bool ht h
  exact ⟨n, rfl, trivial⟩
theorem Opens.string {P : Program} {t : TypeId} (ht : P.underlying t = some .string) : Opens P t Kd.string (fun a => a.size ≤ maxLen) := by
  intro H enc w base spare held fuel cs x h
  obtain ⟨s, rfl, _, hw⟩ := DataW.trod_string ht h
  exact ⟨s, rfl, hw⟩
theorem list_of {α : Type} {p : Nat → α → Prop} : ∀ n, (∀ i, i < n → ∃ a, p i a) → ∃ xs : List α, xs.length = n ∧ ∀ i a, xs[i]? = some a → p i a
  | 0, _ => ⟨[], rfl, fun i a h => by simp at h⟩
  | n + 1, h => by
    obtain ⟨xs, hl, hx⟩ := list_of n (fun i hi => h i (by omega))
    obtain ⟨a, ha⟩ := h n (by omega)
    refine ⟨xs ++ [a], by simp [hl], fun i b hb => ?_⟩
    rcases Nat.lt_or_ge i xs.length with h1 | h1
    · rw [List.getElem?_append_left h1] at hb
      exact hx i b hb
    · rw [List.getElem?_append_right h1] at hb
      have h2 : i - xs.length = 0 := by
        have := (List.getElem?_eq_some_iff.1 hb).1
        simp at this; omega
      rw [h2] at hb
      have : a = b := by simpa using hb
      subst this
      have : i = n := by omega
      rw [this]; exact ha
theorem Opens.slice {α : Type} {P : Program} {t e : TypeId} {k : Kd α} {Ok : α → Prop} (ht : P.underlying t = some (.slice e)) (hc : P.cellsOf e = k.sz) (h : Opens P e k Ok) :
    Opens P t (Kd.slice e k) (fun xs => xs.length ≤ maxLen ∧ ∀ x ∈ xs, Ok x) := by
  intro H enc w base spare held fuel cs x hx
  rcases Go.Deep.open_slice ht hx with ⟨rfl, rfl⟩ | ⟨a, len, cap, m, n, D, Pl, rfl, hb, hl, hm, hmm, rfl, hel⟩
  · exact ⟨[], ⟨none, 0, rfl, by simp, rfl, by simp, fun h => absurd h (by simp)⟩, by simp [maxLen], by simp⟩
  · have hlm : len ≤ m := by rw [hmm]; split <;> omega
    obtain ⟨xs, hlen, hxs⟩ := list_of (p := fun i (a' : α) => ∃ cs', w.cells? base (a.add (i * P.cellsOf e)) (P.cellsOf e) = some cs' ∧ k.K w a' cs' ∧ Ok a') len (fun i hi => by
      obtain ⟨cs', h1, h2⟩ := hel i (by omega)
      obtain ⟨a', h3, h4⟩ := h h2
      exact ⟨a', cs', h1, h3, h4⟩)
    have hlm2 : len ≤ maxLen := by omega
    refine ⟨xs, ⟨some a, cap, by rw [hlen], by rw [hlen]; exact hl, rfl, by rw [hlen]; simpa [maxLen] using hlm2, fun _ => ⟨a, rfl, fun j p hj => ?_⟩⟩, by rw [hlen]; exact hlm2, fun y hy => ?_⟩
    · obtain ⟨cs', h1, h2, _⟩ := hxs j p hj
      refine ⟨cs', k.K_len h2, h2, fun i u hu => ?_⟩
      obtain ⟨_, _, h3⟩ := World.cells?_some h1
      have h4 := h3 i (by have := (List.getElem?_eq_some_iff.1 hu).1; have := k.K_len h2; omega)
      rw [← hc, ← Go.Proofs.YtabapiofkipkoaaW.PrintWords.add_add]
      rw [← hu]; exact h4
    · obtain ⟨i, hi, rfl⟩ := List.mem_iff_getElem.1 hy
      obtain ⟨_, _, _, h3⟩ := hxs i _ (List.getElem?_eq_getElem hi)
      exact h3
theorem field_reads {H : Type} {enc : TypeId × Value → H} {P : Program} {w : World} {base : Nat} {spare : Nat → Bool} {held : Bool} {fuel : Nat} {t : TypeId} {cs : List Value} {x : DataW H × List MemPlace} {fs : Array Field}
    (ht : P.underlying t = some (.struct fs)) (h : DataW.trod enc P w base spare held fuel t cs = some x) :
    cs.length = P.cellsOf t ∧ ∃ n, ∀ (i : Nat) (f : Field), fs[i]? = some f → ∃ y, DataW.trod enc P w base spare held n f.type ((cs.drop f.offset).take (P.cellsOf f.type)) = some y := by
  obtain ⟨xs, n, _, _, hl, hx, hf⟩ := DataW.trod_struct ht h
  refine ⟨hl, n, fun i f hif => ?_⟩
  rw [hf i f hif]
  have hi := (Array.getElem?_eq_some_iff.1 hif).1
  exact ⟨_, List.getElem?_eq_getElem (by rw [hx]; exact hi)⟩
theorem cell_reads {H : Type} {enc : TypeId × Value → H} {P : Program} {w : World} {base : Nat} {spare : Nat → Bool} {held : Bool} {fuel : Nat} {t e : TypeId} {m : Nat} {cs : List Value} {x : DataW H × List MemPlace}
    (ht : P.underlying t = some (.array m e)) (h : DataW.trod enc P w base spare held fuel t cs = some x) :
    cs.length = P.cellsOf t ∧ ∃ n, ∀ (i : Nat), i < m → ∃ y, DataW.trod enc P w base spare held n e ((cs.drop (i * P.cellsOf e)).take (P.cellsOf e)) = some y := by
  obtain ⟨xs, n, _, _, hl, hx, hf⟩ := DataW.trod_array ht h
  refine ⟨hl, n, fun i hi => ?_⟩
  rw [hf i hi]
  exact ⟨_, List.getElem?_eq_getElem (by rw [hx]; exact hi)⟩
theorem okWide_array' {P : Program} {w : World} {r : Reach} {base : Nat} {t e : TypeId} {m : Nat} {v : Value} (ht : P.underlying t = some (.array m e)) (h : Value.okWide P w r base t v) : ∃ cs, v = .agg cs ∧ cs.size = P.cellsOf t := by
  simp only [Value.okWide, ht] at h
  obtain ⟨cs, h1, h2, _⟩ := h
  exact ⟨cs, h1, h2⟩
/-- The cells of a slice's value. -/
theorem slice_cells {α : Type} {k : Kd α} {e : Nat} {w : World} {xs : List α} {v : Value} (h : (Kd.slice e k).K w xs [v]) : ∃ A c, v = .slice A xs.length c ∧ xs.length ≤ c ∧ k.C w A xs.length xs := by
  obtain ⟨A, c, he, hl, hc⟩ := h
  injection he with he
  exact ⟨A, c, he, hl, hc⟩
/-! The program's head, read once: a long text's signs, told as a list. -/
theorem band {a b : Bool} (h1 : a = true) (h2 : b = true) : (a && b) = true := by rw [h1, h2]; rfl
theorem mayEnter_of {P : Program} {L c : List Char} {rest : List (List Char)} (h : P.initOrder.toList = L) (h1 : behindMainWord (wordsSigns L) = c :: rest) (h2 : ((stripLifts liftWords (c :: rest)).2.head? == some "cut".toList) = true) (h3 : P.laysLater = false) (h4 : P.bearsReflect = false) (h5 : (stripLifts liftWords (c :: rest)).1 = []) (h6 : P.doorFits [] = true) : P.mayEnter = true := by
  unfold Program.mayEnter
  rw [h, h1]
  dsimp only
  rw [h2, h3, h4, h5, h6]
  simp
theorem make_of {P : Program} {L : List Char} {rest : List (List Char)} (h : P.initOrder.toList = L) (h1 : behindMainWord (wordsSigns L) = "cut".toList :: rest) : P.make = some .cut := by
  unfold Program.make
  rw [h, h1]
  dsimp only
  rw [if_neg (by decide), if_pos (by simp)]
end Go.Proofs.YtabapiofkipkoaaX

-- The program's head, as a list of signs. (A template.)
set_option maxRecDepth 10000
namespace Go.Proofs.Ytabapiofkipkoaa.Join
open Go.Proofs.YtabapiofkipkoaaX
def initSigns : List Char := ['h', 'a', 'r', 'n', 'e', 's', 's', ' ', 'e', '7', 'd', '1', 'f', '9', '4', '3', '3', 'd', 'a', '9', 'f', 'a', '3', '3', 'a', '2', 'c', 'f', '8', '8', '8', '5', 'f', '1', '3', 'd', 'b', 'f', '0', 'f', '7', '5', '1', '0', '0', 'f', 'd', '3', 'd', 'd', '0', '4', 'a', 'd', '7', 'f', '7', '6', '6', 'd', '5', '0', 'f', '6', '7', '6', 'a', '8', 'e', 'd', '3', '2', ' ', 'c', 'u', 't', ' ', 'a', 't', ' ', 'b', 'a', 'c', 'k', 'h', 'a', 'u', 'l', '/', 'b', 'a', 'c', 'k', 'h', 'a', 'u', 'l', 'l', 'a', 'w', '1', '3', '.', 'R', 'o', 'w', 's', 'F', 'i', 'n', 'd', ' ', 'b', 'a', 'c', 'k', 'h', 'a', 'u', 'l', '/', 'b', 'a', 'c', 'k', 'h', 'a', 'u', 'l', 'l', 'a', 'w', '1', '3', '.', 'R', 'o', 'w', 's', 'L', 'i', 's', 't', 's', ' ', 'b', 'a', 'c', 'k', 'h', 'a', 'u', 'l', '/', 'b', 'a', 'c', 'k', 'h', 'a', 'u', 'l', 'l', 'a', 'w', '1', '3', '.', 'R', 'o', 'w', 's', 'T', 'u', 'r', 'n', ' ', 'b', 'a', 'c', 'k', 'h', 'a', 'u', 'l', '/', 'b', 'a', 'c', 'k', 'h', 'a', 'u', 'l', 'l', 'a', 'w', '1', '3', '.', 'R', 'o', 'w', 's', 'O', 'r', 'd', 'e', 'r', ' ', 'b', 'a', 'c', 'k', 'h', 'a', 'u', 'l', '/', 'b', 'a', 'c', 'k', 'h', 'a', 'u', 'l', 'l', 'a', 'w', '0', '5', '.', 'O', 'c', 't', 'e', 't', 'N', 'u', 'm', 'b', 'e', 'r', 's', ' ', 'b', 'a', 'c', 'k', 'h', 'a', 'u', 'l', '/', 'b', 'a', 'c', 'k', 'h', 'a', 'u', 'l', 'l', 'a', 'w', '0', '5', '.', 'O', 'c', 't', 'e', 't', 'T', 'e', 'x', 't', 's', ' ', 'b', 'a', 'c', 'k', 'h', 'a', 'u', 'l', '/', 'b', 'a', 'c', 'k', 'h', 'a', 'u', 'l', 'l', 'a', 'w', '0', '5', '.', 'O', 'c', 't', 'e', 't', 'R', 'o', 'w', 's', ' ', 'b', 'a', 'c', 'k', 'h', 'a', 'u', 'l', '/', 'b', 'a', 'c', 'k', 'h', 'a', 'u', 'l', 'l', 'a', 'w', '0', '5', '.', 'O', 'c', 't', 'e', 't', 'B', 'a', 'c', 'k', ' ', 'b', 'a', 'c', 'k', 'h', 'a', 'u', 'l', '/', 'b', 'a', 'c', 'k', 'h', 'a', 'u', 'l', 'l', 'a', 'w', '0', '5', '.', 'O', 'c', 't', 'e', 't', 'C', 'a', 'n', 'o', 'n', ' ', 'b', 'a', 'c', 'k', 'h', 'a', 'u', 'l', '/', 'b', 'a', 'c', 'k', 'h', 'a', 'u', 'l', 'l', 'a', 'w', '0', '5', '.', 'O', 'c', 't', 'e', 't', 'O', 'r', 'd', 'e', 'r', ' ', 'b', 'a', 'c', 'k', 'h', 'a', 'u', 'l', '/', 'b', 'a', 'c', 'k', 'h', 'a', 'u', 'l', 'l', 'a', 'w', '0', '1', '.', 'S', 'e', 'r', 'i', 'a', 'l', 'R', 'u', 'n', 'e', 's', ' ', 'b', 'a', 'c', 'k', 'h', 'a', 'u', 'l', '/', 'b', 'a', 'c', 'k', 'h', 'a', 'u', 'l', 'l', 'a', 'w', '0', '1', '.', 'S', 'e', 'r', 'i', 'a', 'l', 'T', 'e', 'x', 't', 's', ' ', 'b', 'a', 'c', 'k', 'h', 'a', 'u', 'l', '/', 'b', 'a', 'c', 'k', 'h', 'a', 'u', 'l', 'l', 'a', 'w', '0', '1', '.', 'S', 'e', 'r', 'i', 'a', 'l', 'R', 'o', 'w', 's', ' ', 'b', 'a', 'c', 'k', 'h', 'a', 'u', 'l', '/', 'b', 'a', 'c', 'k', 'h', 'a', 'u', 'l', 'l', 'a', 'w', '0', '1', '.', 'S', 'e', 'r', 'i', 'a', 'l', 'F', 'o', 'l', 'd', 's', ' ', 'b', 'a', 'c', 'k', 'h', 'a', 'u', 'l', '/', 'b', 'a', 'c', 'k', 'h', 'a', 'u', 'l', 'l', 'a', 'w', '0', '1', '.', 'S', 'e', 'r', 'i', 'a', 'l', 'M', 'a', 'r', 'k', 's']
theorem initText : Try.pinned.checked.prog.initOrder = String.ofList initSigns := by kernel_rfl
theorem initList : Try.pinned.checked.prog.initOrder.toList = initSigns := (congrArg String.toList initText).trans String.toList_ofList
theorem mayEnter_is : Try.pinned.checked.prog.mayEnter = true :=
  mayEnter_of (L := initSigns) (c := "cut".toList) (rest := (behindMainWord (wordsSigns initSigns)).tail) initList (by kernel_rfl) (by kernel_rfl) (by kernel_rfl) (by kernel_rfl) (by kernel_rfl) (by kernel_rfl)
theorem make_is : Try.pinned.checked.prog.make = some .cut :=
  make_of (L := initSigns) (rest := (behindMainWord (wordsSigns initSigns)).tail) initList (by kernel_rfl)
theorem lifts_is : Try.pinned.checked.prog.liftsFinal = false := by
  unfold Program.liftsFinal Program.headLifts
  rw [initList]
  kernel_rfl
end Go.Proofs.Ytabapiofkipkoaa.Join

namespace Go.Proofs.Ytabapiofkipkoaa.octetBack
open Go.ChangeShapes Go.WideShapes Go.ChangeAt Go.RowKit Go.Proofs.YtabapiofkipkoaaX Go.Proofs.Ytabapiofkipkoaa.F Go.Proofs.YtabapiofkipkoaaW.PrintWords Go.Proofs.YtabapiofkipkoaaW.PrintLast Go.Proofs.YtabapiofkipkoaaW.PrintMore
open Go.ChangeMaps (open_string shut_string)
set_option linter.unusedVariables false
set_option linter.unusedSimpArgs false
theorem own : ownKnob Try.prog.godebug = none := by kernel_rfl
theorem laidOut : laidOutB Try.prog = true := by kernel_rfl
set_option maxRecDepth 100000 in
theorem lifted (os : Os) (started : os.Started) (H : Type) (enc : TypeId × Value → H) :
    ReturnsInHanded {} Try.checked os 10 .any (Rows.octetBackSpec.pre6 enc Try.prog Try.f10 Rows.octetBackRow.domain false) (Rows.octetBackSpec.post enc Try.prog Try.f10 false true false false) := by
  refine returnsInHanded_of_change_sized (C := Try.checked) own started (by kernel_rfl) Try.func10
    (ChangeSpec.witness6 (enc := enc) (C := Try.checked) false ⟨#[], #[.int .i64 0, .string ByteArray.empty, .slice none 0 0], []⟩ 8 (by kernel_rfl) (by kernel_rfl) (by kernel_rfl) (by kernel_rfl)) ?_
  intro W base args ds gs before hval0 hW hcnd hsz0 _
  have hval : ∀ (j : Nat) t v, Try.f10.params[j]? = some t → args[j]? = some v → Value.okWide Try.prog W .any base t v := hval0
  have hW' := hW
  obtain ⟨p, q, hA0, hV, rfl, hfz, hnd⟩ := hW
  have hA : DataW.TrodAll enc Try.prog W 0 (fun _ => true) true Try.f10.params.toList args.toList ds p := hA0
  rw [Try.params10] at hA hval
  obtain ⟨v0, vs0, d0, ds0, p0, q0, hargs, rfl, rfl, h0, r0⟩ := trodAll_cons hA
  obtain ⟨v1, vs1, d1, ds1, p1, q1, rfl, rfl, rfl, h1, r1⟩ := trodAll_cons r0
  obtain ⟨v2, vs2, d2, ds2, p2, q2, rfl, rfl, rfl, h2, r2⟩ := trodAll_cons r1
  obtain ⟨rfl, rfl, rfl⟩ := trodAll_nil r2
  obtain rfl : args = #[v0, v1, v2] := by cases args; simp_all
  obtain ⟨rfl, rfl⟩ := trodVars_none hV
  have k0 := h0
  have lt0 : ∀ x ∈ p0, x.block < W.heap.size := by obtain ⟨m, hm⟩ := k0; exact DataW.trod_lt m _ _ _ hm
  obtain ⟨x0, rfl⟩ := okWide_int Try.underlying3 (hval 0 3 v0 rfl rfl)
  obtain ⟨f0, hf0⟩ := h0
  obtain ⟨z0, hk0, ho0⟩ := (Opens.int Try.underlying3) hf0
  obtain rfl : x0 = z0 := by have := hk0; injection this with this; injection this
  have k1 := h1
  have lt1 : ∀ x ∈ p1, x.block < W.heap.size := by obtain ⟨m, hm⟩ := k1; exact DataW.trod_lt m _ _ _ hm
  obtain ⟨x1, rfl⟩ := okWide_string Try.underlying9 (hval 1 9 v1 rfl rfl)
  obtain ⟨f1, hf1⟩ := h1
  obtain ⟨z1, hk1, ho1⟩ := (Opens.string Try.underlying9) hf1
  obtain rfl : x1 = z1 := by have := hk1; injection this with this; injection this
  have k2 := h2
  have lt2 : ∀ x ∈ p2, x.block < W.heap.size := by obtain ⟨m, hm⟩ := k2; exact DataW.trod_lt m _ _ _ hm
  obtain ⟨b2, len2, cap2, rfl⟩ := okWide_slice Try.underlying22 (hval 2 22 v2 rfl rfl)
  obtain ⟨f2, hf2⟩ := h2
  obtain ⟨x2, hk2, ho2⟩ := (Opens.slice Try.underlying22 (by kernel_rfl) (Opens.int Try.underlying3)) hf2
  obtain ⟨A2, c2, he2, hl2, hc2⟩ := slice_cells (show _ from hk2)
  injection he2 with e2_1 e2_2 e2_3
  subst e2_1 e2_2 e2_3
  obtain ⟨k, h⟩ : ∃ k, backhaullaw05_OctetBack.f k x0 x1 x2 = some true := Pure.OctetBack x0 x1 x2 ho0 ho1 ho2
  refine (backhaullaw05_OctetBack.calls k x0 x1 _ _ x2 W hc2 hl2 h).mono fun e W' hq => ?_
  obtain ⟨he, bel0⟩ := hq
  have bel : Below W.heap.size W W' := bel0
  subst he
  exact ⟨_, rfl, _, _, _, [], _, [], hW', trodAll_mk1 (shut_bool Try.underlying4 _), (trodAll_cons_mk (Below.trod laidOut (by kernel_rfl) (of_decide_eq_true (by kernel_rfl)) k0 bel lt0) (trodAll_cons_mk (Below.trod laidOut (by kernel_rfl) (of_decide_eq_true (by kernel_rfl)) k1 bel lt1) (trodAll_cons_mk (Below.trod laidOut (by kernel_rfl) (of_decide_eq_true (by kernel_rfl)) k2 bel lt2) trodAll_mk0))), rfl, bel.frame _, fun h => by cases h⟩
theorem closed_ : joinedFacts Try.pinned.checked.prog 10 Try.f10 Rows.octetBackSpec Rows.octetBackRow = true := by
  unfold joinedFacts
  repeat' (with_reducible apply band)
  any_goals with_reducible exact Join.mayEnter_is
  any_goals (rw [Join.make_is]; kernel_rfl)
  any_goals (rw [Join.lifts_is]; kernel_rfl)
  all_goals kernel_rfl
theorem over : Rows.octetBackRow.holds Try.pinned (OpenSpec.ofChange Rows.octetBackSpec) :=
  OpenClaim.holds_of_wide 10 Try.f10 rfl rfl rfl rfl rfl rfl rfl ⟨rfl, rfl, rfl, rfl, rfl⟩ rfl rfl rfl rfl rfl (by kernel_rfl) Try.func10 closed_
    (of_decide_eq_true (by kernel_rfl)) (by unfold Func.isWrapper; first | (rw [if_pos (by decide +kernel)]; kernel_rfl) | (rw [if_neg (by decide +kernel)]; exact ⟨rfl, rfl⟩))
    (fun os started H enc _ => lifted os started H enc)
theorem proved : Rows.OctetBackSaid := over
#print axioms proved
end Go.Proofs.Ytabapiofkipkoaa.octetBack
namespace Go.Proofs.Ytabapiofkipkoaa
/-- The row, under a short name, for the claim. -/
theorem octetBack_holds : Rows.OctetBackSaid := octetBack.proved
end Go.Proofs.Ytabapiofkipkoaa

