-- printed by xprint (the session's own program) out of the translation
import Derived.Test.YtabapiofkipkoaaF
import Derived.Test.YtabapiofkipkoaaF38
namespace Go.Proofs.Ytabapiofkipkoaa.F
open Go.RowKit Go.Proofs.YtabapiofkipkoaaX Go.Proofs.YtabapiofkipkoaaW.PrintWords Go.Proofs.YtabapiofkipkoaaW.PrintLast Go.Proofs.YtabapiofkipkoaaW.PrintMore
attribute [local go_sem] max2_int min2_int max_two min_two max_three min_three max_four min_four   -- for this text's walks alone
attribute [local go_sem high] str_geq str_leq str_gtr
set_option linter.unusedVariables false
set_option linter.unusedSimpArgs false

/-! ### backhaulref05_Take: function 42 -/
def backhaulref05_Take.j0 : Nat → ByteArray → Int → Int → Bool → Option (ByteArray × Int × Int)
  | 0, _, _, _, _ => none
  | k + 1, x0, x1, x2, x23 => if x23 = true then (some ((⟨#[]⟩ : ByteArray), 0, 2)) else ((backhaulref05_Get.f k x0 x1 2).bind fun bt458 => (if bt458.2.2 = 0 then (if bt458.1 > x2 then (some ((⟨#[]⟩ : ByteArray), 0, 3)) else (if (wrap64 (bt458.2.1 + bt458.1)) > (x0.size : Int) then (some ((⟨#[]⟩ : ByteArray), 0, 4)) else (if 0 ≤ bt458.2.1 then (if bt458.2.1 ≤ (wrap64 (bt458.2.1 + bt458.1)) then (if (wrap64 (bt458.2.1 + bt458.1)) ≤ (x0.size : Int) then (some (x0.extract (bt458.2.1 : Int).toNat ((wrap64 (bt458.2.1 + bt458.1)) : Int).toNat, wrap64 (bt458.2.1 + bt458.1), 0)) else (none)) else (none)) else (none)))) else (some ((⟨#[]⟩ : ByteArray), 0, bt458.2.2))))
def backhaulref05_Take.f (k : Nat) (a0 : ByteArray) (a1 : Int) (a2 : Int) : Option (ByteArray × Int × Int) := if a2 < 0 then (backhaulref05_Take.j0 k a0 a1 a2 true) else (if a1 < 0 then (backhaulref05_Take.j0 k a0 a1 a2 true) else (backhaulref05_Take.j0 k a0 a1 a2 (decide (a1 > (a0.size : Int)))))
theorem backhaulref05_Take.mono_l : ∀ k, (∀ y0 y1 y2 y3, LeO (backhaulref05_Take.j0 k y0 y1 y2 y3) (backhaulref05_Take.j0 (k + 1) y0 y1 y2 y3))
  | 0 => fun _ _ _ _ r h => by simp [backhaulref05_Take.j0] at h
  | k + 1 => by
    have ih0 := backhaulref05_Take.mono_l k
    · intro y0 y1 y2 y3
      unfold backhaulref05_Take.j0
      repeat' first
      | (with_reducible exact ih0 _ _ _ _)
      | (with_reducible exact backhaulref05_Get.mono _ _ _ _)
      | (with_reducible exact LeO.refl _)
      | (with_reducible exact LeO.none _)
      | (with_reducible refine LeO.ite ?_ ?_)
      | (with_reducible refine LeO.bind ?_ (fun _ => ?_))
      | exact ih0 _ _ _ _
      | exact backhaulref05_Get.mono _ _ _ _
      | exact LeO.none _
      | refine LeO.ite ?_ ?_
      | refine LeO.bind ?_ (fun _ => ?_)
theorem backhaulref05_Take.mono : ∀ a0 a1 a2 k, LeO (backhaulref05_Take.f k a0 a1 a2) (backhaulref05_Take.f (k + 1) a0 a1 a2) := by
  intro a0 a1 a2 k
  have ih0 := backhaulref05_Take.mono_l k
  unfold backhaulref05_Take.f
  repeat' first
      | (with_reducible exact ih0 _ _ _ _)
      | (with_reducible exact backhaulref05_Get.mono _ _ _ _)
      | (with_reducible exact LeO.refl _)
      | (with_reducible exact LeO.none _)
      | (with_reducible refine LeO.ite ?_ ?_)
      | (with_reducible refine LeO.bind ?_ (fun _ => ?_))
      | exact ih0 _ _ _ _
      | exact backhaulref05_Get.mono _ _ _ _
      | exact LeO.none _
      | refine LeO.ite ?_ ?_
      | refine LeO.bind ?_ (fun _ => ?_)
set_option maxHeartbeats 8000000 in
set_option maxRecDepth 100000 in
theorem backhaulref05_Take.calls (k : Nat) (a0 : ByteArray) (a1 : Int) (a2 : Int) (r1 : ByteArray) (r2 : Int) (r3 : Int) (w : World) (h : backhaulref05_Take.f k a0 a1 a2 = some (r1, r2, r3)) :
    Calls Try.prog 42 #[.string a0, .int .i64 a1, .int .i64 a2] w fun e w' => e = .returned (.tuple #[.string r1, .int .i64 r2, .int .i64 r3]) ∧ Drawn0 w w' := by
  have H : (if a2 < 0 then (backhaulref05_Take.j0 k a0 a1 a2 true) else (if a1 < 0 then (backhaulref05_Take.j0 k a0 a1 a2 true) else (backhaulref05_Take.j0 k a0 a1 a2 (decide (a1 > (a0.size : Int)))))) = some (r1, r2, r3) := h
  clear h
  have HC4 := Aside0.mk H
  clear H
  go_enter Try.func42, Try.ntmps42
  go_upto_region 1 with (fail)
  go_cut [23] (fun v23 wc => ∃ (kq : Nat) (x23_3 : Bool), v23 = .bool x23_3 ∧ Aside0 (backhaulref05_Take.j0 kq a0 a1 a2 x23_3 = some (r1, r2, r3)) ∧ Aside0 (kq ≤ k) ∧ Drawn0 w wc)
  case first =>
    have H := HC4.out
    clear HC4
    by_cases c5 : a2 < 0
    · rw [if_pos c5] at H
      have c5b0 : decide (a2 < 0) = true := decide_eq_true c5
      clear c5
      (first | rw [c5b0] | (simp only [i64_w, i32_w]; rw [c5b0]) | skip)
      have H' := Aside0.mk H
      clear H
      go_wp2
      go_meet
      case rel => exact ⟨_, (true), (by first | rfl | (simp; done) | (simp [*]; done)), H', ⟨by first | omega | exact Nat.le_refl _⟩, by repeat (first | exact Drawn0.refl _ | apply Drawn0.step)⟩
    · rw [if_neg c5] at H
      have c5b0 : decide (a2 < 0) = false := decide_eq_false c5
      clear c5
      (first | rw [c5b0] | (simp only [i64_w, i32_w]; rw [c5b0]) | skip)
      by_cases c6 : a1 < 0
      · rw [if_pos c6] at H
        have c6b0 : decide (a1 < 0) = true := decide_eq_true c6
        clear c6
        have H' := Aside0.mk H
        clear H
        go_wp2
        go_meet
        case rel => exact ⟨_, (true), (by first | rfl | (simp; done) | (simp [*]; done)), H', ⟨by first | omega | exact Nat.le_refl _⟩, by repeat (first | exact Drawn0.refl _ | apply Drawn0.step)⟩
      · rw [if_neg c6] at H
        have c6b0 : decide (a1 < 0) = false := decide_eq_false c6
        clear c6
        have H' := Aside0.mk H
        clear H
        go_wp2
        go_meet
        case rel => exact ⟨_, (decide (a1 > (a0.size : Int))), (by first | rfl | (simp; done) | (simp [*]; done)), H', ⟨by first | omega | exact Nat.le_refl _⟩, by repeat (first | exact Drawn0.refl _ | apply Drawn0.step)⟩
  case rest =>
    clear HC4
    try clear p2
    try clear c4
    try clear c5
    try clear c5b0
    try clear c6
    try clear c6b0
    obtain ⟨kq, x23_3, rfl, HA, HJ3, ⟨mc3, rfl⟩⟩ := hcut
    cases kq with
    | zero => exact absurd HA.out (by simp [backhaulref05_Take.j0])
    | succ kj3 =>
      have H := HA.out
      clear HA
      simp only [backhaulref05_Take.j0] at H
      by_cases c7 : x23_3 = true
      · subst c7
        have H1 : (some ((⟨#[]⟩ : ByteArray), 0, 2)) = some (r1, r2, r3) := by first | (rw [if_pos rfl] at H; exact H) | rfl
        clear H
        have H := H1
        clear H1
        simp only [Option.some.injEq, Prod.mk.injEq] at H
        obtain ⟨rfl, rfl, rfl⟩ := H
        go_wp2
        go_ret3
        exact ⟨by first | rfl | (simp; done) | (simp [*]; done), by repeat (first | exact Drawn0.refl _ | apply Drawn0.step)⟩
      · replace c7 := Bool.eq_false_iff.mpr c7
        subst c7
        have H1 : ((backhaulref05_Get.f kj3 a0 a1 2).bind fun bt458 => (if bt458.2.2 = 0 then (if bt458.1 > a2 then (some ((⟨#[]⟩ : ByteArray), 0, 3)) else (if (wrap64 (bt458.2.1 + bt458.1)) > (a0.size : Int) then (some ((⟨#[]⟩ : ByteArray), 0, 4)) else (if 0 ≤ bt458.2.1 then (if bt458.2.1 ≤ (wrap64 (bt458.2.1 + bt458.1)) then (if (wrap64 (bt458.2.1 + bt458.1)) ≤ (a0.size : Int) then (some (a0.extract (bt458.2.1 : Int).toNat ((wrap64 (bt458.2.1 + bt458.1)) : Int).toNat, wrap64 (bt458.2.1 + bt458.1), 0)) else (none)) else (none)) else (none)))) else (some ((⟨#[]⟩ : ByteArray), 0, bt458.2.2)))) = some (r1, r2, r3) := by first | (rw [if_neg (show ¬ (false = true) by decide)] at H; exact H) | rfl
        clear H
        have H := H1
        clear H1
        replace H := Option.bind_eq_some_iff.mp H
        obtain ⟨⟨t458, t459, t460⟩, A80, H⟩ := H
        replace H : (if t460 = 0 then (if t458 > a2 then (some ((⟨#[]⟩ : ByteArray), 0, 3)) else (if (wrap64 (t459 + t458)) > (a0.size : Int) then (some ((⟨#[]⟩ : ByteArray), 0, 4)) else (if 0 ≤ t459 then (if t459 ≤ (wrap64 (t459 + t458)) then (if (wrap64 (t459 + t458)) ≤ (a0.size : Int) then (some (a0.extract (t459 : Int).toNat ((wrap64 (t459 + t458)) : Int).toNat, wrap64 (t459 + t458), 0)) else (none)) else (none)) else (none)))) else (some ((⟨#[]⟩ : ByteArray), 0, t460))) = some (r1, r2, r3) := H
        have A8 := Aside0.mk A80
        clear A80
        by_cases c9 : t460 = 0
        · rw [if_pos c9] at H
          have c9b0 : (t460 == 0) = true := beq_iff_eq.mpr c9
          have c9b1 : (t460 != 0) = false := bne_eq_false_iff_eq.mpr c9
          clear c9
          by_cases c10 : t458 > a2
          · rw [if_pos c10] at H
            have c10b0 : decide (a2 < t458) = true := decide_eq_true c10
            clear c10
            simp only [Option.some.injEq, Prod.mk.injEq] at H
            obtain ⟨rfl, rfl, rfl⟩ := H
            go_wp2_with (first | ((with_reducible refine gate_callee (f := 38) rfl ?_); refine goesL_ (some 27) rfl rfl Try.func38 (by kernel_rfl) rfl #[.string a0, .int .i64 a1, .int .i64 2] rfl (by (try simp only [List.map_toArray, List.map_cons, List.map_nil]); first | done | rfl | (simp only [List.length_drop, List.length_take]; rfl)) ?_; (with_reducible refine (backhaulref05_Get.calls kj3 a0 a1 2 t458 t459 t460 _ A8.out).mono ?_); rintro e w' ⟨rfl, ⟨nd, rfl⟩⟩; refine ⟨_, rfl, ?_⟩))
            go_ret3
            exact ⟨by first | rfl | (simp; done) | (simp [*]; done), by repeat (first | exact Drawn0.refl _ | apply Drawn0.step)⟩
          · rw [if_neg c10] at H
            have c10b0 : decide (a2 < t458) = false := decide_eq_false c10
            clear c10
            by_cases c11 : (wrap64 (t459 + t458)) > (a0.size : Int)
            · rw [if_pos c11] at H
              have c11b0 : decide ((a0.size : Int) < (wrap64 (t459 + t458))) = true := decide_eq_true c11
              clear c11
              simp only [Option.some.injEq, Prod.mk.injEq] at H
              obtain ⟨rfl, rfl, rfl⟩ := H
              go_wp2_with (first | ((with_reducible refine gate_callee (f := 38) rfl ?_); refine goesL_ (some 27) rfl rfl Try.func38 (by kernel_rfl) rfl #[.string a0, .int .i64 a1, .int .i64 2] rfl (by (try simp only [List.map_toArray, List.map_cons, List.map_nil]); first | done | rfl | (simp only [List.length_drop, List.length_take]; rfl)) ?_; (with_reducible refine (backhaulref05_Get.calls kj3 a0 a1 2 t458 t459 t460 _ A8.out).mono ?_); rintro e w' ⟨rfl, ⟨nd, rfl⟩⟩; refine ⟨_, rfl, ?_⟩))
              go_ret3
              exact ⟨by first | rfl | (simp; done) | (simp [*]; done), by repeat (first | exact Drawn0.refl _ | apply Drawn0.step)⟩
            · rw [if_neg c11] at H
              have c11b0 : decide ((a0.size : Int) < (wrap64 (t459 + t458))) = false := decide_eq_false c11
              clear c11
              by_cases c12 : 0 ≤ t459
              · rw [if_pos c12] at H
                have c12b0 := eq_true c12
                have c12b1 : decide (0 ≤ t459) = true := decide_eq_true c12
                clear c12
                by_cases c13 : t459 ≤ (wrap64 (t459 + t458))
                · rw [if_pos c13] at H
                  have c13b0 := eq_true c13
                  have c13b1 : decide (t459 ≤ (wrap64 (t459 + t458))) = true := decide_eq_true c13
                  by_cases c14 : (wrap64 (t459 + t458)) ≤ (a0.size : Int)
                  · rw [if_pos c14] at H
                    have c14b0 := eq_true c14
                    have c14b1 : decide ((wrap64 (t459 + t458)) ≤ (a0.size : Int)) = true := decide_eq_true c14
                    simp only [Option.some.injEq, Prod.mk.injEq] at H
                    obtain ⟨rfl, rfl, rfl⟩ := H
                    go_wp2_with (first | ((with_reducible refine gate_callee (f := 38) rfl ?_); refine goesL_ (some 27) rfl rfl Try.func38 (by kernel_rfl) rfl #[.string a0, .int .i64 a1, .int .i64 2] rfl (by (try simp only [List.map_toArray, List.map_cons, List.map_nil]); first | done | rfl | (simp only [List.length_drop, List.length_take]; rfl)) ?_; (with_reducible refine (backhaulref05_Get.calls kj3 a0 a1 2 t458 t459 t460 _ A8.out).mono ?_); rintro e w' ⟨rfl, ⟨nd, rfl⟩⟩; refine ⟨_, rfl, ?_⟩))
                    go_ret3
                    exact ⟨by first | rfl | (simp; done) | (simp [*]; done), by repeat (first | exact Drawn0.refl _ | apply Drawn0.step)⟩
                  · rw [if_neg c14] at H
                    exact absurd H (by simp)
                · rw [if_neg c13] at H
                  exact absurd H (by simp)
              · rw [if_neg c12] at H
                exact absurd H (by simp)
        · rw [if_neg c9] at H
          have c9b0 : (t460 == 0) = false := beq_eq_false_iff_ne.mpr c9
          have c9b1 : (t460 != 0) = true := bne_iff_ne.mpr c9
          simp only [Option.some.injEq, Prod.mk.injEq] at H
          obtain ⟨rfl, rfl, rfl⟩ := H
          go_wp2_with (first | ((with_reducible refine gate_callee (f := 38) rfl ?_); refine goesL_ (some 27) rfl rfl Try.func38 (by kernel_rfl) rfl #[.string a0, .int .i64 a1, .int .i64 2] rfl (by (try simp only [List.map_toArray, List.map_cons, List.map_nil]); first | done | rfl | (simp only [List.length_drop, List.length_take]; rfl)) ?_; (with_reducible refine (backhaulref05_Get.calls kj3 a0 a1 2 t458 t459 t460 _ A8.out).mono ?_); rintro e w' ⟨rfl, ⟨nd, rfl⟩⟩; refine ⟨_, rfl, ?_⟩))
          go_ret3
          exact ⟨by first | rfl | (simp; done) | (simp [*]; done), by repeat (first | exact Drawn0.refl _ | apply Drawn0.step)⟩

end Go.Proofs.Ytabapiofkipkoaa.F
