-- printed by xprint (the session's own program) out of the translation
import Derived.Test.YtabapiofkipkoaaF
import Derived.Test.YtabapiofkipkoaaF34
import Derived.Test.YtabapiofkipkoaaF35
import Derived.Test.YtabapiofkipkoaaF36
import Derived.Test.YtabapiofkipkoaaF37
import Derived.Test.YtabapiofkipkoaaF38
namespace Go.Proofs.Ytabapiofkipkoaa.F
open Go.RowKit Go.Proofs.YtabapiofkipkoaaX Go.Proofs.YtabapiofkipkoaaW.PrintWords Go.Proofs.YtabapiofkipkoaaW.PrintLast Go.Proofs.YtabapiofkipkoaaW.PrintMore
attribute [local go_sem] max2_int min2_int max_two min_two max_three min_three max_four min_four   -- for this text's walks alone
attribute [local go_sem high] str_geq str_leq str_gtr
set_option linter.unusedVariables false
set_option linter.unusedSimpArgs false

/-! ### backhaullaw05_OctetNumbers: function 7 -/
def backhaullaw05_OctetNumbers.f (k : Nat) (a0 : Int) (a1 : ByteArray) (a2_0 : Int) (a2_1 : Int) : Option (Bool) := if (a1.size : Int) > 2000 then ((backhaullaw05_awake.f).bind fun t442 => (if t442 = true then (some true) else (some false))) else ((octet_Put.f k a0 a2_1).bind fun bt443 => ((backhaulref05_Put.f k a0 a2_1).bind fun bt445 => ((octet_Get.f k a1 a2_0 a2_1).bind fun bt447 => ((backhaulref05_Get.f k a1 a2_0 a2_1).bind fun bt451 => (if bt443.1.toList = bt445.1.toList then (if bt443.2 = bt445.2 then (if bt447.1 = bt451.1 then (if bt447.2.1 = bt451.2.1 then (if bt447.2.2 = bt451.2.2 then ((backhaullaw05_awake.f).bind fun t454 => (if t454 = true then (some true) else (some false))) else (some false)) else (some false)) else (some false)) else (some false)) else (some false))))))
theorem backhaullaw05_OctetNumbers.mono : ∀ a0 a1 a2 a3 k, LeO (backhaullaw05_OctetNumbers.f k a0 a1 a2 a3) (backhaullaw05_OctetNumbers.f (k + 1) a0 a1 a2 a3) := by
  intro a0 a1 a2 a3 k
  unfold backhaullaw05_OctetNumbers.f
  repeat' first
      | (with_reducible exact backhaulref05_Get.mono _ _ _ _)
      | (with_reducible exact backhaulref05_Put.mono _ _ _)
      | (with_reducible exact octet_Get.mono _ _ _ _)
      | (with_reducible exact octet_Put.mono _ _ _)
      | (with_reducible exact LeO.refl _)
      | (with_reducible exact LeO.none _)
      | (with_reducible refine LeO.ite ?_ ?_)
      | (with_reducible refine LeO.bind ?_ (fun _ => ?_))
      | exact backhaulref05_Get.mono _ _ _ _
      | exact backhaulref05_Put.mono _ _ _
      | exact octet_Get.mono _ _ _ _
      | exact octet_Put.mono _ _ _
      | exact LeO.none _
      | refine LeO.ite ?_ ?_
      | refine LeO.bind ?_ (fun _ => ?_)
set_option maxHeartbeats 8000000 in
set_option maxRecDepth 100000 in
theorem backhaullaw05_OctetNumbers.calls (k : Nat) (a0 : Int) (a1 : ByteArray) (a2_0 : Int) (a2_1 : Int) (w : World) (h : backhaullaw05_OctetNumbers.f k a0 a1 a2_0 a2_1 = some true) :
    Calls Try.prog 7 #[.int .i64 a0, .string a1, .agg #[.int .i64 a2_0, .int .i64 a2_1]] w fun e w' => e = .returned (.bool true) ∧ Below w.heap.size w w' := by
  have hu43 := Try.underlying43
  have hu49 := Try.underlying49
  have HB := Aside0.mk (Below.refl w.heap.size w)
  have H : (if (a1.size : Int) > 2000 then ((backhaullaw05_awake.f).bind fun t442 => (if t442 = true then (some true) else (some false))) else ((octet_Put.f k a0 a2_1).bind fun bt443 => ((backhaulref05_Put.f k a0 a2_1).bind fun bt445 => ((octet_Get.f k a1 a2_0 a2_1).bind fun bt447 => ((backhaulref05_Get.f k a1 a2_0 a2_1).bind fun bt451 => (if bt443.1.toList = bt445.1.toList then (if bt443.2 = bt445.2 then (if bt447.1 = bt451.1 then (if bt447.2.1 = bt451.2.1 then (if bt447.2.2 = bt451.2.2 then ((backhaullaw05_awake.f).bind fun t454 => (if t454 = true then (some true) else (some false))) else (some false)) else (some false)) else (some false)) else (some false)) else (some false))))))) = some true := h
  clear h
  by_cases c4 : (a1.size : Int) > 2000
  · rw [if_pos c4] at H
    have c4b0 : decide (2000 < (a1.size : Int)) = true := decide_eq_true c4
    have c4b1 : decide (2000 < a1.size) = true := decide_eq_true (by omega)
    clear c4
    replace H := Option.bind_eq_some_iff.mp H
    obtain ⟨t442, A50, H⟩ := H
    replace H : (if t442 = true then (some true) else (some false)) = some true := H
    have A5 := Aside0.mk A50
    clear A50
    by_cases c6 : t442 = true
    · subst c6
      have H1 : (some true) = some true := by first | (rw [if_pos rfl] at H; exact H) | rfl
      clear H
      have H := H1
      clear H1
      clear H
      go_enter Try.func7, Try.ntmps7
      go_wp2_with (first | ((with_reducible refine gate_dst (N := 5) rfl ?_); refine box_event ?hg (N := 5) ?hd (cs := #[.int .i64 a2_0, .int .i64 a2_1]) (t := 43) ?hr ?_; (case hd => rfl); (case hg => rfl); (case hr => first | (go_simp; done) | (go_simp; rfl)); intro gb441 hg w7 hbox hb; have n0_ := Aside0.mk (below_step (by repeat (first | (with_reducible first | exact HB.out | apply below_alloc | apply pw_below_drewN | apply below_drew1) | exact HB.out)) hb); have n1_ := Aside0.mk (hbox); have n2_ := Aside0.mk ((by rw [hg]; exact (below_size (by repeat (first | (with_reducible first | exact HB.out | apply below_alloc | apply pw_below_drewN | apply below_drew1) | exact HB.out))) : w.heap.size ≤ gb441)); have n3_ := Aside0.mk ((by rw [hg]; exact (below_size (by repeat (first | (with_reducible first | exact HB.out | apply below_alloc | apply pw_below_drewN | apply below_drew1) | exact HB.out))) : w.heap.size ≤ gb441)); clear HB; have HB := n0_; have BK441 := n1_; have GW441 := n2_; have GE441 := n3_; clear n0_ n1_ n2_ n3_; clear hb hbox hg) | ((with_reducible refine gate_callee (f := 34) rfl ?_); refine goesL_ (some 19) rfl rfl Try.func34 (by kernel_rfl) rfl #[] rfl (by (try simp only [List.map_toArray, List.map_cons, List.map_nil]); first | done | rfl | (simp only [List.length_drop, List.length_take]; rfl)) ?_; (with_reducible refine (backhaullaw05_awake.calls  true _ A5.out).mono ?_); rintro e w8 ⟨rfl, hb⟩; refine ⟨_, rfl, ?_⟩; have n0_ := Aside0.mk (blk_below (g := gb441) (o := .cells #[.int .i64 a2_0, .int .i64 a2_1] 43 (0, 0)) (by (with_reducible repeat (first | refine blk_drewN ?_ _ | refine blk_drew ?_ | refine blk_alloc ?_ _)); exact BK441.out) hb); have n1_ := Aside0.mk (below_step (by repeat (first | (with_reducible first | exact HB.out | apply below_alloc | apply pw_below_drewN | apply below_drew1 | refine below_set ?_ GE441.out) | exact HB.out)) hb); clear BK441; clear HB; have BK441 := n0_; have HB := n1_; clear n0_ n1_; (try clear hb); (try clear hb2); (try clear hk); (try clear hi)))
      go_ret
      exact ⟨by first | rfl | (simp [errW_none, errW_some] <;> rfl) | (simp [*, errW_none, errW_some] <;> rfl), by repeat (first | (with_reducible first | exact HB.out | apply below_alloc | apply pw_below_drewN | apply below_drew1 | refine below_set ?_ GE441.out) | exact HB.out)⟩
    · replace c6 := Bool.eq_false_iff.mpr c6
      subst c6
      have H1 : (some false) = some true := by first | (rw [if_neg (show ¬ (false = true) by decide)] at H; exact H) | rfl
      clear H
      have H := H1
      clear H1
      exact absurd H (by simp)
  · rw [if_neg c4] at H
    have c4b0 : decide (2000 < (a1.size : Int)) = false := decide_eq_false c4
    have c4b1 : decide (2000 < a1.size) = false := decide_eq_false (by omega)
    clear c4
    replace H := Option.bind_eq_some_iff.mp H
    obtain ⟨⟨t443, t444⟩, A90, H⟩ := H
    replace H : ((backhaulref05_Put.f k a0 a2_1).bind fun bt445 => ((octet_Get.f k a1 a2_0 a2_1).bind fun bt447 => ((backhaulref05_Get.f k a1 a2_0 a2_1).bind fun bt451 => (if t443.toList = bt445.1.toList then (if t444 = bt445.2 then (if bt447.1 = bt451.1 then (if bt447.2.1 = bt451.2.1 then (if bt447.2.2 = bt451.2.2 then ((backhaullaw05_awake.f).bind fun t454 => (if t454 = true then (some true) else (some false))) else (some false)) else (some false)) else (some false)) else (some false)) else (some false))))) = some true := H
    have A9 := Aside0.mk A90
    clear A90
    replace H := Option.bind_eq_some_iff.mp H
    obtain ⟨⟨t445, t446⟩, A100, H⟩ := H
    replace H : ((octet_Get.f k a1 a2_0 a2_1).bind fun bt447 => ((backhaulref05_Get.f k a1 a2_0 a2_1).bind fun bt451 => (if t443.toList = t445.toList then (if t444 = t446 then (if bt447.1 = bt451.1 then (if bt447.2.1 = bt451.2.1 then (if bt447.2.2 = bt451.2.2 then ((backhaullaw05_awake.f).bind fun t454 => (if t454 = true then (some true) else (some false))) else (some false)) else (some false)) else (some false)) else (some false)) else (some false)))) = some true := H
    have A10 := Aside0.mk A100
    clear A100
    replace H := Option.bind_eq_some_iff.mp H
    obtain ⟨⟨t447, t448, t449⟩, A110, H⟩ := H
    replace H : ((backhaulref05_Get.f k a1 a2_0 a2_1).bind fun bt451 => (if t443.toList = t445.toList then (if t444 = t446 then (if t447 = bt451.1 then (if t448 = bt451.2.1 then (if t449 = bt451.2.2 then ((backhaullaw05_awake.f).bind fun t454 => (if t454 = true then (some true) else (some false))) else (some false)) else (some false)) else (some false)) else (some false)) else (some false))) = some true := H
    have A11 := Aside0.mk A110
    clear A110
    replace H := Option.bind_eq_some_iff.mp H
    obtain ⟨⟨t451, t452, t453⟩, A120, H⟩ := H
    replace H : (if t443.toList = t445.toList then (if t444 = t446 then (if t447 = t451 then (if t448 = t452 then (if t449 = t453 then ((backhaullaw05_awake.f).bind fun t454 => (if t454 = true then (some true) else (some false))) else (some false)) else (some false)) else (some false)) else (some false)) else (some false)) = some true := H
    have A12 := Aside0.mk A120
    clear A120
    by_cases c13 : t443.toList = t445.toList
    · rw [if_pos c13] at H
      have c13b0 : (t443.toList == t445.toList) = true := beq_iff_eq.mpr c13
      have c13b1 : (t443.toList != t445.toList) = false := bne_eq_false_iff_eq.mpr c13
      clear c13
      by_cases c14 : t444 = t446
      · rw [if_pos c14] at H
        have c14b0 : (t444 == t446) = true := beq_iff_eq.mpr c14
        have c14b1 : (t444 != t446) = false := bne_eq_false_iff_eq.mpr c14
        clear c14
        by_cases c15 : t447 = t451
        · rw [if_pos c15] at H
          have c15b0 : (t447 == t451) = true := beq_iff_eq.mpr c15
          have c15b1 : (t447 != t451) = false := bne_eq_false_iff_eq.mpr c15
          clear c15
          by_cases c16 : t448 = t452
          · rw [if_pos c16] at H
            have c16b0 : (t448 == t452) = true := beq_iff_eq.mpr c16
            have c16b1 : (t448 != t452) = false := bne_eq_false_iff_eq.mpr c16
            clear c16
            by_cases c17 : t449 = t453
            · rw [if_pos c17] at H
              have c17b0 : (t449 == t453) = true := beq_iff_eq.mpr c17
              have c17b1 : (t449 != t453) = false := bne_eq_false_iff_eq.mpr c17
              clear c17
              replace H := Option.bind_eq_some_iff.mp H
              obtain ⟨t454, A180, H⟩ := H
              replace H : (if t454 = true then (some true) else (some false)) = some true := H
              have A18 := Aside0.mk A180
              clear A180
              by_cases c19 : t454 = true
              · subst c19
                have H1 : (some true) = some true := by first | (rw [if_pos rfl] at H; exact H) | rfl
                clear H
                have H := H1
                clear H1
                clear H
                go_enter Try.func7, Try.ntmps7
                go_wp2_with (first | ((with_reducible refine gate_dst (N := 5) rfl ?_); refine box_event ?hg (N := 5) ?hd (cs := #[.int .i64 a2_0, .int .i64 a2_1]) (t := 43) ?hr ?_; (case hd => rfl); (case hg => rfl); (case hr => first | (go_simp; done) | (go_simp; rfl)); intro gb441 hg w20 hbox hb; have n0_ := Aside0.mk (below_step (by repeat (first | (with_reducible first | exact HB.out | apply below_alloc | apply pw_below_drewN | apply below_drew1) | exact HB.out)) hb); have n1_ := Aside0.mk (hbox); have n2_ := Aside0.mk ((by rw [hg]; exact (below_size (by repeat (first | (with_reducible first | exact HB.out | apply below_alloc | apply pw_below_drewN | apply below_drew1) | exact HB.out))) : w.heap.size ≤ gb441)); have n3_ := Aside0.mk ((by rw [hg]; exact (below_size (by repeat (first | (with_reducible first | exact HB.out | apply below_alloc | apply pw_below_drewN | apply below_drew1) | exact HB.out))) : w.heap.size ≤ gb441)); clear HB; have HB := n0_; have BK441 := n1_; have GW441 := n2_; have GE441 := n3_; clear n0_ n1_ n2_ n3_; clear hb hbox hg; have hcz21_0 : w20.cell? ⟨gb441, 0, none⟩ = some (.int .i64 a2_0) := (blk_cell BK441.out 0).trans rfl; have hcz21_1 : w20.cell? ⟨gb441, 1, none⟩ = some (.int .i64 a2_1) := (blk_cell BK441.out 1).trans rfl; have hfz21_0 := blk_frozen BK441.out 0; have hfz21_1 := blk_frozen BK441.out 1) | ((with_reducible refine gate_callee (f := 35) rfl ?_); refine goesL_ (some 24) rfl rfl Try.func35 (by kernel_rfl) rfl #[.int .i64 a0, .int .i64 a2_1] rfl (by (try simp only [List.map_toArray, List.map_cons, List.map_nil]); first | done | rfl | (simp only [List.length_drop, List.length_take]; rfl)) ?_; (with_reducible refine (octet_Put.calls k a0 a2_1 t443 t444 _ A9.out).mono ?_); rintro e w22 ⟨rfl, hb⟩; refine ⟨_, rfl, ?_⟩; have n0_ := Aside0.mk (blk_below (g := gb441) (o := .cells #[.int .i64 a2_0, .int .i64 a2_1] 43 (0, 0)) (by (with_reducible repeat (first | refine blk_drewN ?_ _ | refine blk_drew ?_ | refine blk_alloc ?_ _)); exact BK441.out) hb); have n1_ := Aside0.mk (below_step (by repeat (first | (with_reducible first | exact HB.out | apply below_alloc | apply pw_below_drewN | apply below_drew1 | refine below_set ?_ GE441.out) | exact HB.out)) hb); clear BK441; clear HB; have BK441 := n0_; have HB := n1_; clear n0_ n1_; (try clear hb); (try clear hb2); (try clear hk); (try clear hi); have hcz23_0 : w22.cell? ⟨gb441, 0, none⟩ = some (.int .i64 a2_0) := (blk_cell BK441.out 0).trans rfl; have hcz23_1 : w22.cell? ⟨gb441, 1, none⟩ = some (.int .i64 a2_1) := (blk_cell BK441.out 1).trans rfl; have hfz23_0 := blk_frozen BK441.out 0; have hfz23_1 := blk_frozen BK441.out 1) | ((with_reducible refine gate_callee (f := 36) rfl ?_); refine goesL_ (some 31) rfl rfl Try.func36 (by kernel_rfl) rfl #[.int .i64 a0, .int .i64 a2_1] rfl (by (try simp only [List.map_toArray, List.map_cons, List.map_nil]); first | done | rfl | (simp only [List.length_drop, List.length_take]; rfl)) ?_; (with_reducible refine (backhaulref05_Put.calls k a0 a2_1 t445 t446 _ A10.out).mono ?_); rintro e w24 ⟨rfl, hb⟩; refine ⟨_, rfl, ?_⟩; have n0_ := Aside0.mk (blk_below (g := gb441) (o := .cells #[.int .i64 a2_0, .int .i64 a2_1] 43 (0, 0)) (by (with_reducible repeat (first | refine blk_drewN ?_ _ | refine blk_drew ?_ | refine blk_alloc ?_ _)); exact BK441.out) hb); have n1_ := Aside0.mk (below_step (by repeat (first | (with_reducible first | exact HB.out | apply below_alloc | apply pw_below_drewN | apply below_drew1 | refine below_set ?_ GE441.out) | exact HB.out)) hb); clear BK441; clear HB; have BK441 := n0_; have HB := n1_; clear n0_ n1_; (try clear hb); (try clear hb2); (try clear hk); (try clear hi); have hcz25_0 : w24.cell? ⟨gb441, 0, none⟩ = some (.int .i64 a2_0) := (blk_cell BK441.out 0).trans rfl; have hcz25_1 : w24.cell? ⟨gb441, 1, none⟩ = some (.int .i64 a2_1) := (blk_cell BK441.out 1).trans rfl; have hfz25_0 := blk_frozen BK441.out 0; have hfz25_1 := blk_frozen BK441.out 1) | ((with_reducible refine gate_callee (f := 37) rfl ?_); refine goesL_ (some 40) rfl rfl Try.func37 (by kernel_rfl) rfl #[.string a1, .int .i64 a2_0, .int .i64 a2_1] rfl (by (try simp only [List.map_toArray, List.map_cons, List.map_nil]); first | done | rfl | (simp only [List.length_drop, List.length_take]; rfl)) ?_; (with_reducible refine (octet_Get.calls k a1 a2_0 a2_1 t447 t448 t449 _ A11.out).mono ?_); rintro e w26 ⟨rfl, hb⟩; refine ⟨_, rfl, ?_⟩; have n0_ := Aside0.mk (blk_below (g := gb441) (o := .cells #[.int .i64 a2_0, .int .i64 a2_1] 43 (0, 0)) (by (with_reducible repeat (first | refine blk_drewN ?_ _ | refine blk_drew ?_ | refine blk_alloc ?_ _)); exact BK441.out) hb); have n1_ := Aside0.mk (below_step (by repeat (first | (with_reducible first | exact HB.out | apply below_alloc | apply pw_below_drewN | apply below_drew1 | refine below_set ?_ GE441.out) | exact HB.out)) hb); clear BK441; clear HB; have BK441 := n0_; have HB := n1_; clear n0_ n1_; (try clear hb); (try clear hb2); (try clear hk); (try clear hi)) | ((with_reducible refine gate_dst (N := 11) rfl ?_); refine box_event ?hg (N := 11) ?hd (cs := #[.int .i64 0, .int .i64 0]) (t := 49) ?hr ?_; (case hd => rfl); (case hg => rfl); (case hr => first | (go_simp; done) | (go_simp; rfl)); intro gb450 hg w27 hbox hb; have n0_ := Aside0.mk (blk_below (g := gb441) (o := .cells #[.int .i64 a2_0, .int .i64 a2_1] 43 (0, 0)) (by (with_reducible repeat (first | refine blk_drewN ?_ _ | refine blk_drew ?_ | refine blk_alloc ?_ _)); exact BK441.out) hb); have n1_ := Aside0.mk (below_step (by repeat (first | (with_reducible first | exact HB.out | apply below_alloc | apply pw_below_drewN | apply below_drew1 | refine below_set ?_ GE441.out) | exact HB.out)) hb); have n2_ := Aside0.mk (hbox); have n3_ := Aside0.mk ((by rw [hg]; exact (below_size (by repeat (first | (with_reducible first | exact HB.out | apply below_alloc | apply pw_below_drewN | apply below_drew1 | refine below_set ?_ GE441.out) | exact HB.out))) : w.heap.size ≤ gb450)); have n4_ := Aside0.mk ((by rw [hg]; exact (below_size (by repeat (first | (with_reducible first | exact HB.out | apply below_alloc | apply pw_below_drewN | apply below_drew1 | refine below_set ?_ GE441.out) | exact HB.out))) : w.heap.size ≤ gb450)); have n5_ := Aside0.mk ((by rw [hg]; exact Nat.ne_of_lt (blk_lt (g := gb441) (o := .cells #[.int .i64 a2_0, .int .i64 a2_1] 43 (0, 0)) (by (with_reducible repeat (first | refine blk_drewN ?_ _ | refine blk_drew ?_ | refine blk_alloc ?_ _)); exact BK441.out)) : gb441 ≠ gb450)); have n6_ := Aside0.mk ((by rw [hg]; exact Nat.ne_of_gt (blk_lt (g := gb441) (o := .cells #[.int .i64 a2_0, .int .i64 a2_1] 43 (0, 0)) (by (with_reducible repeat (first | refine blk_drewN ?_ _ | refine blk_drew ?_ | refine blk_alloc ?_ _)); exact BK441.out)) : gb450 ≠ gb441)); clear BK441; clear HB; have BK441 := n0_; have HB := n1_; have BK450 := n2_; have GW450 := n3_; have GE450 := n4_; have NB441_450 := n5_; have NB450_441 := n6_; clear n0_ n1_ n2_ n3_ n4_ n5_ n6_; clear hb hbox hg; have hnb28 := NB450_441.out; have hnc28 := NB441_450.out; have hcz29_0 : w27.cell? ⟨gb450, 0, none⟩ = some (.int .i64 0) := (blk_cell BK450.out 0).trans rfl; have hcz29_1 : w27.cell? ⟨gb450, 1, none⟩ = some (.int .i64 0) := (blk_cell BK450.out 1).trans rfl; have hfz29_0 := blk_frozen BK450.out 0; have hfz29_1 := blk_frozen BK450.out 1; have hcz30_0 : w27.cell? ⟨gb441, 0, none⟩ = some (.int .i64 a2_0) := (blk_cell BK441.out 0).trans rfl; have hcz30_1 : w27.cell? ⟨gb441, 1, none⟩ = some (.int .i64 a2_1) := (blk_cell BK441.out 1).trans rfl; have hfz30_0 := blk_frozen BK441.out 0; have hfz30_1 := blk_frozen BK441.out 1) | ((with_reducible refine gate_callee (f := 38) rfl ?_); refine goesL_ (some 49) rfl rfl Try.func38 (by kernel_rfl) rfl #[.string a1, .int .i64 a2_0, .int .i64 a2_1] rfl (by (try simp only [List.map_toArray, List.map_cons, List.map_nil]); first | done | rfl | (simp only [List.length_drop, List.length_take]; rfl)) ?_; (with_reducible refine (backhaulref05_Get.calls k a1 a2_0 a2_1 t451 t452 t453 _ A12.out).mono ?_); rintro e w' ⟨rfl, ⟨nd, rfl⟩⟩; refine ⟨_, rfl, ?_⟩) | (go_at_call 34; (with_reducible refine (backhaullaw05_awake.calls  true _ A18.out).mono ?_); rintro e w31 ⟨rfl, hb⟩; have n0_ := Aside0.mk (blk_below (g := gb441) (o := .cells #[.int .i64 a2_0, .int .i64 a2_1] 43 (0, 0)) (by (with_reducible repeat (first | refine blk_drewN ?_ _ | refine blk_drew ?_ | refine blk_alloc ?_ _)); refine blk_far ?_ NB441_450.out _; (with_reducible repeat (first | refine blk_drewN ?_ _ | refine blk_drew ?_ | refine blk_alloc ?_ _)); refine blk_far ?_ NB441_450.out _; (with_reducible repeat (first | refine blk_drewN ?_ _ | refine blk_drew ?_ | refine blk_alloc ?_ _)); exact BK441.out) hb); have n1_ := Aside0.mk (blk_below (g := gb450) (o := .cells #[.int .i64 t447, .int .i64 t448] 49 (0, 0)) (by (with_reducible repeat (first | refine blk_drewN ?_ _ | refine blk_drew ?_ | refine blk_alloc ?_ _)); refine blk_put (cs := #[.int .i64 t447, .int .i64 0]) ?_ 1 _ rfl; (with_reducible repeat (first | refine blk_drewN ?_ _ | refine blk_drew ?_ | refine blk_alloc ?_ _)); refine blk_put (cs := #[.int .i64 0, .int .i64 0]) ?_ 0 _ rfl; (with_reducible repeat (first | refine blk_drewN ?_ _ | refine blk_drew ?_ | refine blk_alloc ?_ _)); exact BK450.out) hb); have n2_ := Aside0.mk (below_step (by repeat (first | (with_reducible first | exact HB.out | apply below_alloc | apply pw_below_drewN | apply below_drew1 | refine below_set ?_ GE441.out | refine below_set ?_ GE450.out) | exact HB.out)) hb); clear BK441; clear BK450; clear HB; have BK441 := n0_; have BK450 := n1_; have HB := n2_; clear n0_ n1_ n2_; (try clear hb); (try clear hb2); (try clear hk); (try clear hi)))
                go_ret
                exact ⟨by first | rfl | (simp [errW_none, errW_some] <;> rfl) | (simp [*, errW_none, errW_some] <;> rfl), by repeat (first | (with_reducible first | exact HB.out | apply below_alloc | apply pw_below_drewN | apply below_drew1 | refine below_set ?_ GE441.out | refine below_set ?_ GE450.out) | exact HB.out)⟩
              · replace c19 := Bool.eq_false_iff.mpr c19
                subst c19
                have H1 : (some false) = some true := by first | (rw [if_neg (show ¬ (false = true) by decide)] at H; exact H) | rfl
                clear H
                have H := H1
                clear H1
                exact absurd H (by simp)
            · rw [if_neg c17] at H
              have c17b0 : (t449 == t453) = false := beq_eq_false_iff_ne.mpr c17
              have c17b1 : (t449 != t453) = true := bne_iff_ne.mpr c17
              exact absurd H (by simp)
          · rw [if_neg c16] at H
            have c16b0 : (t448 == t452) = false := beq_eq_false_iff_ne.mpr c16
            have c16b1 : (t448 != t452) = true := bne_iff_ne.mpr c16
            exact absurd H (by simp)
        · rw [if_neg c15] at H
          have c15b0 : (t447 == t451) = false := beq_eq_false_iff_ne.mpr c15
          have c15b1 : (t447 != t451) = true := bne_iff_ne.mpr c15
          exact absurd H (by simp)
      · rw [if_neg c14] at H
        have c14b0 : (t444 == t446) = false := beq_eq_false_iff_ne.mpr c14
        have c14b1 : (t444 != t446) = true := bne_iff_ne.mpr c14
        exact absurd H (by simp)
    · rw [if_neg c13] at H
      have c13b0 : (t443.toList == t445.toList) = false := beq_eq_false_iff_ne.mpr c13
      have c13b1 : (t443.toList != t445.toList) = true := bne_iff_ne.mpr c13
      exact absurd H (by simp)

/-- THE ONE PURE STATEMENT of backhaullaw05_OctetNumbers. -/
def backhaullaw05_OctetNumbers.Pure : Prop := ∀ (a0 : Int) (a1 : ByteArray) (a2_0 : Int) (a2_1 : Int), (Lit.int .i64 a0).wf = true → a1.size ≤ maxLen → (Lit.int .i64 a2_0).wf = true → (Lit.int .i64 a2_1).wf = true → ∃ k, backhaullaw05_OctetNumbers.f k a0 a1 a2_0 a2_1 = some true

end Go.Proofs.Ytabapiofkipkoaa.F
