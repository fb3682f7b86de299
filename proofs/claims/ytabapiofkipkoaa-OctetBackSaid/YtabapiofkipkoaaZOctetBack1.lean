-- merged by merge.py (the session's own program)
import Derived.Test.YtabapiofkipkoaaZOctetBack0
namespace Go.Proofs.Ytabapiofkipkoaa.F
open Go.RowKit Go.Proofs.YtabapiofkipkoaaX Go.Proofs.YtabapiofkipkoaaW.PrintWords Go.Proofs.YtabapiofkipkoaaW.PrintLast Go.Proofs.YtabapiofkipkoaaW.PrintMore
attribute [local go_sem] max2_int min2_int max_two min_two max_three min_three max_four min_four   -- for this text's walks alone
attribute [local go_sem high] str_geq str_leq str_gtr
set_option linter.unusedVariables false
set_option linter.unusedSimpArgs false

/-! ### octet_Unrow: function 46 -/
mutual
def octet_Unrow.j0 : Nat → ByteArray → Int → Int → Int → Bool → Option (List Int × Int × Int)
  | 0, _, _, _, _, _ => none
  | k + 1, x0, x1, x2, x3, x28 => if x28 = true then ((octet_none_int_78.f 2).bind fun bt365 => (some (bt365.1, bt365.2.1, bt365.2.2))) else ((octet_Get.f k x0 x1 2).bind fun bt370 => (if bt370.2.2 = 0 then (if bt370.1 > (mn x3 1000) then ((octet_none_int_78.f 3).bind fun bt379 => (some (bt379.1, bt379.2.1, bt379.2.2))) else (octet_Unrow.l0 k x0 x2 ([] : List Int) bt370.2.1 bt370.1 0)) else ((octet_none_int_78.f bt370.2.2).bind fun bt374 => (some (bt374.1, bt374.2.1, bt374.2.2)))))
def octet_Unrow.l0 : Nat → ByteArray → Int → List Int → Int → Int → Int → Option (List Int × Int × Int)
  | 0, _, _, _, _, _, _ => none
  | k + 1, x0, x2, x12, x13, x55, x56 => if x56 < x55 then ((octet_Get.f k x0 x13 x2).bind fun bt389 => (if bt389.2.2 = 0 then (if x12.length < 17592186044416 then (octet_Unrow.l0 k x0 x2 (x12 ++ [bt389.1]) bt389.2.1 x55 (wrap64 (x56 + 1))) else (none)) else ((octet_none_int_78.f bt389.2.2).bind fun bt396 => (some (bt396.1, bt396.2.1, bt396.2.2))))) else ((octet_got_int_79.f x12 x13).bind fun bt384 => (some (bt384.1, bt384.2.1, bt384.2.2)))
end
def octet_Unrow.f (k : Nat) (a0 : ByteArray) (a1 : Int) (a2 : Int) (a3 : Int) : Option (List Int × Int × Int) := (octet_wide.f a2).bind fun t363 => (if t363 = true then ((octet_inside.f a0 a1).bind fun t364 => (if t364 = true then (octet_Unrow.j0 k a0 a1 a2 a3 (decide (a3 < 0))) else (octet_Unrow.j0 k a0 a1 a2 a3 true))) else (octet_Unrow.j0 k a0 a1 a2 a3 true))
theorem octet_Unrow.mono_l : ∀ k, (∀ y0 y1 y2 y3 y4, LeO (octet_Unrow.j0 k y0 y1 y2 y3 y4) (octet_Unrow.j0 (k + 1) y0 y1 y2 y3 y4)) ∧ (∀ y0 y1 y2 y3 y4 y5, LeO (octet_Unrow.l0 k y0 y1 y2 y3 y4 y5) (octet_Unrow.l0 (k + 1) y0 y1 y2 y3 y4 y5))
  | 0 => ⟨fun _ _ _ _ _ r h => by simp [octet_Unrow.j0] at h, fun _ _ _ _ _ _ r h => by simp [octet_Unrow.l0] at h⟩
  | k + 1 => by
    obtain ⟨ih0, ih1⟩ := octet_Unrow.mono_l k
    refine ⟨?_, ?_⟩
    · intro y0 y1 y2 y3 y4
      unfold octet_Unrow.j0
      repeat' first
      | (with_reducible exact ih0 _ _ _ _ _)
      | (with_reducible exact ih1 _ _ _ _ _ _)
      | (with_reducible exact octet_Get.mono _ _ _ _)
      | (with_reducible exact LeO.refl _)
      | (with_reducible exact LeO.none _)
      | (with_reducible refine LeO.ite ?_ ?_)
      | (with_reducible refine LeO.bind ?_ (fun _ => ?_))
      | exact ih0 _ _ _ _ _
      | exact ih1 _ _ _ _ _ _
      | exact octet_Get.mono _ _ _ _
      | exact LeO.none _
      | refine LeO.ite ?_ ?_
      | refine LeO.bind ?_ (fun _ => ?_)
    · intro y0 y1 y2 y3 y4 y5
      unfold octet_Unrow.l0
      repeat' first
      | (with_reducible exact ih0 _ _ _ _ _)
      | (with_reducible exact ih1 _ _ _ _ _ _)
      | (with_reducible exact octet_Get.mono _ _ _ _)
      | (with_reducible exact LeO.refl _)
      | (with_reducible exact LeO.none _)
      | (with_reducible refine LeO.ite ?_ ?_)
      | (with_reducible refine LeO.bind ?_ (fun _ => ?_))
      | exact ih0 _ _ _ _ _
      | exact ih1 _ _ _ _ _ _
      | exact octet_Get.mono _ _ _ _
      | exact LeO.none _
      | refine LeO.ite ?_ ?_
      | refine LeO.bind ?_ (fun _ => ?_)
theorem octet_Unrow.mono : ∀ a0 a1 a2 a3 k, LeO (octet_Unrow.f k a0 a1 a2 a3) (octet_Unrow.f (k + 1) a0 a1 a2 a3) := by
  intro a0 a1 a2 a3 k
  obtain ⟨ih0, ih1⟩ := octet_Unrow.mono_l k
  unfold octet_Unrow.f
  repeat' first
      | (with_reducible exact ih0 _ _ _ _ _)
      | (with_reducible exact ih1 _ _ _ _ _ _)
      | (with_reducible exact octet_Get.mono _ _ _ _)
      | (with_reducible exact LeO.refl _)
      | (with_reducible exact LeO.none _)
      | (with_reducible refine LeO.ite ?_ ?_)
      | (with_reducible refine LeO.bind ?_ (fun _ => ?_))
      | exact ih0 _ _ _ _ _
      | exact ih1 _ _ _ _ _ _
      | exact octet_Get.mono _ _ _ _
      | exact LeO.none _
      | refine LeO.ite ?_ ?_
      | refine LeO.bind ?_ (fun _ => ?_)
def octet_Unrow.T15 : Bool × List (List Nat × List Nat) := (true, [([], []), ([], []), ([1], [1]), ([2], [2]), ([0, 3], [0, 3]), ([], []), ([5], [5]), ([4, 4, 0, 1, 2, 3, 4], [0, 4]), ([6, 7, 0, 1, 2, 3, 4, 5, 6, 7], [6])])
def octet_Unrow.B15 : List Nat := [0, 0, 2, 6, 15, 0, 32, 31, 255]
theorem octet_Unrow.tab15 : rtab .any (opsOf Try.f46 15) = octet_Unrow.T15 := by kernel_rfl
theorem octet_Unrow.bits15 : waitsOk octet_Unrow.T15.2 octet_Unrow.B15 = true := by kernel_rfl
set_option maxHeartbeats 8000000 in
set_option maxRecDepth 100000 in
theorem octet_Unrow.calls (k : Nat) (a0 : ByteArray) (a1 : Int) (a2 : Int) (a3 : Int) (r1 : List Int) (r2 : Int) (r3 : Int) (w : World) (h : octet_Unrow.f k a0 a1 a2 a3 = some (r1, r2, r3)) :
    Calls Try.prog 46 #[.string a0, .int .i64 a1, .int .i64 a2, .int .i64 a3] w fun e w' => ∃ v0_ : Value, e = .returned (.tuple #[.agg #[v0_, .int .i64 r2], .int .i64 r3]) ∧ Kd.R (Kd.int .i64) 3 w' w.heap.size (fun _ => True) v0_ r1 ∧ Below w.heap.size w w' := by
  have hu69 := Try.underlying69
  have hu49 := Try.underlying49
  have HB := Aside0.mk (Below.refl w.heap.size w)
  have H : ((octet_wide.f a2).bind fun t363 => (if t363 = true then ((octet_inside.f a0 a1).bind fun t364 => (if t364 = true then (octet_Unrow.j0 k a0 a1 a2 a3 (decide (a3 < 0))) else (octet_Unrow.j0 k a0 a1 a2 a3 true))) else (octet_Unrow.j0 k a0 a1 a2 a3 true))) = some (r1, r2, r3) := h
  clear h
  have HC5 := Aside0.mk H
  clear H
  go_enter Try.func46, Try.ntmps46
  go_upto_region 1 with (first | ((with_reducible refine gate_dst (N := 8) rfl ?_); refine box_event ?hg (N := 8) ?hd (cs := #[.slice none 0 0, .int .i64 0]) (t := 69) ?hr ?_; (case hd => rfl); (case hg => rfl); (case hr => first | (go_simp; done) | (go_simp; rfl)); intro gb362 hg w6 hbox hb; have n0_ := Aside0.mk (below_step (by repeat (first | (with_reducible first | exact HB.out | apply below_alloc | apply pw_below_drewN | apply below_drew1) | exact HB.out)) hb); have n1_ := Aside0.mk (hbox); have n2_ := Aside0.mk ((by rw [hg]; exact (below_size (by repeat (first | (with_reducible first | exact HB.out | apply below_alloc | apply pw_below_drewN | apply below_drew1) | exact HB.out))) : w.heap.size ≤ gb362)); have n3_ := Aside0.mk ((by rw [hg]; exact (below_size (by repeat (first | (with_reducible first | exact HB.out | apply below_alloc | apply pw_below_drewN | apply below_drew1) | exact HB.out))) : w.heap.size ≤ gb362)); clear HB; have HB := n0_; have BK362 := n1_; have GW362 := n2_; have GE362 := n3_; clear n0_ n1_ n2_ n3_; clear hb hbox hg))
  (try simp only [Act.put, List.setIfInBounds_toArray, List.set_cons_zero, List.set_cons_succ])
  go_cut [28] (fun v28 wc => ∃ (kq : Nat) (x28_4 : Bool), v28 = .bool x28_4 ∧ Aside0 (octet_Unrow.j0 kq a0 a1 a2 a3 x28_4 = some (r1, r2, r3)) ∧ Aside0 (kq ≤ k) ∧ Aside0 (wc.heap[gb362]? = some (.cells #[(.slice none 0 0), .int .i64 0] 69 (0, 0))) ∧ Aside0 (Below w.heap.size w wc))
  case first =>
    have H := HC5.out
    clear HC5
    replace H := Option.bind_eq_some_iff.mp H
    obtain ⟨t363, A70, H⟩ := H
    replace H : (if t363 = true then ((octet_inside.f a0 a1).bind fun t364 => (if t364 = true then (octet_Unrow.j0 k a0 a1 a2 a3 (decide (a3 < 0))) else (octet_Unrow.j0 k a0 a1 a2 a3 true))) else (octet_Unrow.j0 k a0 a1 a2 a3 true)) = some (r1, r2, r3) := H
    have A7 := Aside0.mk A70
    clear A70
    by_cases c8 : t363 = true
    · subst c8
      have H1 : ((octet_inside.f a0 a1).bind fun t364 => (if t364 = true then (octet_Unrow.j0 k a0 a1 a2 a3 (decide (a3 < 0))) else (octet_Unrow.j0 k a0 a1 a2 a3 true))) = some (r1, r2, r3) := by first | (rw [if_pos rfl] at H; exact H) | rfl
      clear H
      have H := H1
      clear H1
      replace H := Option.bind_eq_some_iff.mp H
      obtain ⟨t364, A90, H⟩ := H
      replace H : (if t364 = true then (octet_Unrow.j0 k a0 a1 a2 a3 (decide (a3 < 0))) else (octet_Unrow.j0 k a0 a1 a2 a3 true)) = some (r1, r2, r3) := H
      have A9 := Aside0.mk A90
      clear A90
      by_cases c10 : t364 = true
      · subst c10
        have H1 : (octet_Unrow.j0 k a0 a1 a2 a3 (decide (a3 < 0))) = some (r1, r2, r3) := by first | (rw [if_pos rfl] at H; exact H) | rfl
        clear H
        have H := H1
        clear H1
        have H' := Aside0.mk H
        clear H
        go_wp2_with (first | ((with_reducible refine gate_callee (f := 69) rfl ?_); refine goesL_ (some 17) rfl rfl Try.func69 (by kernel_rfl) rfl #[.int .i64 a2] rfl (by (try simp only [List.map_toArray, List.map_cons, List.map_nil]); first | done | rfl | (simp only [List.length_drop, List.length_take]; rfl)) ?_; (with_reducible refine (octet_wide.calls a2 true _ A7.out).mono ?_); rintro e w' ⟨rfl, ⟨nd, rfl⟩⟩; refine ⟨_, rfl, ?_⟩) | (go_at_call 71; (with_reducible refine (octet_inside.calls a0 a1 true _ A9.out).mono ?_); rintro e w' ⟨rfl, ⟨nd, rfl⟩⟩))
        go_meet
        case rel => exact ⟨_, (decide (a3 < 0)), (by first | rfl | (simp; done) | (simp [*]; done)), H', ⟨by first | omega | exact Nat.le_refl _⟩, ⟨by (with_reducible repeat (first | refine blk_drewN ?_ _ | refine blk_drew ?_ | refine blk_alloc ?_ _)); exact BK362.out⟩, ⟨by repeat (first | (with_reducible first | exact HB.out | apply below_alloc | apply pw_below_drewN | apply below_drew1 | refine below_set ?_ GE362.out) | exact HB.out)⟩⟩
      · replace c10 := Bool.eq_false_iff.mpr c10
        subst c10
        have H1 : (octet_Unrow.j0 k a0 a1 a2 a3 true) = some (r1, r2, r3) := by first | (rw [if_neg (show ¬ (false = true) by decide)] at H; exact H) | rfl
        clear H
        have H := H1
        clear H1
        have H' := Aside0.mk H
        clear H
        go_wp2_with (first | ((with_reducible refine gate_callee (f := 69) rfl ?_); refine goesL_ (some 17) rfl rfl Try.func69 (by kernel_rfl) rfl #[.int .i64 a2] rfl (by (try simp only [List.map_toArray, List.map_cons, List.map_nil]); first | done | rfl | (simp only [List.length_drop, List.length_take]; rfl)) ?_; (with_reducible refine (octet_wide.calls a2 true _ A7.out).mono ?_); rintro e w' ⟨rfl, ⟨nd, rfl⟩⟩; refine ⟨_, rfl, ?_⟩) | (go_at_call 71; (with_reducible refine (octet_inside.calls a0 a1 false _ A9.out).mono ?_); rintro e w' ⟨rfl, ⟨nd, rfl⟩⟩))
        go_meet
        case rel => exact ⟨_, (true), (by first | rfl | (simp; done) | (simp [*]; done)), H', ⟨by first | omega | exact Nat.le_refl _⟩, ⟨by (with_reducible repeat (first | refine blk_drewN ?_ _ | refine blk_drew ?_ | refine blk_alloc ?_ _)); exact BK362.out⟩, ⟨by repeat (first | (with_reducible first | exact HB.out | apply below_alloc | apply pw_below_drewN | apply below_drew1 | refine below_set ?_ GE362.out) | exact HB.out)⟩⟩
    · replace c8 := Bool.eq_false_iff.mpr c8
      subst c8
      have H1 : (octet_Unrow.j0 k a0 a1 a2 a3 true) = some (r1, r2, r3) := by first | (rw [if_neg (show ¬ (false = true) by decide)] at H; exact H) | rfl
      clear H
      have H := H1
      clear H1
      have H' := Aside0.mk H
      clear H
      go_wp2_with (first | ((with_reducible refine gate_callee (f := 69) rfl ?_); refine goesL_ (some 17) rfl rfl Try.func69 (by kernel_rfl) rfl #[.int .i64 a2] rfl (by (try simp only [List.map_toArray, List.map_cons, List.map_nil]); first | done | rfl | (simp only [List.length_drop, List.length_take]; rfl)) ?_; (with_reducible refine (octet_wide.calls a2 false _ A7.out).mono ?_); rintro e w' ⟨rfl, ⟨nd, rfl⟩⟩; refine ⟨_, rfl, ?_⟩))
      go_meet
      case rel => exact ⟨_, (true), (by first | rfl | (simp; done) | (simp [*]; done)), H', ⟨by first | omega | exact Nat.le_refl _⟩, ⟨by (with_reducible repeat (first | refine blk_drewN ?_ _ | refine blk_drew ?_ | refine blk_alloc ?_ _)); exact BK362.out⟩, ⟨by repeat (first | (with_reducible first | exact HB.out | apply below_alloc | apply pw_below_drewN | apply below_drew1 | refine below_set ?_ GE362.out) | exact HB.out)⟩⟩
  case rest =>
    clear HC5
    try clear c1
    try clear p2
    try clear c4
    try clear c6
    try clear c8
    try clear c10
    obtain ⟨kq, x28_4, rfl, HA, HJ4, BK362, HB⟩ := hcut
    cases kq with
    | zero => exact absurd HA.out (by simp [octet_Unrow.j0])
    | succ kj4 =>
      have H := HA.out
      clear HA
      simp only [octet_Unrow.j0] at H
      by_cases c11 : x28_4 = true
      · subst c11
        have H1 : ((octet_none_int_78.f 2).bind fun bt365 => (some (bt365.1, bt365.2.1, bt365.2.2))) = some (r1, r2, r3) := by first | (rw [if_pos rfl] at H; exact H) | rfl
        clear H
        have H := H1
        clear H1
        replace H := Option.bind_eq_some_iff.mp H
        obtain ⟨⟨t365, t368, t369⟩, A120, H⟩ := H
        replace H : (some (t365, t368, t369)) = some (r1, r2, r3) := H
        have A12 := Aside0.mk A120
        clear A120
        simp only [Option.some.injEq, Prod.mk.injEq] at H
        obtain ⟨rfl, rfl, rfl⟩ := H
        go_wp2_with (first | ((with_reducible refine gate_callee (f := 78) rfl ?_); refine goesL_ (some 29) rfl rfl Try.func78 (by kernel_rfl) rfl #[.int .i64 2] rfl (by (try simp only [List.map_toArray, List.map_cons, List.map_nil]); first | done | rfl | (simp only [List.length_drop, List.length_take]; rfl)) ?_; (with_reducible refine (octet_none_int_78.calls 2 t365 t368 t369 _ A12.out).mono ?_); rintro e w13 ⟨v366, rfl, ho0, hb⟩; refine ⟨_, rfl, ?_⟩; have n0_ := Aside0.mk (Kd.R_lower ho0 (below_size (by repeat (first | (with_reducible first | exact HB.out | apply below_alloc | apply pw_below_drewN | apply below_drew1 | refine below_set ?_ GE362.out) | exact HB.out)))); have n1_ := Aside0.mk (blk_below (g := gb362) (o := .cells #[.slice none 0 0, .int .i64 0] 69 (0, 0)) (by (with_reducible repeat (first | refine blk_drewN ?_ _ | refine blk_drew ?_ | refine blk_alloc ?_ _)); exact BK362.out) hb); have n2_ := Aside0.mk (below_step (by repeat (first | (with_reducible first | exact HB.out | apply below_alloc | apply pw_below_drewN | apply below_drew1 | refine below_set ?_ GE362.out) | exact HB.out)) hb); clear BK362; clear HB; have HO367 := n0_; have BK362 := n1_; have HB := n2_; clear n0_ n1_ n2_; (try clear hb); (try clear hb2); (try clear hk); (try clear hi); (try clear ho0); obtain ⟨Ao14, co14, eo14⟩ := Kd.R_slice HO367.out; subst eo14; have hcz15_0 : w13.cell? ⟨gb362, 0, none⟩ = some (.slice none 0 0) := (blk_cell BK362.out 0).trans rfl; have hcz15_1 : w13.cell? ⟨gb362, 1, none⟩ = some (.int .i64 0) := (blk_cell BK362.out 1).trans rfl; have hfz15_0 := blk_frozen BK362.out 0; have hfz15_1 := blk_frozen BK362.out 1))
        refine bodyPost_ret (results_ct rfl _ _ gb362 69 #[.slice Ao14 t365.length co14, .int .i64 t368] (0, 0) _ rfl (by (with_reducible repeat (first | refine blk_drewN ?_ _ | refine blk_drew ?_ | refine blk_alloc ?_ _)); refine blk_put (cs := #[.slice Ao14 t365.length co14, .int .i64 0]) ?_ 1 _ rfl; (with_reducible repeat (first | refine blk_drewN ?_ _ | refine blk_drew ?_ | refine blk_alloc ?_ _)); refine blk_put (cs := #[.slice none 0 0, .int .i64 0]) ?_ 0 _ rfl; (with_reducible repeat (first | refine blk_drewN ?_ _ | refine blk_drew ?_ | refine blk_alloc ?_ _)); exact BK362.out) Try.underlying69 rfl (by kernel_rfl)) rfl ?_
        exact ⟨_, by first | rfl | (simp [errW_none, errW_some] <;> rfl) | (simp [*, errW_none, errW_some] <;> rfl), by (with_reducible repeat (first | apply Kd.R_alloc | apply Kd.R_drewN | apply Kd.R_drew)); exact Kd.R_mono (Kd.R_far (p := ⟨gb362, 1, none⟩) (Kd.R_far (p := ⟨gb362, 0, none⟩) (Kd.R_types HO367.out BK362.out (by decide)) (fun _ hk => hk.2) (.slice Ao14 t365.length co14)) (fun _ hk => hk.2) (.int .i64 t368)) (fun _ hk => trivial), by repeat (first | (with_reducible first | exact HB.out | apply below_alloc | apply pw_below_drewN | apply below_drew1 | refine below_set ?_ GE362.out) | exact HB.out)⟩
      · replace c11 := Bool.eq_false_iff.mpr c11
        subst c11
        have H1 : ((octet_Get.f kj4 a0 a1 2).bind fun bt370 => (if bt370.2.2 = 0 then (if bt370.1 > (mn a3 1000) then ((octet_none_int_78.f 3).bind fun bt379 => (some (bt379.1, bt379.2.1, bt379.2.2))) else (octet_Unrow.l0 kj4 a0 a2 ([] : List Int) bt370.2.1 bt370.1 0)) else ((octet_none_int_78.f bt370.2.2).bind fun bt374 => (some (bt374.1, bt374.2.1, bt374.2.2))))) = some (r1, r2, r3) := by first | (rw [if_neg (show ¬ (false = true) by decide)] at H; exact H) | rfl
        clear H
        have H := H1
        clear H1
        replace H := Option.bind_eq_some_iff.mp H
        obtain ⟨⟨t370, t371, t372⟩, A160, H⟩ := H
        replace H : (if t372 = 0 then (if t370 > (mn a3 1000) then ((octet_none_int_78.f 3).bind fun bt379 => (some (bt379.1, bt379.2.1, bt379.2.2))) else (octet_Unrow.l0 kj4 a0 a2 ([] : List Int) t371 t370 0)) else ((octet_none_int_78.f t372).bind fun bt374 => (some (bt374.1, bt374.2.1, bt374.2.2)))) = some (r1, r2, r3) := H
        have A16 := Aside0.mk A160
        clear A160
        by_cases c17 : t372 = 0
        · rw [if_pos c17] at H
          have c17b0 : (t372 == 0) = true := beq_iff_eq.mpr c17
          have c17b1 : (t372 != 0) = false := bne_eq_false_iff_eq.mpr c17
          clear c17
          obtain ⟨ji18, hji18⟩ : ∃ j_ : Int, (mn a3 1000) = j_ := ⟨_, rfl⟩
          replace H : (if t370 > (ji18) then ((octet_none_int_78.f 3).bind fun bt379 => (some (bt379.1, bt379.2.1, bt379.2.2))) else (octet_Unrow.l0 kj4 a0 a2 ([] : List Int) t371 t370 0)) = some (r1, r2, r3) := by first | (rw [hji18] at H; exact H) | (simp only [hji18] at H ⊢; exact H)
          (try rw [hji18] at A16)
          have hji18_ : (if 1000 < a3 then 1000 else a3) = ji18 := hji18
          by_cases c19 : t370 > (ji18)
          · rw [if_pos c19] at H
            have c19b0 : decide ((ji18) < t370) = true := decide_eq_true c19
            clear c19
            replace H := Option.bind_eq_some_iff.mp H
            obtain ⟨⟨t379, t382, t383⟩, A200, H⟩ := H
            replace H : (some (t379, t382, t383)) = some (r1, r2, r3) := H
            have A20 := Aside0.mk A200
            clear A200
            simp only [Option.some.injEq, Prod.mk.injEq] at H
            obtain ⟨rfl, rfl, rfl⟩ := H
            go_wp2_with (first | ((with_reducible refine gate_callee (f := 37) rfl ?_); refine goesL_ (some 35) rfl rfl Try.func37 (by kernel_rfl) rfl #[.string a0, .int .i64 a1, .int .i64 2] rfl (by (try simp only [List.map_toArray, List.map_cons, List.map_nil]); first | done | rfl | (simp only [List.length_drop, List.length_take]; rfl)) ?_; (with_reducible refine (octet_Get.calls kj4 a0 a1 2 t370 t371 t372 _ A16.out).mono ?_); rintro e w21 ⟨rfl, hb⟩; refine ⟨_, rfl, ?_⟩; have n0_ := Aside0.mk (blk_below (g := gb362) (o := .cells #[.slice none 0 0, .int .i64 0] 69 (0, 0)) (by (with_reducible repeat (first | refine blk_drewN ?_ _ | refine blk_drew ?_ | refine blk_alloc ?_ _)); exact BK362.out) hb); have n1_ := Aside0.mk (below_step (by repeat (first | (with_reducible first | exact HB.out | apply below_alloc | apply pw_below_drewN | apply below_drew1 | refine below_set ?_ GE362.out) | exact HB.out)) hb); clear BK362; clear HB; have BK362 := n0_; have HB := n1_; clear n0_ n1_; (try clear hb); (try clear hb2); (try clear hk); (try clear hi)) | ((with_reducible refine gate_dst (N := 10) rfl ?_); refine box_event ?hg (N := 10) ?hd (cs := #[.int .i64 0, .int .i64 0]) (t := 49) ?hr ?_; (case hd => rfl); (case hg => rfl); (case hr => first | (go_simp; done) | (go_simp; rfl)); intro gb373 hg w22 hbox hb; have n0_ := Aside0.mk (blk_below (g := gb362) (o := .cells #[.slice none 0 0, .int .i64 0] 69 (0, 0)) (by (with_reducible repeat (first | refine blk_drewN ?_ _ | refine blk_drew ?_ | refine blk_alloc ?_ _)); exact BK362.out) hb); have n1_ := Aside0.mk (below_step (by repeat (first | (with_reducible first | exact HB.out | apply below_alloc | apply pw_below_drewN | apply below_drew1 | refine below_set ?_ GE362.out) | exact HB.out)) hb); have n2_ := Aside0.mk (hbox); have n3_ := Aside0.mk ((by rw [hg]; exact (below_size (by repeat (first | (with_reducible first | exact HB.out | apply below_alloc | apply pw_below_drewN | apply below_drew1 | refine below_set ?_ GE362.out) | exact HB.out))) : w.heap.size ≤ gb373)); have n4_ := Aside0.mk ((by rw [hg]; exact (below_size (by repeat (first | (with_reducible first | exact HB.out | apply below_alloc | apply pw_below_drewN | apply below_drew1 | refine below_set ?_ GE362.out) | exact HB.out))) : w.heap.size ≤ gb373)); have n5_ := Aside0.mk ((by rw [hg]; exact Nat.ne_of_lt (blk_lt (g := gb362) (o := .cells #[.slice none 0 0, .int .i64 0] 69 (0, 0)) (by (with_reducible repeat (first | refine blk_drewN ?_ _ | refine blk_drew ?_ | refine blk_alloc ?_ _)); exact BK362.out)) : gb362 ≠ gb373)); have n6_ := Aside0.mk ((by rw [hg]; exact Nat.ne_of_gt (blk_lt (g := gb362) (o := .cells #[.slice none 0 0, .int .i64 0] 69 (0, 0)) (by (with_reducible repeat (first | refine blk_drewN ?_ _ | refine blk_drew ?_ | refine blk_alloc ?_ _)); exact BK362.out)) : gb373 ≠ gb362)); clear BK362; clear HB; have BK362 := n0_; have HB := n1_; have BK373 := n2_; have GW373 := n3_; have GE373 := n4_; have NB362_373 := n5_; have NB373_362 := n6_; clear n0_ n1_ n2_ n3_ n4_ n5_ n6_; clear hb hbox hg; have hnb23 := NB373_362.out; have hnc23 := NB362_373.out; have hcz24_0 : w22.cell? ⟨gb373, 0, none⟩ = some (.int .i64 0) := (blk_cell BK373.out 0).trans rfl; have hcz24_1 : w22.cell? ⟨gb373, 1, none⟩ = some (.int .i64 0) := (blk_cell BK373.out 1).trans rfl; have hfz24_0 := blk_frozen BK373.out 0; have hfz24_1 := blk_frozen BK373.out 1) | ((with_reducible refine gate_callee (f := 78) rfl ?_); refine goesL_ (some 49) rfl rfl Try.func78 (by kernel_rfl) rfl #[.int .i64 3] rfl (by (try simp only [List.map_toArray, List.map_cons, List.map_nil]); first | done | rfl | (simp only [List.length_drop, List.length_take]; rfl)) ?_; (with_reducible refine (octet_none_int_78.calls 3 t379 t382 t383 _ A20.out).mono ?_); rintro e w25 ⟨v380, rfl, ho0, hb⟩; refine ⟨_, rfl, ?_⟩; have n0_ := Aside0.mk (Kd.R_lower ho0 (below_size (by repeat (first | (with_reducible first | exact HB.out | apply below_alloc | apply pw_below_drewN | apply below_drew1 | refine below_set ?_ GE362.out | refine below_set ?_ GE373.out) | exact HB.out)))); have n1_ := Aside0.mk (blk_below (g := gb362) (o := .cells #[.slice none 0 0, .int .i64 0] 69 (0, 0)) (by (with_reducible repeat (first | refine blk_drewN ?_ _ | refine blk_drew ?_ | refine blk_alloc ?_ _)); refine blk_far ?_ NB362_373.out _; (with_reducible repeat (first | refine blk_drewN ?_ _ | refine blk_drew ?_ | refine blk_alloc ?_ _)); refine blk_far ?_ NB362_373.out _; (with_reducible repeat (first | refine blk_drewN ?_ _ | refine blk_drew ?_ | refine blk_alloc ?_ _)); exact BK362.out) hb); have n2_ := Aside0.mk (blk_below (g := gb373) (o := .cells #[.int .i64 t370, .int .i64 t371] 49 (0, 0)) (by (with_reducible repeat (first | refine blk_drewN ?_ _ | refine blk_drew ?_ | refine blk_alloc ?_ _)); refine blk_put (cs := #[.int .i64 t370, .int .i64 0]) ?_ 1 _ rfl; (with_reducible repeat (first | refine blk_drewN ?_ _ | refine blk_drew ?_ | refine blk_alloc ?_ _)); refine blk_put (cs := #[.int .i64 0, .int .i64 0]) ?_ 0 _ rfl; (with_reducible repeat (first | refine blk_drewN ?_ _ | refine blk_drew ?_ | refine blk_alloc ?_ _)); exact BK373.out) hb); have n3_ := Aside0.mk (below_step (by repeat (first | (with_reducible first | exact HB.out | apply below_alloc | apply pw_below_drewN | apply below_drew1 | refine below_set ?_ GE362.out | refine below_set ?_ GE373.out) | exact HB.out)) hb); clear BK362; clear BK373; clear HB; have HO381 := n0_; have BK362 := n1_; have BK373 := n2_; have HB := n3_; clear n0_ n1_ n2_ n3_; (try clear hb); (try clear hb2); (try clear hk); (try clear hi); (try clear ho0); obtain ⟨Ao26, co26, eo26⟩ := Kd.R_slice HO381.out; subst eo26; have hcz27_0 : w25.cell? ⟨gb362, 0, none⟩ = some (.slice none 0 0) := (blk_cell BK362.out 0).trans rfl; have hcz27_1 : w25.cell? ⟨gb362, 1, none⟩ = some (.int .i64 0) := (blk_cell BK362.out 1).trans rfl; have hfz27_0 := blk_frozen BK362.out 0; have hfz27_1 := blk_frozen BK362.out 1))
            refine bodyPost_ret (results_ct rfl _ _ gb362 69 #[.slice Ao26 t379.length co26, .int .i64 t382] (0, 0) _ rfl (by (with_reducible repeat (first | refine blk_drewN ?_ _ | refine blk_drew ?_ | refine blk_alloc ?_ _)); refine blk_put (cs := #[.slice Ao26 t379.length co26, .int .i64 0]) ?_ 1 _ rfl; (with_reducible repeat (first | refine blk_drewN ?_ _ | refine blk_drew ?_ | refine blk_alloc ?_ _)); refine blk_put (cs := #[.slice none 0 0, .int .i64 0]) ?_ 0 _ rfl; (with_reducible repeat (first | refine blk_drewN ?_ _ | refine blk_drew ?_ | refine blk_alloc ?_ _)); exact BK362.out) Try.underlying69 rfl (by kernel_rfl)) rfl ?_
            exact ⟨_, by first | rfl | (simp [errW_none, errW_some] <;> rfl) | (simp only [← hji18]; first | rfl | (simp [errW_none, errW_some] <;> rfl)) | (simp [*, errW_none, errW_some] <;> rfl), by (with_reducible repeat (first | apply Kd.R_alloc | apply Kd.R_drewN | apply Kd.R_drew)); exact Kd.R_mono (Kd.R_far (p := ⟨gb362, 1, none⟩) (Kd.R_far (p := ⟨gb362, 0, none⟩) (Kd.R_types HO381.out BK362.out (by decide)) (fun _ hk => hk.2) (.slice Ao26 t379.length co26)) (fun _ hk => hk.2) (.int .i64 t382)) (fun _ hk => trivial), by repeat (first | (with_reducible first | exact HB.out | apply below_alloc | apply pw_below_drewN | apply below_drew1 | refine below_set ?_ GE362.out | refine below_set ?_ GE373.out) | exact HB.out)⟩
          · rw [if_neg c19] at H
            have c19b0 : decide ((ji18) < t370) = false := decide_eq_false c19
            clear c19
            have H' := Aside0.mk H
            clear H
            go_wp2_with (first | ((with_reducible refine gate_callee (f := 37) rfl ?_); refine goesL_ (some 35) rfl rfl Try.func37 (by kernel_rfl) rfl #[.string a0, .int .i64 a1, .int .i64 2] rfl (by (try simp only [List.map_toArray, List.map_cons, List.map_nil]); first | done | rfl | (simp only [List.length_drop, List.length_take]; rfl)) ?_; (with_reducible refine (octet_Get.calls kj4 a0 a1 2 t370 t371 t372 _ A16.out).mono ?_); rintro e w28 ⟨rfl, hb⟩; refine ⟨_, rfl, ?_⟩; have n0_ := Aside0.mk (blk_below (g := gb362) (o := .cells #[.slice none 0 0, .int .i64 0] 69 (0, 0)) (by (with_reducible repeat (first | refine blk_drewN ?_ _ | refine blk_drew ?_ | refine blk_alloc ?_ _)); exact BK362.out) hb); have n1_ := Aside0.mk (below_step (by repeat (first | (with_reducible first | exact HB.out | apply below_alloc | apply pw_below_drewN | apply below_drew1 | refine below_set ?_ GE362.out) | exact HB.out)) hb); clear BK362; clear HB; have BK362 := n0_; have HB := n1_; clear n0_ n1_; (try clear hb); (try clear hb2); (try clear hk); (try clear hi)) | ((with_reducible refine gate_dst (N := 10) rfl ?_); refine box_event ?hg (N := 10) ?hd (cs := #[.int .i64 0, .int .i64 0]) (t := 49) ?hr ?_; (case hd => rfl); (case hg => rfl); (case hr => first | (go_simp; done) | (go_simp; rfl)); intro gb373 hg w29 hbox hb; have n0_ := Aside0.mk (blk_below (g := gb362) (o := .cells #[.slice none 0 0, .int .i64 0] 69 (0, 0)) (by (with_reducible repeat (first | refine blk_drewN ?_ _ | refine blk_drew ?_ | refine blk_alloc ?_ _)); exact BK362.out) hb); have n1_ := Aside0.mk (below_step (by repeat (first | (with_reducible first | exact HB.out | apply below_alloc | apply pw_below_drewN | apply below_drew1 | refine below_set ?_ GE362.out) | exact HB.out)) hb); have n2_ := Aside0.mk (hbox); have n3_ := Aside0.mk ((by rw [hg]; exact (below_size (by repeat (first | (with_reducible first | exact HB.out | apply below_alloc | apply pw_below_drewN | apply below_drew1 | refine below_set ?_ GE362.out) | exact HB.out))) : w.heap.size ≤ gb373)); have n4_ := Aside0.mk ((by rw [hg]; exact (below_size (by repeat (first | (with_reducible first | exact HB.out | apply below_alloc | apply pw_below_drewN | apply below_drew1 | refine below_set ?_ GE362.out) | exact HB.out))) : w.heap.size ≤ gb373)); have n5_ := Aside0.mk ((by rw [hg]; exact Nat.ne_of_lt (blk_lt (g := gb362) (o := .cells #[.slice none 0 0, .int .i64 0] 69 (0, 0)) (by (with_reducible repeat (first | refine blk_drewN ?_ _ | refine blk_drew ?_ | refine blk_alloc ?_ _)); exact BK362.out)) : gb362 ≠ gb373)); have n6_ := Aside0.mk ((by rw [hg]; exact Nat.ne_of_gt (blk_lt (g := gb362) (o := .cells #[.slice none 0 0, .int .i64 0] 69 (0, 0)) (by (with_reducible repeat (first | refine blk_drewN ?_ _ | refine blk_drew ?_ | refine blk_alloc ?_ _)); exact BK362.out)) : gb373 ≠ gb362)); clear BK362; clear HB; have BK362 := n0_; have HB := n1_; have BK373 := n2_; have GW373 := n3_; have GE373 := n4_; have NB362_373 := n5_; have NB373_362 := n6_; clear n0_ n1_ n2_ n3_ n4_ n5_ n6_; clear hb hbox hg; have hnb30 := NB373_362.out; have hnc30 := NB362_373.out; have hcz31_0 : w29.cell? ⟨gb373, 0, none⟩ = some (.int .i64 0) := (blk_cell BK373.out 0).trans rfl; have hcz31_1 : w29.cell? ⟨gb373, 1, none⟩ = some (.int .i64 0) := (blk_cell BK373.out 1).trans rfl; have hfz31_0 := blk_frozen BK373.out 0; have hfz31_1 := blk_frozen BK373.out 1))
            go_loopg [12, 13, 56] kj4 (fun kq v12 v13 v56 w' => ∃ (x12_2 : List Int) (x13_2 : Int) (x56_2 : Int) (x363001_2 : Int), v13 = .int .i64 x13_2 ∧ v56 = .int .i64 x56_2 ∧ Aside0 (octet_Unrow.l0 kq a0 a2 x12_2 x13_2 t370 x56_2 = some (r1, r2, r3)) ∧ Aside0 (kq ≤ kj4) ∧ Aside0 (Kd.R (Kd.int .i64) 3 w' w.heap.size (fun _ => True) v12 x12_2) ∧ Aside0 (w'.heap[gb362]? = some (.cells #[(.slice none 0 0), .int .i64 x363001_2] 69 (0, 0))) ∧ Aside0 (w'.heap[gb373]? = some (.cells #[.int .i64 t370, .int .i64 t371] 49 (0, 0))) ∧ Aside0 (Below w.heap.size w w'))
            case atStart => exact ⟨(([] : List Int)), (t371), (0), (0), (by first | rfl | (simp; done) | (simp [*]; done)), (by first | rfl | (simp; done) | (simp [*]; done)), H', ⟨Nat.le_refl _⟩, ⟨by first | exact Kd.R_nil _ _ _ _ _ | exact Kd.N_nil _ _ _ _ _ | exact Kd.V_nil _ _ _ _ _ | exact Kd.Q_nil _ _ _ _ _ | exact Kd.S_nil _ _ _ _ _⟩, ⟨by (with_reducible repeat (first | refine blk_drewN ?_ _ | refine blk_drew ?_ | refine blk_alloc ?_ _)); refine blk_far ?_ NB362_373.out _; (with_reducible repeat (first | refine blk_drewN ?_ _ | refine blk_drew ?_ | refine blk_alloc ?_ _)); refine blk_far ?_ NB362_373.out _; (with_reducible repeat (first | refine blk_drewN ?_ _ | refine blk_drew ?_ | refine blk_alloc ?_ _)); exact BK362.out⟩, ⟨by (with_reducible repeat (first | refine blk_drewN ?_ _ | refine blk_drew ?_ | refine blk_alloc ?_ _)); refine blk_put (cs := #[.int .i64 t370, .int .i64 0]) ?_ 1 _ rfl; (with_reducible repeat (first | refine blk_drewN ?_ _ | refine blk_drew ?_ | refine blk_alloc ?_ _)); refine blk_put (cs := #[.int .i64 0, .int .i64 0]) ?_ 0 _ rfl; (with_reducible repeat (first | refine blk_drewN ?_ _ | refine blk_drew ?_ | refine blk_alloc ?_ _)); exact BK373.out⟩, ⟨by repeat (first | (with_reducible first | exact HB.out | apply below_alloc | apply pw_below_drewN | apply below_drew1 | refine below_set ?_ GE362.out | refine below_set ?_ GE373.out) | exact HB.out)⟩⟩
            case round =>
              clear H'
              try clear c1
              try clear c2
              try clear p2
              try clear c3
              try clear c4
              try clear c6
              try clear c7
              try clear c8
              try clear c10
              try clear c11
              try clear c17
              try clear c17b0
              try clear c17b1
              try clear c19
              try clear c19b0
              try clear c23
              try clear c30
              try clear hcz15_0
              try clear hcz15_1
              try clear hcz24_0
              try clear hcz24_1
              try clear hcz27_0
              try clear hcz27_1
              try clear hcz31_0
              try clear hcz31_1
              try clear hfz15_0
              try clear hfz15_1
              try clear hfz24_0
              try clear hfz24_1
              try clear hfz27_0
              try clear hfz27_1
              try clear hfz31_0
              try clear hfz31_1
              try clear p2
              obtain ⟨x12_2, x13_2, x56_2, x363001_2, rfl, rfl, HA, HK2, HO_12, BK362, BK373, HB⟩ := hrel
              cases gk with
              | zero => exact absurd HA.out (by simp [octet_Unrow.l0])
              | succ k2 =>
                have H := HA.out
                clear HA
                simp only [octet_Unrow.l0] at H
                by_cases c32 : x56_2 < t370
                · rw [if_pos c32] at H
                  have c32b0 : decide (x56_2 < t370) = true := decide_eq_true c32
                  clear c32
                  replace H := Option.bind_eq_some_iff.mp H
                  obtain ⟨⟨t389, t390, t391⟩, A330, H⟩ := H
                  replace H : (if t391 = 0 then (if x12_2.length < 17592186044416 then (octet_Unrow.l0 k2 a0 a2 (x12_2 ++ [t389]) t390 t370 (wrap64 (x56_2 + 1))) else (none)) else ((octet_none_int_78.f t391).bind fun bt396 => (some (bt396.1, bt396.2.1, bt396.2.2)))) = some (r1, r2, r3) := H
                  have A33 := Aside0.mk A330
                  clear A330
                  by_cases c34 : t391 = 0
                  · rw [if_pos c34] at H
                    have c34b0 : (t391 == 0) = true := beq_iff_eq.mpr c34
                    have c34b1 : (t391 != 0) = false := bne_eq_false_iff_eq.mpr c34
                    clear c34
                    by_cases c35 : x12_2.length < 17592186044416
                    · rw [if_pos c35] at H
                      have LMc35 := Aside0.mk c35
                      clear c35
                      obtain ⟨y393, hy393⟩ : ∃ y_ : List Int, y_ = (x12_2 ++ [t389]) := ⟨_, rfl⟩
                      replace H : (octet_Unrow.l0 k2 a0 a2 y393 t390 t370 (wrap64 (x56_2 + 1))) = some (r1, r2, r3) := by first | (rw [hy393]; with_reducible exact H) | (have H2_ := (Option.bind_some _ _).symm.trans H; rw [hy393]; with_reducible exact H2_) | (have H2_ := (Option.bind_some _ _).symm.trans H; with_reducible exact H2_) | with_reducible exact H | (rw [hy393]; exact H) | exact H
                      have Ny393 := Aside0.mk hy393
                      clear hy393
                      have H' := Aside0.mk H
                      clear H
                      try go_wp2_with (first | ((with_reducible refine gate_callee (f := 37) rfl ?_); refine goesL_ (some 62) rfl rfl Try.func37 (by kernel_rfl) rfl #[.string a0, .int .i64 x13_2, .int .i64 a2] rfl (by (try simp only [List.map_toArray, List.map_cons, List.map_nil]); first | done | rfl | (simp only [List.length_drop, List.length_take]; rfl)) ?_; (with_reducible refine (octet_Get.calls k2 a0 x13_2 a2 t389 t390 t391 _ A33.out).mono ?_); rintro e w36 ⟨rfl, hb⟩; refine ⟨_, rfl, ?_⟩; have n0_ := Aside0.mk (Kd.R_below (by (with_reducible repeat (first | apply Kd.R_alloc | apply Kd.R_drewN | apply Kd.R_drew)); exact HO_12.out) hb); have n1_ := Aside0.mk (blk_below (g := gb362) (o := .cells #[.slice none 0 0, .int .i64 x363001_2] 69 (0, 0)) (by (with_reducible repeat (first | refine blk_drewN ?_ _ | refine blk_drew ?_ | refine blk_alloc ?_ _)); exact BK362.out) hb); have n2_ := Aside0.mk (blk_below (g := gb373) (o := .cells #[.int .i64 t370, .int .i64 t371] 49 (0, 0)) (by (with_reducible repeat (first | refine blk_drewN ?_ _ | refine blk_drew ?_ | refine blk_alloc ?_ _)); exact BK373.out) hb); have n3_ := Aside0.mk (below_step (by repeat (first | (with_reducible first | exact HB.out | apply below_alloc | apply pw_below_drewN | apply below_drew1 | refine below_set ?_ GE362.out | refine below_set ?_ GE373.out) | exact HB.out)) hb); clear HO_12; clear BK362; clear BK373; clear HB; have HO_12 := n0_; have BK362 := n1_; have BK373 := n2_; have HB := n3_; clear n0_ n1_ n2_ n3_; (try clear hb); (try clear hb2); (try clear hk); (try clear hi)) | ((with_reducible refine gate_dst (N := 14) rfl ?_); refine box_event ?hg (N := 14) ?hd (cs := #[.int .i64 0, .int .i64 0]) (t := 49) ?hr ?_; (case hd => rfl); (case hg => rfl); (case hr => first | (go_simp; done) | (go_simp; rfl)); intro gb392 hg w37 hbox hb; have n0_ := Aside0.mk (Kd.R_below (by (with_reducible repeat (first | apply Kd.R_alloc | apply Kd.R_drewN | apply Kd.R_drew)); exact HO_12.out) hb); have n1_ := Aside0.mk (blk_below (g := gb362) (o := .cells #[.slice none 0 0, .int .i64 x363001_2] 69 (0, 0)) (by (with_reducible repeat (first | refine blk_drewN ?_ _ | refine blk_drew ?_ | refine blk_alloc ?_ _)); exact BK362.out) hb); have n2_ := Aside0.mk (blk_below (g := gb373) (o := .cells #[.int .i64 t370, .int .i64 t371] 49 (0, 0)) (by (with_reducible repeat (first | refine blk_drewN ?_ _ | refine blk_drew ?_ | refine blk_alloc ?_ _)); exact BK373.out) hb); have n3_ := Aside0.mk (below_step (by repeat (first | (with_reducible first | exact HB.out | apply below_alloc | apply pw_below_drewN | apply below_drew1 | refine below_set ?_ GE362.out | refine below_set ?_ GE373.out) | exact HB.out)) hb); have n4_ := Aside0.mk (hbox); have n5_ := Aside0.mk ((by rw [hg]; exact (below_size (by repeat (first | (with_reducible first | exact HB.out | apply below_alloc | apply pw_below_drewN | apply below_drew1 | refine below_set ?_ GE362.out | refine below_set ?_ GE373.out) | exact HB.out))) : w.heap.size ≤ gb392)); have n6_ := Aside0.mk ((by rw [hg]; exact (below_size (by repeat (first | (with_reducible first | exact HB.out | apply below_alloc | apply pw_below_drewN | apply below_drew1 | refine below_set ?_ GE362.out | refine below_set ?_ GE373.out) | exact HB.out))) : w.heap.size ≤ gb392)); have n7_ := Aside0.mk ((by rw [hg]; exact Nat.ne_of_lt (blk_lt (g := gb362) (o := .cells #[.slice none 0 0, .int .i64 x363001_2] 69 (0, 0)) (by (with_reducible repeat (first | refine blk_drewN ?_ _ | refine blk_drew ?_ | refine blk_alloc ?_ _)); exact BK362.out)) : gb362 ≠ gb392)); have n8_ := Aside0.mk ((by rw [hg]; exact Nat.ne_of_gt (blk_lt (g := gb362) (o := .cells #[.slice none 0 0, .int .i64 x363001_2] 69 (0, 0)) (by (with_reducible repeat (first | refine blk_drewN ?_ _ | refine blk_drew ?_ | refine blk_alloc ?_ _)); exact BK362.out)) : gb392 ≠ gb362)); have n9_ := Aside0.mk ((by rw [hg]; exact Nat.ne_of_lt (blk_lt (g := gb373) (o := .cells #[.int .i64 t370, .int .i64 t371] 49 (0, 0)) (by (with_reducible repeat (first | refine blk_drewN ?_ _ | refine blk_drew ?_ | refine blk_alloc ?_ _)); exact BK373.out)) : gb373 ≠ gb392)); have n10_ := Aside0.mk ((by rw [hg]; exact Nat.ne_of_gt (blk_lt (g := gb373) (o := .cells #[.int .i64 t370, .int .i64 t371] 49 (0, 0)) (by (with_reducible repeat (first | refine blk_drewN ?_ _ | refine blk_drew ?_ | refine blk_alloc ?_ _)); exact BK373.out)) : gb392 ≠ gb373)); clear HO_12; clear BK362; clear BK373; clear HB; have HO_12 := n0_; have BK362 := n1_; have BK373 := n2_; have HB := n3_; have BK392 := n4_; have GW392 := n5_; have GE392 := n6_; have NB362_392 := n7_; have NB392_362 := n8_; have NB373_392 := n9_; have NB392_373 := n10_; clear n0_ n1_ n2_ n3_ n4_ n5_ n6_ n7_ n8_ n9_ n10_; clear hb hbox hg; have hnb38 := NB392_362.out; have hnc38 := NB362_392.out; have hnb39 := NB392_373.out; have hnc39 := NB373_392.out; have hcz40_0 : w37.cell? ⟨gb392, 0, none⟩ = some (.int .i64 0) := (blk_cell BK392.out 0).trans rfl; have hcz40_1 : w37.cell? ⟨gb392, 1, none⟩ = some (.int .i64 0) := (blk_cell BK392.out 1).trans rfl; have hfz40_0 := blk_frozen BK392.out 0; have hfz40_1 := blk_frozen BK392.out 1))
                      have n0_ : Aside0 (Kd.R (Kd.int .i64) 3 ((w37.setCell ⟨gb392, 0, none⟩ (.int .i64 t389)).setCell ⟨gb392, 1, none⟩ (.int .i64 t390)) w.heap.size (fun _ => True) u12 x12_2) := ⟨by (with_reducible repeat (first | apply Kd.R_alloc | apply Kd.R_drewN | apply Kd.R_drew)); exact Kd.R_mono (Kd.R_far (p := ⟨gb392, 1, none⟩) (Kd.R_far (p := ⟨gb392, 0, none⟩) (Kd.R_types HO_12.out BK392.out (by decide)) (fun _ hk => hk.2) (.int .i64 t389)) (fun _ hk => hk.2) (.int .i64 t390)) (fun _ hk => trivial)⟩
                      have n1_ : Aside0 (((w37.setCell ⟨gb392, 0, none⟩ (.int .i64 t389)).setCell ⟨gb392, 1, none⟩ (.int .i64 t390)).heap[gb362]? = some (.cells #[.slice none 0 0, .int .i64 x363001_2] 69 (0, 0))) := ⟨by (with_reducible repeat (first | refine blk_drewN ?_ _ | refine blk_drew ?_ | refine blk_alloc ?_ _)); refine blk_far ?_ NB362_392.out _; (with_reducible repeat (first | refine blk_drewN ?_ _ | refine blk_drew ?_ | refine blk_alloc ?_ _)); refine blk_far ?_ NB362_392.out _; (with_reducible repeat (first | refine blk_drewN ?_ _ | refine blk_drew ?_ | refine blk_alloc ?_ _)); exact BK362.out⟩
                      have n2_ : Aside0 (((w37.setCell ⟨gb392, 0, none⟩ (.int .i64 t389)).setCell ⟨gb392, 1, none⟩ (.int .i64 t390)).heap[gb373]? = some (.cells #[.int .i64 t370, .int .i64 t371] 49 (0, 0))) := ⟨by (with_reducible repeat (first | refine blk_drewN ?_ _ | refine blk_drew ?_ | refine blk_alloc ?_ _)); refine blk_far ?_ NB373_392.out _; (with_reducible repeat (first | refine blk_drewN ?_ _ | refine blk_drew ?_ | refine blk_alloc ?_ _)); refine blk_far ?_ NB373_392.out _; (with_reducible repeat (first | refine blk_drewN ?_ _ | refine blk_drew ?_ | refine blk_alloc ?_ _)); exact BK373.out⟩
                      have n3_ : Aside0 (((w37.setCell ⟨gb392, 0, none⟩ (.int .i64 t389)).setCell ⟨gb392, 1, none⟩ (.int .i64 t390)).heap[gb392]? = some (.cells #[.int .i64 t389, .int .i64 t390] 49 (0, 0))) := ⟨by (with_reducible repeat (first | refine blk_drewN ?_ _ | refine blk_drew ?_ | refine blk_alloc ?_ _)); refine blk_put (cs := #[.int .i64 t389, .int .i64 0]) ?_ 1 _ rfl; (with_reducible repeat (first | refine blk_drewN ?_ _ | refine blk_drew ?_ | refine blk_alloc ?_ _)); refine blk_put (cs := #[.int .i64 0, .int .i64 0]) ?_ 0 _ rfl; (with_reducible repeat (first | refine blk_drewN ?_ _ | refine blk_drew ?_ | refine blk_alloc ?_ _)); exact BK392.out⟩
                      have n4_ : Aside0 (Below w.heap.size w ((w37.setCell ⟨gb392, 0, none⟩ (.int .i64 t389)).setCell ⟨gb392, 1, none⟩ (.int .i64 t390))) := ⟨by repeat (first | (with_reducible first | exact HB.out | apply below_alloc | apply pw_below_drewN | apply below_drew1 | refine below_set ?_ GE362.out | refine below_set ?_ GE373.out | refine below_set ?_ GE392.out) | exact HB.out)⟩
                      (try clear HO_12)
                      (try clear BK362)
                      (try clear BK373)
                      (try clear BK392)
                      (try clear HB)
                      generalize ((w37.setCell ⟨gb392, 0, none⟩ (.int .i64 t389)).setCell ⟨gb392, 1, none⟩ (.int .i64 t390)) = w41 at n0_ n1_ n2_ n3_ n4_ ⊢
                      have HO_12 := n0_
                      have BK362 := n1_
                      have BK373 := n2_
                      have BK392 := n3_
                      have HB := n4_
                      clear n0_ n1_ n2_ n3_ n4_
                      have n0_ := Aside0.mk (Kd.R_drew HO_12.out)
                      have n1_ := Aside0.mk (blk_drew BK362.out)
                      have n2_ := Aside0.mk (blk_drew BK373.out)
                      have n3_ := Aside0.mk (blk_drew BK392.out)
                      have n4_ := Aside0.mk (below_drew1 HB.out)
                      clear HO_12
                      clear BK362
                      clear BK373
                      clear BK392
                      clear HB
                      have HO_12 := n0_
                      have BK362 := n1_
                      have BK373 := n2_
                      have BK392 := n3_
                      have HB := n4_
                      clear n0_ n1_ n2_ n3_ n4_
                      refine start_ (n := 9) (S := fun w' => w'.cell? ⟨gb392, 0, none⟩ = some (.int .i64 t389) ∧ w'.cell? ⟨gb392, 1, none⟩ = some (.int .i64 t390)) (ds := []) #[false, false, false, false, false, false, false, false, false] (by kernel_rfl) rfl rfl ⟨(blk_cell BK392.out 0).trans rfl, (blk_cell BK392.out 1).trans rfl⟩ (fun hHeld => ?_); refine with_tabW octet_Unrow.tab15 octet_Unrow.bits15 (fun HT_ HW_ => ?_)
                      generalize w41.drew = w42 at HO_12 BK362 BK373 BK392 HB hHeld ⊢
                      refine pure_ (i := 0) (N := some 71) (v := ?_) (a' := ?_) #[true, false, false, false, false, false, false, false, false] rfl rfl (any_of HT_.out (by kernel_rfl)) (fun _ _ _ h => h) (Or.inl ⟨by rfl, ?_⟩) ?_ ?_
                      rotate_left
                      · intro w'
                        go_simp
                        with_reducible rfl
                      rotate_left
                      · simp only [Act.put, List.setIfInBounds_toArray, List.set_cons_zero, List.set_cons_succ, i64_w, i32_w]
                        rfl
                      refine pure_ (i := 1) (N := some 72) (v := ?_) (a' := ?_) #[true, true, false, false, false, false, false, false, false] rfl rfl (any_of HT_.out (by kernel_rfl)) (fun _ _ _ h => h) (Or.inl ⟨by rfl, ?_⟩) ?_ ?_
                      rotate_left
                      · intro w'
                        go_simp
                        with_reducible rfl
                      rotate_left
                      · simp only [Act.put, List.setIfInBounds_toArray, List.set_cons_zero, List.set_cons_succ, i64_w, i32_w]
                        rfl
                      refine pure_ (i := 5) (N := some 76) (v := ?_) (a' := ?_) #[true, true, false, false, false, true, false, false, false] rfl rfl (any_of HT_.out (by kernel_rfl)) (fun _ _ _ h => h) (Or.inl ⟨by rfl, ?_⟩) ?_ ?_
                      rotate_left
                      · intro w'
                        go_simp
                        with_reducible rfl
                      rotate_left
                      · simp only [Act.put, List.setIfInBounds_toArray, List.set_cons_zero, List.set_cons_succ, i64_w, i32_w]
                        rfl
                      refine take_ (i := 2) (N := some 73) (v := ?_) (a' := ?_) #[true, true, true, false, false, true, false, false, false] rfl rfl (take_ofW HT_.out HW_.out (by kernel_rfl)) (fun _ _ _ h => h) (Or.inl ⟨by rfl, ?_⟩) hHeld ?_ ?_
                      rotate_left
                      · rintro w' ⟨s0, s1⟩
                        go_simp
                        with_reducible rfl
                      rotate_left
                      · simp only [Act.put, List.setIfInBounds_toArray, List.set_cons_zero, List.set_cons_succ, i64_w, i32_w]
                        rfl
                      refine take_ (i := 6) (N := some 77) (v := ?_) (a' := ?_) #[true, true, true, false, false, true, true, false, false] rfl rfl (take_ofW HT_.out HW_.out (by kernel_rfl)) (fun _ _ _ h => h) (Or.inl ⟨by rfl, ?_⟩) hHeld ?_ ?_
                      rotate_left
                      · rintro w' ⟨s0, s1⟩
                        go_simp
                        with_reducible rfl
                      rotate_left
                      · simp only [Act.put, List.setIfInBounds_toArray, List.set_cons_zero, List.set_cons_succ, i64_w, i32_w]
                        rfl
                      refine one_ (i := 3) (N := some 74) #[true, true, true, true, false, true, true, false, false] rfl rfl (one_of HT_.out (by kernel_rfl)) (by decide) (fun K hK => ?_)
                      refine value_ (w1 := ?_) (v := ?_) (by rfl) rfl ?_ ?_
                      rotate_left 2
                      · go_simp
                        constructor
                        · rfl
                        · rfl
                      refine hK.out _ _ ⟨(blk_cell (blk_alloc BK392.out _) 0).trans rfl, (blk_cell (blk_alloc BK392.out _) 1).trans rfl⟩ (fun hHeld => ?_)
                      clear hK K
                      refine norm_ (a' := ?_) ?_ ?_
                      rotate_left
                      · show Act.put _ (some 74) _ = _
                        simp only [Act.put, List.setIfInBounds_toArray, List.set_cons_zero, List.set_cons_succ, i64_w, i32_w]
                        rfl
                      refine one_ (i := 4) (N := some 75) #[true, true, true, true, true, true, true, false, false] rfl rfl (one_of HT_.out (by kernel_rfl)) (by decide) (fun K hK => ?_)
                      refine Kd.R_append_step (Kd.int .i64) (w0 := w) w.heap.size (by rfl) (.tmp 71) (.tmp 74) 22 3 (.int .i64 0) 8 rfl Try.underlying22 info3 rfl (by decide) (by omega) u12 x12_2 t389 [.int .i64 t389] (fun _ => True) (fun _ => False) rfl rfl ?aP (fun _ hk => hk.elim) ?aF ?aO ?aB ?aS ?aL ?_
                      (case aP => exact rfl)
                      (case aB => exact (by repeat (first | (with_reducible first | exact HB.out | apply below_alloc | apply pw_below_drewN | apply below_drew1 | refine below_set ?_ GE362.out | refine below_set ?_ GE373.out | refine below_set ?_ GE392.out) | exact HB.out)))
                      (case aF => exact (fun _ _ => trivial))
                      (case aO => exact (by (with_reducible repeat (first | apply Kd.R_alloc | apply Kd.R_drewN | apply Kd.R_drew)); exact HO_12.out))
                      (case aS => exact (below_size (by repeat (first | (with_reducible first | exact HB.out | apply below_alloc | apply pw_below_drewN | apply below_drew1 | refine below_set ?_ GE362.out | refine below_set ?_ GE373.out | refine below_set ?_ GE392.out) | exact HB.out))))
                      (case aL => have := LMc35.out; omega)
                      intro v394 w43 ho hb hg hat
                      rw [← Ny393.out] at ho
                      have n0_ := Aside0.mk (blk_grown (g := gb362) (o := .cells #[.slice none 0 0, .int .i64 x363001_2] 69 (0, 0)) (by (with_reducible repeat (first | refine blk_drewN ?_ _ | refine blk_drew ?_ | refine blk_alloc ?_ _)); exact BK362.out) hg (Kd.R_ne HO_12.out BK362.out (by decide)))
                      have n1_ := Aside0.mk (blk_grown (g := gb373) (o := .cells #[.int .i64 t370, .int .i64 t371] 49 (0, 0)) (by (with_reducible repeat (first | refine blk_drewN ?_ _ | refine blk_drew ?_ | refine blk_alloc ?_ _)); exact BK373.out) hg (Kd.R_ne HO_12.out BK373.out (by decide)))
                      have n2_ := Aside0.mk (blk_grown (g := gb392) (o := .cells #[.int .i64 t389, .int .i64 t390] 49 (0, 0)) (by (with_reducible repeat (first | refine blk_drewN ?_ _ | refine blk_drew ?_ | refine blk_alloc ?_ _)); exact BK392.out) hg (Kd.R_ne HO_12.out BK392.out (by decide)))
                      have n3_ := Aside0.mk (hb)
                      have n4_ := Aside0.mk (ho)
                      clear BK362
                      clear BK373
                      clear BK392
                      clear HB
                      clear HO_12
                      have BK362 := n0_
                      have BK373 := n1_
                      have BK392 := n2_
                      have HB := n3_
                      have HO395 := n4_
                      clear n0_ n1_ n2_ n3_ n4_
                      clear ho hb hg hat
                      refine hK.out _ _ ⟨(blk_cell BK392.out 0).trans rfl, (blk_cell BK392.out 1).trans rfl⟩ (fun hHeld => ?_)
                      clear hK K
                      refine norm_ (a' := ?_) ?_ ?_
                      rotate_left
                      · show Act.put _ (some 75) _ = _
                        simp only [Act.put, List.setIfInBounds_toArray, List.set_cons_zero, List.set_cons_succ, i64_w, i32_w]
                        rfl
                      refine pure_ (i := 7) (N := some 12) (v := ?_) (a' := ?_) #[true, true, true, true, true, true, true, true, false] rfl rfl (any_of HT_.out (by kernel_rfl)) (fun _ _ _ h => h) (Or.inl ⟨by rfl, ?_⟩) ?_ ?_
                      rotate_left
                      · intro w'
                        go_simp
                        with_reducible rfl
                      rotate_left
                      · simp only [Act.put, List.setIfInBounds_toArray, List.set_cons_zero, List.set_cons_succ, i64_w, i32_w]
                        rfl
                      refine pure_ (i := 8) (N := some 13) (v := ?_) (a' := ?_) #[true, true, true, true, true, true, true, true, true] rfl rfl (any_of HT_.out (by kernel_rfl)) (fun _ _ _ h => h) (Or.inl ⟨by rfl, ?_⟩) ?_ ?_
                      rotate_left
                      · intro w'
                        go_simp
                        with_reducible rfl
                      rotate_left
                      · simp only [Act.put, List.setIfInBounds_toArray, List.set_cons_zero, List.set_cons_succ, i64_w, i32_w]
                        rfl
                      refine done_ (done_of HT_.out (by kernel_rfl)) ?_
                      try go_wp2
                      go_roundg k2
                      case measure => have := HJ4.out; have := HK2.out; omega
                      case rel => exact ⟨(y393), (t390), (wrap64 (x56_2 + 1)), (x363001_2), (by first | rfl | (simp; done) | (simp [*]; done)), (by first | rfl | (simp; done) | (simp [*]; done)), H', ⟨by have := HJ4.out; have := HK2.out; omega⟩, ⟨by (with_reducible repeat (first | apply Kd.R_alloc | apply Kd.R_drewN | apply Kd.R_drew)); exact HO395.out⟩, ⟨by (with_reducible repeat (first | refine blk_drewN ?_ _ | refine blk_drew ?_ | refine blk_alloc ?_ _)); exact BK362.out⟩, ⟨by (with_reducible repeat (first | refine blk_drewN ?_ _ | refine blk_drew ?_ | refine blk_alloc ?_ _)); exact BK373.out⟩, ⟨by repeat (first | (with_reducible first | exact HB.out | apply below_alloc | apply pw_below_drewN | apply below_drew1 | refine below_set ?_ GE362.out | refine below_set ?_ GE373.out | refine below_set ?_ GE392.out) | exact HB.out)⟩⟩
                    · rw [if_neg c35] at H
                      exact absurd H (by simp)
                  · rw [if_neg c34] at H
                    have c34b0 : (t391 == 0) = false := beq_eq_false_iff_ne.mpr c34
                    have c34b1 : (t391 != 0) = true := bne_iff_ne.mpr c34
                    replace H := Option.bind_eq_some_iff.mp H
                    obtain ⟨⟨t396, t399, t400⟩, A440, H⟩ := H
                    replace H : (some (t396, t399, t400)) = some (r1, r2, r3) := H
                    have A44 := Aside0.mk A440
                    clear A440
                    simp only [Option.some.injEq, Prod.mk.injEq] at H
                    obtain ⟨rfl, rfl, rfl⟩ := H
                    go_wp2_with (first | ((with_reducible refine gate_callee (f := 37) rfl ?_); refine goesL_ (some 62) rfl rfl Try.func37 (by kernel_rfl) rfl #[.string a0, .int .i64 x13_2, .int .i64 a2] rfl (by (try simp only [List.map_toArray, List.map_cons, List.map_nil]); first | done | rfl | (simp only [List.length_drop, List.length_take]; rfl)) ?_; (with_reducible refine (octet_Get.calls k2 a0 x13_2 a2 t389 t390 t391 _ A33.out).mono ?_); rintro e w45 ⟨rfl, hb⟩; refine ⟨_, rfl, ?_⟩; have n0_ := Aside0.mk (Kd.R_below (by (with_reducible repeat (first | apply Kd.R_alloc | apply Kd.R_drewN | apply Kd.R_drew)); exact HO_12.out) hb); have n1_ := Aside0.mk (blk_below (g := gb362) (o := .cells #[.slice none 0 0, .int .i64 x363001_2] 69 (0, 0)) (by (with_reducible repeat (first | refine blk_drewN ?_ _ | refine blk_drew ?_ | refine blk_alloc ?_ _)); exact BK362.out) hb); have n2_ := Aside0.mk (blk_below (g := gb373) (o := .cells #[.int .i64 t370, .int .i64 t371] 49 (0, 0)) (by (with_reducible repeat (first | refine blk_drewN ?_ _ | refine blk_drew ?_ | refine blk_alloc ?_ _)); exact BK373.out) hb); have n3_ := Aside0.mk (below_step (by repeat (first | (with_reducible first | exact HB.out | apply below_alloc | apply pw_below_drewN | apply below_drew1 | refine below_set ?_ GE362.out | refine below_set ?_ GE373.out) | exact HB.out)) hb); clear HO_12; clear BK362; clear BK373; clear HB; have HO_12 := n0_; have BK362 := n1_; have BK373 := n2_; have HB := n3_; clear n0_ n1_ n2_ n3_; (try clear hb); (try clear hb2); (try clear hk); (try clear hi)) | ((with_reducible refine gate_dst (N := 14) rfl ?_); refine box_event ?hg (N := 14) ?hd (cs := #[.int .i64 0, .int .i64 0]) (t := 49) ?hr ?_; (case hd => rfl); (case hg => rfl); (case hr => first | (go_simp; done) | (go_simp; rfl)); intro gb392 hg w46 hbox hb; have n0_ := Aside0.mk (Kd.R_below (by (with_reducible repeat (first | apply Kd.R_alloc | apply Kd.R_drewN | apply Kd.R_drew)); exact HO_12.out) hb); have n1_ := Aside0.mk (blk_below (g := gb362) (o := .cells #[.slice none 0 0, .int .i64 x363001_2] 69 (0, 0)) (by (with_reducible repeat (first | refine blk_drewN ?_ _ | refine blk_drew ?_ | refine blk_alloc ?_ _)); exact BK362.out) hb); have n2_ := Aside0.mk (blk_below (g := gb373) (o := .cells #[.int .i64 t370, .int .i64 t371] 49 (0, 0)) (by (with_reducible repeat (first | refine blk_drewN ?_ _ | refine blk_drew ?_ | refine blk_alloc ?_ _)); exact BK373.out) hb); have n3_ := Aside0.mk (below_step (by repeat (first | (with_reducible first | exact HB.out | apply below_alloc | apply pw_below_drewN | apply below_drew1 | refine below_set ?_ GE362.out | refine below_set ?_ GE373.out) | exact HB.out)) hb); have n4_ := Aside0.mk (hbox); have n5_ := Aside0.mk ((by rw [hg]; exact (below_size (by repeat (first | (with_reducible first | exact HB.out | apply below_alloc | apply pw_below_drewN | apply below_drew1 | refine below_set ?_ GE362.out | refine below_set ?_ GE373.out) | exact HB.out))) : w.heap.size ≤ gb392)); have n6_ := Aside0.mk ((by rw [hg]; exact (below_size (by repeat (first | (with_reducible first | exact HB.out | apply below_alloc | apply pw_below_drewN | apply below_drew1 | refine below_set ?_ GE362.out | refine below_set ?_ GE373.out) | exact HB.out))) : w.heap.size ≤ gb392)); have n7_ := Aside0.mk ((by rw [hg]; exact Nat.ne_of_lt (blk_lt (g := gb362) (o := .cells #[.slice none 0 0, .int .i64 x363001_2] 69 (0, 0)) (by (with_reducible repeat (first | refine blk_drewN ?_ _ | refine blk_drew ?_ | refine blk_alloc ?_ _)); exact BK362.out)) : gb362 ≠ gb392)); have n8_ := Aside0.mk ((by rw [hg]; exact Nat.ne_of_gt (blk_lt (g := gb362) (o := .cells #[.slice none 0 0, .int .i64 x363001_2] 69 (0, 0)) (by (with_reducible repeat (first | refine blk_drewN ?_ _ | refine blk_drew ?_ | refine blk_alloc ?_ _)); exact BK362.out)) : gb392 ≠ gb362)); have n9_ := Aside0.mk ((by rw [hg]; exact Nat.ne_of_lt (blk_lt (g := gb373) (o := .cells #[.int .i64 t370, .int .i64 t371] 49 (0, 0)) (by (with_reducible repeat (first | refine blk_drewN ?_ _ | refine blk_drew ?_ | refine blk_alloc ?_ _)); exact BK373.out)) : gb373 ≠ gb392)); have n10_ := Aside0.mk ((by rw [hg]; exact Nat.ne_of_gt (blk_lt (g := gb373) (o := .cells #[.int .i64 t370, .int .i64 t371] 49 (0, 0)) (by (with_reducible repeat (first | refine blk_drewN ?_ _ | refine blk_drew ?_ | refine blk_alloc ?_ _)); exact BK373.out)) : gb392 ≠ gb373)); clear HO_12; clear BK362; clear BK373; clear HB; have HO_12 := n0_; have BK362 := n1_; have BK373 := n2_; have HB := n3_; have BK392 := n4_; have GW392 := n5_; have GE392 := n6_; have NB362_392 := n7_; have NB392_362 := n8_; have NB373_392 := n9_; have NB392_373 := n10_; clear n0_ n1_ n2_ n3_ n4_ n5_ n6_ n7_ n8_ n9_ n10_; clear hb hbox hg; have hnb47 := NB392_362.out; have hnc47 := NB362_392.out; have hnb48 := NB392_373.out; have hnc48 := NB373_392.out; have hcz49_0 : w46.cell? ⟨gb392, 0, none⟩ = some (.int .i64 0) := (blk_cell BK392.out 0).trans rfl; have hcz49_1 : w46.cell? ⟨gb392, 1, none⟩ = some (.int .i64 0) := (blk_cell BK392.out 1).trans rfl; have hfz49_0 := blk_frozen BK392.out 0; have hfz49_1 := blk_frozen BK392.out 1) | ((with_reducible refine gate_callee (f := 78) rfl ?_); refine goesL_ (some 68) rfl rfl Try.func78 (by kernel_rfl) rfl #[.int .i64 t391] rfl (by (try simp only [List.map_toArray, List.map_cons, List.map_nil]); first | done | rfl | (simp only [List.length_drop, List.length_take]; rfl)) ?_; (with_reducible refine (octet_none_int_78.calls t391 t396 t399 t400 _ A44.out).mono ?_); rintro e w50 ⟨v397, rfl, ho0, hb⟩; refine ⟨_, rfl, ?_⟩; have n0_ := Aside0.mk (Kd.R_elder' (by (with_reducible repeat (first | apply Kd.R_alloc | apply Kd.R_drewN | apply Kd.R_drew)); exact (Kd.R_mono (Kd.R_far (p := ⟨gb392, 1, none⟩) (Kd.R_far (p := ⟨gb392, 0, none⟩) (Kd.R_types HO_12.out BK392.out (by decide)) (fun _ hk => hk.2) (.int .i64 t389)) (fun _ hk => hk.2) (.int .i64 t390)) (fun _ h_ => h_.1))) (Kd.R_base ho0) hb); have n1_ := Aside0.mk (Kd.R_lower (Kd.R_new' ho0 (Kd.R_lt (by (with_reducible repeat (first | apply Kd.R_alloc | apply Kd.R_drewN | apply Kd.R_drew)); exact (Kd.R_mono (Kd.R_far (p := ⟨gb392, 1, none⟩) (Kd.R_far (p := ⟨gb392, 0, none⟩) (Kd.R_types HO_12.out BK392.out (by decide)) (fun _ hk => hk.2) (.int .i64 t389)) (fun _ hk => hk.2) (.int .i64 t390)) (fun _ h_ => h_.1))))) (below_size (by repeat (first | (with_reducible first | exact HB.out | apply below_alloc | apply pw_below_drewN | apply below_drew1 | refine below_set ?_ GE362.out | refine below_set ?_ GE373.out | refine below_set ?_ GE392.out) | exact HB.out)))); have n2_ := Aside0.mk (blk_below (g := gb362) (o := .cells #[.slice none 0 0, .int .i64 x363001_2] 69 (0, 0)) (by (with_reducible repeat (first | refine blk_drewN ?_ _ | refine blk_drew ?_ | refine blk_alloc ?_ _)); refine blk_far ?_ NB362_392.out _; (with_reducible repeat (first | refine blk_drewN ?_ _ | refine blk_drew ?_ | refine blk_alloc ?_ _)); refine blk_far ?_ NB362_392.out _; (with_reducible repeat (first | refine blk_drewN ?_ _ | refine blk_drew ?_ | refine blk_alloc ?_ _)); exact BK362.out) hb); have n3_ := Aside0.mk (blk_below (g := gb373) (o := .cells #[.int .i64 t370, .int .i64 t371] 49 (0, 0)) (by (with_reducible repeat (first | refine blk_drewN ?_ _ | refine blk_drew ?_ | refine blk_alloc ?_ _)); refine blk_far ?_ NB373_392.out _; (with_reducible repeat (first | refine blk_drewN ?_ _ | refine blk_drew ?_ | refine blk_alloc ?_ _)); refine blk_far ?_ NB373_392.out _; (with_reducible repeat (first | refine blk_drewN ?_ _ | refine blk_drew ?_ | refine blk_alloc ?_ _)); exact BK373.out) hb); have n4_ := Aside0.mk (blk_below (g := gb392) (o := .cells #[.int .i64 t389, .int .i64 t390] 49 (0, 0)) (by (with_reducible repeat (first | refine blk_drewN ?_ _ | refine blk_drew ?_ | refine blk_alloc ?_ _)); refine blk_put (cs := #[.int .i64 t389, .int .i64 0]) ?_ 1 _ rfl; (with_reducible repeat (first | refine blk_drewN ?_ _ | refine blk_drew ?_ | refine blk_alloc ?_ _)); refine blk_put (cs := #[.int .i64 0, .int .i64 0]) ?_ 0 _ rfl; (with_reducible repeat (first | refine blk_drewN ?_ _ | refine blk_drew ?_ | refine blk_alloc ?_ _)); exact BK392.out) hb); have n5_ := Aside0.mk (below_step (by repeat (first | (with_reducible first | exact HB.out | apply below_alloc | apply pw_below_drewN | apply below_drew1 | refine below_set ?_ GE362.out | refine below_set ?_ GE373.out | refine below_set ?_ GE392.out) | exact HB.out)) hb); clear HO_12; clear BK362; clear BK373; clear BK392; clear HB; have HO_12 := n0_; have HO398 := n1_; have BK362 := n2_; have BK373 := n3_; have BK392 := n4_; have HB := n5_; clear n0_ n1_ n2_ n3_ n4_ n5_; (try clear hb); (try clear hb2); (try clear hk); (try clear hi); (try clear ho0); obtain ⟨Ao51, co51, eo51⟩ := Kd.R_slice HO398.out; subst eo51; have hnb52 := NB362_373.out; have hnc52 := NB373_362.out; have hcz53_0 : w50.cell? ⟨gb362, 0, none⟩ = some (.slice none 0 0) := (blk_cell BK362.out 0).trans rfl; have hcz53_1 : w50.cell? ⟨gb362, 1, none⟩ = some (.int .i64 x363001_2) := (blk_cell BK362.out 1).trans rfl; have hfz53_0 := blk_frozen BK362.out 0; have hfz53_1 := blk_frozen BK362.out 1))
                    refine bodyPost_ret (results_ct rfl _ _ gb362 69 #[.slice Ao51 t396.length co51, .int .i64 t399] (0, 0) _ rfl (by (with_reducible repeat (first | refine blk_drewN ?_ _ | refine blk_drew ?_ | refine blk_alloc ?_ _)); refine blk_put (cs := #[.slice Ao51 t396.length co51, .int .i64 x363001_2]) ?_ 1 _ rfl; (with_reducible repeat (first | refine blk_drewN ?_ _ | refine blk_drew ?_ | refine blk_alloc ?_ _)); refine blk_put (cs := #[.slice none 0 0, .int .i64 x363001_2]) ?_ 0 _ rfl; (with_reducible repeat (first | refine blk_drewN ?_ _ | refine blk_drew ?_ | refine blk_alloc ?_ _)); exact BK362.out) Try.underlying69 rfl (by kernel_rfl)) rfl ?_
                    exact ⟨_, by first | rfl | (simp [errW_none, errW_some] <;> rfl) | (simp only [← hji18]; first | rfl | (simp [errW_none, errW_some] <;> rfl)) | (simp [*, errW_none, errW_some] <;> rfl), by (with_reducible repeat (first | apply Kd.R_alloc | apply Kd.R_drewN | apply Kd.R_drew)); exact Kd.R_mono (Kd.R_far (p := ⟨gb362, 1, none⟩) (Kd.R_far (p := ⟨gb362, 0, none⟩) (Kd.R_types HO398.out BK362.out (by decide)) (fun _ hk => hk.2) (.slice Ao51 t396.length co51)) (fun _ hk => hk.2) (.int .i64 t399)) (fun _ hk => trivial), by repeat (first | (with_reducible first | exact HB.out | apply below_alloc | apply pw_below_drewN | apply below_drew1 | refine below_set ?_ GE362.out | refine below_set ?_ GE373.out | refine below_set ?_ GE392.out) | exact HB.out)⟩
                · rw [if_neg c32] at H
                  have c32b0 : decide (x56_2 < t370) = false := decide_eq_false c32
                  clear c32
                  replace H := Option.bind_eq_some_iff.mp H
                  obtain ⟨⟨t384, t387, t388⟩, A540, H⟩ := H
                  replace H : (some (t384, t387, t388)) = some (r1, r2, r3) := H
                  have A54 := Aside0.mk A540
                  clear A540
                  simp only [Option.some.injEq, Prod.mk.injEq] at H
                  obtain ⟨rfl, rfl, rfl⟩ := H
                  obtain ⟨Ao55, co55, eo55⟩ := Kd.R_slice HO_12.out
                  subst eo55
                  go_wp2_with (first | ((with_reducible refine gate_callee (f := 79) rfl ?_); refine goesL_ (some 81) rfl rfl Try.func79 (by kernel_rfl) rfl #[.slice Ao55 x12_2.length co55, .int .i64 x13_2] rfl (by (try simp only [List.map_toArray, List.map_cons, List.map_nil]); first | done | rfl | (simp only [List.length_drop, List.length_take]; rfl)) ?_; (with_reducible refine (octet_got_int_79.calls (fun k_ => some k_ = (.slice Ao55 x12_2.length co55 : Value).ownBlock) (.slice Ao55 x12_2.length co55) x12_2 x13_2 t384 t387 t388 w _ ?side1 ?side2 A54.out).mono ?_); (case side1 => repeat (first | (with_reducible first | exact HB.out | apply below_alloc | apply pw_below_drewN | apply below_drew1 | refine below_set ?_ GE362.out | refine below_set ?_ GE373.out) | exact HB.out)); (case side2 => exact Kd.R_tight rfl HO_12.out); rintro e w56 ⟨v385, rfl, ho0, hb, hkp⟩; refine ⟨_, rfl, ?_⟩; have n0_ := Aside0.mk (blk_kept (by (with_reducible repeat (first | refine blk_drewN ?_ _ | refine blk_drew ?_ | refine blk_alloc ?_ _)); exact BK362.out) hkp (fun hs_ => (fun e_ => (Kd.R_ne HO_12.out BK362.out (by decide)) e_) hs_)); have n1_ := Aside0.mk (blk_kept (by (with_reducible repeat (first | refine blk_drewN ?_ _ | refine blk_drew ?_ | refine blk_alloc ?_ _)); exact BK373.out) hkp (fun hs_ => (fun e_ => (Kd.R_ne HO_12.out BK373.out (by decide)) e_) hs_)); have n2_ := Aside0.mk (Kd.R_mono (ok' := fun k_ => True) ho0 (fun k_ hk_ => trivial)); have n3_ := Aside0.mk (hb); clear BK362; clear BK373; clear HB; clear HO_12; have BK362 := n0_; have BK373 := n1_; have HO386 := n2_; have HB := n3_; clear n0_ n1_ n2_ n3_; (try clear hb); (try clear hkp); (try clear ho0); obtain ⟨Ao57, co57, eo57⟩ := Kd.R_slice HO386.out; subst eo57; have hnb58 := NB362_373.out; have hnc58 := NB373_362.out; have hcz59_0 : w56.cell? ⟨gb362, 0, none⟩ = some (.slice none 0 0) := (blk_cell BK362.out 0).trans rfl; have hcz59_1 : w56.cell? ⟨gb362, 1, none⟩ = some (.int .i64 x363001_2) := (blk_cell BK362.out 1).trans rfl; have hfz59_0 := blk_frozen BK362.out 0; have hfz59_1 := blk_frozen BK362.out 1))
                  refine bodyPost_ret (results_ct rfl _ _ gb362 69 #[.slice Ao57 t384.length co57, .int .i64 t387] (0, 0) _ rfl (by (with_reducible repeat (first | refine blk_drewN ?_ _ | refine blk_drew ?_ | refine blk_alloc ?_ _)); refine blk_put (cs := #[.slice Ao57 t384.length co57, .int .i64 x363001_2]) ?_ 1 _ rfl; (with_reducible repeat (first | refine blk_drewN ?_ _ | refine blk_drew ?_ | refine blk_alloc ?_ _)); refine blk_put (cs := #[.slice none 0 0, .int .i64 x363001_2]) ?_ 0 _ rfl; (with_reducible repeat (first | refine blk_drewN ?_ _ | refine blk_drew ?_ | refine blk_alloc ?_ _)); exact BK362.out) Try.underlying69 rfl (by kernel_rfl)) rfl ?_
                  exact ⟨_, by first | rfl | (simp [errW_none, errW_some] <;> rfl) | (simp only [← hji18]; first | rfl | (simp [errW_none, errW_some] <;> rfl)) | (simp [*, errW_none, errW_some] <;> rfl), by (with_reducible repeat (first | apply Kd.R_alloc | apply Kd.R_drewN | apply Kd.R_drew)); exact Kd.R_mono (Kd.R_far (p := ⟨gb362, 1, none⟩) (Kd.R_far (p := ⟨gb362, 0, none⟩) (Kd.R_types HO386.out BK362.out (by decide)) (fun _ hk => hk.2) (.slice Ao57 t384.length co57)) (fun _ hk => hk.2) (.int .i64 t387)) (fun _ hk => trivial), by repeat (first | (with_reducible first | exact HB.out | apply below_alloc | apply pw_below_drewN | apply below_drew1 | refine below_set ?_ GE362.out | refine below_set ?_ GE373.out) | exact HB.out)⟩
        · rw [if_neg c17] at H
          have c17b0 : (t372 == 0) = false := beq_eq_false_iff_ne.mpr c17
          have c17b1 : (t372 != 0) = true := bne_iff_ne.mpr c17
          replace H := Option.bind_eq_some_iff.mp H
          obtain ⟨⟨t374, t377, t378⟩, A600, H⟩ := H
          replace H : (some (t374, t377, t378)) = some (r1, r2, r3) := H
          have A60 := Aside0.mk A600
          clear A600
          simp only [Option.some.injEq, Prod.mk.injEq] at H
          obtain ⟨rfl, rfl, rfl⟩ := H
          go_wp2_with (first | ((with_reducible refine gate_callee (f := 37) rfl ?_); refine goesL_ (some 35) rfl rfl Try.func37 (by kernel_rfl) rfl #[.string a0, .int .i64 a1, .int .i64 2] rfl (by (try simp only [List.map_toArray, List.map_cons, List.map_nil]); first | done | rfl | (simp only [List.length_drop, List.length_take]; rfl)) ?_; (with_reducible refine (octet_Get.calls kj4 a0 a1 2 t370 t371 t372 _ A16.out).mono ?_); rintro e w61 ⟨rfl, hb⟩; refine ⟨_, rfl, ?_⟩; have n0_ := Aside0.mk (blk_below (g := gb362) (o := .cells #[.slice none 0 0, .int .i64 0] 69 (0, 0)) (by (with_reducible repeat (first | refine blk_drewN ?_ _ | refine blk_drew ?_ | refine blk_alloc ?_ _)); exact BK362.out) hb); have n1_ := Aside0.mk (below_step (by repeat (first | (with_reducible first | exact HB.out | apply below_alloc | apply pw_below_drewN | apply below_drew1 | refine below_set ?_ GE362.out) | exact HB.out)) hb); clear BK362; clear HB; have BK362 := n0_; have HB := n1_; clear n0_ n1_; (try clear hb); (try clear hb2); (try clear hk); (try clear hi)) | ((with_reducible refine gate_dst (N := 10) rfl ?_); refine box_event ?hg (N := 10) ?hd (cs := #[.int .i64 0, .int .i64 0]) (t := 49) ?hr ?_; (case hd => rfl); (case hg => rfl); (case hr => first | (go_simp; done) | (go_simp; rfl)); intro gb373 hg w62 hbox hb; have n0_ := Aside0.mk (blk_below (g := gb362) (o := .cells #[.slice none 0 0, .int .i64 0] 69 (0, 0)) (by (with_reducible repeat (first | refine blk_drewN ?_ _ | refine blk_drew ?_ | refine blk_alloc ?_ _)); exact BK362.out) hb); have n1_ := Aside0.mk (below_step (by repeat (first | (with_reducible first | exact HB.out | apply below_alloc | apply pw_below_drewN | apply below_drew1 | refine below_set ?_ GE362.out) | exact HB.out)) hb); have n2_ := Aside0.mk (hbox); have n3_ := Aside0.mk ((by rw [hg]; exact (below_size (by repeat (first | (with_reducible first | exact HB.out | apply below_alloc | apply pw_below_drewN | apply below_drew1 | refine below_set ?_ GE362.out) | exact HB.out))) : w.heap.size ≤ gb373)); have n4_ := Aside0.mk ((by rw [hg]; exact (below_size (by repeat (first | (with_reducible first | exact HB.out | apply below_alloc | apply pw_below_drewN | apply below_drew1 | refine below_set ?_ GE362.out) | exact HB.out))) : w.heap.size ≤ gb373)); have n5_ := Aside0.mk ((by rw [hg]; exact Nat.ne_of_lt (blk_lt (g := gb362) (o := .cells #[.slice none 0 0, .int .i64 0] 69 (0, 0)) (by (with_reducible repeat (first | refine blk_drewN ?_ _ | refine blk_drew ?_ | refine blk_alloc ?_ _)); exact BK362.out)) : gb362 ≠ gb373)); have n6_ := Aside0.mk ((by rw [hg]; exact Nat.ne_of_gt (blk_lt (g := gb362) (o := .cells #[.slice none 0 0, .int .i64 0] 69 (0, 0)) (by (with_reducible repeat (first | refine blk_drewN ?_ _ | refine blk_drew ?_ | refine blk_alloc ?_ _)); exact BK362.out)) : gb373 ≠ gb362)); clear BK362; clear HB; have BK362 := n0_; have HB := n1_; have BK373 := n2_; have GW373 := n3_; have GE373 := n4_; have NB362_373 := n5_; have NB373_362 := n6_; clear n0_ n1_ n2_ n3_ n4_ n5_ n6_; clear hb hbox hg; have hnb63 := NB373_362.out; have hnc63 := NB362_373.out; have hcz64_0 : w62.cell? ⟨gb373, 0, none⟩ = some (.int .i64 0) := (blk_cell BK373.out 0).trans rfl; have hcz64_1 : w62.cell? ⟨gb373, 1, none⟩ = some (.int .i64 0) := (blk_cell BK373.out 1).trans rfl; have hfz64_0 := blk_frozen BK373.out 0; have hfz64_1 := blk_frozen BK373.out 1) | ((with_reducible refine gate_callee (f := 78) rfl ?_); refine goesL_ (some 41) rfl rfl Try.func78 (by kernel_rfl) rfl #[.int .i64 t372] rfl (by (try simp only [List.map_toArray, List.map_cons, List.map_nil]); first | done | rfl | (simp only [List.length_drop, List.length_take]; rfl)) ?_; (with_reducible refine (octet_none_int_78.calls t372 t374 t377 t378 _ A60.out).mono ?_); rintro e w65 ⟨v375, rfl, ho0, hb⟩; refine ⟨_, rfl, ?_⟩; have n0_ := Aside0.mk (Kd.R_lower ho0 (below_size (by repeat (first | (with_reducible first | exact HB.out | apply below_alloc | apply pw_below_drewN | apply below_drew1 | refine below_set ?_ GE362.out | refine below_set ?_ GE373.out) | exact HB.out)))); have n1_ := Aside0.mk (blk_below (g := gb362) (o := .cells #[.slice none 0 0, .int .i64 0] 69 (0, 0)) (by (with_reducible repeat (first | refine blk_drewN ?_ _ | refine blk_drew ?_ | refine blk_alloc ?_ _)); refine blk_far ?_ NB362_373.out _; (with_reducible repeat (first | refine blk_drewN ?_ _ | refine blk_drew ?_ | refine blk_alloc ?_ _)); refine blk_far ?_ NB362_373.out _; (with_reducible repeat (first | refine blk_drewN ?_ _ | refine blk_drew ?_ | refine blk_alloc ?_ _)); exact BK362.out) hb); have n2_ := Aside0.mk (blk_below (g := gb373) (o := .cells #[.int .i64 t370, .int .i64 t371] 49 (0, 0)) (by (with_reducible repeat (first | refine blk_drewN ?_ _ | refine blk_drew ?_ | refine blk_alloc ?_ _)); refine blk_put (cs := #[.int .i64 t370, .int .i64 0]) ?_ 1 _ rfl; (with_reducible repeat (first | refine blk_drewN ?_ _ | refine blk_drew ?_ | refine blk_alloc ?_ _)); refine blk_put (cs := #[.int .i64 0, .int .i64 0]) ?_ 0 _ rfl; (with_reducible repeat (first | refine blk_drewN ?_ _ | refine blk_drew ?_ | refine blk_alloc ?_ _)); exact BK373.out) hb); have n3_ := Aside0.mk (below_step (by repeat (first | (with_reducible first | exact HB.out | apply below_alloc | apply pw_below_drewN | apply below_drew1 | refine below_set ?_ GE362.out | refine below_set ?_ GE373.out) | exact HB.out)) hb); clear BK362; clear BK373; clear HB; have HO376 := n0_; have BK362 := n1_; have BK373 := n2_; have HB := n3_; clear n0_ n1_ n2_ n3_; (try clear hb); (try clear hb2); (try clear hk); (try clear hi); (try clear ho0); obtain ⟨Ao66, co66, eo66⟩ := Kd.R_slice HO376.out; subst eo66; have hcz67_0 : w65.cell? ⟨gb362, 0, none⟩ = some (.slice none 0 0) := (blk_cell BK362.out 0).trans rfl; have hcz67_1 : w65.cell? ⟨gb362, 1, none⟩ = some (.int .i64 0) := (blk_cell BK362.out 1).trans rfl; have hfz67_0 := blk_frozen BK362.out 0; have hfz67_1 := blk_frozen BK362.out 1))
          refine bodyPost_ret (results_ct rfl _ _ gb362 69 #[.slice Ao66 t374.length co66, .int .i64 t377] (0, 0) _ rfl (by (with_reducible repeat (first | refine blk_drewN ?_ _ | refine blk_drew ?_ | refine blk_alloc ?_ _)); refine blk_put (cs := #[.slice Ao66 t374.length co66, .int .i64 0]) ?_ 1 _ rfl; (with_reducible repeat (first | refine blk_drewN ?_ _ | refine blk_drew ?_ | refine blk_alloc ?_ _)); refine blk_put (cs := #[.slice none 0 0, .int .i64 0]) ?_ 0 _ rfl; (with_reducible repeat (first | refine blk_drewN ?_ _ | refine blk_drew ?_ | refine blk_alloc ?_ _)); exact BK362.out) Try.underlying69 rfl (by kernel_rfl)) rfl ?_
          exact ⟨_, by first | rfl | (simp [errW_none, errW_some] <;> rfl) | (simp [*, errW_none, errW_some] <;> rfl), by (with_reducible repeat (first | apply Kd.R_alloc | apply Kd.R_drewN | apply Kd.R_drew)); exact Kd.R_mono (Kd.R_far (p := ⟨gb362, 1, none⟩) (Kd.R_far (p := ⟨gb362, 0, none⟩) (Kd.R_types HO376.out BK362.out (by decide)) (fun _ hk => hk.2) (.slice Ao66 t374.length co66)) (fun _ hk => hk.2) (.int .i64 t377)) (fun _ hk => trivial), by repeat (first | (with_reducible first | exact HB.out | apply below_alloc | apply pw_below_drewN | apply below_drew1 | refine below_set ?_ GE362.out | refine below_set ?_ GE373.out) | exact HB.out)⟩

end Go.Proofs.Ytabapiofkipkoaa.F

namespace Go.Proofs.Ytabapiofkipkoaa.F
open Go.RowKit Go.Proofs.YtabapiofkipkoaaX Go.Proofs.YtabapiofkipkoaaW.PrintWords Go.Proofs.YtabapiofkipkoaaW.PrintLast Go.Proofs.YtabapiofkipkoaaW.PrintMore
attribute [local go_sem] max2_int min2_int max_two min_two max_three min_three max_four min_four   -- for this text's walks alone
attribute [local go_sem high] str_geq str_leq str_gtr
set_option linter.unusedVariables false
set_option linter.unusedSimpArgs false

/-! ### backhaulref02_SameInts: function 48 -/
def backhaulref02_SameInts.l0 : Nat → List Int → List Int → Int → Option (Bool)
  | 0, _, _, _ => none
  | k + 1, x0, x1, x5 => if x5 < (x0.length : Int) then (if 0 ≤ x5 then (if x5 < (x1.length : Int) then (if (rd x0 x5) = (rd x1 x5) then (backhaulref02_SameInts.l0 k x0 x1 (wrap64 (x5 + 1))) else (some false)) else (none)) else (none)) else (some true)
def backhaulref02_SameInts.f (k : Nat) (l0 : List Int) (l1 : List Int) : Option (Bool) := if (l0.length : Int) = (l1.length : Int) then (backhaulref02_SameInts.l0 k l0 l1 0) else (some false)
theorem backhaulref02_SameInts.mono_l : ∀ k, (∀ y0 y1 y2, LeO (backhaulref02_SameInts.l0 k y0 y1 y2) (backhaulref02_SameInts.l0 (k + 1) y0 y1 y2))
  | 0 => fun _ _ _ r h => by simp [backhaulref02_SameInts.l0] at h
  | k + 1 => by
    have ih0 := backhaulref02_SameInts.mono_l k
    · intro y0 y1 y2
      unfold backhaulref02_SameInts.l0
      repeat' first
      | (with_reducible exact ih0 _ _ _)
      | (with_reducible exact LeO.refl _)
      | (with_reducible exact LeO.none _)
      | (with_reducible refine LeO.ite ?_ ?_)
      | (with_reducible refine LeO.bind ?_ (fun _ => ?_))
      | exact ih0 _ _ _
      | exact LeO.none _
      | refine LeO.ite ?_ ?_
      | refine LeO.bind ?_ (fun _ => ?_)
theorem backhaulref02_SameInts.mono : ∀ a0 a1 k, LeO (backhaulref02_SameInts.f k a0 a1) (backhaulref02_SameInts.f (k + 1) a0 a1) := by
  intro a0 a1 k
  have ih0 := backhaulref02_SameInts.mono_l k
  unfold backhaulref02_SameInts.f
  repeat' first
      | (with_reducible exact ih0 _ _ _)
      | (with_reducible exact LeO.refl _)
      | (with_reducible exact LeO.none _)
      | (with_reducible refine LeO.ite ?_ ?_)
      | (with_reducible refine LeO.bind ?_ (fun _ => ?_))
      | exact ih0 _ _ _
      | exact LeO.none _
      | refine LeO.ite ?_ ?_
      | refine LeO.bind ?_ (fun _ => ?_)
set_option maxHeartbeats 8000000 in
set_option maxRecDepth 100000 in
theorem backhaulref02_SameInts.calls (k : Nat) (A0 : Option Addr) (c0 : Nat) (l0 : List Int) (A1 : Option Addr) (c1 : Nat) (l1 : List Int) (r : Bool) (w : World) (hr0 : Kd.C (Kd.int .i64) w A0 l0.length l0) (hc0 : l0.length ≤ c0) (hr1 : Kd.C (Kd.int .i64) w A1 l1.length l1) (hc1 : l1.length ≤ c1) (h : backhaulref02_SameInts.f k l0 l1 = some r) :
    Calls Try.prog 48 #[.slice A0 l0.length c0, .slice A1 l1.length c1] w fun e w' => e = .returned (.bool r) ∧ Drawn0 w w' := by
  have HR0 := Aside0.mk hr0
  have HC0 := Aside0.mk hc0
  clear hr0 hc0
  have HR1 := Aside0.mk hr1
  have HC1 := Aside0.mk hc1
  clear hr1 hc1
  have H : (if (l0.length : Int) = (l1.length : Int) then (backhaulref02_SameInts.l0 k l0 l1 0) else (some false)) = some r := h
  clear h
  by_cases c3 : (l0.length : Int) = (l1.length : Int)
  · rw [if_pos c3] at H
    have c3b0 : ((l0.length : Int) == (l1.length : Int)) = true := beq_iff_eq.mpr c3
    have c3b1 : ((l0.length : Int) != (l1.length : Int)) = false := bne_eq_false_iff_eq.mpr c3
    have c3b2 : (l0.length == l1.length) = true := by first | simpa using c3 | (simp at c3 ⊢; omega)
    clear c3
    have H' := Aside0.mk H
    clear H
    go_enter Try.func48, Try.ntmps48
    go_wp2
    repeat (go_quiet (fail); try go_wp2)
    go_loopg [5] k (fun kq v5 w' => ∃ (x5_1 : Int), v5 = .int .i64 x5_1 ∧ Aside0 (backhaulref02_SameInts.l0 kq l0 l1 x5_1 = some r) ∧ Aside0 (kq ≤ k) ∧ Drawn0 w w')
    case atStart => exact ⟨(0), (by first | rfl | (simp; done) | (simp [*]; done)), H', ⟨Nat.le_refl _⟩, by repeat (first | exact Drawn0.refl _ | apply Drawn0.step)⟩
    case round =>
      clear H'
      try clear c1
      try clear p2
      try clear c3
      try clear c3b0
      try clear c3b1
      try clear c3b2
      obtain ⟨x5_1, rfl, HA, HK1, ⟨m1, rfl⟩⟩ := hrel
      cases gk with
      | zero => exact absurd HA.out (by simp [backhaulref02_SameInts.l0])
      | succ k1 =>
        have H := HA.out
        clear HA
        simp only [backhaulref02_SameInts.l0] at H
        by_cases c4 : x5_1 < (l0.length : Int)
        · rw [if_pos c4] at H
          have c4b0 : decide (x5_1 < (l0.length : Int)) = true := decide_eq_true c4
          clear c4
          by_cases c5 : 0 ≤ x5_1
          · rw [if_pos c5] at H
            have c5b0 : decide (0 ≤ x5_1) = true := decide_eq_true c5
            clear c5
            by_cases c6 : x5_1 < (l1.length : Int)
            · rw [if_pos c6] at H
              have c6b0 : decide (x5_1 < (l1.length : Int)) = true := decide_eq_true c6
              clear c6
              by_cases c7 : (rd l0 x5_1) = (rd l1 x5_1)
              · rw [if_pos c7] at H
                have c7b0 : ((rd l0 x5_1) == (rd l1 x5_1)) = true := beq_iff_eq.mpr c7
                have c7b1 : ((rd l0 x5_1) != (rd l1 x5_1)) = false := bne_eq_false_iff_eq.mpr c7
                clear c7
                have H' := Aside0.mk H
                clear H
                have p121 : 0 ≤ (x5_1 : Int) := of_decide_eq_true (by first | (with_reducible assumption) | assumption)
                have q121 : x5_1 < (l0.length : Int) := of_decide_eq_true (by first | (with_reducible assumption) | assumption)
                obtain ⟨ad121, e121, hx121_0⟩ := Kd.at_int HR0.out x5_1 p121 q121
                cases e121
                replace p121 := eq_true p121
                replace q121 := eq_true q121
                have p122 : 0 ≤ (x5_1 : Int) := of_decide_eq_true (by first | (with_reducible assumption) | assumption)
                have q122 : x5_1 < (l1.length : Int) := of_decide_eq_true (by first | (with_reducible assumption) | assumption)
                obtain ⟨ad122, e122, hx122_0⟩ := Kd.at_int HR1.out x5_1 p122 q122
                cases e122
                replace p122 := eq_true p122
                replace q122 := eq_true q122
                go_wp2
                repeat (go_quiet (fail); try go_wp2)
                go_roundg k1
                case measure => have := HK1.out; omega
                case rel => exact ⟨(wrap64 (x5_1 + 1)), (by first | rfl | (simp; done) | (simp [*]; done)), H', ⟨by have := HK1.out; omega⟩, by repeat (first | exact Drawn0.refl _ | apply Drawn0.step)⟩
              · rw [if_neg c7] at H
                have c7b0 : ((rd l0 x5_1) == (rd l1 x5_1)) = false := beq_eq_false_iff_ne.mpr c7
                have c7b1 : ((rd l0 x5_1) != (rd l1 x5_1)) = true := bne_iff_ne.mpr c7
                obtain rfl := Option.some.inj H
                have p121 : 0 ≤ (x5_1 : Int) := of_decide_eq_true (by first | (with_reducible assumption) | assumption)
                have q121 : x5_1 < (l0.length : Int) := of_decide_eq_true (by first | (with_reducible assumption) | assumption)
                obtain ⟨ad121, e121, hx121_0⟩ := Kd.at_int HR0.out x5_1 p121 q121
                cases e121
                replace p121 := eq_true p121
                replace q121 := eq_true q121
                have p122 : 0 ≤ (x5_1 : Int) := of_decide_eq_true (by first | (with_reducible assumption) | assumption)
                have q122 : x5_1 < (l1.length : Int) := of_decide_eq_true (by first | (with_reducible assumption) | assumption)
                obtain ⟨ad122, e122, hx122_0⟩ := Kd.at_int HR1.out x5_1 p122 q122
                cases e122
                replace p122 := eq_true p122
                replace q122 := eq_true q122
                go_wp2
                repeat (go_quiet (fail); try go_wp2)
                go_ret
                exact ⟨by first | rfl | (simp; done) | (simp [*]; done), by repeat (first | exact Drawn0.refl _ | apply Drawn0.step)⟩
            · rw [if_neg c6] at H
              exact absurd H (by simp)
          · rw [if_neg c5] at H
            exact absurd H (by simp)
        · rw [if_neg c4] at H
          have c4b0 : decide (x5_1 < (l0.length : Int)) = false := decide_eq_false c4
          clear c4
          obtain rfl := Option.some.inj H
          go_wp2
          repeat (go_quiet (fail); try go_wp2)
          go_ret
          exact ⟨by first | rfl | (simp; done) | (simp [*]; done), by repeat (first | exact Drawn0.refl _ | apply Drawn0.step)⟩
  · rw [if_neg c3] at H
    have c3b0 : ((l0.length : Int) == (l1.length : Int)) = false := beq_eq_false_iff_ne.mpr c3
    have c3b1 : ((l0.length : Int) != (l1.length : Int)) = true := bne_iff_ne.mpr c3
    have c3b2 : (l0.length == l1.length) = false := by first | simpa using c3 | (simp at c3 ⊢; omega)
    obtain rfl := Option.some.inj H
    go_enter Try.func48, Try.ntmps48
    go_wp2
    repeat (go_quiet (fail); try go_wp2)
    go_ret
    exact ⟨by first | rfl | (simp; done) | (simp [*]; done), by repeat (first | exact Drawn0.refl _ | apply Drawn0.step)⟩

end Go.Proofs.Ytabapiofkipkoaa.F

namespace Go.Proofs.Ytabapiofkipkoaa.F
open Go.RowKit Go.Proofs.YtabapiofkipkoaaX Go.Proofs.YtabapiofkipkoaaW.PrintWords Go.Proofs.YtabapiofkipkoaaW.PrintLast Go.Proofs.YtabapiofkipkoaaW.PrintMore
attribute [local go_sem] max2_int min2_int max_two min_two max_three min_three max_four min_four   -- for this text's walks alone
attribute [local go_sem high] str_geq str_leq str_gtr
set_option linter.unusedVariables false
set_option linter.unusedSimpArgs false

/-! ### backhaullaw05_awake: function 34 -/
def backhaullaw05_awake.f  : Option (Bool) := some true
set_option maxHeartbeats 8000000 in
set_option maxRecDepth 100000 in
theorem backhaullaw05_awake.calls (r : Bool)  (w : World) (h : backhaullaw05_awake.f  = some r) :
    Calls Try.prog 34 #[] w fun e w' => e = .returned (.bool r) ∧ Below w.heap.size w w' := by
  obtain rfl : r = true := by injection h with h; exact h.symm
  have hu49 := Try.underlying49
  have hu58 := Try.underlying58
  have hu69 := Try.underlying69
  have HB := Aside0.mk (Below.refl w.heap.size w)
  have H : ((octet_Put.f 1000 258 4).bind fun bt401 => (if 1 + bt401.1.size ≤ 9223372036854775807 then ((octet_Get.f 1000 ((⟨#[120]⟩ : ByteArray) ++ bt401.1) 1 4).bind fun bt403 => ((octet_Lay.f 1000 (⟨#[104, 105]⟩ : ByteArray)).bind fun bt407 => ((octet_Take.f 1000 bt407.1 0 2).bind fun bt409 => ((octet_Row.f 1000 1 (([7, 8] : List Int))).bind fun bt416 => ((octet_Unrow.f 1000 bt416.1 0 1 2).bind fun bt418 => ((octet_Put.f 1000 256 1).bind fun bt424 => ((octet_Take.f 1000 bt407.1 0 1).bind fun bt426 => (if bt401.1.toList = ([0, 0, 1, 2] : List UInt8) then (if bt401.2 = 0 then (if bt403.1 = 258 then (if bt403.2.1 = 5 then (if bt403.2.2 = 0 then (if bt407.1.toList = ([0, 2, 104, 105] : List UInt8) then (if bt407.2 = 0 then (if bt409.1.toList = ([104, 105] : List UInt8) then (if bt409.2.1 = 4 then (if bt409.2.2 = 0 then (if bt416.1.toList = ([0, 2, 7, 8] : List UInt8) then (if bt416.2 = 0 then ((backhaulref02_SameInts.f 1000 bt418.1 (([7, 8] : List Int))).bind fun t433 => (if t433 = true then (if bt418.2.1 = 4 then (if bt418.2.2 = 0 then (if bt424.2 = 8 then (if bt426.2.2 = 3 then ((octet_Flag.f true).bind fun t434 => (if t434.toList = ([1] : List UInt8) then ((octet_Flag.f false).bind fun t435 => (if t435.toList = ([0] : List UInt8) then (some true) else (some false))) else (some false))) else (some false)) else (some false)) else (some false)) else (some false)) else (some false))) else (some false)) else (some false)) else (some false)) else (some false)) else (some false)) else (some false)) else (some false)) else (some false)) else (some false)) else (some false)) else (some false)) else (some false))))))))) else (none))) = some true := by decide +kernel
  replace H := Option.bind_eq_some_iff.mp H
  obtain ⟨⟨t401, t402⟩, A10, H⟩ := H
  replace H : (if 1 + t401.size ≤ 9223372036854775807 then ((octet_Get.f 1000 ((⟨#[120]⟩ : ByteArray) ++ t401) 1 4).bind fun bt403 => ((octet_Lay.f 1000 (⟨#[104, 105]⟩ : ByteArray)).bind fun bt407 => ((octet_Take.f 1000 bt407.1 0 2).bind fun bt409 => ((octet_Row.f 1000 1 (([7, 8] : List Int))).bind fun bt416 => ((octet_Unrow.f 1000 bt416.1 0 1 2).bind fun bt418 => ((octet_Put.f 1000 256 1).bind fun bt424 => ((octet_Take.f 1000 bt407.1 0 1).bind fun bt426 => (if t401.toList = ([0, 0, 1, 2] : List UInt8) then (if t402 = 0 then (if bt403.1 = 258 then (if bt403.2.1 = 5 then (if bt403.2.2 = 0 then (if bt407.1.toList = ([0, 2, 104, 105] : List UInt8) then (if bt407.2 = 0 then (if bt409.1.toList = ([104, 105] : List UInt8) then (if bt409.2.1 = 4 then (if bt409.2.2 = 0 then (if bt416.1.toList = ([0, 2, 7, 8] : List UInt8) then (if bt416.2 = 0 then ((backhaulref02_SameInts.f 1000 bt418.1 (([7, 8] : List Int))).bind fun t433 => (if t433 = true then (if bt418.2.1 = 4 then (if bt418.2.2 = 0 then (if bt424.2 = 8 then (if bt426.2.2 = 3 then ((octet_Flag.f true).bind fun t434 => (if t434.toList = ([1] : List UInt8) then ((octet_Flag.f false).bind fun t435 => (if t435.toList = ([0] : List UInt8) then (some true) else (some false))) else (some false))) else (some false)) else (some false)) else (some false)) else (some false)) else (some false))) else (some false)) else (some false)) else (some false)) else (some false)) else (some false)) else (some false)) else (some false)) else (some false)) else (some false)) else (some false)) else (some false)) else (some false))))))))) else (none)) = some true := H
  have A1 := Aside0.mk A10
  clear A10
  by_cases c2 : 1 + t401.size ≤ 9223372036854775807
  · rw [if_pos c2] at H
    have c2b0 := eq_true c2
    have c2b1 : decide (1 + t401.size ≤ 9223372036854775807) = true := decide_eq_true c2
    try have c2b2 : (9223372036854775807 < 1 + t401.size) = False := eq_false (Nat.not_lt.2 c2)
    replace H := Option.bind_eq_some_iff.mp H
    obtain ⟨⟨t403, t404, t405⟩, A30, H⟩ := H
    replace H : ((octet_Lay.f 1000 (⟨#[104, 105]⟩ : ByteArray)).bind fun bt407 => ((octet_Take.f 1000 bt407.1 0 2).bind fun bt409 => ((octet_Row.f 1000 1 (([7, 8] : List Int))).bind fun bt416 => ((octet_Unrow.f 1000 bt416.1 0 1 2).bind fun bt418 => ((octet_Put.f 1000 256 1).bind fun bt424 => ((octet_Take.f 1000 bt407.1 0 1).bind fun bt426 => (if t401.toList = ([0, 0, 1, 2] : List UInt8) then (if t402 = 0 then (if t403 = 258 then (if t404 = 5 then (if t405 = 0 then (if bt407.1.toList = ([0, 2, 104, 105] : List UInt8) then (if bt407.2 = 0 then (if bt409.1.toList = ([104, 105] : List UInt8) then (if bt409.2.1 = 4 then (if bt409.2.2 = 0 then (if bt416.1.toList = ([0, 2, 7, 8] : List UInt8) then (if bt416.2 = 0 then ((backhaulref02_SameInts.f 1000 bt418.1 (([7, 8] : List Int))).bind fun t433 => (if t433 = true then (if bt418.2.1 = 4 then (if bt418.2.2 = 0 then (if bt424.2 = 8 then (if bt426.2.2 = 3 then ((octet_Flag.f true).bind fun t434 => (if t434.toList = ([1] : List UInt8) then ((octet_Flag.f false).bind fun t435 => (if t435.toList = ([0] : List UInt8) then (some true) else (some false))) else (some false))) else (some false)) else (some false)) else (some false)) else (some false)) else (some false))) else (some false)) else (some false)) else (some false)) else (some false)) else (some false)) else (some false)) else (some false)) else (some false)) else (some false)) else (some false)) else (some false)) else (some false)))))))) = some true := H
    have A3 := Aside0.mk A30
    clear A30
    replace H := Option.bind_eq_some_iff.mp H
    obtain ⟨⟨t407, t408⟩, A40, H⟩ := H
    replace H : ((octet_Take.f 1000 t407 0 2).bind fun bt409 => ((octet_Row.f 1000 1 (([7, 8] : List Int))).bind fun bt416 => ((octet_Unrow.f 1000 bt416.1 0 1 2).bind fun bt418 => ((octet_Put.f 1000 256 1).bind fun bt424 => ((octet_Take.f 1000 t407 0 1).bind fun bt426 => (if t401.toList = ([0, 0, 1, 2] : List UInt8) then (if t402 = 0 then (if t403 = 258 then (if t404 = 5 then (if t405 = 0 then (if t407.toList = ([0, 2, 104, 105] : List UInt8) then (if t408 = 0 then (if bt409.1.toList = ([104, 105] : List UInt8) then (if bt409.2.1 = 4 then (if bt409.2.2 = 0 then (if bt416.1.toList = ([0, 2, 7, 8] : List UInt8) then (if bt416.2 = 0 then ((backhaulref02_SameInts.f 1000 bt418.1 (([7, 8] : List Int))).bind fun t433 => (if t433 = true then (if bt418.2.1 = 4 then (if bt418.2.2 = 0 then (if bt424.2 = 8 then (if bt426.2.2 = 3 then ((octet_Flag.f true).bind fun t434 => (if t434.toList = ([1] : List UInt8) then ((octet_Flag.f false).bind fun t435 => (if t435.toList = ([0] : List UInt8) then (some true) else (some false))) else (some false))) else (some false)) else (some false)) else (some false)) else (some false)) else (some false))) else (some false)) else (some false)) else (some false)) else (some false)) else (some false)) else (some false)) else (some false)) else (some false)) else (some false)) else (some false)) else (some false)) else (some false))))))) = some true := H
    have A4 := Aside0.mk A40
    clear A40
    replace H := Option.bind_eq_some_iff.mp H
    obtain ⟨⟨t409, t410, t411⟩, A50, H⟩ := H
    replace H : ((octet_Row.f 1000 1 (([7, 8] : List Int))).bind fun bt416 => ((octet_Unrow.f 1000 bt416.1 0 1 2).bind fun bt418 => ((octet_Put.f 1000 256 1).bind fun bt424 => ((octet_Take.f 1000 t407 0 1).bind fun bt426 => (if t401.toList = ([0, 0, 1, 2] : List UInt8) then (if t402 = 0 then (if t403 = 258 then (if t404 = 5 then (if t405 = 0 then (if t407.toList = ([0, 2, 104, 105] : List UInt8) then (if t408 = 0 then (if t409.toList = ([104, 105] : List UInt8) then (if t410 = 4 then (if t411 = 0 then (if bt416.1.toList = ([0, 2, 7, 8] : List UInt8) then (if bt416.2 = 0 then ((backhaulref02_SameInts.f 1000 bt418.1 (([7, 8] : List Int))).bind fun t433 => (if t433 = true then (if bt418.2.1 = 4 then (if bt418.2.2 = 0 then (if bt424.2 = 8 then (if bt426.2.2 = 3 then ((octet_Flag.f true).bind fun t434 => (if t434.toList = ([1] : List UInt8) then ((octet_Flag.f false).bind fun t435 => (if t435.toList = ([0] : List UInt8) then (some true) else (some false))) else (some false))) else (some false)) else (some false)) else (some false)) else (some false)) else (some false))) else (some false)) else (some false)) else (some false)) else (some false)) else (some false)) else (some false)) else (some false)) else (some false)) else (some false)) else (some false)) else (some false)) else (some false)))))) = some true := H
    have A5 := Aside0.mk A50
    clear A50
    obtain ⟨y413, hy413⟩ : ∃ y_ : List Int, y_ = (([7, 8] : List Int)) := ⟨_, rfl⟩
    replace H : ((octet_Row.f 1000 1 y413).bind fun bt416 => ((octet_Unrow.f 1000 bt416.1 0 1 2).bind fun bt418 => ((octet_Put.f 1000 256 1).bind fun bt424 => ((octet_Take.f 1000 t407 0 1).bind fun bt426 => (if t401.toList = ([0, 0, 1, 2] : List UInt8) then (if t402 = 0 then (if t403 = 258 then (if t404 = 5 then (if t405 = 0 then (if t407.toList = ([0, 2, 104, 105] : List UInt8) then (if t408 = 0 then (if t409.toList = ([104, 105] : List UInt8) then (if t410 = 4 then (if t411 = 0 then (if bt416.1.toList = ([0, 2, 7, 8] : List UInt8) then (if bt416.2 = 0 then ((backhaulref02_SameInts.f 1000 bt418.1 (([7, 8] : List Int))).bind fun t433 => (if t433 = true then (if bt418.2.1 = 4 then (if bt418.2.2 = 0 then (if bt424.2 = 8 then (if bt426.2.2 = 3 then ((octet_Flag.f true).bind fun t434 => (if t434.toList = ([1] : List UInt8) then ((octet_Flag.f false).bind fun t435 => (if t435.toList = ([0] : List UInt8) then (some true) else (some false))) else (some false))) else (some false)) else (some false)) else (some false)) else (some false)) else (some false))) else (some false)) else (some false)) else (some false)) else (some false)) else (some false)) else (some false)) else (some false)) else (some false)) else (some false)) else (some false)) else (some false)) else (some false)))))) = some true := by first | (rw [hy413]; with_reducible exact H) | (have H2_ := (Option.bind_some _ _).symm.trans H; rw [hy413]; with_reducible exact H2_) | (have H2_ := (Option.bind_some _ _).symm.trans H; with_reducible exact H2_) | with_reducible exact H | (rw [hy413]; exact H) | exact H
    have Ny413 := Aside0.mk hy413
    clear hy413
    replace H := Option.bind_eq_some_iff.mp H
    obtain ⟨⟨t416, t417⟩, A60, H⟩ := H
    replace H : ((octet_Unrow.f 1000 t416 0 1 2).bind fun bt418 => ((octet_Put.f 1000 256 1).bind fun bt424 => ((octet_Take.f 1000 t407 0 1).bind fun bt426 => (if t401.toList = ([0, 0, 1, 2] : List UInt8) then (if t402 = 0 then (if t403 = 258 then (if t404 = 5 then (if t405 = 0 then (if t407.toList = ([0, 2, 104, 105] : List UInt8) then (if t408 = 0 then (if t409.toList = ([104, 105] : List UInt8) then (if t410 = 4 then (if t411 = 0 then (if t416.toList = ([0, 2, 7, 8] : List UInt8) then (if t417 = 0 then ((backhaulref02_SameInts.f 1000 bt418.1 (([7, 8] : List Int))).bind fun t433 => (if t433 = true then (if bt418.2.1 = 4 then (if bt418.2.2 = 0 then (if bt424.2 = 8 then (if bt426.2.2 = 3 then ((octet_Flag.f true).bind fun t434 => (if t434.toList = ([1] : List UInt8) then ((octet_Flag.f false).bind fun t435 => (if t435.toList = ([0] : List UInt8) then (some true) else (some false))) else (some false))) else (some false)) else (some false)) else (some false)) else (some false)) else (some false))) else (some false)) else (some false)) else (some false)) else (some false)) else (some false)) else (some false)) else (some false)) else (some false)) else (some false)) else (some false)) else (some false)) else (some false))))) = some true := H
    have A6 := Aside0.mk A60
    clear A60
    replace H := Option.bind_eq_some_iff.mp H
    obtain ⟨⟨t418, t421, t422⟩, A70, H⟩ := H
    replace H : ((octet_Put.f 1000 256 1).bind fun bt424 => ((octet_Take.f 1000 t407 0 1).bind fun bt426 => (if t401.toList = ([0, 0, 1, 2] : List UInt8) then (if t402 = 0 then (if t403 = 258 then (if t404 = 5 then (if t405 = 0 then (if t407.toList = ([0, 2, 104, 105] : List UInt8) then (if t408 = 0 then (if t409.toList = ([104, 105] : List UInt8) then (if t410 = 4 then (if t411 = 0 then (if t416.toList = ([0, 2, 7, 8] : List UInt8) then (if t417 = 0 then ((backhaulref02_SameInts.f 1000 t418 (([7, 8] : List Int))).bind fun t433 => (if t433 = true then (if t421 = 4 then (if t422 = 0 then (if bt424.2 = 8 then (if bt426.2.2 = 3 then ((octet_Flag.f true).bind fun t434 => (if t434.toList = ([1] : List UInt8) then ((octet_Flag.f false).bind fun t435 => (if t435.toList = ([0] : List UInt8) then (some true) else (some false))) else (some false))) else (some false)) else (some false)) else (some false)) else (some false)) else (some false))) else (some false)) else (some false)) else (some false)) else (some false)) else (some false)) else (some false)) else (some false)) else (some false)) else (some false)) else (some false)) else (some false)) else (some false)))) = some true := H
    have A7 := Aside0.mk A70
    clear A70
    replace H := Option.bind_eq_some_iff.mp H
    obtain ⟨⟨t424, t425⟩, A80, H⟩ := H
    replace H : ((octet_Take.f 1000 t407 0 1).bind fun bt426 => (if t401.toList = ([0, 0, 1, 2] : List UInt8) then (if t402 = 0 then (if t403 = 258 then (if t404 = 5 then (if t405 = 0 then (if t407.toList = ([0, 2, 104, 105] : List UInt8) then (if t408 = 0 then (if t409.toList = ([104, 105] : List UInt8) then (if t410 = 4 then (if t411 = 0 then (if t416.toList = ([0, 2, 7, 8] : List UInt8) then (if t417 = 0 then ((backhaulref02_SameInts.f 1000 t418 (([7, 8] : List Int))).bind fun t433 => (if t433 = true then (if t421 = 4 then (if t422 = 0 then (if t425 = 8 then (if bt426.2.2 = 3 then ((octet_Flag.f true).bind fun t434 => (if t434.toList = ([1] : List UInt8) then ((octet_Flag.f false).bind fun t435 => (if t435.toList = ([0] : List UInt8) then (some true) else (some false))) else (some false))) else (some false)) else (some false)) else (some false)) else (some false)) else (some false))) else (some false)) else (some false)) else (some false)) else (some false)) else (some false)) else (some false)) else (some false)) else (some false)) else (some false)) else (some false)) else (some false)) else (some false))) = some true := H
    have A8 := Aside0.mk A80
    clear A80
    replace H := Option.bind_eq_some_iff.mp H
    obtain ⟨⟨t426, t427, t428⟩, A90, H⟩ := H
    replace H : (if t401.toList = ([0, 0, 1, 2] : List UInt8) then (if t402 = 0 then (if t403 = 258 then (if t404 = 5 then (if t405 = 0 then (if t407.toList = ([0, 2, 104, 105] : List UInt8) then (if t408 = 0 then (if t409.toList = ([104, 105] : List UInt8) then (if t410 = 4 then (if t411 = 0 then (if t416.toList = ([0, 2, 7, 8] : List UInt8) then (if t417 = 0 then ((backhaulref02_SameInts.f 1000 t418 (([7, 8] : List Int))).bind fun t433 => (if t433 = true then (if t421 = 4 then (if t422 = 0 then (if t425 = 8 then (if t428 = 3 then ((octet_Flag.f true).bind fun t434 => (if t434.toList = ([1] : List UInt8) then ((octet_Flag.f false).bind fun t435 => (if t435.toList = ([0] : List UInt8) then (some true) else (some false))) else (some false))) else (some false)) else (some false)) else (some false)) else (some false)) else (some false))) else (some false)) else (some false)) else (some false)) else (some false)) else (some false)) else (some false)) else (some false)) else (some false)) else (some false)) else (some false)) else (some false)) else (some false)) = some true := H
    have A9 := Aside0.mk A90
    clear A90
    by_cases c10 : t401.toList = ([0, 0, 1, 2] : List UInt8)
    · rw [if_pos c10] at H
      have c10b0 : (t401.toList == ([0, 0, 1, 2] : List UInt8)) = true := beq_iff_eq.mpr c10
      have c10b1 : (t401.toList != ([0, 0, 1, 2] : List UInt8)) = false := bne_eq_false_iff_eq.mpr c10
      clear c10
      by_cases c11 : t402 = 0
      · rw [if_pos c11] at H
        have c11b0 : (t402 == 0) = true := beq_iff_eq.mpr c11
        have c11b1 : (t402 != 0) = false := bne_eq_false_iff_eq.mpr c11
        clear c11
        by_cases c12 : t403 = 258
        · rw [if_pos c12] at H
          have c12b0 : (t403 == 258) = true := beq_iff_eq.mpr c12
          have c12b1 : (t403 != 258) = false := bne_eq_false_iff_eq.mpr c12
          clear c12
          by_cases c13 : t404 = 5
          · rw [if_pos c13] at H
            have c13b0 : (t404 == 5) = true := beq_iff_eq.mpr c13
            have c13b1 : (t404 != 5) = false := bne_eq_false_iff_eq.mpr c13
            clear c13
            by_cases c14 : t405 = 0
            · rw [if_pos c14] at H
              have c14b0 : (t405 == 0) = true := beq_iff_eq.mpr c14
              have c14b1 : (t405 != 0) = false := bne_eq_false_iff_eq.mpr c14
              clear c14
              by_cases c15 : t407.toList = ([0, 2, 104, 105] : List UInt8)
              · rw [if_pos c15] at H
                have c15b0 : (t407.toList == ([0, 2, 104, 105] : List UInt8)) = true := beq_iff_eq.mpr c15
                have c15b1 : (t407.toList != ([0, 2, 104, 105] : List UInt8)) = false := bne_eq_false_iff_eq.mpr c15
                clear c15
                by_cases c16 : t408 = 0
                · rw [if_pos c16] at H
                  have c16b0 : (t408 == 0) = true := beq_iff_eq.mpr c16
                  have c16b1 : (t408 != 0) = false := bne_eq_false_iff_eq.mpr c16
                  clear c16
                  by_cases c17 : t409.toList = ([104, 105] : List UInt8)
                  · rw [if_pos c17] at H
                    have c17b0 : (t409.toList == ([104, 105] : List UInt8)) = true := beq_iff_eq.mpr c17
                    have c17b1 : (t409.toList != ([104, 105] : List UInt8)) = false := bne_eq_false_iff_eq.mpr c17
                    clear c17
                    by_cases c18 : t410 = 4
                    · rw [if_pos c18] at H
                      have c18b0 : (t410 == 4) = true := beq_iff_eq.mpr c18
                      have c18b1 : (t410 != 4) = false := bne_eq_false_iff_eq.mpr c18
                      clear c18
                      by_cases c19 : t411 = 0
                      · rw [if_pos c19] at H
                        have c19b0 : (t411 == 0) = true := beq_iff_eq.mpr c19
                        have c19b1 : (t411 != 0) = false := bne_eq_false_iff_eq.mpr c19
                        clear c19
                        by_cases c20 : t416.toList = ([0, 2, 7, 8] : List UInt8)
                        · rw [if_pos c20] at H
                          have c20b0 : (t416.toList == ([0, 2, 7, 8] : List UInt8)) = true := beq_iff_eq.mpr c20
                          have c20b1 : (t416.toList != ([0, 2, 7, 8] : List UInt8)) = false := bne_eq_false_iff_eq.mpr c20
                          clear c20
                          by_cases c21 : t417 = 0
                          · rw [if_pos c21] at H
                            have c21b0 : (t417 == 0) = true := beq_iff_eq.mpr c21
                            have c21b1 : (t417 != 0) = false := bne_eq_false_iff_eq.mpr c21
                            clear c21
                            obtain ⟨y430, hy430⟩ : ∃ y_ : List Int, y_ = (([7, 8] : List Int)) := ⟨_, rfl⟩
                            replace H : ((backhaulref02_SameInts.f 1000 t418 y430).bind fun t433 => (if t433 = true then (if t421 = 4 then (if t422 = 0 then (if t425 = 8 then (if t428 = 3 then ((octet_Flag.f true).bind fun t434 => (if t434.toList = ([1] : List UInt8) then ((octet_Flag.f false).bind fun t435 => (if t435.toList = ([0] : List UInt8) then (some true) else (some false))) else (some false))) else (some false)) else (some false)) else (some false)) else (some false)) else (some false))) = some true := by first | (rw [hy430]; with_reducible exact H) | (have H2_ := (Option.bind_some _ _).symm.trans H; rw [hy430]; with_reducible exact H2_) | (have H2_ := (Option.bind_some _ _).symm.trans H; with_reducible exact H2_) | with_reducible exact H | (rw [hy430]; exact H) | exact H
                            have Ny430 := Aside0.mk hy430
                            clear hy430
                            replace H := Option.bind_eq_some_iff.mp H
                            obtain ⟨t433, A220, H⟩ := H
                            replace H : (if t433 = true then (if t421 = 4 then (if t422 = 0 then (if t425 = 8 then (if t428 = 3 then ((octet_Flag.f true).bind fun t434 => (if t434.toList = ([1] : List UInt8) then ((octet_Flag.f false).bind fun t435 => (if t435.toList = ([0] : List UInt8) then (some true) else (some false))) else (some false))) else (some false)) else (some false)) else (some false)) else (some false)) else (some false)) = some true := H
                            have A22 := Aside0.mk A220
                            clear A220
                            by_cases c23 : t433 = true
                            · subst c23
                              have H1 : (if t421 = 4 then (if t422 = 0 then (if t425 = 8 then (if t428 = 3 then ((octet_Flag.f true).bind fun t434 => (if t434.toList = ([1] : List UInt8) then ((octet_Flag.f false).bind fun t435 => (if t435.toList = ([0] : List UInt8) then (some true) else (some false))) else (some false))) else (some false)) else (some false)) else (some false)) else (some false)) = some true := by first | (rw [if_pos rfl] at H; exact H) | rfl
                              clear H
                              have H := H1
                              clear H1
                              by_cases c24 : t421 = 4
                              · rw [if_pos c24] at H
                                have c24b0 : (t421 == 4) = true := beq_iff_eq.mpr c24
                                have c24b1 : (t421 != 4) = false := bne_eq_false_iff_eq.mpr c24
                                clear c24
                                by_cases c25 : t422 = 0
                                · rw [if_pos c25] at H
                                  have c25b0 : (t422 == 0) = true := beq_iff_eq.mpr c25
                                  have c25b1 : (t422 != 0) = false := bne_eq_false_iff_eq.mpr c25
                                  clear c25
                                  by_cases c26 : t425 = 8
                                  · rw [if_pos c26] at H
                                    have c26b0 : (t425 == 8) = true := beq_iff_eq.mpr c26
                                    have c26b1 : (t425 != 8) = false := bne_eq_false_iff_eq.mpr c26
                                    clear c26
                                    by_cases c27 : t428 = 3
                                    · rw [if_pos c27] at H
                                      have c27b0 : (t428 == 3) = true := beq_iff_eq.mpr c27
                                      have c27b1 : (t428 != 3) = false := bne_eq_false_iff_eq.mpr c27
                                      clear c27
                                      replace H := Option.bind_eq_some_iff.mp H
                                      obtain ⟨t434, A280, H⟩ := H
                                      replace H : (if t434.toList = ([1] : List UInt8) then ((octet_Flag.f false).bind fun t435 => (if t435.toList = ([0] : List UInt8) then (some true) else (some false))) else (some false)) = some true := H
                                      have A28 := Aside0.mk A280
                                      clear A280
                                      by_cases c29 : t434.toList = ([1] : List UInt8)
                                      · rw [if_pos c29] at H
                                        have c29b0 : (t434.toList == ([1] : List UInt8)) = true := beq_iff_eq.mpr c29
                                        have c29b1 : (t434.toList != ([1] : List UInt8)) = false := bne_eq_false_iff_eq.mpr c29
                                        clear c29
                                        replace H := Option.bind_eq_some_iff.mp H
                                        obtain ⟨t435, A300, H⟩ := H
                                        replace H : (if t435.toList = ([0] : List UInt8) then (some true) else (some false)) = some true := H
                                        have A30 := Aside0.mk A300
                                        clear A300
                                        by_cases c31 : t435.toList = ([0] : List UInt8)
                                        · rw [if_pos c31] at H
                                          have c31b0 : (t435.toList == ([0] : List UInt8)) = true := beq_iff_eq.mpr c31
                                          have c31b1 : (t435.toList != ([0] : List UInt8)) = false := bne_eq_false_iff_eq.mpr c31
                                          clear c31
                                          clear H
                                          go_enter Try.func34, Try.ntmps34
                                          go_wp2_with (first | ((with_reducible refine gate_callee (f := 35) rfl ?_); refine goesL_ (some 18) rfl rfl Try.func35 (by kernel_rfl) rfl #[.int .i64 258, .int .i64 4] rfl (by (try simp only [List.map_toArray, List.map_cons, List.map_nil]); first | done | rfl | (simp only [List.length_drop, List.length_take]; rfl)) ?_; (with_reducible refine (octet_Put.calls 1000 258 4 t401 t402 _ A1.out).mono ?_); rintro e w32 ⟨rfl, hb⟩; refine ⟨_, rfl, ?_⟩; have n0_ := Aside0.mk (below_step (by repeat (first | (with_reducible first | exact HB.out | apply below_alloc | apply pw_below_drewN | apply below_drew1) | exact HB.out)) hb); clear HB; have HB := n0_; clear n0_; (try clear hb); (try clear hb2); (try clear hk); (try clear hi)) | ((with_reducible refine gate_callee (f := 37) rfl ?_); refine goesL_ (some 24) rfl rfl Try.func37 (by kernel_rfl) rfl #[.string ((⟨#[120]⟩ : ByteArray) ++ t401), .int .i64 1, .int .i64 4] rfl (by (try simp only [List.map_toArray, List.map_cons, List.map_nil]); first | done | rfl | (simp only [List.length_drop, List.length_take]; rfl)) ?_; (with_reducible refine (octet_Get.calls 1000 ((⟨#[120]⟩ : ByteArray) ++ t401) 1 4 t403 t404 t405 _ A3.out).mono ?_); rintro e w33 ⟨rfl, hb⟩; refine ⟨_, rfl, ?_⟩; have n0_ := Aside0.mk (below_step (by repeat (first | (with_reducible first | exact HB.out | apply below_alloc | apply pw_below_drewN | apply below_drew1) | exact HB.out)) hb); clear HB; have HB := n0_; clear n0_; (try clear hb); (try clear hb2); (try clear hk); (try clear hi)) | ((with_reducible refine gate_dst (N := 3) rfl ?_); (try (refine gate_guard (by rfl) ?_; dsimp only)); refine box_event ?hg (N := 3) ?hd (cs := #[.int .i64 0, .int .i64 0]) (t := 49) ?hr ?_; (case hd => rfl); (case hg => rfl); (case hr => first | (go_simp; done) | (go_simp; rfl)); intro gb406 hg w34 hbox hb; have n0_ := Aside0.mk (below_step (by repeat (first | (with_reducible first | exact HB.out | apply below_alloc | apply pw_below_drewN | apply below_drew1) | exact HB.out)) hb); have n1_ := Aside0.mk (hbox); have n2_ := Aside0.mk ((by rw [hg]; exact (below_size (by repeat (first | (with_reducible first | exact HB.out | apply below_alloc | apply pw_below_drewN | apply below_drew1) | exact HB.out))) : w.heap.size ≤ gb406)); have n3_ := Aside0.mk ((by rw [hg]; exact (below_size (by repeat (first | (with_reducible first | exact HB.out | apply below_alloc | apply pw_below_drewN | apply below_drew1) | exact HB.out))) : w.heap.size ≤ gb406)); clear HB; have HB := n0_; have BK406 := n1_; have GW406 := n2_; have GE406 := n3_; clear n0_ n1_ n2_ n3_; clear hb hbox hg; have hcz35_0 : w34.cell? ⟨gb406, 0, none⟩ = some (.int .i64 0) := (blk_cell BK406.out 0).trans rfl; have hcz35_1 : w34.cell? ⟨gb406, 1, none⟩ = some (.int .i64 0) := (blk_cell BK406.out 1).trans rfl; have hfz35_0 := blk_frozen BK406.out 0; have hfz35_1 := blk_frozen BK406.out 1) | ((with_reducible refine gate_callee (f := 39) rfl ?_); refine goesL_ (some 28) rfl rfl Try.func39 (by kernel_rfl) rfl #[.string (⟨#[104, 105]⟩ : ByteArray)] rfl (by (try simp only [List.map_toArray, List.map_cons, List.map_nil]); first | done | rfl | (simp only [List.length_drop, List.length_take]; rfl)) ?_; (with_reducible refine (octet_Lay.calls 1000 (⟨#[104, 105]⟩ : ByteArray) t407 t408 _ A4.out).mono ?_); rintro e w36 ⟨rfl, hb⟩; refine ⟨_, rfl, ?_⟩; have n0_ := Aside0.mk (blk_below (g := gb406) (o := .cells #[.int .i64 t403, .int .i64 t404] 49 (0, 0)) (by (with_reducible repeat (first | refine blk_drewN ?_ _ | refine blk_drew ?_ | refine blk_alloc ?_ _)); refine blk_put (cs := #[.int .i64 t403, .int .i64 0]) ?_ 1 _ rfl; (with_reducible repeat (first | refine blk_drewN ?_ _ | refine blk_drew ?_ | refine blk_alloc ?_ _)); refine blk_put (cs := #[.int .i64 0, .int .i64 0]) ?_ 0 _ rfl; (with_reducible repeat (first | refine blk_drewN ?_ _ | refine blk_drew ?_ | refine blk_alloc ?_ _)); exact BK406.out) hb); have n1_ := Aside0.mk (below_step (by repeat (first | (with_reducible first | exact HB.out | apply below_alloc | apply pw_below_drewN | apply below_drew1 | refine below_set ?_ GE406.out) | exact HB.out)) hb); clear BK406; clear HB; have BK406 := n0_; have HB := n1_; clear n0_ n1_; (try clear hb); (try clear hb2); (try clear hk); (try clear hi)) | ((with_reducible refine gate_callee (f := 41) rfl ?_); refine goesL_ (some 33) rfl rfl Try.func41 (by kernel_rfl) rfl #[.string t407, .int .i64 0, .int .i64 2] rfl (by (try simp only [List.map_toArray, List.map_cons, List.map_nil]); first | done | rfl | (simp only [List.length_drop, List.length_take]; rfl)) ?_; (with_reducible refine (octet_Take.calls 1000 t407 0 2 t409 t410 t411 _ A5.out).mono ?_); rintro e w37 ⟨rfl, hb⟩; refine ⟨_, rfl, ?_⟩; have n0_ := Aside0.mk (blk_below (g := gb406) (o := .cells #[.int .i64 t403, .int .i64 t404] 49 (0, 0)) (by (with_reducible repeat (first | refine blk_drewN ?_ _ | refine blk_drew ?_ | refine blk_alloc ?_ _)); exact BK406.out) hb); have n1_ := Aside0.mk (below_step (by repeat (first | (with_reducible first | exact HB.out | apply below_alloc | apply pw_below_drewN | apply below_drew1 | refine below_set ?_ GE406.out) | exact HB.out)) hb); clear BK406; clear HB; have BK406 := n0_; have HB := n1_; clear n0_ n1_; (try clear hb); (try clear hb2); (try clear hk); (try clear hi)) | ((with_reducible refine gate_dst (N := 7) rfl ?_); (try (refine gate_guard (by rfl) ?_; dsimp only)); refine box_event ?hg (N := 7) ?hd (cs := #[.string (⟨#[]⟩ : ByteArray), .int .i64 0]) (t := 58) ?hr ?_; (case hd => rfl); (case hg => rfl); (case hr => first | (go_simp; done) | (go_simp; rfl)); intro gb412 hg w38 hbox hb; have n0_ := Aside0.mk (blk_below (g := gb406) (o := .cells #[.int .i64 t403, .int .i64 t404] 49 (0, 0)) (by (with_reducible repeat (first | refine blk_drewN ?_ _ | refine blk_drew ?_ | refine blk_alloc ?_ _)); exact BK406.out) hb); have n1_ := Aside0.mk (below_step (by repeat (first | (with_reducible first | exact HB.out | apply below_alloc | apply pw_below_drewN | apply below_drew1 | refine below_set ?_ GE406.out) | exact HB.out)) hb); have n2_ := Aside0.mk (hbox); have n3_ := Aside0.mk ((by rw [hg]; exact (below_size (by repeat (first | (with_reducible first | exact HB.out | apply below_alloc | apply pw_below_drewN | apply below_drew1 | refine below_set ?_ GE406.out) | exact HB.out))) : w.heap.size ≤ gb412)); have n4_ := Aside0.mk ((by rw [hg]; exact (below_size (by repeat (first | (with_reducible first | exact HB.out | apply below_alloc | apply pw_below_drewN | apply below_drew1 | refine below_set ?_ GE406.out) | exact HB.out))) : w.heap.size ≤ gb412)); have n5_ := Aside0.mk ((by rw [hg]; exact Nat.ne_of_lt (blk_lt (g := gb406) (o := .cells #[.int .i64 t403, .int .i64 t404] 49 (0, 0)) (by (with_reducible repeat (first | refine blk_drewN ?_ _ | refine blk_drew ?_ | refine blk_alloc ?_ _)); exact BK406.out)) : gb406 ≠ gb412)); have n6_ := Aside0.mk ((by rw [hg]; exact Nat.ne_of_gt (blk_lt (g := gb406) (o := .cells #[.int .i64 t403, .int .i64 t404] 49 (0, 0)) (by (with_reducible repeat (first | refine blk_drewN ?_ _ | refine blk_drew ?_ | refine blk_alloc ?_ _)); exact BK406.out)) : gb412 ≠ gb406)); clear BK406; clear HB; have BK406 := n0_; have HB := n1_; have BK412 := n2_; have GW412 := n3_; have GE412 := n4_; have NB406_412 := n5_; have NB412_406 := n6_; clear n0_ n1_ n2_ n3_ n4_ n5_ n6_; clear hb hbox hg; have hnb39 := NB412_406.out; have hnc39 := NB406_412.out; have hcz40_0 : w38.cell? ⟨gb412, 0, none⟩ = some (.string (⟨#[]⟩ : ByteArray)) := (blk_cell BK412.out 0).trans rfl; have hcz40_1 : w38.cell? ⟨gb412, 1, none⟩ = some (.int .i64 0) := (blk_cell BK412.out 1).trans rfl; have hfz40_0 := blk_frozen BK412.out 0; have hfz40_1 := blk_frozen BK412.out 1) | ((with_reducible refine gate_dst (N := 37) rfl ?_); (try (refine gate_guard (by rfl) ?_; dsimp only)); refine Kd.R_lit (Kd.int .i64) _ 3 ?hg (N := 37) ?hd (xs := ([7, 8] : List Int)) (inner := [.int .i64 7, .int .i64 8]) (ok := fun _ => True) (okp := fun _ => True) ?hr ?hp (fun _ hk => hk) trivial (Below.refl _ _) (Nat.le_refl _) (by simp) ?_; (case hd => rfl); (case hg => rfl); (case hr => first | (go_simp; done) | (go_simp; rfl)); (case hp => exact (Reps.one (show Kd.M (Kd.int .i64) _ _ _ 7 [.int .i64 7] from rfl) (Reps.one (show Kd.M (Kd.int .i64) _ _ _ 8 [.int .i64 8] from rfl) (Reps.none _ _)))); intro v414 w41 ho42 hb hg_ hnew_; clear hg_ hnew_; (first | rw [← Ny413.out] at ho42 | (simp only [Int.reduceToNat] at ho42; rw [← Ny413.out] at ho42)); have n0_ := Aside0.mk (Kd.R_lower ho42 (below_size (by repeat (first | (with_reducible first | exact HB.out | apply below_alloc | apply pw_below_drewN | apply below_drew1 | refine below_set ?_ GE406.out | refine below_set ?_ GE412.out) | exact HB.out)))); have n1_ := Aside0.mk (blk_below (g := gb406) (o := .cells #[.int .i64 t403, .int .i64 t404] 49 (0, 0)) (by (with_reducible repeat (first | refine blk_drewN ?_ _ | refine blk_drew ?_ | refine blk_alloc ?_ _)); refine blk_far ?_ NB406_412.out _; (with_reducible repeat (first | refine blk_drewN ?_ _ | refine blk_drew ?_ | refine blk_alloc ?_ _)); refine blk_far ?_ NB406_412.out _; (with_reducible repeat (first | refine blk_drewN ?_ _ | refine blk_drew ?_ | refine blk_alloc ?_ _)); exact BK406.out) hb); have n2_ := Aside0.mk (blk_below (g := gb412) (o := .cells #[.string t409, .int .i64 t410] 58 (0, 0)) (by (with_reducible repeat (first | refine blk_drewN ?_ _ | refine blk_drew ?_ | refine blk_alloc ?_ _)); refine blk_put (cs := #[.string t409, .int .i64 0]) ?_ 1 _ rfl; (with_reducible repeat (first | refine blk_drewN ?_ _ | refine blk_drew ?_ | refine blk_alloc ?_ _)); refine blk_put (cs := #[.string (⟨#[]⟩ : ByteArray), .int .i64 0]) ?_ 0 _ rfl; (with_reducible repeat (first | refine blk_drewN ?_ _ | refine blk_drew ?_ | refine blk_alloc ?_ _)); exact BK412.out) hb); have n3_ := Aside0.mk (below_step (by repeat (first | (with_reducible first | exact HB.out | apply below_alloc | apply pw_below_drewN | apply below_drew1 | refine below_set ?_ GE406.out | refine below_set ?_ GE412.out) | exact HB.out)) hb); clear BK406; clear BK412; clear HB; have HO415 := n0_; have BK406 := n1_; have BK412 := n2_; have HB := n3_; clear n0_ n1_ n2_ n3_; clear hb ho42; obtain ⟨Ao43, co43, eo43⟩ := Kd.R_slice HO415.out; subst eo43) | ((with_reducible refine gate_callee (f := 44) rfl ?_); refine goesL_ (some 38) rfl rfl Try.func44 (by kernel_rfl) rfl #[.int .i64 1, .slice Ao43 y413.length co43] rfl (by (try simp only [List.map_toArray, List.map_cons, List.map_nil]); first | done | rfl | (simp only [List.length_drop, List.length_take]; rfl)) ?_; (with_reducible refine (octet_Row.calls 1000 1 _ _ y413 t416 t417 _ ?side1 ?side2 A6.out).mono ?_); (case side1 => repeat (first | exact (Kd.R_reads' HO415.out).2.2 | (with_reducible refine Kd.C_alloc ?_ _) | (with_reducible refine Kd.C_drewN ?_ _) | (with_reducible refine Kd.C_drew ?_))); (case side2 => exact (Kd.R_reads' HO415.out).2.1); rintro e w44 ⟨rfl, hb⟩; refine ⟨_, rfl, ?_⟩; have n0_ := Aside0.mk (Kd.R_below (by (with_reducible repeat (first | apply Kd.R_alloc | apply Kd.R_drewN | apply Kd.R_drew)); exact HO415.out) hb); have n1_ := Aside0.mk (blk_below (g := gb406) (o := .cells #[.int .i64 t403, .int .i64 t404] 49 (0, 0)) (by (with_reducible repeat (first | refine blk_drewN ?_ _ | refine blk_drew ?_ | refine blk_alloc ?_ _)); exact BK406.out) hb); have n2_ := Aside0.mk (blk_below (g := gb412) (o := .cells #[.string t409, .int .i64 t410] 58 (0, 0)) (by (with_reducible repeat (first | refine blk_drewN ?_ _ | refine blk_drew ?_ | refine blk_alloc ?_ _)); exact BK412.out) hb); have n3_ := Aside0.mk (below_step (by repeat (first | (with_reducible first | exact HB.out | apply below_alloc | apply pw_below_drewN | apply below_drew1 | refine below_set ?_ GE406.out | refine below_set ?_ GE412.out) | exact HB.out)) hb); clear HO415; clear BK406; clear BK412; clear HB; have HO415 := n0_; have BK406 := n1_; have BK412 := n2_; have HB := n3_; clear n0_ n1_ n2_ n3_; (try clear hb); (try clear hb2); (try clear hk); (try clear hi)) | ((with_reducible refine gate_callee (f := 46) rfl ?_); refine goesL_ (some 43) rfl rfl Try.func46 (by kernel_rfl) rfl #[.string t416, .int .i64 0, .int .i64 1, .int .i64 2] rfl (by (try simp only [List.map_toArray, List.map_cons, List.map_nil]); first | done | rfl | (simp only [List.length_drop, List.length_take]; rfl)) ?_; (with_reducible refine (octet_Unrow.calls 1000 t416 0 1 2 t418 t421 t422 _ A7.out).mono ?_); rintro e w45 ⟨v419, rfl, ho0, hb⟩; refine ⟨_, rfl, ?_⟩; have n0_ := Aside0.mk (Kd.R_elder' (by (with_reducible repeat (first | apply Kd.R_alloc | apply Kd.R_drewN | apply Kd.R_drew)); exact HO415.out) (Kd.R_base ho0) hb); have n1_ := Aside0.mk (Kd.R_lower (Kd.R_new' ho0 (Kd.R_lt (by (with_reducible repeat (first | apply Kd.R_alloc | apply Kd.R_drewN | apply Kd.R_drew)); exact HO415.out))) (below_size (by repeat (first | (with_reducible first | exact HB.out | apply below_alloc | apply pw_below_drewN | apply below_drew1 | refine below_set ?_ GE406.out | refine below_set ?_ GE412.out) | exact HB.out)))); have n2_ := Aside0.mk (blk_below (g := gb406) (o := .cells #[.int .i64 t403, .int .i64 t404] 49 (0, 0)) (by (with_reducible repeat (first | refine blk_drewN ?_ _ | refine blk_drew ?_ | refine blk_alloc ?_ _)); exact BK406.out) hb); have n3_ := Aside0.mk (blk_below (g := gb412) (o := .cells #[.string t409, .int .i64 t410] 58 (0, 0)) (by (with_reducible repeat (first | refine blk_drewN ?_ _ | refine blk_drew ?_ | refine blk_alloc ?_ _)); exact BK412.out) hb); have n4_ := Aside0.mk (below_step (by repeat (first | (with_reducible first | exact HB.out | apply below_alloc | apply pw_below_drewN | apply below_drew1 | refine below_set ?_ GE406.out | refine below_set ?_ GE412.out) | exact HB.out)) hb); clear HO415; clear BK406; clear BK412; clear HB; have HO415 := n0_; have HO420 := n1_; have BK406 := n2_; have BK412 := n3_; have HB := n4_; clear n0_ n1_ n2_ n3_ n4_; (try clear hb); (try clear hb2); (try clear hk); (try clear hi); (try clear ho0)) | ((with_reducible refine gate_dst (N := 11) rfl ?_); (try (refine gate_guard (by rfl) ?_; dsimp only)); refine box_event ?hg (N := 11) ?hd (cs := #[.slice none 0 0, .int .i64 0]) (t := 69) ?hr ?_; (case hd => rfl); (case hg => rfl); (case hr => first | (go_simp; done) | (go_simp; rfl)); intro gb423 hg w46 hbox hb; have n0_ := Aside0.mk (Kd.R_below (by (with_reducible repeat (first | apply Kd.R_alloc | apply Kd.R_drewN | apply Kd.R_drew)); exact HO415.out) hb); have n1_ := Aside0.mk (Kd.R_below (by (with_reducible repeat (first | apply Kd.R_alloc | apply Kd.R_drewN | apply Kd.R_drew)); exact HO420.out) hb); have n2_ := Aside0.mk (blk_below (g := gb406) (o := .cells #[.int .i64 t403, .int .i64 t404] 49 (0, 0)) (by (with_reducible repeat (first | refine blk_drewN ?_ _ | refine blk_drew ?_ | refine blk_alloc ?_ _)); exact BK406.out) hb); have n3_ := Aside0.mk (blk_below (g := gb412) (o := .cells #[.string t409, .int .i64 t410] 58 (0, 0)) (by (with_reducible repeat (first | refine blk_drewN ?_ _ | refine blk_drew ?_ | refine blk_alloc ?_ _)); exact BK412.out) hb); have n4_ := Aside0.mk (below_step (by repeat (first | (with_reducible first | exact HB.out | apply below_alloc | apply pw_below_drewN | apply below_drew1 | refine below_set ?_ GE406.out | refine below_set ?_ GE412.out) | exact HB.out)) hb); have n5_ := Aside0.mk (hbox); have n6_ := Aside0.mk ((by rw [hg]; exact (below_size (by repeat (first | (with_reducible first | exact HB.out | apply below_alloc | apply pw_below_drewN | apply below_drew1 | refine below_set ?_ GE406.out | refine below_set ?_ GE412.out) | exact HB.out))) : w.heap.size ≤ gb423)); have n7_ := Aside0.mk ((by rw [hg]; exact (below_size (by repeat (first | (with_reducible first | exact HB.out | apply below_alloc | apply pw_below_drewN | apply below_drew1 | refine below_set ?_ GE406.out | refine below_set ?_ GE412.out) | exact HB.out))) : w.heap.size ≤ gb423)); have n8_ := Aside0.mk ((by rw [hg]; exact Nat.ne_of_lt (blk_lt (g := gb406) (o := .cells #[.int .i64 t403, .int .i64 t404] 49 (0, 0)) (by (with_reducible repeat (first | refine blk_drewN ?_ _ | refine blk_drew ?_ | refine blk_alloc ?_ _)); exact BK406.out)) : gb406 ≠ gb423)); have n9_ := Aside0.mk ((by rw [hg]; exact Nat.ne_of_gt (blk_lt (g := gb406) (o := .cells #[.int .i64 t403, .int .i64 t404] 49 (0, 0)) (by (with_reducible repeat (first | refine blk_drewN ?_ _ | refine blk_drew ?_ | refine blk_alloc ?_ _)); exact BK406.out)) : gb423 ≠ gb406)); have n10_ := Aside0.mk ((by rw [hg]; exact Nat.ne_of_lt (blk_lt (g := gb412) (o := .cells #[.string t409, .int .i64 t410] 58 (0, 0)) (by (with_reducible repeat (first | refine blk_drewN ?_ _ | refine blk_drew ?_ | refine blk_alloc ?_ _)); exact BK412.out)) : gb412 ≠ gb423)); have n11_ := Aside0.mk ((by rw [hg]; exact Nat.ne_of_gt (blk_lt (g := gb412) (o := .cells #[.string t409, .int .i64 t410] 58 (0, 0)) (by (with_reducible repeat (first | refine blk_drewN ?_ _ | refine blk_drew ?_ | refine blk_alloc ?_ _)); exact BK412.out)) : gb423 ≠ gb412)); clear HO415; clear HO420; clear BK406; clear BK412; clear HB; have HO415 := n0_; have HO420 := n1_; have BK406 := n2_; have BK412 := n3_; have HB := n4_; have BK423 := n5_; have GW423 := n6_; have GE423 := n7_; have NB406_423 := n8_; have NB423_406 := n9_; have NB412_423 := n10_; have NB423_412 := n11_; clear n0_ n1_ n2_ n3_ n4_ n5_ n6_ n7_ n8_ n9_ n10_ n11_; clear hb hbox hg; obtain ⟨Ao47, co47, eo47⟩ := Kd.R_slice HO420.out; subst eo47; have hnb48 := NB423_406.out; have hnc48 := NB406_423.out; have hnb49 := NB423_412.out; have hnc49 := NB412_423.out; have hcz50_0 : w46.cell? ⟨gb423, 0, none⟩ = some (.slice none 0 0) := (blk_cell BK423.out 0).trans rfl; have hcz50_1 : w46.cell? ⟨gb423, 1, none⟩ = some (.int .i64 0) := (blk_cell BK423.out 1).trans rfl; have hfz50_0 := blk_frozen BK423.out 0; have hfz50_1 := blk_frozen BK423.out 1) | ((with_reducible refine gate_callee (f := 35) rfl ?_); refine goesL_ (some 47) rfl rfl Try.func35 (by kernel_rfl) rfl #[.int .i64 256, .int .i64 1] rfl (by (try simp only [List.map_toArray, List.map_cons, List.map_nil]); first | done | rfl | (simp only [List.length_drop, List.length_take]; rfl)) ?_; (with_reducible refine (octet_Put.calls 1000 256 1 t424 t425 _ A8.out).mono ?_); rintro e w51 ⟨rfl, hb⟩; refine ⟨_, rfl, ?_⟩; have n0_ := Aside0.mk (Kd.R_below (by (with_reducible repeat (first | apply Kd.R_alloc | apply Kd.R_drewN | apply Kd.R_drew)); exact (Kd.R_mono (Kd.R_far (p := ⟨gb423, 1, none⟩) (Kd.R_far (p := ⟨gb423, 0, none⟩) (Kd.R_types HO415.out BK423.out (by decide)) (fun _ hk => hk.2) (.slice Ao47 t418.length co47)) (fun _ hk => hk.2) (.int .i64 t421)) (fun _ h_ => h_.1))) hb); have n1_ := Aside0.mk (Kd.R_below (by (with_reducible repeat (first | apply Kd.R_alloc | apply Kd.R_drewN | apply Kd.R_drew)); exact (Kd.R_mono (Kd.R_far (p := ⟨gb423, 1, none⟩) (Kd.R_far (p := ⟨gb423, 0, none⟩) (Kd.R_types HO420.out BK423.out (by decide)) (fun _ hk => hk.2) (.slice Ao47 t418.length co47)) (fun _ hk => hk.2) (.int .i64 t421)) (fun _ h_ => h_.1))) hb); have n2_ := Aside0.mk (blk_below (g := gb406) (o := .cells #[.int .i64 t403, .int .i64 t404] 49 (0, 0)) (by (with_reducible repeat (first | refine blk_drewN ?_ _ | refine blk_drew ?_ | refine blk_alloc ?_ _)); refine blk_far ?_ NB406_423.out _; (with_reducible repeat (first | refine blk_drewN ?_ _ | refine blk_drew ?_ | refine blk_alloc ?_ _)); refine blk_far ?_ NB406_423.out _; (with_reducible repeat (first | refine blk_drewN ?_ _ | refine blk_drew ?_ | refine blk_alloc ?_ _)); exact BK406.out) hb); have n3_ := Aside0.mk (blk_below (g := gb412) (o := .cells #[.string t409, .int .i64 t410] 58 (0, 0)) (by (with_reducible repeat (first | refine blk_drewN ?_ _ | refine blk_drew ?_ | refine blk_alloc ?_ _)); refine blk_far ?_ NB412_423.out _; (with_reducible repeat (first | refine blk_drewN ?_ _ | refine blk_drew ?_ | refine blk_alloc ?_ _)); refine blk_far ?_ NB412_423.out _; (with_reducible repeat (first | refine blk_drewN ?_ _ | refine blk_drew ?_ | refine blk_alloc ?_ _)); exact BK412.out) hb); have n4_ := Aside0.mk (blk_below (g := gb423) (o := .cells #[.slice Ao47 t418.length co47, .int .i64 t421] 69 (0, 0)) (by (with_reducible repeat (first | refine blk_drewN ?_ _ | refine blk_drew ?_ | refine blk_alloc ?_ _)); refine blk_put (cs := #[.slice Ao47 t418.length co47, .int .i64 0]) ?_ 1 _ rfl; (with_reducible repeat (first | refine blk_drewN ?_ _ | refine blk_drew ?_ | refine blk_alloc ?_ _)); refine blk_put (cs := #[.slice none 0 0, .int .i64 0]) ?_ 0 _ rfl; (with_reducible repeat (first | refine blk_drewN ?_ _ | refine blk_drew ?_ | refine blk_alloc ?_ _)); exact BK423.out) hb); have n5_ := Aside0.mk (below_step (by repeat (first | (with_reducible first | exact HB.out | apply below_alloc | apply pw_below_drewN | apply below_drew1 | refine below_set ?_ GE406.out | refine below_set ?_ GE412.out | refine below_set ?_ GE423.out) | exact HB.out)) hb); clear HO415; clear HO420; clear BK406; clear BK412; clear BK423; clear HB; have HO415 := n0_; have HO420 := n1_; have BK406 := n2_; have BK412 := n3_; have BK423 := n4_; have HB := n5_; clear n0_ n1_ n2_ n3_ n4_ n5_; (try clear hb); (try clear hb2); (try clear hk); (try clear hi)) | ((with_reducible refine gate_callee (f := 41) rfl ?_); refine goesL_ (some 52) rfl rfl Try.func41 (by kernel_rfl) rfl #[.string t407, .int .i64 0, .int .i64 1] rfl (by (try simp only [List.map_toArray, List.map_cons, List.map_nil]); first | done | rfl | (simp only [List.length_drop, List.length_take]; rfl)) ?_; (with_reducible refine (octet_Take.calls 1000 t407 0 1 t426 t427 t428 _ A9.out).mono ?_); rintro e w52 ⟨rfl, hb⟩; refine ⟨_, rfl, ?_⟩; have n0_ := Aside0.mk (Kd.R_below (by (with_reducible repeat (first | apply Kd.R_alloc | apply Kd.R_drewN | apply Kd.R_drew)); exact HO415.out) hb); have n1_ := Aside0.mk (Kd.R_below (by (with_reducible repeat (first | apply Kd.R_alloc | apply Kd.R_drewN | apply Kd.R_drew)); exact HO420.out) hb); have n2_ := Aside0.mk (blk_below (g := gb406) (o := .cells #[.int .i64 t403, .int .i64 t404] 49 (0, 0)) (by (with_reducible repeat (first | refine blk_drewN ?_ _ | refine blk_drew ?_ | refine blk_alloc ?_ _)); exact BK406.out) hb); have n3_ := Aside0.mk (blk_below (g := gb412) (o := .cells #[.string t409, .int .i64 t410] 58 (0, 0)) (by (with_reducible repeat (first | refine blk_drewN ?_ _ | refine blk_drew ?_ | refine blk_alloc ?_ _)); exact BK412.out) hb); have n4_ := Aside0.mk (blk_below (g := gb423) (o := .cells #[.slice Ao47 t418.length co47, .int .i64 t421] 69 (0, 0)) (by (with_reducible repeat (first | refine blk_drewN ?_ _ | refine blk_drew ?_ | refine blk_alloc ?_ _)); exact BK423.out) hb); have n5_ := Aside0.mk (below_step (by repeat (first | (with_reducible first | exact HB.out | apply below_alloc | apply pw_below_drewN | apply below_drew1 | refine below_set ?_ GE406.out | refine below_set ?_ GE412.out | refine below_set ?_ GE423.out) | exact HB.out)) hb); clear HO415; clear HO420; clear BK406; clear BK412; clear BK423; clear HB; have HO415 := n0_; have HO420 := n1_; have BK406 := n2_; have BK412 := n3_; have BK423 := n4_; have HB := n5_; clear n0_ n1_ n2_ n3_ n4_ n5_; (try clear hb); (try clear hb2); (try clear hk); (try clear hi)) | ((with_reducible refine gate_dst (N := 15) rfl ?_); (try (refine gate_guard (by rfl) ?_; dsimp only)); refine box_event ?hg (N := 15) ?hd (cs := #[.string (⟨#[]⟩ : ByteArray), .int .i64 0]) (t := 58) ?hr ?_; (case hd => rfl); (case hg => rfl); (case hr => first | (go_simp; done) | (go_simp; rfl)); intro gb429 hg w53 hbox hb; have n0_ := Aside0.mk (Kd.R_below (by (with_reducible repeat (first | apply Kd.R_alloc | apply Kd.R_drewN | apply Kd.R_drew)); exact HO415.out) hb); have n1_ := Aside0.mk (Kd.R_below (by (with_reducible repeat (first | apply Kd.R_alloc | apply Kd.R_drewN | apply Kd.R_drew)); exact HO420.out) hb); have n2_ := Aside0.mk (blk_below (g := gb406) (o := .cells #[.int .i64 t403, .int .i64 t404] 49 (0, 0)) (by (with_reducible repeat (first | refine blk_drewN ?_ _ | refine blk_drew ?_ | refine blk_alloc ?_ _)); exact BK406.out) hb); have n3_ := Aside0.mk (blk_below (g := gb412) (o := .cells #[.string t409, .int .i64 t410] 58 (0, 0)) (by (with_reducible repeat (first | refine blk_drewN ?_ _ | refine blk_drew ?_ | refine blk_alloc ?_ _)); exact BK412.out) hb); have n4_ := Aside0.mk (blk_below (g := gb423) (o := .cells #[.slice Ao47 t418.length co47, .int .i64 t421] 69 (0, 0)) (by (with_reducible repeat (first | refine blk_drewN ?_ _ | refine blk_drew ?_ | refine blk_alloc ?_ _)); exact BK423.out) hb); have n5_ := Aside0.mk (below_step (by repeat (first | (with_reducible first | exact HB.out | apply below_alloc | apply pw_below_drewN | apply below_drew1 | refine below_set ?_ GE406.out | refine below_set ?_ GE412.out | refine below_set ?_ GE423.out) | exact HB.out)) hb); have n6_ := Aside0.mk (hbox); have n7_ := Aside0.mk ((by rw [hg]; exact (below_size (by repeat (first | (with_reducible first | exact HB.out | apply below_alloc | apply pw_below_drewN | apply below_drew1 | refine below_set ?_ GE406.out | refine below_set ?_ GE412.out | refine below_set ?_ GE423.out) | exact HB.out))) : w.heap.size ≤ gb429)); have n8_ := Aside0.mk ((by rw [hg]; exact (below_size (by repeat (first | (with_reducible first | exact HB.out | apply below_alloc | apply pw_below_drewN | apply below_drew1 | refine below_set ?_ GE406.out | refine below_set ?_ GE412.out | refine below_set ?_ GE423.out) | exact HB.out))) : w.heap.size ≤ gb429)); have n9_ := Aside0.mk ((by rw [hg]; exact Nat.ne_of_lt (blk_lt (g := gb406) (o := .cells #[.int .i64 t403, .int .i64 t404] 49 (0, 0)) (by (with_reducible repeat (first | refine blk_drewN ?_ _ | refine blk_drew ?_ | refine blk_alloc ?_ _)); exact BK406.out)) : gb406 ≠ gb429)); have n10_ := Aside0.mk ((by rw [hg]; exact Nat.ne_of_gt (blk_lt (g := gb406) (o := .cells #[.int .i64 t403, .int .i64 t404] 49 (0, 0)) (by (with_reducible repeat (first | refine blk_drewN ?_ _ | refine blk_drew ?_ | refine blk_alloc ?_ _)); exact BK406.out)) : gb429 ≠ gb406)); have n11_ := Aside0.mk ((by rw [hg]; exact Nat.ne_of_lt (blk_lt (g := gb412) (o := .cells #[.string t409, .int .i64 t410] 58 (0, 0)) (by (with_reducible repeat (first | refine blk_drewN ?_ _ | refine blk_drew ?_ | refine blk_alloc ?_ _)); exact BK412.out)) : gb412 ≠ gb429)); have n12_ := Aside0.mk ((by rw [hg]; exact Nat.ne_of_gt (blk_lt (g := gb412) (o := .cells #[.string t409, .int .i64 t410] 58 (0, 0)) (by (with_reducible repeat (first | refine blk_drewN ?_ _ | refine blk_drew ?_ | refine blk_alloc ?_ _)); exact BK412.out)) : gb429 ≠ gb412)); have n13_ := Aside0.mk ((by rw [hg]; exact Nat.ne_of_lt (blk_lt (g := gb423) (o := .cells #[.slice Ao47 t418.length co47, .int .i64 t421] 69 (0, 0)) (by (with_reducible repeat (first | refine blk_drewN ?_ _ | refine blk_drew ?_ | refine blk_alloc ?_ _)); exact BK423.out)) : gb423 ≠ gb429)); have n14_ := Aside0.mk ((by rw [hg]; exact Nat.ne_of_gt (blk_lt (g := gb423) (o := .cells #[.slice Ao47 t418.length co47, .int .i64 t421] 69 (0, 0)) (by (with_reducible repeat (first | refine blk_drewN ?_ _ | refine blk_drew ?_ | refine blk_alloc ?_ _)); exact BK423.out)) : gb429 ≠ gb423)); clear HO415; clear HO420; clear BK406; clear BK412; clear BK423; clear HB; have HO415 := n0_; have HO420 := n1_; have BK406 := n2_; have BK412 := n3_; have BK423 := n4_; have HB := n5_; have BK429 := n6_; have GW429 := n7_; have GE429 := n8_; have NB406_429 := n9_; have NB429_406 := n10_; have NB412_429 := n11_; have NB429_412 := n12_; have NB423_429 := n13_; have NB429_423 := n14_; clear n0_ n1_ n2_ n3_ n4_ n5_ n6_ n7_ n8_ n9_ n10_ n11_ n12_ n13_ n14_; clear hb hbox hg; have hnb54 := NB429_406.out; have hnc54 := NB406_429.out; have hnb55 := NB429_412.out; have hnc55 := NB412_429.out; have hnb56 := NB429_423.out; have hnc56 := NB423_429.out; have hcz57_0 : w53.cell? ⟨gb429, 0, none⟩ = some (.string (⟨#[]⟩ : ByteArray)) := (blk_cell BK429.out 0).trans rfl; have hcz57_1 : w53.cell? ⟨gb429, 1, none⟩ = some (.int .i64 0) := (blk_cell BK429.out 1).trans rfl; have hfz57_0 := blk_frozen BK429.out 0; have hfz57_1 := blk_frozen BK429.out 1; have hcz58_0 : w53.cell? ⟨gb406, 0, none⟩ = some (.int .i64 t403) := (blk_cell BK406.out 0).trans rfl; have hcz58_1 : w53.cell? ⟨gb406, 1, none⟩ = some (.int .i64 t404) := (blk_cell BK406.out 1).trans rfl; have hfz58_0 := blk_frozen BK406.out 0; have hfz58_1 := blk_frozen BK406.out 1; have hcz59_0 : w53.cell? ⟨gb412, 0, none⟩ = some (.string t409) := (blk_cell BK412.out 0).trans rfl; have hcz59_1 : w53.cell? ⟨gb412, 1, none⟩ = some (.int .i64 t410) := (blk_cell BK412.out 1).trans rfl; have hfz59_0 := blk_frozen BK412.out 0; have hfz59_1 := blk_frozen BK412.out 1; have hcz60_0 : w53.cell? ⟨gb423, 0, none⟩ = some (.slice Ao47 t418.length co47) := (blk_cell BK423.out 0).trans rfl; have hcz60_1 : w53.cell? ⟨gb423, 1, none⟩ = some (.int .i64 t421) := (blk_cell BK423.out 1).trans rfl; have hfz60_0 := blk_frozen BK423.out 0; have hfz60_1 := blk_frozen BK423.out 1) | ((with_reducible refine gate_dst (N := 108) rfl ?_); (try (refine gate_guard (by rfl) ?_; dsimp only)); refine Kd.R_lit (Kd.int .i64) _ 3 ?hg (N := 108) ?hd (xs := ([7, 8] : List Int)) (inner := [.int .i64 7, .int .i64 8]) (ok := fun _ => True) (okp := fun _ => True) ?hr ?hp (fun _ hk => hk) trivial (Below.refl _ _) (Nat.le_refl _) (by simp) ?_; (case hd => rfl); (case hg => rfl); (case hr => first | (go_simp; done) | (go_simp; rfl)); (case hp => exact (Reps.one (show Kd.M (Kd.int .i64) _ _ _ 7 [.int .i64 7] from rfl) (Reps.one (show Kd.M (Kd.int .i64) _ _ _ 8 [.int .i64 8] from rfl) (Reps.none _ _)))); intro v431 w61 ho62 hb hg_ hnew_; clear hg_ hnew_; (first | rw [← Ny430.out] at ho62 | (simp only [Int.reduceToNat] at ho62; rw [← Ny430.out] at ho62)); have n0_ := Aside0.mk (Kd.R_elder' (by (with_reducible repeat (first | apply Kd.R_alloc | apply Kd.R_drewN | apply Kd.R_drew)); exact (Kd.R_mono (Kd.R_far (p := ⟨gb429, 1, none⟩) (Kd.R_far (p := ⟨gb429, 0, none⟩) (Kd.R_types HO415.out BK429.out (by decide)) (fun _ hk => hk.2) (.string t426)) (fun _ hk => hk.2) (.int .i64 t427)) (fun _ h_ => h_.1))) (Kd.R_base ho62) hb); have n1_ := Aside0.mk (Kd.R_elder' (by (with_reducible repeat (first | apply Kd.R_alloc | apply Kd.R_drewN | apply Kd.R_drew)); exact (Kd.R_mono (Kd.R_far (p := ⟨gb429, 1, none⟩) (Kd.R_far (p := ⟨gb429, 0, none⟩) (Kd.R_types HO420.out BK429.out (by decide)) (fun _ hk => hk.2) (.string t426)) (fun _ hk => hk.2) (.int .i64 t427)) (fun _ h_ => h_.1))) (Kd.R_base ho62) hb); have n2_ := Aside0.mk (Kd.R_lower (Kd.R_new' (Kd.R_new' ho62 (Kd.R_lt (by (with_reducible repeat (first | apply Kd.R_alloc | apply Kd.R_drewN | apply Kd.R_drew)); exact (Kd.R_mono (Kd.R_far (p := ⟨gb429, 1, none⟩) (Kd.R_far (p := ⟨gb429, 0, none⟩) (Kd.R_types HO415.out BK429.out (by decide)) (fun _ hk => hk.2) (.string t426)) (fun _ hk => hk.2) (.int .i64 t427)) (fun _ h_ => h_.1))))) (Kd.R_lt (by (with_reducible repeat (first | apply Kd.R_alloc | apply Kd.R_drewN | apply Kd.R_drew)); exact (Kd.R_mono (Kd.R_far (p := ⟨gb429, 1, none⟩) (Kd.R_far (p := ⟨gb429, 0, none⟩) (Kd.R_types HO420.out BK429.out (by decide)) (fun _ hk => hk.2) (.string t426)) (fun _ hk => hk.2) (.int .i64 t427)) (fun _ h_ => h_.1))))) (below_size (by repeat (first | (with_reducible first | exact HB.out | apply below_alloc | apply pw_below_drewN | apply below_drew1 | refine below_set ?_ GE406.out | refine below_set ?_ GE412.out | refine below_set ?_ GE423.out | refine below_set ?_ GE429.out) | exact HB.out)))); have n3_ := Aside0.mk (blk_below (g := gb406) (o := .cells #[.int .i64 t403, .int .i64 t404] 49 (0, 0)) (by (with_reducible repeat (first | refine blk_drewN ?_ _ | refine blk_drew ?_ | refine blk_alloc ?_ _)); refine blk_far ?_ NB406_429.out _; (with_reducible repeat (first | refine blk_drewN ?_ _ | refine blk_drew ?_ | refine blk_alloc ?_ _)); refine blk_far ?_ NB406_429.out _; (with_reducible repeat (first | refine blk_drewN ?_ _ | refine blk_drew ?_ | refine blk_alloc ?_ _)); exact BK406.out) hb); have n4_ := Aside0.mk (blk_below (g := gb412) (o := .cells #[.string t409, .int .i64 t410] 58 (0, 0)) (by (with_reducible repeat (first | refine blk_drewN ?_ _ | refine blk_drew ?_ | refine blk_alloc ?_ _)); refine blk_far ?_ NB412_429.out _; (with_reducible repeat (first | refine blk_drewN ?_ _ | refine blk_drew ?_ | refine blk_alloc ?_ _)); refine blk_far ?_ NB412_429.out _; (with_reducible repeat (first | refine blk_drewN ?_ _ | refine blk_drew ?_ | refine blk_alloc ?_ _)); exact BK412.out) hb); have n5_ := Aside0.mk (blk_below (g := gb423) (o := .cells #[.slice Ao47 t418.length co47, .int .i64 t421] 69 (0, 0)) (by (with_reducible repeat (first | refine blk_drewN ?_ _ | refine blk_drew ?_ | refine blk_alloc ?_ _)); refine blk_far ?_ NB423_429.out _; (with_reducible repeat (first | refine blk_drewN ?_ _ | refine blk_drew ?_ | refine blk_alloc ?_ _)); refine blk_far ?_ NB423_429.out _; (with_reducible repeat (first | refine blk_drewN ?_ _ | refine blk_drew ?_ | refine blk_alloc ?_ _)); exact BK423.out) hb); have n6_ := Aside0.mk (blk_below (g := gb429) (o := .cells #[.string t426, .int .i64 t427] 58 (0, 0)) (by (with_reducible repeat (first | refine blk_drewN ?_ _ | refine blk_drew ?_ | refine blk_alloc ?_ _)); refine blk_put (cs := #[.string t426, .int .i64 0]) ?_ 1 _ rfl; (with_reducible repeat (first | refine blk_drewN ?_ _ | refine blk_drew ?_ | refine blk_alloc ?_ _)); refine blk_put (cs := #[.string (⟨#[]⟩ : ByteArray), .int .i64 0]) ?_ 0 _ rfl; (with_reducible repeat (first | refine blk_drewN ?_ _ | refine blk_drew ?_ | refine blk_alloc ?_ _)); exact BK429.out) hb); have n7_ := Aside0.mk (below_step (by repeat (first | (with_reducible first | exact HB.out | apply below_alloc | apply pw_below_drewN | apply below_drew1 | refine below_set ?_ GE406.out | refine below_set ?_ GE412.out | refine below_set ?_ GE423.out | refine below_set ?_ GE429.out) | exact HB.out)) hb); clear HO415; clear HO420; clear BK406; clear BK412; clear BK423; clear BK429; clear HB; have HO415 := n0_; have HO420 := n1_; have HO432 := n2_; have BK406 := n3_; have BK412 := n4_; have BK423 := n5_; have BK429 := n6_; have HB := n7_; clear n0_ n1_ n2_ n3_ n4_ n5_ n6_ n7_; clear hb ho62; obtain ⟨Ao63, co63, eo63⟩ := Kd.R_slice HO432.out; subst eo63) | (go_at_call 48; (with_reducible refine (backhaulref02_SameInts.calls 1000 _ _ t418 _ _ y430 true _ ?side1 ?side2 ?side3 ?side4 A22.out).mono ?_); (case side1 => repeat (first | exact (Kd.R_reads' HO420.out).2.2 | (with_reducible refine Kd.C_alloc ?_ _) | (with_reducible refine Kd.C_drewN ?_ _) | (with_reducible refine Kd.C_drew ?_))); (case side2 => exact (Kd.R_reads' HO420.out).2.1); (case side3 => repeat (first | exact (Kd.R_reads' HO432.out).2.2 | (with_reducible refine Kd.C_alloc ?_ _) | (with_reducible refine Kd.C_drewN ?_ _) | (with_reducible refine Kd.C_drew ?_))); (case side4 => exact (Kd.R_reads' HO432.out).2.1); rintro e w' ⟨rfl, ⟨nd, rfl⟩⟩; have hcz64_0 : w61.cell? ⟨gb423, 0, none⟩ = some (.slice Ao47 t418.length co47) := (blk_cell BK423.out 0).trans rfl; have hcz64_1 : w61.cell? ⟨gb423, 1, none⟩ = some (.int .i64 t421) := (blk_cell BK423.out 1).trans rfl; have hfz64_0 := blk_frozen BK423.out 0; have hfz64_1 := blk_frozen BK423.out 1) | (go_at_call 43; (with_reducible refine (octet_Flag.calls true t434 _ A28.out).mono ?_); rintro e w' ⟨rfl, ⟨nd, rfl⟩⟩) | (go_at_call 43; (with_reducible refine (octet_Flag.calls false t435 _ A30.out).mono ?_); rintro e w' ⟨rfl, ⟨nd, rfl⟩⟩))
                                          go_ret
                                          exact ⟨by first | rfl | (simp [errW_none, errW_some] <;> rfl) | (simp [*, errW_none, errW_some] <;> rfl), by repeat (first | (with_reducible first | exact HB.out | apply below_alloc | apply pw_below_drewN | apply below_drew1 | refine below_set ?_ GE406.out | refine below_set ?_ GE412.out | refine below_set ?_ GE423.out | refine below_set ?_ GE429.out) | exact HB.out)⟩
                                        · rw [if_neg c31] at H
                                          have c31b0 : (t435.toList == ([0] : List UInt8)) = false := beq_eq_false_iff_ne.mpr c31
                                          have c31b1 : (t435.toList != ([0] : List UInt8)) = true := bne_iff_ne.mpr c31
                                          exact absurd H (by simp)
                                      · rw [if_neg c29] at H
                                        have c29b0 : (t434.toList == ([1] : List UInt8)) = false := beq_eq_false_iff_ne.mpr c29
                                        have c29b1 : (t434.toList != ([1] : List UInt8)) = true := bne_iff_ne.mpr c29
                                        exact absurd H (by simp)
                                    · rw [if_neg c27] at H
                                      have c27b0 : (t428 == 3) = false := beq_eq_false_iff_ne.mpr c27
                                      have c27b1 : (t428 != 3) = true := bne_iff_ne.mpr c27
                                      exact absurd H (by simp)
                                  · rw [if_neg c26] at H
                                    have c26b0 : (t425 == 8) = false := beq_eq_false_iff_ne.mpr c26
                                    have c26b1 : (t425 != 8) = true := bne_iff_ne.mpr c26
                                    exact absurd H (by simp)
                                · rw [if_neg c25] at H
                                  have c25b0 : (t422 == 0) = false := beq_eq_false_iff_ne.mpr c25
                                  have c25b1 : (t422 != 0) = true := bne_iff_ne.mpr c25
                                  exact absurd H (by simp)
                              · rw [if_neg c24] at H
                                have c24b0 : (t421 == 4) = false := beq_eq_false_iff_ne.mpr c24
                                have c24b1 : (t421 != 4) = true := bne_iff_ne.mpr c24
                                exact absurd H (by simp)
                            · replace c23 := Bool.eq_false_iff.mpr c23
                              subst c23
                              have H1 : (some false) = some true := by first | (rw [if_neg (show ¬ (false = true) by decide)] at H; exact H) | rfl
                              clear H
                              have H := H1
                              clear H1
                              exact absurd H (by simp)
                          · rw [if_neg c21] at H
                            have c21b0 : (t417 == 0) = false := beq_eq_false_iff_ne.mpr c21
                            have c21b1 : (t417 != 0) = true := bne_iff_ne.mpr c21
                            exact absurd H (by simp)
                        · rw [if_neg c20] at H
                          have c20b0 : (t416.toList == ([0, 2, 7, 8] : List UInt8)) = false := beq_eq_false_iff_ne.mpr c20
                          have c20b1 : (t416.toList != ([0, 2, 7, 8] : List UInt8)) = true := bne_iff_ne.mpr c20
                          exact absurd H (by simp)
                      · rw [if_neg c19] at H
                        have c19b0 : (t411 == 0) = false := beq_eq_false_iff_ne.mpr c19
                        have c19b1 : (t411 != 0) = true := bne_iff_ne.mpr c19
                        exact absurd H (by simp)
                    · rw [if_neg c18] at H
                      have c18b0 : (t410 == 4) = false := beq_eq_false_iff_ne.mpr c18
                      have c18b1 : (t410 != 4) = true := bne_iff_ne.mpr c18
                      exact absurd H (by simp)
                  · rw [if_neg c17] at H
                    have c17b0 : (t409.toList == ([104, 105] : List UInt8)) = false := beq_eq_false_iff_ne.mpr c17
                    have c17b1 : (t409.toList != ([104, 105] : List UInt8)) = true := bne_iff_ne.mpr c17
                    exact absurd H (by simp)
                · rw [if_neg c16] at H
                  have c16b0 : (t408 == 0) = false := beq_eq_false_iff_ne.mpr c16
                  have c16b1 : (t408 != 0) = true := bne_iff_ne.mpr c16
                  exact absurd H (by simp)
              · rw [if_neg c15] at H
                have c15b0 : (t407.toList == ([0, 2, 104, 105] : List UInt8)) = false := beq_eq_false_iff_ne.mpr c15
                have c15b1 : (t407.toList != ([0, 2, 104, 105] : List UInt8)) = true := bne_iff_ne.mpr c15
                exact absurd H (by simp)
            · rw [if_neg c14] at H
              have c14b0 : (t405 == 0) = false := beq_eq_false_iff_ne.mpr c14
              have c14b1 : (t405 != 0) = true := bne_iff_ne.mpr c14
              exact absurd H (by simp)
          · rw [if_neg c13] at H
            have c13b0 : (t404 == 5) = false := beq_eq_false_iff_ne.mpr c13
            have c13b1 : (t404 != 5) = true := bne_iff_ne.mpr c13
            exact absurd H (by simp)
        · rw [if_neg c12] at H
          have c12b0 : (t403 == 258) = false := beq_eq_false_iff_ne.mpr c12
          have c12b1 : (t403 != 258) = true := bne_iff_ne.mpr c12
          exact absurd H (by simp)
      · rw [if_neg c11] at H
        have c11b0 : (t402 == 0) = false := beq_eq_false_iff_ne.mpr c11
        have c11b1 : (t402 != 0) = true := bne_iff_ne.mpr c11
        exact absurd H (by simp)
    · rw [if_neg c10] at H
      have c10b0 : (t401.toList == ([0, 0, 1, 2] : List UInt8)) = false := beq_eq_false_iff_ne.mpr c10
      have c10b1 : (t401.toList != ([0, 0, 1, 2] : List UInt8)) = true := bne_iff_ne.mpr c10
      exact absurd H (by simp)
  · rw [if_neg c2] at H
    exact absurd H (by simp)

end Go.Proofs.Ytabapiofkipkoaa.F

namespace Go.Proofs.Ytabapiofkipkoaa.F
open Go.RowKit Go.Proofs.YtabapiofkipkoaaX Go.Proofs.YtabapiofkipkoaaW.PrintWords Go.Proofs.YtabapiofkipkoaaW.PrintLast Go.Proofs.YtabapiofkipkoaaW.PrintMore
attribute [local go_sem] max2_int min2_int max_two min_two max_three min_three max_four min_four   -- for this text's walks alone
attribute [local go_sem high] str_geq str_leq str_gtr
set_option linter.unusedVariables false
set_option linter.unusedSimpArgs false

/-! ### backhaullaw05_OctetBack: function 10 -/
mutual
def backhaullaw05_OctetBack.j0 : Nat → Int → ByteArray → List Int → Bool → Option (Bool)
  | 0, _, _, _, _ => none
  | k + 1, x0, x1, x2, x27 => if x27 = true then ((backhaullaw05_awake.f).bind fun t512 => (if t512 = true then (some true) else (some false))) else (backhaullaw05_OctetBack.l0 k x0 x1 x2 1)
def backhaullaw05_OctetBack.l0 : Nat → Int → ByteArray → List Int → Int → Option (Bool)
  | 0, _, _, _, _ => none
  | k + 1, x0, x1, x2, x7 => if x7 ≤ 8 then ((octet_Put.f k x0 x7).bind fun bt520 => (if bt520.2 = 0 then (if 6 + bt520.1.size ≤ 9223372036854775807 then (if ((⟨#[98, 101, 102, 111, 114, 101]⟩ : ByteArray) ++ bt520.1).size + 6 ≤ 9223372036854775807 then ((octet_Get.f k (((⟨#[98, 101, 102, 111, 114, 101]⟩ : ByteArray) ++ bt520.1) ++ (⟨#[98, 101, 104, 105, 110, 100]⟩ : ByteArray)) 6 x7).bind fun bt522 => (if bt522.1 = x0 then (if bt522.2.1 = (wrap64 (6 + x7)) then (if bt522.2.2 = 0 then (if (bt520.1.size : Int) = x7 then (backhaullaw05_OctetBack.j2 k x0 x1 x2 x7) else (some false)) else (some false)) else (some false)) else (some false))) else (none)) else (none)) else (backhaullaw05_OctetBack.j2 k x0 x1 x2 x7))) else ((octet_Lay.f k x1).bind fun bt513 => (if 6 + bt513.1.size ≤ 9223372036854775807 then (if ((⟨#[98, 101, 102, 111, 114, 101]⟩ : ByteArray) ++ bt513.1).size + 6 ≤ 9223372036854775807 then ((octet_Take.f k (((⟨#[98, 101, 102, 111, 114, 101]⟩ : ByteArray) ++ bt513.1) ++ (⟨#[98, 101, 104, 105, 110, 100]⟩ : ByteArray)) 6 (x1.size : Int)).bind fun bt515 => (if bt513.2 = 0 then (if bt515.1.toList = x1.toList then (if bt515.2.1 = (6 + (bt513.1.size : Int)) then (if bt515.2.2 = 0 then ((backhaullaw05_awake.f).bind fun t519 => (if t519 = true then (some true) else (some false))) else (some false)) else (some false)) else (some false)) else (some false))) else (none)) else (none)))
def backhaullaw05_OctetBack.j2 : Nat → Int → ByteArray → List Int → Int → Option (Bool)
  | 0, _, _, _, _ => none
  | k + 1, x0, x1, x2, x7 => (octet_Row.f k x7 x2).bind fun bt526 => (if bt526.2 = 0 then (if 6 + bt526.1.size ≤ 9223372036854775807 then (if ((⟨#[98, 101, 102, 111, 114, 101]⟩ : ByteArray) ++ bt526.1).size + 6 ≤ 9223372036854775807 then ((octet_Unrow.f k (((⟨#[98, 101, 102, 111, 114, 101]⟩ : ByteArray) ++ bt526.1) ++ (⟨#[98, 101, 104, 105, 110, 100]⟩ : ByteArray)) 6 x7 (x2.length : Int)).bind fun bt528 => ((backhaulref02_SameInts.f k bt528.1 x2).bind fun t534 => (if t534 = true then (if bt528.2.1 = (6 + (bt526.1.size : Int)) then (if bt528.2.2 = 0 then (backhaullaw05_OctetBack.l0 k x0 x1 x2 (wrap64 (x7 + x7))) else (some false)) else (some false)) else (some false)))) else (none)) else (none)) else (backhaullaw05_OctetBack.l0 k x0 x1 x2 (wrap64 (x7 + x7))))
end
def backhaullaw05_OctetBack.f (k : Nat) (a0 : Int) (a1 : ByteArray) (l2 : List Int) : Option (Bool) := if (a1.size : Int) > 1000 then (backhaullaw05_OctetBack.j0 k a0 a1 l2 true) else (backhaullaw05_OctetBack.j0 k a0 a1 l2 (decide ((l2.length : Int) > 100)))
theorem backhaullaw05_OctetBack.mono_l : ∀ k, (∀ y0 y1 y2 y3, LeO (backhaullaw05_OctetBack.j0 k y0 y1 y2 y3) (backhaullaw05_OctetBack.j0 (k + 1) y0 y1 y2 y3)) ∧ (∀ y0 y1 y2 y3, LeO (backhaullaw05_OctetBack.l0 k y0 y1 y2 y3) (backhaullaw05_OctetBack.l0 (k + 1) y0 y1 y2 y3)) ∧ (∀ y0 y1 y2 y3, LeO (backhaullaw05_OctetBack.j2 k y0 y1 y2 y3) (backhaullaw05_OctetBack.j2 (k + 1) y0 y1 y2 y3))
  | 0 => ⟨fun _ _ _ _ r h => by simp [backhaullaw05_OctetBack.j0] at h, fun _ _ _ _ r h => by simp [backhaullaw05_OctetBack.l0] at h, fun _ _ _ _ r h => by simp [backhaullaw05_OctetBack.j2] at h⟩
  | k + 1 => by
    obtain ⟨ih0, ih1, ih2⟩ := backhaullaw05_OctetBack.mono_l k
    refine ⟨?_, ?_, ?_⟩
    · intro y0 y1 y2 y3
      unfold backhaullaw05_OctetBack.j0
      repeat' first
      | (with_reducible exact ih0 _ _ _ _)
      | (with_reducible exact ih1 _ _ _ _)
      | (with_reducible exact ih2 _ _ _ _)
      | (with_reducible exact backhaulref02_SameInts.mono _ _ _)
      | (with_reducible exact octet_Get.mono _ _ _ _)
      | (with_reducible exact octet_Lay.mono _ _)
      | (with_reducible exact octet_Put.mono _ _ _)
      | (with_reducible exact octet_Row.mono _ _ _)
      | (with_reducible exact octet_Take.mono _ _ _ _)
      | (with_reducible exact octet_Unrow.mono _ _ _ _ _)
      | (with_reducible exact LeO.refl _)
      | (with_reducible exact LeO.none _)
      | (with_reducible refine LeO.ite ?_ ?_)
      | (with_reducible refine LeO.bind ?_ (fun _ => ?_))
      | exact ih0 _ _ _ _
      | exact ih1 _ _ _ _
      | exact ih2 _ _ _ _
      | exact backhaulref02_SameInts.mono _ _ _
      | exact octet_Get.mono _ _ _ _
      | exact octet_Lay.mono _ _
      | exact octet_Put.mono _ _ _
      | exact octet_Row.mono _ _ _
      | exact octet_Take.mono _ _ _ _
      | exact octet_Unrow.mono _ _ _ _ _
      | exact LeO.none _
      | refine LeO.ite ?_ ?_
      | refine LeO.bind ?_ (fun _ => ?_)
    · intro y0 y1 y2 y3
      unfold backhaullaw05_OctetBack.l0
      repeat' first
      | (with_reducible exact ih0 _ _ _ _)
      | (with_reducible exact ih1 _ _ _ _)
      | (with_reducible exact ih2 _ _ _ _)
      | (with_reducible exact backhaulref02_SameInts.mono _ _ _)
      | (with_reducible exact octet_Get.mono _ _ _ _)
      | (with_reducible exact octet_Lay.mono _ _)
      | (with_reducible exact octet_Put.mono _ _ _)
      | (with_reducible exact octet_Row.mono _ _ _)
      | (with_reducible exact octet_Take.mono _ _ _ _)
      | (with_reducible exact octet_Unrow.mono _ _ _ _ _)
      | (with_reducible exact LeO.refl _)
      | (with_reducible exact LeO.none _)
      | (with_reducible refine LeO.ite ?_ ?_)
      | (with_reducible refine LeO.bind ?_ (fun _ => ?_))
      | exact ih0 _ _ _ _
      | exact ih1 _ _ _ _
      | exact ih2 _ _ _ _
      | exact backhaulref02_SameInts.mono _ _ _
      | exact octet_Get.mono _ _ _ _
      | exact octet_Lay.mono _ _
      | exact octet_Put.mono _ _ _
      | exact octet_Row.mono _ _ _
      | exact octet_Take.mono _ _ _ _
      | exact octet_Unrow.mono _ _ _ _ _
      | exact LeO.none _
      | refine LeO.ite ?_ ?_
      | refine LeO.bind ?_ (fun _ => ?_)
    · intro y0 y1 y2 y3
      unfold backhaullaw05_OctetBack.j2
      repeat' first
      | (with_reducible exact ih0 _ _ _ _)
      | (with_reducible exact ih1 _ _ _ _)
      | (with_reducible exact ih2 _ _ _ _)
      | (with_reducible exact backhaulref02_SameInts.mono _ _ _)
      | (with_reducible exact octet_Get.mono _ _ _ _)
      | (with_reducible exact octet_Lay.mono _ _)
      | (with_reducible exact octet_Put.mono _ _ _)
      | (with_reducible exact octet_Row.mono _ _ _)
      | (with_reducible exact octet_Take.mono _ _ _ _)
      | (with_reducible exact octet_Unrow.mono _ _ _ _ _)
      | (with_reducible exact LeO.refl _)
      | (with_reducible exact LeO.none _)
      | (with_reducible refine LeO.ite ?_ ?_)
      | (with_reducible refine LeO.bind ?_ (fun _ => ?_))
      | exact ih0 _ _ _ _
      | exact ih1 _ _ _ _
      | exact ih2 _ _ _ _
      | exact backhaulref02_SameInts.mono _ _ _
      | exact octet_Get.mono _ _ _ _
      | exact octet_Lay.mono _ _
      | exact octet_Put.mono _ _ _
      | exact octet_Row.mono _ _ _
      | exact octet_Take.mono _ _ _ _
      | exact octet_Unrow.mono _ _ _ _ _
      | exact LeO.none _
      | refine LeO.ite ?_ ?_
      | refine LeO.bind ?_ (fun _ => ?_)
theorem backhaullaw05_OctetBack.mono : ∀ a0 a1 a2 k, LeO (backhaullaw05_OctetBack.f k a0 a1 a2) (backhaullaw05_OctetBack.f (k + 1) a0 a1 a2) := by
  intro a0 a1 a2 k
  obtain ⟨ih0, ih1, ih2⟩ := backhaullaw05_OctetBack.mono_l k
  unfold backhaullaw05_OctetBack.f
  repeat' first
      | (with_reducible exact ih0 _ _ _ _)
      | (with_reducible exact ih1 _ _ _ _)
      | (with_reducible exact ih2 _ _ _ _)
      | (with_reducible exact backhaulref02_SameInts.mono _ _ _)
      | (with_reducible exact octet_Get.mono _ _ _ _)
      | (with_reducible exact octet_Lay.mono _ _)
      | (with_reducible exact octet_Put.mono _ _ _)
      | (with_reducible exact octet_Row.mono _ _ _)
      | (with_reducible exact octet_Take.mono _ _ _ _)
      | (with_reducible exact octet_Unrow.mono _ _ _ _ _)
      | (with_reducible exact LeO.refl _)
      | (with_reducible exact LeO.none _)
      | (with_reducible refine LeO.ite ?_ ?_)
      | (with_reducible refine LeO.bind ?_ (fun _ => ?_))
      | exact ih0 _ _ _ _
      | exact ih1 _ _ _ _
      | exact ih2 _ _ _ _
      | exact backhaulref02_SameInts.mono _ _ _
      | exact octet_Get.mono _ _ _ _
      | exact octet_Lay.mono _ _
      | exact octet_Put.mono _ _ _
      | exact octet_Row.mono _ _ _
      | exact octet_Take.mono _ _ _ _
      | exact octet_Unrow.mono _ _ _ _ _
      | exact LeO.none _
      | refine LeO.ite ?_ ?_
      | refine LeO.bind ?_ (fun _ => ?_)
set_option maxHeartbeats 8000000 in
set_option maxRecDepth 100000 in
theorem backhaullaw05_OctetBack.calls (k : Nat) (a0 : Int) (a1 : ByteArray) (A2 : Option Addr) (c2 : Nat) (l2 : List Int) (w : World) (hr2 : Kd.C (Kd.int .i64) w A2 l2.length l2) (hc2 : l2.length ≤ c2) (h : backhaullaw05_OctetBack.f k a0 a1 l2 = some true) :
    Calls Try.prog 10 #[.int .i64 a0, .string a1, .slice A2 l2.length c2] w fun e w' => e = .returned (.bool true) ∧ Below w.heap.size w w' := by
  have hu49 := Try.underlying49
  have hu69 := Try.underlying69
  have hu58 := Try.underlying58
  have HR2 := Aside0.mk hr2
  have HC2 := Aside0.mk hc2
  clear hr2 hc2
  have HB := Aside0.mk (Below.refl w.heap.size w)
  have H : (if (a1.size : Int) > 1000 then (backhaullaw05_OctetBack.j0 k a0 a1 l2 true) else (backhaullaw05_OctetBack.j0 k a0 a1 l2 (decide ((l2.length : Int) > 100)))) = some true := h
  clear h
  have HC4 := Aside0.mk H
  clear H
  go_enter Try.func10, Try.ntmps10
  go_upto_region 1 with (fail)
  go_cut [27] (fun v27 wc => ∃ (kq : Nat) (x27_3 : Bool), v27 = .bool x27_3 ∧ Aside0 (backhaullaw05_OctetBack.j0 kq a0 a1 l2 x27_3 = some true) ∧ Aside0 (kq ≤ k) ∧ Aside0 (Below w.heap.size w wc))
  case first =>
    have H := HC4.out
    clear HC4
    by_cases c5 : (a1.size : Int) > 1000
    · rw [if_pos c5] at H
      have c5b0 : decide (1000 < (a1.size : Int)) = true := decide_eq_true c5
      have c5b1 : decide (1000 < a1.size) = true := decide_eq_true (by omega)
      clear c5
      (first | rw [c5b0] | (simp only [i64_w, i32_w]; rw [c5b0]) | skip)
      have H' := Aside0.mk H
      clear H
      go_wp2
      go_meet
      case rel => exact ⟨_, (true), (by first | rfl | (simp; done) | (simp [*]; done)), H', ⟨by first | omega | exact Nat.le_refl _⟩, ⟨by repeat (first | (with_reducible first | exact HB.out | apply below_alloc | apply pw_below_drewN | apply below_drew1) | exact HB.out)⟩⟩
    · rw [if_neg c5] at H
      have c5b0 : decide (1000 < (a1.size : Int)) = false := decide_eq_false c5
      have c5b1 : decide (1000 < a1.size) = false := decide_eq_false (by omega)
      clear c5
      (first | rw [c5b0] | (simp only [i64_w, i32_w]; rw [c5b0]) | skip)
      have H' := Aside0.mk H
      clear H
      go_wp2
      go_meet
      case rel => exact ⟨_, (decide ((l2.length : Int) > 100)), (by first | rfl | (simp; done) | (simp [*]; done)), H', ⟨by first | omega | exact Nat.le_refl _⟩, ⟨by repeat (first | (with_reducible first | exact HB.out | apply below_alloc | apply pw_below_drewN | apply below_drew1) | exact HB.out)⟩⟩
  case rest =>
    clear HC4
    try clear c1
    try clear c2
    try clear p2
    try clear c5
    try clear c5b0
    try clear c5b1
    obtain ⟨kq, x27_3, rfl, HA, HJ3, HB⟩ := hcut
    cases kq with
    | zero => exact absurd HA.out (by simp [backhaullaw05_OctetBack.j0])
    | succ kj3 =>
      have H := HA.out
      clear HA
      simp only [backhaullaw05_OctetBack.j0] at H
      by_cases c6 : x27_3 = true
      · subst c6
        have H1 : ((backhaullaw05_awake.f).bind fun t512 => (if t512 = true then (some true) else (some false))) = some true := by first | (rw [if_pos rfl] at H; exact H) | rfl
        clear H
        have H := H1
        clear H1
        replace H := Option.bind_eq_some_iff.mp H
        obtain ⟨t512, A70, H⟩ := H
        replace H : (if t512 = true then (some true) else (some false)) = some true := H
        have A7 := Aside0.mk A70
        clear A70
        by_cases c8 : t512 = true
        · subst c8
          have H1 : (some true) = some true := by first | (rw [if_pos rfl] at H; exact H) | rfl
          clear H
          have H := H1
          clear H1
          clear H
          go_wp2_with (first | ((with_reducible refine gate_callee (f := 34) rfl ?_); refine goesL_ (some 28) rfl rfl Try.func34 (by kernel_rfl) rfl #[] rfl (by (try simp only [List.map_toArray, List.map_cons, List.map_nil]); first | done | rfl | (simp only [List.length_drop, List.length_take]; rfl)) ?_; (with_reducible refine (backhaullaw05_awake.calls  true _ A7.out).mono ?_); rintro e w9 ⟨rfl, hb⟩; refine ⟨_, rfl, ?_⟩; have n0_ := Aside0.mk (below_step (by repeat (first | (with_reducible first | exact HB.out | apply below_alloc | apply pw_below_drewN | apply below_drew1) | exact HB.out)) hb); clear HB; have HB := n0_; clear n0_; (try clear hb); (try clear hb2); (try clear hk); (try clear hi)))
          go_ret
          exact ⟨by first | rfl | (simp [errW_none, errW_some] <;> rfl) | (simp [*, errW_none, errW_some] <;> rfl), by repeat (first | (with_reducible first | exact HB.out | apply below_alloc | apply pw_below_drewN | apply below_drew1) | exact HB.out)⟩
        · replace c8 := Bool.eq_false_iff.mpr c8
          subst c8
          have H1 : (some false) = some true := by first | (rw [if_neg (show ¬ (false = true) by decide)] at H; exact H) | rfl
          clear H
          have H := H1
          clear H1
          exact absurd H (by simp)
      · replace c6 := Bool.eq_false_iff.mpr c6
        subst c6
        have H1 : (backhaullaw05_OctetBack.l0 kj3 a0 a1 l2 1) = some true := by first | (rw [if_neg (show ¬ (false = true) by decide)] at H; exact H) | rfl
        clear H
        have H := H1
        clear H1
        have H' := Aside0.mk H
        clear H
        go_wp2
        go_loopg [7] kj3 (fun kq v7 w' => ∃ (x7_2 : Int), v7 = .int .i64 x7_2 ∧ Aside0 (backhaullaw05_OctetBack.l0 kq a0 a1 l2 x7_2 = some true) ∧ Aside0 (kq ≤ kj3) ∧ Aside0 (Below w.heap.size w w'))
        case atStart => exact ⟨(1), (by first | rfl | (simp; done) | (simp [*]; done)), H', ⟨Nat.le_refl _⟩, ⟨by repeat (first | (with_reducible first | exact HB.out | apply below_alloc | apply pw_below_drewN | apply below_drew1) | exact HB.out)⟩⟩
        case round =>
          clear H'
          try clear c1
          try clear c2
          try clear p2
          try clear c3
          try clear c5
          try clear c5b0
          try clear c5b1
          try clear c6
          try clear c8
          try clear p2
          obtain ⟨x7_2, rfl, HA, HK2, HB⟩ := hrel
          cases gk with
          | zero => exact absurd HA.out (by simp [backhaullaw05_OctetBack.l0])
          | succ k2 =>
            have H := HA.out
            clear HA
            simp only [backhaullaw05_OctetBack.l0] at H
            by_cases c10 : x7_2 ≤ 8
            · rw [if_pos c10] at H
              have c10b0 : decide (x7_2 ≤ 8) = true := decide_eq_true c10
              clear c10
              replace H := Option.bind_eq_some_iff.mp H
              obtain ⟨⟨t520, t521⟩, A110, H⟩ := H
              replace H : (if t521 = 0 then (if 6 + t520.size ≤ 9223372036854775807 then (if ((⟨#[98, 101, 102, 111, 114, 101]⟩ : ByteArray) ++ t520).size + 6 ≤ 9223372036854775807 then ((octet_Get.f k2 (((⟨#[98, 101, 102, 111, 114, 101]⟩ : ByteArray) ++ t520) ++ (⟨#[98, 101, 104, 105, 110, 100]⟩ : ByteArray)) 6 x7_2).bind fun bt522 => (if bt522.1 = a0 then (if bt522.2.1 = (wrap64 (6 + x7_2)) then (if bt522.2.2 = 0 then (if (t520.size : Int) = x7_2 then (backhaullaw05_OctetBack.j2 k2 a0 a1 l2 x7_2) else (some false)) else (some false)) else (some false)) else (some false))) else (none)) else (none)) else (backhaullaw05_OctetBack.j2 k2 a0 a1 l2 x7_2)) = some true := H
              have A11 := Aside0.mk A110
              clear A110
              have HC12 := Aside0.mk H
              clear H
              go_upto_if 41 with (first | ((with_reducible refine gate_callee (f := 35) rfl ?_); refine goesL_ (some 37) rfl rfl Try.func35 (by kernel_rfl) rfl #[.int .i64 a0, .int .i64 x7_2] rfl (by (try simp only [List.map_toArray, List.map_cons, List.map_nil]); first | done | rfl | (simp only [List.length_drop, List.length_take]; rfl)) ?_; (with_reducible refine (octet_Put.calls k2 a0 x7_2 t520 t521 _ A11.out).mono ?_); rintro e w13 ⟨rfl, hb⟩; refine ⟨_, rfl, ?_⟩; have n0_ := Aside0.mk (below_step (by repeat (first | (with_reducible first | exact HB.out | apply below_alloc | apply pw_below_drewN | apply below_drew1) | exact HB.out)) hb); clear HB; have HB := n0_; clear n0_; (try clear hb); (try clear hb2); (try clear hk); (try clear hi)))
              (try simp only [Act.put, List.setIfInBounds_toArray, List.set_cons_zero, List.set_cons_succ])
              go_cut [] (fun wc => ∃ (kq : Nat), Aside0 (backhaullaw05_OctetBack.j2 kq a0 a1 l2 x7_2 = some true) ∧ Aside0 (kq ≤ k2) ∧ Aside0 (Below w.heap.size w wc))
              case first =>
                have H := HC12.out
                clear HC12
                by_cases c14 : t521 = 0
                · rw [if_pos c14] at H
                  have c14b0 : (t521 == 0) = true := beq_iff_eq.mpr c14
                  have c14b1 : (t521 != 0) = false := bne_eq_false_iff_eq.mpr c14
                  clear c14
                  (first | rw [c14b0] | (simp only [i64_w, i32_w]; rw [c14b0]) | skip)
                  by_cases c15 : 6 + t520.size ≤ 9223372036854775807
                  · rw [if_pos c15] at H
                    have c15b0 := eq_true c15
                    have c15b1 : decide (6 + t520.size ≤ 9223372036854775807) = true := decide_eq_true c15
                    try have c15b2 : (9223372036854775807 < 6 + t520.size) = False := eq_false (Nat.not_lt.2 c15)
                    by_cases c16 : ((⟨#[98, 101, 102, 111, 114, 101]⟩ : ByteArray) ++ t520).size + 6 ≤ 9223372036854775807
                    · rw [if_pos c16] at H
                      have c16b0 := eq_true c16
                      have c16b1 : decide (((⟨#[98, 101, 102, 111, 114, 101]⟩ : ByteArray) ++ t520).size + 6 ≤ 9223372036854775807) = true := decide_eq_true c16
                      have c16s0 : 6 + t520.size + 6 ≤ 9223372036854775807 := by have h_ := c16; rw [ByteArray.size_append] at h_; exact h_
                      have c16s1 : decide (6 + t520.size + 6 ≤ 9223372036854775807) = true := decide_eq_true c16s0
                      have c16s2 : (9223372036854775807 < 6 + t520.size + 6) = False := eq_false (Nat.not_lt.2 c16s0)
                      replace c16s0 := eq_true c16s0
                      try have c16b2 : (9223372036854775807 < ((⟨#[98, 101, 102, 111, 114, 101]⟩ : ByteArray) ++ t520).size + 6) = False := eq_false (Nat.not_lt.2 c16)
                      replace H := Option.bind_eq_some_iff.mp H
                      obtain ⟨⟨t522, t523, t524⟩, A170, H⟩ := H
                      replace H : (if t522 = a0 then (if t523 = (wrap64 (6 + x7_2)) then (if t524 = 0 then (if (t520.size : Int) = x7_2 then (backhaullaw05_OctetBack.j2 k2 a0 a1 l2 x7_2) else (some false)) else (some false)) else (some false)) else (some false)) = some true := H
                      have A17 := Aside0.mk A170
                      clear A170
                      by_cases c18 : t522 = a0
                      · rw [if_pos c18] at H
                        have c18b0 : (t522 == a0) = true := beq_iff_eq.mpr c18
                        have c18b1 : (t522 != a0) = false := bne_eq_false_iff_eq.mpr c18
                        clear c18
                        by_cases c19 : t523 = (wrap64 (6 + x7_2))
                        · rw [if_pos c19] at H
                          have c19b0 : (t523 == (wrap64 (6 + x7_2))) = true := beq_iff_eq.mpr c19
                          have c19b1 : (t523 != (wrap64 (6 + x7_2))) = false := bne_eq_false_iff_eq.mpr c19
                          clear c19
                          by_cases c20 : t524 = 0
                          · rw [if_pos c20] at H
                            have c20b0 : (t524 == 0) = true := beq_iff_eq.mpr c20
                            have c20b1 : (t524 != 0) = false := bne_eq_false_iff_eq.mpr c20
                            clear c20
                            by_cases c21 : (t520.size : Int) = x7_2
                            · rw [if_pos c21] at H
                              have c21b0 : ((t520.size : Int) == x7_2) = true := beq_iff_eq.mpr c21
                              have c21b1 : ((t520.size : Int) != x7_2) = false := bne_eq_false_iff_eq.mpr c21
                              clear c21
                              have H' := Aside0.mk H
                              clear H
                              go_wp2_with (first | ((with_reducible refine gate_callee (f := 37) rfl ?_); refine goesL_ (some 47) rfl rfl Try.func37 (by kernel_rfl) rfl #[.string (((⟨#[98, 101, 102, 111, 114, 101]⟩ : ByteArray) ++ t520) ++ (⟨#[98, 101, 104, 105, 110, 100]⟩ : ByteArray)), .int .i64 6, .int .i64 x7_2] rfl (by (try simp only [List.map_toArray, List.map_cons, List.map_nil]); first | done | rfl | (simp only [List.length_drop, List.length_take]; rfl)) ?_; (with_reducible refine (octet_Get.calls k2 (((⟨#[98, 101, 102, 111, 114, 101]⟩ : ByteArray) ++ t520) ++ (⟨#[98, 101, 104, 105, 110, 100]⟩ : ByteArray)) 6 x7_2 t522 t523 t524 _ A17.out).mono ?_); rintro e w22 ⟨rfl, hb⟩; refine ⟨_, rfl, ?_⟩; have n0_ := Aside0.mk (below_step (by repeat (first | (with_reducible first | exact HB.out | apply below_alloc | apply pw_below_drewN | apply below_drew1) | exact HB.out)) hb); clear HB; have HB := n0_; clear n0_; (try clear hb); (try clear hb2); (try clear hk); (try clear hi)) | ((with_reducible refine gate_dst (N := 10) rfl ?_); (try (refine gate_guard (by rfl) ?_; dsimp only)); refine box_event ?hg (N := 10) ?hd (cs := #[.int .i64 0, .int .i64 0]) (t := 49) ?hr ?_; (case hd => rfl); (case hg => rfl); (case hr => first | (go_simp; done) | (go_simp; rfl)); intro gb525 hg w23 hbox hb; have n0_ := Aside0.mk (below_step (by repeat (first | (with_reducible first | exact HB.out | apply below_alloc | apply pw_below_drewN | apply below_drew1) | exact HB.out)) hb); have n1_ := Aside0.mk (hbox); have n2_ := Aside0.mk ((by rw [hg]; exact (below_size (by repeat (first | (with_reducible first | exact HB.out | apply below_alloc | apply pw_below_drewN | apply below_drew1) | exact HB.out))) : w.heap.size ≤ gb525)); have n3_ := Aside0.mk ((by rw [hg]; exact (below_size (by repeat (first | (with_reducible first | exact HB.out | apply below_alloc | apply pw_below_drewN | apply below_drew1) | exact HB.out))) : w.heap.size ≤ gb525)); clear HB; have HB := n0_; have BK525 := n1_; have GW525 := n2_; have GE525 := n3_; clear n0_ n1_ n2_ n3_; clear hb hbox hg; have hcz24_0 : w23.cell? ⟨gb525, 0, none⟩ = some (.int .i64 0) := (blk_cell BK525.out 0).trans rfl; have hcz24_1 : w23.cell? ⟨gb525, 1, none⟩ = some (.int .i64 0) := (blk_cell BK525.out 1).trans rfl; have hfz24_0 := blk_frozen BK525.out 0; have hfz24_1 := blk_frozen BK525.out 1))
                              go_meet
                              case rel => exact ⟨_, H', ⟨by have := HJ3.out; have := HK2.out; first | omega | exact Nat.le_refl _⟩, ⟨by repeat (first | (with_reducible first | exact HB.out | apply below_alloc | apply pw_below_drewN | apply below_drew1 | refine below_set ?_ GE525.out) | exact HB.out)⟩⟩
                            · rw [if_neg c21] at H
                              have c21b0 : ((t520.size : Int) == x7_2) = false := beq_eq_false_iff_ne.mpr c21
                              have c21b1 : ((t520.size : Int) != x7_2) = true := bne_iff_ne.mpr c21
                              exact absurd H (by simp)
                          · rw [if_neg c20] at H
                            have c20b0 : (t524 == 0) = false := beq_eq_false_iff_ne.mpr c20
                            have c20b1 : (t524 != 0) = true := bne_iff_ne.mpr c20
                            exact absurd H (by simp)
                        · rw [if_neg c19] at H
                          have c19b0 : (t523 == (wrap64 (6 + x7_2))) = false := beq_eq_false_iff_ne.mpr c19
                          have c19b1 : (t523 != (wrap64 (6 + x7_2))) = true := bne_iff_ne.mpr c19
                          exact absurd H (by simp)
                      · rw [if_neg c18] at H
                        have c18b0 : (t522 == a0) = false := beq_eq_false_iff_ne.mpr c18
                        have c18b1 : (t522 != a0) = true := bne_iff_ne.mpr c18
                        exact absurd H (by simp)
                    · rw [if_neg c16] at H
                      exact absurd H (by simp)
                  · rw [if_neg c15] at H
                    exact absurd H (by simp)
                · rw [if_neg c14] at H
                  have c14b0 : (t521 == 0) = false := beq_eq_false_iff_ne.mpr c14
                  have c14b1 : (t521 != 0) = true := bne_iff_ne.mpr c14
                  (first | rw [c14b0] | (simp only [i64_w, i32_w]; rw [c14b0]) | skip)
                  have H' := Aside0.mk H
                  clear H
                  go_wp2
                  go_meet
                  case rel => exact ⟨_, H', ⟨by have := HJ3.out; have := HK2.out; first | omega | exact Nat.le_refl _⟩, ⟨by repeat (first | (with_reducible first | exact HB.out | apply below_alloc | apply pw_below_drewN | apply below_drew1) | exact HB.out)⟩⟩
              case rest =>
                clear HC12
                try clear c1
                try clear c2
                try clear p2
                try clear c3
                try clear c5
                try clear c5b0
                try clear c5b1
                try clear c6
                try clear p6
                try clear c8
                try clear c10
                try clear c10b0
                try clear c14
                try clear c14b0
                try clear c14b1
                try clear c15
                try clear c15b0
                try clear c15b1
                try clear c15b2
                try clear c16
                try clear c16b0
                try clear c16b1
                try clear c16b2
                try clear c18
                try clear c18b0
                try clear c18b1
                try clear c19
                try clear c19b0
                try clear c19b1
                try clear c20
                try clear c20b0
                try clear c20b1
                try clear c21
                try clear c21b0
                try clear c21b1
                try clear hcz24_0
                try clear hcz24_1
                try clear hfz24_0
                try clear hfz24_1
                try clear p2
                obtain ⟨kq, HA, HJ11, HB⟩ := hcut
                cases kq with
                | zero => exact absurd HA.out (by simp [backhaullaw05_OctetBack.j2])
                | succ kj11 =>
                  have H := HA.out
                  clear HA
                  simp only [backhaullaw05_OctetBack.j2] at H
                  replace H := Option.bind_eq_some_iff.mp H
                  obtain ⟨⟨t526, t527⟩, A250, H⟩ := H
                  replace H : (if t527 = 0 then (if 6 + t526.size ≤ 9223372036854775807 then (if ((⟨#[98, 101, 102, 111, 114, 101]⟩ : ByteArray) ++ t526).size + 6 ≤ 9223372036854775807 then ((octet_Unrow.f kj11 (((⟨#[98, 101, 102, 111, 114, 101]⟩ : ByteArray) ++ t526) ++ (⟨#[98, 101, 104, 105, 110, 100]⟩ : ByteArray)) 6 x7_2 (l2.length : Int)).bind fun bt528 => ((backhaulref02_SameInts.f kj11 bt528.1 l2).bind fun t534 => (if t534 = true then (if bt528.2.1 = (6 + (t526.size : Int)) then (if bt528.2.2 = 0 then (backhaullaw05_OctetBack.l0 kj11 a0 a1 l2 (wrap64 (x7_2 + x7_2))) else (some false)) else (some false)) else (some false)))) else (none)) else (none)) else (backhaullaw05_OctetBack.l0 kj11 a0 a1 l2 (wrap64 (x7_2 + x7_2)))) = some true := H
                  have A25 := Aside0.mk A250
                  clear A250
                  by_cases c26 : t527 = 0
                  · rw [if_pos c26] at H
                    have c26b0 : (t527 == 0) = true := beq_iff_eq.mpr c26
                    have c26b1 : (t527 != 0) = false := bne_eq_false_iff_eq.mpr c26
                    clear c26
                    by_cases c27 : 6 + t526.size ≤ 9223372036854775807
                    · rw [if_pos c27] at H
                      have c27b0 := eq_true c27
                      have c27b1 : decide (6 + t526.size ≤ 9223372036854775807) = true := decide_eq_true c27
                      try have c27b2 : (9223372036854775807 < 6 + t526.size) = False := eq_false (Nat.not_lt.2 c27)
                      by_cases c28 : ((⟨#[98, 101, 102, 111, 114, 101]⟩ : ByteArray) ++ t526).size + 6 ≤ 9223372036854775807
                      · rw [if_pos c28] at H
                        have c28b0 := eq_true c28
                        have c28b1 : decide (((⟨#[98, 101, 102, 111, 114, 101]⟩ : ByteArray) ++ t526).size + 6 ≤ 9223372036854775807) = true := decide_eq_true c28
                        have c28s0 : 6 + t526.size + 6 ≤ 9223372036854775807 := by have h_ := c28; rw [ByteArray.size_append] at h_; exact h_
                        have c28s1 : decide (6 + t526.size + 6 ≤ 9223372036854775807) = true := decide_eq_true c28s0
                        have c28s2 : (9223372036854775807 < 6 + t526.size + 6) = False := eq_false (Nat.not_lt.2 c28s0)
                        replace c28s0 := eq_true c28s0
                        try have c28b2 : (9223372036854775807 < ((⟨#[98, 101, 102, 111, 114, 101]⟩ : ByteArray) ++ t526).size + 6) = False := eq_false (Nat.not_lt.2 c28)
                        replace H := Option.bind_eq_some_iff.mp H
                        obtain ⟨⟨t528, t531, t532⟩, A290, H⟩ := H
                        replace H : ((backhaulref02_SameInts.f kj11 t528 l2).bind fun t534 => (if t534 = true then (if t531 = (6 + (t526.size : Int)) then (if t532 = 0 then (backhaullaw05_OctetBack.l0 kj11 a0 a1 l2 (wrap64 (x7_2 + x7_2))) else (some false)) else (some false)) else (some false))) = some true := H
                        have A29 := Aside0.mk A290
                        clear A290
                        replace H := Option.bind_eq_some_iff.mp H
                        obtain ⟨t534, A300, H⟩ := H
                        replace H : (if t534 = true then (if t531 = (6 + (t526.size : Int)) then (if t532 = 0 then (backhaullaw05_OctetBack.l0 kj11 a0 a1 l2 (wrap64 (x7_2 + x7_2))) else (some false)) else (some false)) else (some false)) = some true := H
                        have A30 := Aside0.mk A300
                        clear A300
                        by_cases c31 : t534 = true
                        · subst c31
                          have H1 : (if t531 = (6 + (t526.size : Int)) then (if t532 = 0 then (backhaullaw05_OctetBack.l0 kj11 a0 a1 l2 (wrap64 (x7_2 + x7_2))) else (some false)) else (some false)) = some true := by first | (rw [if_pos rfl] at H; exact H) | rfl
                          clear H
                          have H := H1
                          clear H1
                          by_cases c32 : t531 = (6 + (t526.size : Int))
                          · rw [if_pos c32] at H
                            have c32b0 : (t531 == (6 + (t526.size : Int))) = true := beq_iff_eq.mpr c32
                            have c32b1 : (t531 != (6 + (t526.size : Int))) = false := bne_eq_false_iff_eq.mpr c32
                            clear c32
                            by_cases c33 : t532 = 0
                            · rw [if_pos c33] at H
                              have c33b0 : (t532 == 0) = true := beq_iff_eq.mpr c33
                              have c33b1 : (t532 != 0) = false := bne_eq_false_iff_eq.mpr c33
                              clear c33
                              have H' := Aside0.mk H
                              clear H
                              go_wp2_with (first | ((with_reducible refine gate_callee (f := 44) rfl ?_); refine goesL_ (some 74) rfl rfl Try.func44 (by kernel_rfl) rfl #[.int .i64 x7_2, .slice A2 l2.length c2] rfl (by (try simp only [List.map_toArray, List.map_cons, List.map_nil]); first | done | rfl | (simp only [List.length_drop, List.length_take]; rfl)) ?_; (with_reducible refine (octet_Row.calls kj11 x7_2 _ _ l2 t526 t527 _ ?side1 ?side2 A25.out).mono ?_); (case side1 => repeat (first | exact (Kd.C_below HR2.out HB.out) | (with_reducible refine Kd.C_alloc ?_ _) | (with_reducible refine Kd.C_drewN ?_ _) | (with_reducible refine Kd.C_drew ?_))); (case side2 => exact HC2.out); rintro e w34 ⟨rfl, hb⟩; refine ⟨_, rfl, ?_⟩; have n0_ := Aside0.mk (below_step (by repeat (first | (with_reducible first | exact HB.out | apply below_alloc | apply pw_below_drewN | apply below_drew1) | exact HB.out)) hb); clear HB; have HB := n0_; clear n0_; (try clear hb); (try clear hb2); (try clear hk); (try clear hi)) | ((with_reducible refine gate_callee (f := 46) rfl ?_); refine goesL_ (some 86) rfl rfl Try.func46 (by kernel_rfl) rfl #[.string (((⟨#[98, 101, 102, 111, 114, 101]⟩ : ByteArray) ++ t526) ++ (⟨#[98, 101, 104, 105, 110, 100]⟩ : ByteArray)), .int .i64 6, .int .i64 x7_2, .int .i64 (l2.length : Int)] rfl (by (try simp only [List.map_toArray, List.map_cons, List.map_nil]); first | done | rfl | (simp only [List.length_drop, List.length_take]; rfl)) ?_; (with_reducible refine (octet_Unrow.calls kj11 (((⟨#[98, 101, 102, 111, 114, 101]⟩ : ByteArray) ++ t526) ++ (⟨#[98, 101, 104, 105, 110, 100]⟩ : ByteArray)) 6 x7_2 (l2.length : Int) t528 t531 t532 _ A29.out).mono ?_); rintro e w35 ⟨v529, rfl, ho0, hb⟩; refine ⟨_, rfl, ?_⟩; have n0_ := Aside0.mk (Kd.R_lower ho0 (below_size (by repeat (first | (with_reducible first | exact HB.out | apply below_alloc | apply pw_below_drewN | apply below_drew1) | exact HB.out)))); have n1_ := Aside0.mk (below_step (by repeat (first | (with_reducible first | exact HB.out | apply below_alloc | apply pw_below_drewN | apply below_drew1) | exact HB.out)) hb); clear HB; have HO530 := n0_; have HB := n1_; clear n0_ n1_; (try clear hb); (try clear hb2); (try clear hk); (try clear hi); (try clear ho0)) | ((with_reducible refine gate_dst (N := 14) rfl ?_); (try (refine gate_guard (by rfl) ?_; dsimp only)); refine box_event ?hg (N := 14) ?hd (cs := #[.slice none 0 0, .int .i64 0]) (t := 69) ?hr ?_; (case hd => rfl); (case hg => rfl); (case hr => first | (go_simp; done) | (go_simp; rfl)); intro gb533 hg w36 hbox hb; have n0_ := Aside0.mk (Kd.R_below (by (with_reducible repeat (first | apply Kd.R_alloc | apply Kd.R_drewN | apply Kd.R_drew)); exact HO530.out) hb); have n1_ := Aside0.mk (below_step (by repeat (first | (with_reducible first | exact HB.out | apply below_alloc | apply pw_below_drewN | apply below_drew1) | exact HB.out)) hb); have n2_ := Aside0.mk (hbox); have n3_ := Aside0.mk ((by rw [hg]; exact (below_size (by repeat (first | (with_reducible first | exact HB.out | apply below_alloc | apply pw_below_drewN | apply below_drew1) | exact HB.out))) : w.heap.size ≤ gb533)); have n4_ := Aside0.mk ((by rw [hg]; exact (below_size (by repeat (first | (with_reducible first | exact HB.out | apply below_alloc | apply pw_below_drewN | apply below_drew1) | exact HB.out))) : w.heap.size ≤ gb533)); clear HO530; clear HB; have HO530 := n0_; have HB := n1_; have BK533 := n2_; have GW533 := n3_; have GE533 := n4_; clear n0_ n1_ n2_ n3_ n4_; clear hb hbox hg; obtain ⟨Ao37, co37, eo37⟩ := Kd.R_slice HO530.out; subst eo37; have hcz38_0 : w36.cell? ⟨gb533, 0, none⟩ = some (.slice none 0 0) := (blk_cell BK533.out 0).trans rfl; have hcz38_1 : w36.cell? ⟨gb533, 1, none⟩ = some (.int .i64 0) := (blk_cell BK533.out 1).trans rfl; have hfz38_0 := blk_frozen BK533.out 0; have hfz38_1 := blk_frozen BK533.out 1) | ((with_reducible refine gate_callee (f := 48) rfl ?_); refine goesL_ (some 92) rfl rfl Try.func48 (by kernel_rfl) rfl #[.slice Ao37 t528.length co37, .slice A2 l2.length c2] rfl (by (try simp only [List.map_toArray, List.map_cons, List.map_nil]); first | done | rfl | (simp only [List.length_drop, List.length_take]; rfl)) ?_; (with_reducible refine (backhaulref02_SameInts.calls kj11 _ _ t528 _ _ l2 true _ ?side1 ?side2 ?side3 ?side4 A30.out).mono ?_); (case side1 => refine (Kd.R_reads' (e := 3) (base := w.heap.size) (ok := fun k_ => True) (n := t528.length) (c := co37) ?_).2.2; exact (by (with_reducible repeat (first | apply Kd.R_alloc | apply Kd.R_drewN | apply Kd.R_drew)); exact (Kd.R_mono (Kd.R_far (p := ⟨gb533, 1, none⟩) (Kd.R_far (p := ⟨gb533, 0, none⟩) (Kd.R_types HO530.out BK533.out (by decide)) (fun _ hk => hk.2) (.slice Ao37 t528.length co37)) (fun _ hk => hk.2) (.int .i64 t531)) (fun _ h_ => h_.1)))); (case side2 => exact (Kd.R_reads' HO530.out).2.1); (case side3 => exact Kd.C_below HR2.out (by repeat (first | (with_reducible first | exact HB.out | apply below_alloc | apply pw_below_drewN | apply below_drew1 | refine below_set ?_ GE533.out) | exact HB.out))); (case side4 => exact HC2.out); rintro e w' ⟨rfl, ⟨nd, rfl⟩⟩; refine ⟨_, rfl, ?_⟩))
                              go_roundg kj11
                              case measure => have := HJ3.out; have := HK2.out; have := HJ11.out; omega
                              case rel => exact ⟨(wrap64 (x7_2 + x7_2)), (by first | rfl | (simp; done) | (simp [*]; done)), H', ⟨by have := HJ3.out; have := HK2.out; have := HJ11.out; omega⟩, ⟨by repeat (first | (with_reducible first | exact HB.out | apply below_alloc | apply pw_below_drewN | apply below_drew1 | refine below_set ?_ GE533.out) | exact HB.out)⟩⟩
                            · rw [if_neg c33] at H
                              have c33b0 : (t532 == 0) = false := beq_eq_false_iff_ne.mpr c33
                              have c33b1 : (t532 != 0) = true := bne_iff_ne.mpr c33
                              exact absurd H (by simp)
                          · rw [if_neg c32] at H
                            have c32b0 : (t531 == (6 + (t526.size : Int))) = false := beq_eq_false_iff_ne.mpr c32
                            have c32b1 : (t531 != (6 + (t526.size : Int))) = true := bne_iff_ne.mpr c32
                            exact absurd H (by simp)
                        · replace c31 := Bool.eq_false_iff.mpr c31
                          subst c31
                          have H1 : (some false) = some true := by first | (rw [if_neg (show ¬ (false = true) by decide)] at H; exact H) | rfl
                          clear H
                          have H := H1
                          clear H1
                          exact absurd H (by simp)
                      · rw [if_neg c28] at H
                        exact absurd H (by simp)
                    · rw [if_neg c27] at H
                      exact absurd H (by simp)
                  · rw [if_neg c26] at H
                    have c26b0 : (t527 == 0) = false := beq_eq_false_iff_ne.mpr c26
                    have c26b1 : (t527 != 0) = true := bne_iff_ne.mpr c26
                    have H' := Aside0.mk H
                    clear H
                    go_wp2_with (first | ((with_reducible refine gate_callee (f := 44) rfl ?_); refine goesL_ (some 74) rfl rfl Try.func44 (by kernel_rfl) rfl #[.int .i64 x7_2, .slice A2 l2.length c2] rfl (by (try simp only [List.map_toArray, List.map_cons, List.map_nil]); first | done | rfl | (simp only [List.length_drop, List.length_take]; rfl)) ?_; (with_reducible refine (octet_Row.calls kj11 x7_2 _ _ l2 t526 t527 _ ?side1 ?side2 A25.out).mono ?_); (case side1 => repeat (first | exact (Kd.C_below HR2.out HB.out) | (with_reducible refine Kd.C_alloc ?_ _) | (with_reducible refine Kd.C_drewN ?_ _) | (with_reducible refine Kd.C_drew ?_))); (case side2 => exact HC2.out); rintro e w39 ⟨rfl, hb⟩; refine ⟨_, rfl, ?_⟩; have n0_ := Aside0.mk (below_step (by repeat (first | (with_reducible first | exact HB.out | apply below_alloc | apply pw_below_drewN | apply below_drew1) | exact HB.out)) hb); clear HB; have HB := n0_; clear n0_; (try clear hb); (try clear hb2); (try clear hk); (try clear hi)))
                    go_roundg kj11
                    case measure => have := HJ3.out; have := HK2.out; have := HJ11.out; omega
                    case rel => exact ⟨(wrap64 (x7_2 + x7_2)), (by first | rfl | (simp; done) | (simp [*]; done)), H', ⟨by have := HJ3.out; have := HK2.out; have := HJ11.out; omega⟩, ⟨by repeat (first | (with_reducible first | exact HB.out | apply below_alloc | apply pw_below_drewN | apply below_drew1) | exact HB.out)⟩⟩
            · rw [if_neg c10] at H
              have c10b0 : decide (x7_2 ≤ 8) = false := decide_eq_false c10
              clear c10
              replace H := Option.bind_eq_some_iff.mp H
              obtain ⟨⟨t513, t514⟩, A400, H⟩ := H
              replace H : (if 6 + t513.size ≤ 9223372036854775807 then (if ((⟨#[98, 101, 102, 111, 114, 101]⟩ : ByteArray) ++ t513).size + 6 ≤ 9223372036854775807 then ((octet_Take.f k2 (((⟨#[98, 101, 102, 111, 114, 101]⟩ : ByteArray) ++ t513) ++ (⟨#[98, 101, 104, 105, 110, 100]⟩ : ByteArray)) 6 (a1.size : Int)).bind fun bt515 => (if t514 = 0 then (if bt515.1.toList = a1.toList then (if bt515.2.1 = (6 + (t513.size : Int)) then (if bt515.2.2 = 0 then ((backhaullaw05_awake.f).bind fun t519 => (if t519 = true then (some true) else (some false))) else (some false)) else (some false)) else (some false)) else (some false))) else (none)) else (none)) = some true := H
              have A40 := Aside0.mk A400
              clear A400
              by_cases c41 : 6 + t513.size ≤ 9223372036854775807
              · rw [if_pos c41] at H
                have c41b0 := eq_true c41
                have c41b1 : decide (6 + t513.size ≤ 9223372036854775807) = true := decide_eq_true c41
                try have c41b2 : (9223372036854775807 < 6 + t513.size) = False := eq_false (Nat.not_lt.2 c41)
                by_cases c42 : ((⟨#[98, 101, 102, 111, 114, 101]⟩ : ByteArray) ++ t513).size + 6 ≤ 9223372036854775807
                · rw [if_pos c42] at H
                  have c42b0 := eq_true c42
                  have c42b1 : decide (((⟨#[98, 101, 102, 111, 114, 101]⟩ : ByteArray) ++ t513).size + 6 ≤ 9223372036854775807) = true := decide_eq_true c42
                  have c42s0 : 6 + t513.size + 6 ≤ 9223372036854775807 := by have h_ := c42; rw [ByteArray.size_append] at h_; exact h_
                  have c42s1 : decide (6 + t513.size + 6 ≤ 9223372036854775807) = true := decide_eq_true c42s0
                  have c42s2 : (9223372036854775807 < 6 + t513.size + 6) = False := eq_false (Nat.not_lt.2 c42s0)
                  replace c42s0 := eq_true c42s0
                  try have c42b2 : (9223372036854775807 < ((⟨#[98, 101, 102, 111, 114, 101]⟩ : ByteArray) ++ t513).size + 6) = False := eq_false (Nat.not_lt.2 c42)
                  replace H := Option.bind_eq_some_iff.mp H
                  obtain ⟨⟨t515, t516, t517⟩, A430, H⟩ := H
                  replace H : (if t514 = 0 then (if t515.toList = a1.toList then (if t516 = (6 + (t513.size : Int)) then (if t517 = 0 then ((backhaullaw05_awake.f).bind fun t519 => (if t519 = true then (some true) else (some false))) else (some false)) else (some false)) else (some false)) else (some false)) = some true := H
                  have A43 := Aside0.mk A430
                  clear A430
                  by_cases c44 : t514 = 0
                  · rw [if_pos c44] at H
                    have c44b0 : (t514 == 0) = true := beq_iff_eq.mpr c44
                    have c44b1 : (t514 != 0) = false := bne_eq_false_iff_eq.mpr c44
                    clear c44
                    by_cases c45 : t515.toList = a1.toList
                    · rw [if_pos c45] at H
                      have c45b0 : (t515.toList == a1.toList) = true := beq_iff_eq.mpr c45
                      have c45b1 : (t515.toList != a1.toList) = false := bne_eq_false_iff_eq.mpr c45
                      clear c45
                      by_cases c46 : t516 = (6 + (t513.size : Int))
                      · rw [if_pos c46] at H
                        have c46b0 : (t516 == (6 + (t513.size : Int))) = true := beq_iff_eq.mpr c46
                        have c46b1 : (t516 != (6 + (t513.size : Int))) = false := bne_eq_false_iff_eq.mpr c46
                        clear c46
                        by_cases c47 : t517 = 0
                        · rw [if_pos c47] at H
                          have c47b0 : (t517 == 0) = true := beq_iff_eq.mpr c47
                          have c47b1 : (t517 != 0) = false := bne_eq_false_iff_eq.mpr c47
                          clear c47
                          replace H := Option.bind_eq_some_iff.mp H
                          obtain ⟨t519, A480, H⟩ := H
                          replace H : (if t519 = true then (some true) else (some false)) = some true := H
                          have A48 := Aside0.mk A480
                          clear A480
                          by_cases c49 : t519 = true
                          · subst c49
                            have H1 : (some true) = some true := by first | (rw [if_pos rfl] at H; exact H) | rfl
                            clear H
                            have H := H1
                            clear H1
                            clear H
                            go_wp2_with (first | ((with_reducible refine gate_callee (f := 39) rfl ?_); refine goesL_ (some 108) rfl rfl Try.func39 (by kernel_rfl) rfl #[.string a1] rfl (by (try simp only [List.map_toArray, List.map_cons, List.map_nil]); first | done | rfl | (simp only [List.length_drop, List.length_take]; rfl)) ?_; (with_reducible refine (octet_Lay.calls k2 a1 t513 t514 _ A40.out).mono ?_); rintro e w50 ⟨rfl, hb⟩; refine ⟨_, rfl, ?_⟩; have n0_ := Aside0.mk (below_step (by repeat (first | (with_reducible first | exact HB.out | apply below_alloc | apply pw_below_drewN | apply below_drew1) | exact HB.out)) hb); clear HB; have HB := n0_; clear n0_; (try clear hb); (try clear hb2); (try clear hk); (try clear hi)) | ((with_reducible refine gate_callee (f := 41) rfl ?_); refine goesL_ (some 117) rfl rfl Try.func41 (by kernel_rfl) rfl #[.string (((⟨#[98, 101, 102, 111, 114, 101]⟩ : ByteArray) ++ t513) ++ (⟨#[98, 101, 104, 105, 110, 100]⟩ : ByteArray)), .int .i64 6, .int .i64 (a1.size : Int)] rfl (by (try simp only [List.map_toArray, List.map_cons, List.map_nil]); first | done | rfl | (simp only [List.length_drop, List.length_take]; rfl)) ?_; (with_reducible refine (octet_Take.calls k2 (((⟨#[98, 101, 102, 111, 114, 101]⟩ : ByteArray) ++ t513) ++ (⟨#[98, 101, 104, 105, 110, 100]⟩ : ByteArray)) 6 (a1.size : Int) t515 t516 t517 _ A43.out).mono ?_); rintro e w51 ⟨rfl, hb⟩; refine ⟨_, rfl, ?_⟩; have n0_ := Aside0.mk (below_step (by repeat (first | (with_reducible first | exact HB.out | apply below_alloc | apply pw_below_drewN | apply below_drew1) | exact HB.out)) hb); clear HB; have HB := n0_; clear n0_; (try clear hb); (try clear hb2); (try clear hk); (try clear hi)) | ((with_reducible refine gate_dst (N := 18) rfl ?_); (try (refine gate_guard (by rfl) ?_; dsimp only)); refine box_event ?hg (N := 18) ?hd (cs := #[.string (⟨#[]⟩ : ByteArray), .int .i64 0]) (t := 58) ?hr ?_; (case hd => rfl); (case hg => rfl); (case hr => first | (go_simp; done) | (go_simp; rfl)); intro gb518 hg w52 hbox hb; have n0_ := Aside0.mk (below_step (by repeat (first | (with_reducible first | exact HB.out | apply below_alloc | apply pw_below_drewN | apply below_drew1) | exact HB.out)) hb); have n1_ := Aside0.mk (hbox); have n2_ := Aside0.mk ((by rw [hg]; exact (below_size (by repeat (first | (with_reducible first | exact HB.out | apply below_alloc | apply pw_below_drewN | apply below_drew1) | exact HB.out))) : w.heap.size ≤ gb518)); have n3_ := Aside0.mk ((by rw [hg]; exact (below_size (by repeat (first | (with_reducible first | exact HB.out | apply below_alloc | apply pw_below_drewN | apply below_drew1) | exact HB.out))) : w.heap.size ≤ gb518)); clear HB; have HB := n0_; have BK518 := n1_; have GW518 := n2_; have GE518 := n3_; clear n0_ n1_ n2_ n3_; clear hb hbox hg; have hcz53_0 : w52.cell? ⟨gb518, 0, none⟩ = some (.string (⟨#[]⟩ : ByteArray)) := (blk_cell BK518.out 0).trans rfl; have hcz53_1 : w52.cell? ⟨gb518, 1, none⟩ = some (.int .i64 0) := (blk_cell BK518.out 1).trans rfl; have hfz53_0 := blk_frozen BK518.out 0; have hfz53_1 := blk_frozen BK518.out 1) | (go_at_call 34; (with_reducible refine (backhaullaw05_awake.calls  true _ A48.out).mono ?_); rintro e w54 ⟨rfl, hb⟩; have n0_ := Aside0.mk (blk_below (g := gb518) (o := .cells #[.string t515, .int .i64 t516] 58 (0, 0)) (by (with_reducible repeat (first | refine blk_drewN ?_ _ | refine blk_drew ?_ | refine blk_alloc ?_ _)); refine blk_put (cs := #[.string t515, .int .i64 0]) ?_ 1 _ rfl; (with_reducible repeat (first | refine blk_drewN ?_ _ | refine blk_drew ?_ | refine blk_alloc ?_ _)); refine blk_put (cs := #[.string (⟨#[]⟩ : ByteArray), .int .i64 0]) ?_ 0 _ rfl; (with_reducible repeat (first | refine blk_drewN ?_ _ | refine blk_drew ?_ | refine blk_alloc ?_ _)); exact BK518.out) hb); have n1_ := Aside0.mk (below_step (by repeat (first | (with_reducible first | exact HB.out | apply below_alloc | apply pw_below_drewN | apply below_drew1 | refine below_set ?_ GE518.out) | exact HB.out)) hb); clear BK518; clear HB; have BK518 := n0_; have HB := n1_; clear n0_ n1_; (try clear hb); (try clear hb2); (try clear hk); (try clear hi)))
                            go_ret
                            exact ⟨by first | rfl | (simp [errW_none, errW_some] <;> rfl) | (simp [*, errW_none, errW_some] <;> rfl), by repeat (first | (with_reducible first | exact HB.out | apply below_alloc | apply pw_below_drewN | apply below_drew1 | refine below_set ?_ GE518.out) | exact HB.out)⟩
                          · replace c49 := Bool.eq_false_iff.mpr c49
                            subst c49
                            have H1 : (some false) = some true := by first | (rw [if_neg (show ¬ (false = true) by decide)] at H; exact H) | rfl
                            clear H
                            have H := H1
                            clear H1
                            exact absurd H (by simp)
                        · rw [if_neg c47] at H
                          have c47b0 : (t517 == 0) = false := beq_eq_false_iff_ne.mpr c47
                          have c47b1 : (t517 != 0) = true := bne_iff_ne.mpr c47
                          exact absurd H (by simp)
                      · rw [if_neg c46] at H
                        have c46b0 : (t516 == (6 + (t513.size : Int))) = false := beq_eq_false_iff_ne.mpr c46
                        have c46b1 : (t516 != (6 + (t513.size : Int))) = true := bne_iff_ne.mpr c46
                        exact absurd H (by simp)
                    · rw [if_neg c45] at H
                      have c45b0 : (t515.toList == a1.toList) = false := beq_eq_false_iff_ne.mpr c45
                      have c45b1 : (t515.toList != a1.toList) = true := bne_iff_ne.mpr c45
                      exact absurd H (by simp)
                  · rw [if_neg c44] at H
                    have c44b0 : (t514 == 0) = false := beq_eq_false_iff_ne.mpr c44
                    have c44b1 : (t514 != 0) = true := bne_iff_ne.mpr c44
                    exact absurd H (by simp)
                · rw [if_neg c42] at H
                  exact absurd H (by simp)
              · rw [if_neg c41] at H
                exact absurd H (by simp)

/-- THE ONE PURE STATEMENT of backhaullaw05_OctetBack. -/
def backhaullaw05_OctetBack.Pure : Prop := ∀ (a0 : Int) (a1 : ByteArray) (l2 : List Int), (Lit.int .i64 a0).wf = true → a1.size ≤ maxLen → (l2.length ≤ maxLen ∧ ∀ x ∈ l2, (Lit.int .i64 x).wf = true) → ∃ k, backhaullaw05_OctetBack.f k a0 a1 l2 = some true

end Go.Proofs.Ytabapiofkipkoaa.F

/- Plain lemmas on 'from some number of rounds on'; no condition. -/
set_option linter.unusedVariables false
namespace Go.Proofs.Ytabapiofkipkoaa.Q
open Go.RowKit Go.Proofs.YtabapiofkipkoaaW.PrintWords Go.Proofs.YtabapiofkipkoaaW.PrintLast Go.Proofs.YtabapiofkipkoaaW.PrintMore

theorem Ev.ite {α : Type} {c : Prop} [Decidable c] {a b : Nat → Option α} {r : α} (h1 : c → Ev a r) (h2 : ¬ c → Ev b r) : Ev (fun k => if c then a k else b k) r := by
  by_cases h : c
  · simp only [if_pos h]; exact h1 h
  · simp only [if_neg h]; exact h2 h
theorem Ev.pos {α : Type} {c : Prop} [Decidable c] {a b : Nat → Option α} {r : α} (h : c) (h1 : Ev a r) : Ev (fun k => if c then a k else b k) r := by
  simp only [if_pos h]; exact h1
theorem Ev.neg {α : Type} {c : Prop} [Decidable c] {a b : Nat → Option α} {r : α} (h : ¬ c) (h1 : Ev b r) : Ev (fun k => if c then a k else b k) r := by
  simp only [if_neg h]; exact h1
theorem Ev.ok {α : Type} {a b : α} (h : a = b) : Ev (fun _ => some a) b := ⟨0, fun _ _ => by rw [h]⟩
theorem Ev.const {α : Type} {o : Option α} {r : α} (h : o = some r) : Ev (fun _ => o) r := ⟨0, fun _ _ => h⟩
theorem Ev.bindc {α β : Type} {o : Option α} {f : Nat → α → Option β} {a : α} {r : β} (h : o = some a) (k : Ev (fun n => f n a) r) : Ev (fun n => o.bind (f n)) r := by
  subst h
  exact k
theorem Ev.eq {α : Type} {g : Nat → Option α} {a b : α} (h : Ev g a) (e : a = b) : Ev g b := e ▸ h

theorem i64_bounds {x : Int} (h : (Lit.int .i64 x).wf = true) : -9223372036854775808 ≤ x ∧ x ≤ 9223372036854775807 := by
  simp [Lit.wf, IntKind.min, IntKind.max, IntKind.signed, IntKind.bits] at h
  omega
theorem wrap_eq {x : Int} (h0 : -9223372036854775808 ≤ x) (h1 : x ≤ 9223372036854775807) : wrap64 x = x := by
  unfold wrap64; omega
theorem u64_eq {x : Int} (h0 : 0 ≤ x) (h1 : x < 18446744073709551616) : IntKind.u64.wrap x = x := by
  simp [IntKind.wrap, IntKind.signed, IntKind.bits]; omega
theorem countP_split {α : Type} {p : α → Bool} {l : List α} {n : Nat} (hn : n ≤ l.length) (h1 : ∀ j (h : j < l.length), j < n → p l[j] = true) (h2 : ∀ j (h : j < l.length), n ≤ j → p l[j] = false) : l.countP p = n := by
  have e : l = l.take n ++ l.drop n := (List.take_append_drop n l).symm
  have a : (l.take n).countP p = (l.take n).length := by
    rw [List.countP_eq_length]
    intro x hx
    obtain ⟨j, hj, rfl⟩ := List.mem_iff_getElem.1 hx
    rw [List.length_take] at hj
    rw [List.getElem_take]
    exact h1 j (by omega) (by omega)
  have b : (l.drop n).countP p = 0 := by
    rw [List.countP_eq_zero]
    intro x hx
    obtain ⟨j, hj, rfl⟩ := List.mem_iff_getElem.1 hx
    rw [List.length_drop] at hj
    rw [List.getElem_drop, h2 (n + j) (by omega) (by omega)]
    simp
  rw [e, List.countP_append, a, b, List.length_take]
  omega
theorem idxOf_first {α : Type} [BEq α] [LawfulBEq α] {l : List α} {t : α} {i : Nat} (h : i < l.length) (he : l[i] = t) (h1 : ∀ j (h : j < l.length), j < i → l[j] ≠ t) : l.idxOf t = i := by
  unfold List.idxOf
  rw [List.findIdx_eq h]
  exact ⟨by simp [he], fun j hj => by simpa using h1 j (by omega) hj⟩
theorem rd_nat {l : List Int} {i : Nat} (h : i < l.length) : rd l (i : Int) = l[i] := by
  unfold rd; simp [List.getD_eq_getElem?_getD, h]
theorem rdOf_nat {α : Type} {d : α} {l : List α} {i : Nat} (h : i < l.length) : rdOf d l (i : Int) = l[i] := by
  unfold rdOf; simp [List.getD_eq_getElem?_getD, h]
theorem drop_cons {α : Type} {l : List α} {i : Nat} (h : i < l.length) : l.drop i = l[i] :: l.drop (i + 1) := List.drop_eq_getElem_cons h
theorem bytes_ext {a b : ByteArray} : a.toList = b.toList ↔ a = b := by
  constructor
  · intro h
    rw [ByteArray.toList_eq, ByteArray.toList_eq] at h
    cases a; cases b
    simpa [Array.toList_inj] using h
  · rintro rfl; rfl
end Go.Proofs.Ytabapiofkipkoaa.Q

/- Numbers, texts and rows as bytes, plainly: what is put, got, laid, taken, told as a row; each comes back; no condition. -/
set_option linter.unusedVariables false
namespace Go.Proofs.Ytabapiofkipkoaa.Q
open Go.RowKit Go.Proofs.YtabapiofkipkoaaW.PrintWords Go.Proofs.YtabapiofkipkoaaW.PrintLast Go.Proofs.YtabapiofkipkoaaW.PrintMore

def beL : Nat → Nat → List UInt8
  | 0, _ => []
  | w + 1, n => beL w (n / 256) ++ [UInt8.ofNat n]
def beN (l : List UInt8) : Nat := l.foldl (fun a b => 256 * a + b.toNat) 0
theorem beL_length (w : Nat) : ∀ n, (beL w n).length = w := by
  induction w with
  | zero => intro n; rfl
  | succ w ih => intro n; simp [beL, ih]
theorem beN_append (a : List UInt8) (b : UInt8) : beN (a ++ [b]) = 256 * beN a + b.toNat := by
  simp [beN]
theorem toNat_ofNat (n : Nat) : (UInt8.ofNat n).toNat = n % 256 := by simp
theorem beN_beL (w : Nat) : ∀ n, beN (beL w n) = n % 256 ^ w := by
  induction w with
  | zero => intro n; simp [beL, beN, Nat.mod_one]
  | succ w ih =>
    intro n
    rw [beL, beN_append, ih, toNat_ofNat, Nat.pow_succ, Nat.mul_comm (256 ^ w) 256, Nat.mod_mul]
    omega
theorem snoc_cases {α : Type} (l : List α) : l = [] ∨ ∃ a b, l = a ++ [b] := by
  rcases List.eq_nil_or_concat l with h | ⟨a, b, h⟩
  · exact .inl h
  · exact .inr ⟨a, b, by simpa using h⟩
theorem beL_beN (w : Nat) : ∀ l : List UInt8, l.length = w → beL w (beN l) = l := by
  induction w with
  | zero => intro l h; rw [List.eq_nil_of_length_eq_zero h]; rfl
  | succ w ih =>
    intro l h
    rcases snoc_cases l with rfl | ⟨a, b, rfl⟩
    · simp at h
    · have hb := b.toNat_lt
      rw [beL, beN_append, show (256 * beN a + b.toNat) / 256 = beN a by omega, ih a (by simpa using h)]
      congr 2
      apply UInt8.toNat_inj.1
      rw [toNat_ofNat]
      omega
theorem beN_lt (w : Nat) : ∀ l : List UInt8, l.length = w → beN l < 256 ^ w := by
  induction w with
  | zero => intro l h; rw [List.eq_nil_of_length_eq_zero h]; simp [beN]
  | succ w ih =>
    intro l h
    rcases snoc_cases l with rfl | ⟨a, b, rfl⟩
    · simp at h
    · have hb := b.toNat_lt
      have := ih a (by simpa using h)
      rw [beN_append, Nat.pow_succ]
      omega
/-- Of one length, the lists stand as their numbers. -/
theorem less_irrefl (l : List UInt8) : Op.bytesLess l l = false := by
  induction l with
  | nil => rfl
  | cons a l ih => simp [Op.bytesLess, ih]
theorem less_snoc : ∀ (x y : List UInt8) (a b : UInt8), x.length = y.length → Op.bytesLess (x ++ [a]) (y ++ [b]) = (Op.bytesLess x y || (decide (x = y) && decide (a < b)))
  | [], [], a, b, _ => by simp [Op.bytesLess]
  | [], _ :: _, _, _, h => by simp at h
  | _ :: _, [], _, _, h => by simp at h
  | p :: x, q :: y, a, b, h => by
    have ih := less_snoc x y a b (by simpa using h)
    simp only [List.cons_append, Op.bytesLess, ih]
    by_cases hpq : p = q
    · subst hpq; simp
    · have : (p == q) = false := by simpa using hpq
      simp [this, hpq]
theorem less_beN (w : Nat) : ∀ x y : List UInt8, x.length = w → y.length = w → (Op.bytesLess x y = true ↔ beN x < beN y) := by
  induction w with
  | zero => intro x y hx hy; rw [List.eq_nil_of_length_eq_zero hx, List.eq_nil_of_length_eq_zero hy]; simp [Op.bytesLess]
  | succ w ih =>
    intro x y hx hy
    rcases snoc_cases x with rfl | ⟨x, a, rfl⟩
    · simp at hx
    rcases snoc_cases y with rfl | ⟨y, b, rfl⟩
    · simp at hy
    have hx' : x.length = w := by simpa using hx
    have hy' : y.length = w := by simpa using hy
    rw [less_snoc x y a b (by omega), beN_append, beN_append]
    have ih := ih x y hx' hy'
    have ha := a.toNat_lt
    have hb := b.toNat_lt
    have hl : a < b ↔ a.toNat < b.toNat := UInt8.lt_iff_toNat_lt
    rw [Bool.or_eq_true, Bool.and_eq_true, decide_eq_true_eq, decide_eq_true_eq, ih, hl]
    constructor
    · rintro (h | ⟨rfl, h⟩) <;> omega
    · intro h
      by_cases h1 : beN x < beN y
      · exact .inl h1
      · have h2 : beN x = beN y := by omega
        have : x = y := by rw [← beL_beN w x hx', ← beL_beN w y hy', h2]
        exact .inr ⟨this, by omega⟩
def bytesB (l : List UInt8) : ByteArray := ⟨l.toArray⟩
theorem bytesB_data (l : List UInt8) : (bytesB l).data.toList = l := rfl
theorem bytesB_size (l : List UInt8) : (bytesB l).size = l.length := by simp [bytesB, ByteArray.size]
theorem ext_list {a b : ByteArray} (h : a.data.toList = b.data.toList) : a = b := by
  cases a; cases b; simpa [Array.toList_inj] using h
theorem bytesB_append (a b : List UInt8) : bytesB a ++ bytesB b = bytesB (a ++ b) := by
  apply ext_list; simp [bytesB, ByteArray.data_append]
theorem toList_data' (s : ByteArray) : s.toList = s.data.toList := ByteArray.toList_eq s
theorem data_append (a b : ByteArray) : (a ++ b).data.toList = a.data.toList ++ b.data.toList := by simp [ByteArray.data_append]
theorem data_extract (a : ByteArray) (i j : Nat) : (a.extract i j).data.toList = (a.data.toList.take j).drop i := by
  rw [ByteArray.data_extract, Array.toList_extract, List.extract_eq_take_drop, List.drop_take]
theorem size_data (a : ByteArray) : a.data.toList.length = a.size := by rw [Array.length_toList]; rfl
theorem bt_data (s : ByteArray) (i : Nat) (h : i < s.size) : bt s (i : Int) = ((s.data.toList[i]'(by rw [size_data]; exact h)).toNat : Int) := by
  unfold bt
  rw [dif_pos (by simpa using h)]
  simp [ByteArray.getElem_eq_getElem_data]

def wide (w : Int) : Prop := w = 1 ∨ w = 2 ∨ w = 4 ∨ w = 8
instance (w : Int) : Decidable (wide w) := by unfold wide; infer_instance
def putS (n w : Int) : ByteArray × Int := if wide w then (if 0 ≤ n ∧ n < 256 ^ w.toNat then (bytesB (beL w.toNat n.toNat), 0) else (⟨#[]⟩, 8)) else (⟨#[]⟩, 2)
def numAt (s : ByteArray) (at_ w : Nat) : Nat := beN ((s.data.toList.drop at_).take w)
def getS (s : ByteArray) (at_ w : Int) : Int × Int × Int :=
  if wide w ∧ 0 ≤ at_ ∧ at_ ≤ s.size then
    (if s.size - at_ < w then (0, 0, 4) else if (numAt s at_.toNat w.toNat : Int) > 9223372036854775807 then (0, 0, 8) else ((numAt s at_.toNat w.toNat : Int), at_ + w, 0))
  else (0, 0, 2)
def layS (t : ByteArray) : ByteArray × Int := if t.size > 65535 then (⟨#[]⟩, 3) else (bytesB (beL 2 t.size) ++ t, 0)
def takeS (s : ByteArray) (at_ most : Int) : ByteArray × Int × Int :=
  if most < 0 then (⟨#[]⟩, 0, 2) else
  if (getS s at_ 2).2.2 = 0 then
    (if (getS s at_ 2).1 > most then (⟨#[]⟩, 0, 3) else if (getS s at_ 2).1 > s.size - (getS s at_ 2).2.1 then (⟨#[]⟩, 0, 4) else
      (s.extract (getS s at_ 2).2.1.toNat ((getS s at_ 2).2.1 + (getS s at_ 2).1).toNat, (getS s at_ 2).2.1 + (getS s at_ 2).1, 0))
  else (⟨#[]⟩, 0, (getS s at_ 2).2.2)
def rowL (w : Int) : List Int → ByteArray × Int
  | [] => (⟨#[]⟩, 0)
  | x :: xs => if (putS x w).2 = 0 then (if (rowL w xs).2 = 0 then ((putS x w).1 ++ (rowL w xs).1, 0) else (⟨#[]⟩, (rowL w xs).2)) else (⟨#[]⟩, (putS x w).2)
def rowS (w : Int) (l : List Int) : ByteArray × Int :=
  if wide w then (if l.length > 1000 then (⟨#[]⟩, 3) else if (rowL w l).2 = 0 then (bytesB (beL 2 l.length) ++ (rowL w l).1, 0) else (⟨#[]⟩, (rowL w l).2)) else (⟨#[]⟩, 2)
def unrowL (s : ByteArray) (w : Int) : Nat → Int → List Int × Int × Int
  | 0, tt => ([], tt, 0)
  | n + 1, tt => if (getS s tt w).2.2 = 0 then
      (if (unrowL s w n (getS s tt w).2.1).2.2 = 0 then ((getS s tt w).1 :: (unrowL s w n (getS s tt w).2.1).1, (unrowL s w n (getS s tt w).2.1).2) else ([], 0, (unrowL s w n (getS s tt w).2.1).2.2))
    else ([], 0, (getS s tt w).2.2)
def unrowS (s : ByteArray) (at_ w top : Int) : List Int × Int × Int :=
  if ¬ wide w ∨ at_ < 0 ∨ at_ > s.size ∨ top < 0 then ([], 0, 2) else
  if (getS s at_ 2).2.2 = 0 then
    (if (getS s at_ 2).1 > top ∨ (getS s at_ 2).1 > 1000 then ([], 0, 3) else unrowL s w (getS s at_ 2).1.toNat (getS s at_ 2).2.1)
  else ([], 0, (getS s at_ 2).2.2)

theorem wide_nat {w : Int} (h : wide w) : 0 < w ∧ w ≤ 8 := by unfold wide at h; omega
theorem pow_wide {w : Int} (h : wide w) : (256 : Int) ^ w.toNat ≤ 18446744073709551616 := by
  rcases h with rfl | rfl | rfl | rfl <;> decide
theorem pow_cast {a w : Nat} (h : a < 256 ^ w) : (a : Int) < 256 ^ w := by
  have := Int.ofNat_lt.2 h
  rw [Int.natCast_pow] at this
  exact this
theorem pow_cast' {a w : Nat} (h : (a : Int) < 256 ^ w) : a < 256 ^ w := by
  apply Int.ofNat_lt.1
  rw [Int.natCast_pow]
  exact h
theorem beN_from (y : List UInt8) : ∀ a : Nat, y.foldl (fun a b => 256 * a + b.toNat) a = a * 256 ^ y.length + beN y := by
  induction y with
  | nil => intro a; simp [beN]
  | cons b y ih =>
    intro a
    have h := ih (256 * 0 + b.toNat)
    unfold beN at h ⊢
    simp only [List.foldl_cons, List.length_cons]
    rw [ih, h, Nat.pow_succ, Nat.add_mul, Nat.mul_zero, Nat.zero_add]
    unfold beN
    rw [← Nat.add_assoc, Nat.mul_comm 256 a, Nat.mul_assoc, Nat.mul_comm 256 (256 ^ y.length)]
theorem numAt_split {s : ByteArray} {a i d : Nat} (h : a + i + d ≤ s.size) : (numAt s a (i + d) : Int) = (numAt s a i : Int) * 256 ^ d + (numAt s (a + i) d : Int) := by
  have e : numAt s a (i + d) = numAt s a i * 256 ^ d + numAt s (a + i) d := by
    unfold numAt
    rw [List.take_add, List.drop_drop]
    have := beN_from (((s.data.toList).drop (a + i)).take d) (beN (((s.data.toList).drop a).take i))
    rw [List.length_take, List.length_drop, size_data, Nat.min_eq_left (by omega)] at this
    rw [← this]
    unfold beN
    rw [List.foldl_append]
  rw [e, Int.natCast_add, Int.natCast_mul, Int.natCast_pow]
  rfl
theorem getS_ok {s : ByteArray} {a w n tt : Int} (h : getS s a w = (n, tt, 0)) : wide w ∧ 0 ≤ a ∧ a + w ≤ s.size ∧ tt = a + w ∧ n = (numAt s a.toNat w.toNat : Int) ∧ n ≤ 9223372036854775807 ∧ 0 ≤ n := by
  unfold getS at h
  by_cases h1 : wide w ∧ 0 ≤ a ∧ a ≤ s.size
  · rw [if_pos h1] at h
    by_cases h2 : s.size - a < w
    · rw [if_pos h2] at h; simp at h
    · rw [if_neg h2] at h
      by_cases h3 : (numAt s a.toNat w.toNat : Int) > 9223372036854775807
      · rw [if_pos h3] at h; simp at h
      · rw [if_neg h3] at h
        simp only [Prod.mk.injEq] at h
        obtain ⟨rfl, rfl, _⟩ := h
        exact ⟨h1.1, h1.2.1, by omega, rfl, rfl, by omega, by omega⟩
  · rw [if_neg h1] at h; simp at h
theorem putS_ok {n w : Int} {b : ByteArray} (h : putS n w = (b, 0)) : wide w ∧ 0 ≤ n ∧ n < 256 ^ w.toNat ∧ b = bytesB (beL w.toNat n.toNat) := by
  unfold putS at h
  by_cases h1 : wide w
  · rw [if_pos h1] at h
    by_cases h2 : 0 ≤ n ∧ n < 256 ^ w.toNat
    · rw [if_pos h2] at h
      exact ⟨h1, h2.1, h2.2, (Prod.mk.inj h).1.symm⟩
    · rw [if_neg h2] at h; exact absurd (Prod.mk.inj h).2 (by decide)
  · rw [if_neg h1] at h; exact absurd (Prod.mk.inj h).2 (by decide)
theorem numAt_lt {s : ByteArray} {a w : Nat} (h : a + w ≤ s.size) : numAt s a w < 256 ^ w := by
  apply beN_lt
  rw [List.length_take, List.length_drop, size_data]; omega
/-- What is taken was put. -/
theorem put_of_get {s : ByteArray} {a w n tt : Int} (h : getS s a w = (n, tt, 0)) : putS n w = (s.extract a.toNat tt.toNat, 0) := by
  obtain ⟨hw, ha, hs, rfl, rfl, hn, _⟩ := getS_ok h
  have hw' := wide_nat hw
  have hl := numAt_lt (s := s) (a := a.toNat) (w := w.toNat) (by omega)
  unfold putS
  rw [if_pos hw, if_pos ⟨by omega, pow_cast hl⟩]
  congr 1
  apply ext_list
  rw [bytesB_data, data_extract, Int.toNat_natCast, numAt, show (a + w).toNat = a.toNat + w.toNat by omega]
  rw [beL_beN]
  · rw [List.drop_take, Nat.add_sub_cancel_left]
  · rw [List.length_take, List.length_drop, size_data]; omega
/-- What was put is got, wherever it stands. -/
theorem get_of_put {n w : Int} {b x y : ByteArray} (h : putS n w = (b, 0)) (hn : n ≤ 9223372036854775807) : getS (x ++ b ++ y) x.size w = (n, x.size + w, 0) ∧ b.size = w.toNat := by
  obtain ⟨hw, h0, h1, rfl⟩ := putS_ok h
  have hw' := wide_nat hw
  have hsz : (bytesB (beL w.toNat n.toNat)).size = w.toNat := by rw [bytesB_size, beL_length]
  have hnum : (numAt (x ++ bytesB (beL w.toNat n.toNat) ++ y) x.size w.toNat : Int) = n := by
    unfold numAt
    rw [data_append, data_append, bytesB_data, List.append_assoc, List.drop_left' (size_data x), List.take_left' (beL_length _ _), beN_beL, Nat.mod_eq_of_lt]
    · omega
    · have : ((n.toNat : Nat) : Int) < 256 ^ w.toNat := by rw [Int.toNat_of_nonneg h0]; exact h1
      exact pow_cast' this
  refine ⟨?_, hsz⟩
  unfold getS
  rw [if_pos ⟨hw, by omega, by simp only [ByteArray.size_append, hsz]; omega⟩, if_neg (by simp only [ByteArray.size_append, hsz]; omega), Int.toNat_natCast, hnum, if_neg (by omega)]
theorem lay_ok {t b : ByteArray} (h : layS t = (b, 0)) : t.size ≤ 65535 ∧ b = bytesB (beL 2 t.size) ++ t := by
  unfold layS at h
  split at h
  · simp at h
  · simp only [Prod.mk.injEq] at h
    exact ⟨by omega, h.1.symm⟩
theorem put2 {n : Nat} (h : n < 65536) : putS n 2 = (bytesB (beL 2 n), 0) := by
  unfold putS
  rw [if_pos (by decide), if_pos ⟨by omega, by show (n : Int) < 256 ^ 2; omega⟩]; rfl
theorem take_of_lay {t b x y : ByteArray} {most : Int} (h : layS t = (b, 0)) (hm : (t.size : Int) ≤ most) : takeS (x ++ b ++ y) x.size most = (t, (x.size : Int) + b.size, 0) := by
  obtain ⟨hs, rfl⟩ := lay_ok h
  have hg := (get_of_put (x := x) (y := t ++ y) (put2 (n := t.size) (by omega)) (by omega)).1
  rw [show x ++ bytesB (beL 2 t.size) ++ (t ++ y) = x ++ (bytesB (beL 2 t.size) ++ t) ++ y by simp only [ByteArray.append_assoc]] at hg
  unfold takeS
  rw [if_neg (by omega), hg]
  simp only [if_true]
  rw [if_neg (by omega), if_neg (by simp only [ByteArray.size_append, bytesB_size, beL_length]; omega)]
  simp only [ByteArray.size_append, bytesB_size, beL_length, Prod.mk.injEq, and_true]
  refine ⟨?_, by omega⟩
  apply ext_list
  rw [data_extract, data_append, data_append, data_append, bytesB_data]
  rw [show ((x.size : Int) + 2).toNat = x.size + 2 by omega, show ((x.size : Int) + 2 + (t.size : Int)).toNat = x.size + 2 + t.size by omega]
  rw [List.take_append_of_le_length (by simp only [List.length_append, beL_length, size_data]; omega), List.take_of_length_le (by simp only [List.length_append, beL_length, size_data]; omega), ← List.append_assoc, List.drop_left' (by simp only [List.length_append, beL_length, size_data])]
theorem takeS_ok {s t : ByteArray} {a most tt : Int} (h : takeS s a most = (t, tt, 0)) : 0 ≤ most ∧ ∃ n, getS s a 2 = (n, a + 2, 0) ∧ n ≤ most ∧ a + 2 + n ≤ s.size ∧ t = s.extract (a + 2).toNat (a + 2 + n).toNat ∧ tt = a + 2 + n := by
  unfold takeS at h
  split at h
  · simp at h
  · split at h
    · split at h
      · simp at h
      · split at h
        · simp at h
        · rename_i h1 h2 h3 h4
          have hg : getS s a 2 = ((getS s a 2).1, (getS s a 2).2.1, 0) := by rw [← h2]
          obtain ⟨_, _, _, e, _⟩ := getS_ok hg
          simp only [Prod.mk.injEq] at h
          rw [e] at hg h4 h
          exact ⟨by omega, (getS s a 2).1, hg, by omega, by omega, h.1.symm, h.2.1.symm⟩
    · rename_i h1 h2
      simp only [Prod.mk.injEq] at h
      exact absurd h.2.2 h2
theorem lay_of_take {s t : ByteArray} {a most tt : Int} (h : takeS s a most = (t, tt, 0)) : layS t = (s.extract a.toNat tt.toNat, 0) ∧ a ≤ tt ∧ tt ≤ s.size ∧ 0 ≤ a := by
  obtain ⟨hm, n, hg, h1, h2, rfl, rfl⟩ := takeS_ok h
  obtain ⟨_, ha, hs, _, hn, _, h0⟩ := getS_ok hg
  have hp := put_of_get hg
  obtain ⟨_, _, hlt, hb⟩ := putS_ok hp
  have hlt' : n < 65536 := hlt
  refine ⟨?_, by omega, by omega, ha⟩
  have hsz : (s.extract (a + 2).toNat (a + 2 + n).toNat).size = n.toNat := by rw [ByteArray.size_extract]; omega
  unfold layS
  rw [hsz, if_neg (by omega)]
  congr 1
  have : bytesB (beL 2 n.toNat) = s.extract a.toNat (a + 2).toNat := hb.symm
  rw [this]
  apply ext_list
  rw [data_append, data_extract, data_extract, data_extract, List.drop_take, List.drop_take, List.drop_take]
  rw [show (a + 2).toNat - a.toNat = 2 by omega, show (a + 2 + n).toNat - (a + 2).toNat = n.toNat by omega, show (a + 2 + n).toNat - a.toNat = 2 + n.toNat by omega, show (a + 2).toNat = a.toNat + 2 by omega, List.take_add, List.drop_drop]
theorem extract_append {s : ByteArray} {i j k : Nat} (h1 : i ≤ j) (h2 : j ≤ k) : s.extract i j ++ s.extract j k = s.extract i k := by
  apply ext_list
  rw [data_append, data_extract, data_extract, data_extract, List.drop_take, List.drop_take, List.drop_take]
  rw [show k - i = (j - i) + (k - j) by omega, List.take_add, List.drop_drop, show i + (j - i) = j by omega]
theorem extract_self {s : ByteArray} {i : Nat} : s.extract i i = ⟨#[]⟩ := by
  apply ext_list
  rw [data_extract, List.drop_take, Nat.sub_self]; rfl
theorem rowL_cons {w n : Int} {l : List Int} {b : ByteArray} (h : rowL w (n :: l) = (b, 0)) : ∃ p q, putS n w = (p, 0) ∧ rowL w l = (q, 0) ∧ b = p ++ q := by
  simp only [rowL] at h
  by_cases h1 : (putS n w).2 = 0
  · rw [if_pos h1] at h
    by_cases h2 : (rowL w l).2 = 0
    · rw [if_pos h2] at h
      exact ⟨(putS n w).1, (rowL w l).1, by rw [← h1], by rw [← h2], (Prod.mk.inj h).1.symm⟩
    · rw [if_neg h2] at h; exact absurd (Prod.mk.inj h).2 h2
  · rw [if_neg h1] at h; exact absurd (Prod.mk.inj h).2 h1
theorem rowL_mk {w n : Int} {l : List Int} {p q : ByteArray} (h1 : putS n w = (p, 0)) (h2 : rowL w l = (q, 0)) : rowL w (n :: l) = (p ++ q, 0) := by
  simp only [rowL, h1, h2, if_true]
theorem unrowL_cons {s : ByteArray} {w : Int} {n : Nat} {a tt : Int} {l : List Int} (h : unrowL s w (n + 1) a = (l, tt, 0)) : ∃ v t ls, getS s a w = (v, t, 0) ∧ unrowL s w n t = (ls, tt, 0) ∧ l = v :: ls := by
  simp only [unrowL] at h
  by_cases h1 : (getS s a w).2.2 = 0
  · rw [if_pos h1] at h
    by_cases h2 : (unrowL s w n (getS s a w).2.1).2.2 = 0
    · rw [if_pos h2] at h
      obtain ⟨e1, e2⟩ := Prod.mk.inj h
      refine ⟨(getS s a w).1, (getS s a w).2.1, _, by rw [← h1], ?_, e1.symm⟩
      exact Prod.ext rfl e2
    · rw [if_neg h2] at h
      exact absurd (Prod.mk.inj (Prod.mk.inj h).2).2 h2
  · rw [if_neg h1] at h
    exact absurd (Prod.mk.inj (Prod.mk.inj h).2).2 h1
theorem unrowL_of_rowL {w : Int} {y : ByteArray} : ∀ (l : List Int) (b x : ByteArray), rowL w l = (b, 0) → (∀ n ∈ l, n ≤ 9223372036854775807) → unrowL (x ++ b ++ y) w l.length (x.size : Int) = (l, (x.size : Int) + b.size, 0)
  | [], b, x, h, _ => by
    simp only [rowL, Prod.mk.injEq] at h
    obtain ⟨rfl, _⟩ := h
    have e0 : ((⟨#[]⟩ : ByteArray).size : Int) = 0 := rfl
    exact congrArg (fun z => (([] : List Int), z, (0 : Int))) (show (x.size : Int) = (x.size : Int) + ((⟨#[]⟩ : ByteArray).size : Int) by rw [e0]; omega)
  | n :: l, b, x, h, hn => by
    obtain ⟨p, q, hp, hq, rfl⟩ := rowL_cons h
    obtain ⟨hg, hs⟩ := get_of_put (x := x) (y := q ++ y) hp (hn n List.mem_cons_self)
    have hw := wide_nat (putS_ok hp).1
    have ih := unrowL_of_rowL (y := y) l q (x ++ p) hq (fun m hm => hn m (List.mem_cons_of_mem _ hm))
    have e : x ++ p ++ (q ++ y) = x ++ (p ++ q) ++ y := by simp only [ByteArray.append_assoc]
    have e2 : x ++ p ++ q ++ y = x ++ (p ++ q) ++ y := by simp only [ByteArray.append_assoc]
    rw [e] at hg
    rw [e2, ByteArray.size_append, show ((x.size + p.size : Nat) : Int) = (x.size : Int) + w by omega] at ih
    simp only [List.length_cons, unrowL, hg, ih, if_true]
    rw [ByteArray.size_append]
    congr 2
    omega
theorem rowL_of_unrowL {s : ByteArray} {w : Int} : ∀ (n : Nat) (a tt : Int) (l : List Int), unrowL s w n a = (l, tt, 0) → 0 ≤ a → a ≤ s.size → rowL w l = (s.extract a.toNat tt.toNat, 0) ∧ a ≤ tt ∧ tt ≤ s.size ∧ l.length = n
  | 0, a, tt, l, h, h0, h1 => by
    simp only [unrowL, Prod.mk.injEq] at h
    obtain ⟨rfl, rfl, _⟩ := h
    exact ⟨by rw [extract_self]; rfl, Int.le_refl _, h1, rfl⟩
  | n + 1, a, tt, l, h, h0, h1 => by
    obtain ⟨v, t, ls, hg, hu, rfl⟩ := unrowL_cons h
    obtain ⟨hw, _, hs, rfl, _⟩ := getS_ok hg
    have hw' := wide_nat hw
    obtain ⟨ih, i1, i2, i3⟩ := rowL_of_unrowL n (a + w) tt ls hu (by omega) (by omega)
    refine ⟨?_, by omega, i2, by simp [i3]⟩
    rw [rowL_mk (put_of_get hg) ih, extract_append (by omega) (by omega)]
theorem rowS_ok {w : Int} {l : List Int} {b : ByteArray} (h : rowS w l = (b, 0)) : wide w ∧ l.length ≤ 1000 ∧ ∃ q, rowL w l = (q, 0) ∧ b = bytesB (beL 2 l.length) ++ q := by
  unfold rowS at h
  by_cases h1 : wide w
  · rw [if_pos h1] at h
    by_cases h2 : l.length > 1000
    · rw [if_pos h2] at h; exact absurd (Prod.mk.inj h).2 (by decide)
    · rw [if_neg h2] at h
      by_cases h3 : (rowL w l).2 = 0
      · rw [if_pos h3] at h
        exact ⟨h1, by omega, (rowL w l).1, by rw [← h3], (Prod.mk.inj h).1.symm⟩
      · rw [if_neg h3] at h; exact absurd (Prod.mk.inj h).2 h3
  · rw [if_neg h1] at h; exact absurd (Prod.mk.inj h).2 (by decide)
theorem unrow_of_row {w top : Int} {l : List Int} {b x y : ByteArray} (h : rowS w l = (b, 0)) (hn : ∀ n ∈ l, n ≤ 9223372036854775807) (ht : (l.length : Int) ≤ top) : unrowS (x ++ b ++ y) (x.size : Int) w top = (l, (x.size : Int) + b.size, 0) := by
  obtain ⟨hw, hl, q, hq, rfl⟩ := rowS_ok h
  have hg := (get_of_put (x := x) (y := q ++ y) (put2 (n := l.length) (by omega)) (by omega)).1
  have e : x ++ bytesB (beL 2 l.length) ++ (q ++ y) = x ++ (bytesB (beL 2 l.length) ++ q) ++ y := by simp only [ByteArray.append_assoc]
  rw [e] at hg
  have hu := unrowL_of_rowL (y := y) l q (x ++ bytesB (beL 2 l.length)) hq hn
  have e2 : x ++ bytesB (beL 2 l.length) ++ q ++ y = x ++ (bytesB (beL 2 l.length) ++ q) ++ y := by simp only [ByteArray.append_assoc]
  have e3 : (bytesB (beL 2 l.length)).size = 2 := by rw [bytesB_size, beL_length]
  rw [e2, ByteArray.size_append, e3] at hu
  unfold unrowS
  rw [if_neg (by simp only [ByteArray.size_append, e3]; intro h; rcases h with h | h | h | h; exact h hw; omega; omega; omega), hg]
  simp only [if_true]
  rw [if_neg (by omega), Int.toNat_natCast]
  rw [show ((x.size + 2 : Nat) : Int) = (x.size : Int) + 2 by omega] at hu
  rw [hu, ByteArray.size_append, e3]
  congr 2
  omega
theorem unrowS_ok {s : ByteArray} {a w top tt : Int} {l : List Int} (h : unrowS s a w top = (l, tt, 0)) : wide w ∧ 0 ≤ top ∧ ∃ n, getS s a 2 = (n, a + 2, 0) ∧ n ≤ top ∧ n ≤ 1000 ∧ unrowL s w n.toNat (a + 2) = (l, tt, 0) := by
  unfold unrowS at h
  by_cases h1 : ¬ wide w ∨ a < 0 ∨ a > s.size ∨ top < 0
  · rw [if_pos h1] at h; exact absurd (Prod.mk.inj (Prod.mk.inj h).2).2 (by decide)
  · rw [if_neg h1] at h
    by_cases h2 : (getS s a 2).2.2 = 0
    · rw [if_pos h2] at h
      by_cases h3 : (getS s a 2).1 > top ∨ (getS s a 2).1 > 1000
      · rw [if_pos h3] at h; exact absurd (Prod.mk.inj (Prod.mk.inj h).2).2 (by decide)
      · rw [if_neg h3] at h
        have hg : getS s a 2 = ((getS s a 2).1, (getS s a 2).2.1, 0) := by rw [← h2]
        obtain ⟨_, _, _, e, _⟩ := getS_ok hg
        rw [e] at h hg
        exact ⟨Classical.byContradiction fun x => h1 (.inl x), by omega, (getS s a 2).1, hg, by omega, by omega, h⟩
    · rw [if_neg h2] at h; exact absurd (Prod.mk.inj (Prod.mk.inj h).2).2 h2
theorem row_of_unrow {s : ByteArray} {a w top tt : Int} {l : List Int} (h : unrowS s a w top = (l, tt, 0)) : rowS w l = (s.extract a.toNat tt.toNat, 0) ∧ a ≤ tt ∧ tt ≤ s.size ∧ 0 ≤ a := by
  obtain ⟨hw, _, n, hg, _, hn, hu⟩ := unrowS_ok h
  obtain ⟨_, ha, hs, _, _, _, h0⟩ := getS_ok hg
  obtain ⟨hr, h1, h2, hl⟩ := rowL_of_unrowL _ _ _ _ hu (by omega) (by omega)
  have hp := put_of_get hg
  have hb := (putS_ok hp).2.2.2
  refine ⟨?_, by omega, h2, ha⟩
  unfold rowS
  rw [if_pos hw, if_neg (by omega), hr]
  simp only [if_true]
  rw [hl, show bytesB (beL 2 n.toNat) = s.extract a.toNat (a + 2).toNat from hb.symm, extract_append (by omega) (by omega)]
theorem put_order {a b w : Int} {x y : ByteArray} (h1 : putS a w = (x, 0)) (h2 : putS b w = (y, 0)) : (Op.bytesLess x.data.toList y.data.toList = true ↔ a < b) := by
  obtain ⟨_, ha, ha', rfl⟩ := putS_ok h1
  obtain ⟨_, hb, hb', rfl⟩ := putS_ok h2
  rw [bytesB_data, bytesB_data, less_beN w.toNat _ _ (beL_length _ _) (beL_length _ _), beN_beL, beN_beL, Nat.mod_eq_of_lt (pow_cast' (by rw [Int.toNat_of_nonneg ha]; exact ha')), Nat.mod_eq_of_lt (pow_cast' (by rw [Int.toNat_of_nonneg hb]; exact hb'))]
  omega
end Go.Proofs.Ytabapiofkipkoaa.Q

namespace Go.Proofs.Ytabapiofkipkoaa.F
open Go.RowKit Go.Proofs.YtabapiofkipkoaaX Go.Proofs.YtabapiofkipkoaaW.PrintWords Go.Proofs.YtabapiofkipkoaaW.PrintLast Go.Proofs.YtabapiofkipkoaaW.PrintMore
attribute [local go_sem] max2_int min2_int max_two min_two max_three min_three max_four min_four   -- for this text's walks alone
attribute [local go_sem high] str_geq str_leq str_gtr
set_option linter.unusedVariables false
set_option linter.unusedSimpArgs false

/-! ### backhaulref05_wide: function 70 -/
def backhaulref05_wide.f (a0 : Int) : Option (Bool) := if a0 = 1 then (some true) else (if a0 = 2 then (some true) else (if a0 = 4 then (some true) else (some (a0 == 8))))
set_option maxHeartbeats 8000000 in
set_option maxRecDepth 100000 in
theorem backhaulref05_wide.calls (a0 : Int) (r : Bool) (w : World) (h : backhaulref05_wide.f a0 = some r) :
    Calls Try.prog 70 #[.int .i64 a0] w fun e w' => e = .returned (.bool r) ∧ Drawn0 w w' := by
  have H : (if a0 = 1 then (some true) else (if a0 = 2 then (some true) else (if a0 = 4 then (some true) else (some (a0 == 8))))) = some r := h
  clear h
  by_cases c2 : a0 = 1
  · rw [if_pos c2] at H
    have c2b0 : (a0 == 1) = true := beq_iff_eq.mpr c2
    have c2b1 : (a0 != 1) = false := bne_eq_false_iff_eq.mpr c2
    clear c2
    obtain rfl := Option.some.inj H
    go_enter Try.func70, Try.ntmps70
    go_wp2
    go_ret
    exact ⟨by first | rfl | (simp; done) | (simp [*]; done), by repeat (first | exact Drawn0.refl _ | apply Drawn0.step)⟩
  · rw [if_neg c2] at H
    have c2b0 : (a0 == 1) = false := beq_eq_false_iff_ne.mpr c2
    have c2b1 : (a0 != 1) = true := bne_iff_ne.mpr c2
    by_cases c3 : a0 = 2
    · rw [if_pos c3] at H
      have c3b0 : (a0 == 2) = true := beq_iff_eq.mpr c3
      have c3b1 : (a0 != 2) = false := bne_eq_false_iff_eq.mpr c3
      clear c3
      obtain rfl := Option.some.inj H
      go_enter Try.func70, Try.ntmps70
      go_wp2
      go_ret
      exact ⟨by first | rfl | (simp; done) | (simp [*]; done), by repeat (first | exact Drawn0.refl _ | apply Drawn0.step)⟩
    · rw [if_neg c3] at H
      have c3b0 : (a0 == 2) = false := beq_eq_false_iff_ne.mpr c3
      have c3b1 : (a0 != 2) = true := bne_iff_ne.mpr c3
      by_cases c4 : a0 = 4
      · rw [if_pos c4] at H
        have c4b0 : (a0 == 4) = true := beq_iff_eq.mpr c4
        have c4b1 : (a0 != 4) = false := bne_eq_false_iff_eq.mpr c4
        clear c4
        obtain rfl := Option.some.inj H
        go_enter Try.func70, Try.ntmps70
        go_wp2
        go_ret
        exact ⟨by first | rfl | (simp; done) | (simp [*]; done), by repeat (first | exact Drawn0.refl _ | apply Drawn0.step)⟩
      · rw [if_neg c4] at H
        have c4b0 : (a0 == 4) = false := beq_eq_false_iff_ne.mpr c4
        have c4b1 : (a0 != 4) = true := bne_iff_ne.mpr c4
        obtain rfl := Option.some.inj H
        go_enter Try.func70, Try.ntmps70
        go_wp2
        go_ret
        exact ⟨by first | rfl | (simp; done) | (simp [*]; done), by repeat (first | exact Drawn0.refl _ | apply Drawn0.step)⟩

end Go.Proofs.Ytabapiofkipkoaa.F

