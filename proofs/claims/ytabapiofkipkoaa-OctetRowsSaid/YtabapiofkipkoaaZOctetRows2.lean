-- merged by merge.py (the session's own program)
import Derived.Deep.Slices
import Derived.ChangeArms
import Derived.WideShapes
import Derived.OpenShut
import Derived.Test.YtabapiofkipkoaaRows
import Derived.WalkKit
import Derived.ProofKit
import Derived.WideLaws
import Derived.ShutString
import Derived.ChangeOld
import Derived.Below
import Derived.SizedLaws
import Derived.Carry
import Derived.Test.YtabapiofkipkoaaZOctetRows1
namespace Go.Proofs.Ytabapiofkipkoaa.F
open Go.RowKit Go.Proofs.YtabapiofkipkoaaX Go.Proofs.YtabapiofkipkoaaW.PrintWords Go.Proofs.YtabapiofkipkoaaW.PrintLast Go.Proofs.YtabapiofkipkoaaW.PrintMore
attribute [local go_sem] max2_int min2_int max_two min_two max_three min_three max_four min_four   -- for this text's walks alone
attribute [local go_sem high] str_geq str_leq str_gtr
set_option linter.unusedVariables false
set_option linter.unusedSimpArgs false

/-! ### backhaullaw05_OctetRows: function 9 -/
def backhaullaw05_OctetRows.j0 : Nat → List Int → ByteArray → Bool → Int → Int → Int → Option (Bool)
  | 0, _, _, _, _, _, _ => none
  | k + 1, x0, x1, x23, x494000, x494001, x494002 => if x23 = true then ((backhaullaw05_awake.f).bind fun t494 => (if t494 = true then (some true) else (some false))) else ((octet_Row.f k x494001 x0).bind fun bt495 => ((backhaulref05_Row.f k x494001 x0).bind fun bt497 => ((octet_Unrow.f k x1 x494000 x494001 x494002).bind fun bt499 => ((backhaulref05_Unrow.f k x1 x494000 x494001 x494002).bind fun bt505 => (if bt495.1.toList = bt497.1.toList then (if bt495.2 = bt497.2 then ((backhaulref02_SameInts.f k bt499.1 bt505.1).bind fun t510 => (if t510 = true then (if bt499.2.1 = bt505.2.1 then (if bt499.2.2 = bt505.2.2 then ((backhaullaw05_awake.f).bind fun t511 => (if t511 = true then (some true) else (some false))) else (some false)) else (some false)) else (some false))) else (some false)) else (some false))))))
def backhaullaw05_OctetRows.f (k : Nat) (l0 : List Int) (a1 : ByteArray) (a2_0 : Int) (a2_1 : Int) (a2_2 : Int) : Option (Bool) := if (l0.length : Int) > 1100 then (backhaullaw05_OctetRows.j0 k l0 a1 true a2_0 a2_1 a2_2) else (backhaullaw05_OctetRows.j0 k l0 a1 (decide ((a1.size : Int) > 3000)) a2_0 a2_1 a2_2)
theorem backhaullaw05_OctetRows.mono_l : ∀ k, (∀ y0 y1 y2 y3 y4 y5, LeO (backhaullaw05_OctetRows.j0 k y0 y1 y2 y3 y4 y5) (backhaullaw05_OctetRows.j0 (k + 1) y0 y1 y2 y3 y4 y5))
  | 0 => fun _ _ _ _ _ _ r h => by simp [backhaullaw05_OctetRows.j0] at h
  | k + 1 => by
    have ih0 := backhaullaw05_OctetRows.mono_l k
    · intro y0 y1 y2 y3 y4 y5
      unfold backhaullaw05_OctetRows.j0
      repeat' first
      | (with_reducible exact ih0 _ _ _ _ _ _)
      | (with_reducible exact backhaulref02_SameInts.mono _ _ _)
      | (with_reducible exact backhaulref05_Row.mono _ _ _)
      | (with_reducible exact backhaulref05_Unrow.mono _ _ _ _ _)
      | (with_reducible exact octet_Row.mono _ _ _)
      | (with_reducible exact octet_Unrow.mono _ _ _ _ _)
      | (with_reducible exact LeO.refl _)
      | (with_reducible exact LeO.none _)
      | (with_reducible refine LeO.ite ?_ ?_)
      | (with_reducible refine LeO.bind ?_ (fun _ => ?_))
      | exact ih0 _ _ _ _ _ _
      | exact backhaulref02_SameInts.mono _ _ _
      | exact backhaulref05_Row.mono _ _ _
      | exact backhaulref05_Unrow.mono _ _ _ _ _
      | exact octet_Row.mono _ _ _
      | exact octet_Unrow.mono _ _ _ _ _
      | exact LeO.none _
      | refine LeO.ite ?_ ?_
      | refine LeO.bind ?_ (fun _ => ?_)
theorem backhaullaw05_OctetRows.mono : ∀ a0 a1 a2 a3 a4 k, LeO (backhaullaw05_OctetRows.f k a0 a1 a2 a3 a4) (backhaullaw05_OctetRows.f (k + 1) a0 a1 a2 a3 a4) := by
  intro a0 a1 a2 a3 a4 k
  have ih0 := backhaullaw05_OctetRows.mono_l k
  unfold backhaullaw05_OctetRows.f
  repeat' first
      | (with_reducible exact ih0 _ _ _ _ _ _)
      | (with_reducible exact backhaulref02_SameInts.mono _ _ _)
      | (with_reducible exact backhaulref05_Row.mono _ _ _)
      | (with_reducible exact backhaulref05_Unrow.mono _ _ _ _ _)
      | (with_reducible exact octet_Row.mono _ _ _)
      | (with_reducible exact octet_Unrow.mono _ _ _ _ _)
      | (with_reducible exact LeO.refl _)
      | (with_reducible exact LeO.none _)
      | (with_reducible refine LeO.ite ?_ ?_)
      | (with_reducible refine LeO.bind ?_ (fun _ => ?_))
      | exact ih0 _ _ _ _ _ _
      | exact backhaulref02_SameInts.mono _ _ _
      | exact backhaulref05_Row.mono _ _ _
      | exact backhaulref05_Unrow.mono _ _ _ _ _
      | exact octet_Row.mono _ _ _
      | exact octet_Unrow.mono _ _ _ _ _
      | exact LeO.none _
      | refine LeO.ite ?_ ?_
      | refine LeO.bind ?_ (fun _ => ?_)
set_option maxHeartbeats 8000000 in
set_option maxRecDepth 100000 in
theorem backhaullaw05_OctetRows.calls (k : Nat) (A0 : Option Addr) (c0 : Nat) (l0 : List Int) (a1 : ByteArray) (a2_0 : Int) (a2_1 : Int) (a2_2 : Int) (w : World) (hr0 : Kd.C (Kd.int .i64) w A0 l0.length l0) (hc0 : l0.length ≤ c0) (h : backhaullaw05_OctetRows.f k l0 a1 a2_0 a2_1 a2_2 = some true) :
    Calls Try.prog 9 #[.slice A0 l0.length c0, .string a1, .agg #[.int .i64 a2_0, .int .i64 a2_1, .int .i64 a2_2]] w fun e w' => e = .returned (.bool true) ∧ Below w.heap.size w w' := by
  have hu65 := Try.underlying65
  have hu69 := Try.underlying69
  have HR0 := Aside0.mk hr0
  have HC0 := Aside0.mk hc0
  clear hr0 hc0
  have HB := Aside0.mk (Below.refl w.heap.size w)
  have H : (if (l0.length : Int) > 1100 then (backhaullaw05_OctetRows.j0 k l0 a1 true a2_0 a2_1 a2_2) else (backhaullaw05_OctetRows.j0 k l0 a1 (decide ((a1.size : Int) > 3000)) a2_0 a2_1 a2_2)) = some true := h
  clear h
  have HC4 := Aside0.mk H
  clear H
  go_enter Try.func9, Try.ntmps9
  go_upto_region 1 with (first | ((with_reducible refine gate_dst (N := 5) rfl ?_); (try (refine gate_guard (by rfl) ?_; dsimp only)); refine box_event ?hg (N := 5) ?hd (cs := #[.int .i64 a2_0, .int .i64 a2_1, .int .i64 a2_2]) (t := 65) ?hr ?_; (case hd => rfl); (case hg => rfl); (case hr => first | (go_simp; done) | (go_simp; rfl)); intro gb493 hg w5 hbox hb; have n0_ := Aside0.mk (below_step (by repeat (first | (with_reducible first | exact HB.out | apply below_alloc | apply pw_below_drewN | apply below_drew1) | exact HB.out)) hb); have n1_ := Aside0.mk (hbox); have n2_ := Aside0.mk ((by rw [hg]; exact (below_size (by repeat (first | (with_reducible first | exact HB.out | apply below_alloc | apply pw_below_drewN | apply below_drew1) | exact HB.out))) : w.heap.size ≤ gb493)); have n3_ := Aside0.mk ((by rw [hg]; exact (below_size (by repeat (first | (with_reducible first | exact HB.out | apply below_alloc | apply pw_below_drewN | apply below_drew1) | exact HB.out))) : w.heap.size ≤ gb493)); clear HB; have HB := n0_; have BK493 := n1_; have GW493 := n2_; have GE493 := n3_; clear n0_ n1_ n2_ n3_; clear hb hbox hg))
  (try simp only [Act.put, List.setIfInBounds_toArray, List.set_cons_zero, List.set_cons_succ])
  go_cut [23] (fun v23 wc => ∃ (kq : Nat) (x23_3 : Bool), v23 = .bool x23_3 ∧ Aside0 (backhaullaw05_OctetRows.j0 kq l0 a1 x23_3 a2_0 a2_1 a2_2 = some true) ∧ Aside0 (kq ≤ k) ∧ Aside0 (wc.heap[gb493]? = some (.cells #[.int .i64 a2_0, .int .i64 a2_1, .int .i64 a2_2] 65 (0, 0))) ∧ Aside0 (Below w.heap.size w wc))
  case first =>
    have H := HC4.out
    clear HC4
    by_cases c6 : (l0.length : Int) > 1100
    · rw [if_pos c6] at H
      have c6b0 : decide (1100 < (l0.length : Int)) = true := decide_eq_true c6
      have c6b1 : decide (1100 < l0.length) = true := decide_eq_true (by omega)
      clear c6
      (first | rw [c6b0] | (simp only [i64_w, i32_w]; rw [c6b0]) | skip)
      have H' := Aside0.mk H
      clear H
      go_wp2
      go_meet
      case rel => exact ⟨_, (true), (by first | rfl | (simp; done) | (simp [*]; done)), H', ⟨by first | omega | exact Nat.le_refl _⟩, ⟨by (with_reducible repeat (first | refine blk_drewN ?_ _ | refine blk_drew ?_ | refine blk_alloc ?_ _)); exact BK493.out⟩, ⟨by repeat (first | (with_reducible first | exact HB.out | apply below_alloc | apply pw_below_drewN | apply below_drew1 | refine below_set ?_ GE493.out) | exact HB.out)⟩⟩
    · rw [if_neg c6] at H
      have c6b0 : decide (1100 < (l0.length : Int)) = false := decide_eq_false c6
      have c6b1 : decide (1100 < l0.length) = false := decide_eq_false (by omega)
      clear c6
      (first | rw [c6b0] | (simp only [i64_w, i32_w]; rw [c6b0]) | skip)
      have H' := Aside0.mk H
      clear H
      go_wp2
      go_meet
      case rel => exact ⟨_, (decide ((a1.size : Int) > 3000)), (by first | rfl | (simp; done) | (simp [*]; done)), H', ⟨by first | omega | exact Nat.le_refl _⟩, ⟨by (with_reducible repeat (first | refine blk_drewN ?_ _ | refine blk_drew ?_ | refine blk_alloc ?_ _)); exact BK493.out⟩, ⟨by repeat (first | (with_reducible first | exact HB.out | apply below_alloc | apply pw_below_drewN | apply below_drew1 | refine below_set ?_ GE493.out) | exact HB.out)⟩⟩
  case rest =>
    clear HC4
    try clear p2
    try clear c6
    try clear c6b0
    try clear c6b1
    obtain ⟨kq, x23_3, rfl, HA, HJ3, BK493, HB⟩ := hcut
    cases kq with
    | zero => exact absurd HA.out (by simp [backhaullaw05_OctetRows.j0])
    | succ kj3 =>
      have H := HA.out
      clear HA
      simp only [backhaullaw05_OctetRows.j0] at H
      by_cases c7 : x23_3 = true
      · subst c7
        have H1 : ((backhaullaw05_awake.f).bind fun t494 => (if t494 = true then (some true) else (some false))) = some true := by first | (rw [if_pos rfl] at H; exact H) | rfl
        clear H
        have H := H1
        clear H1
        replace H := Option.bind_eq_some_iff.mp H
        obtain ⟨t494, A80, H⟩ := H
        replace H : (if t494 = true then (some true) else (some false)) = some true := H
        have A8 := Aside0.mk A80
        clear A80
        by_cases c9 : t494 = true
        · subst c9
          have H1 : (some true) = some true := by first | (rw [if_pos rfl] at H; exact H) | rfl
          clear H
          have H := H1
          clear H1
          clear H
          go_wp2_with (first | ((with_reducible refine gate_callee (f := 34) rfl ?_); refine goesL_ (some 24) rfl rfl Try.func34 (by kernel_rfl) rfl #[] rfl (by (try simp only [List.map_toArray, List.map_cons, List.map_nil]); first | done | rfl | (simp only [List.length_drop, List.length_take]; rfl)) ?_; (with_reducible refine (backhaullaw05_awake.calls  true _ A8.out).mono ?_); rintro e w10 ⟨rfl, hb⟩; refine ⟨_, rfl, ?_⟩; have n0_ := Aside0.mk (blk_below (g := gb493) (o := .cells #[.int .i64 a2_0, .int .i64 a2_1, .int .i64 a2_2] 65 (0, 0)) (by (with_reducible repeat (first | refine blk_drewN ?_ _ | refine blk_drew ?_ | refine blk_alloc ?_ _)); exact BK493.out) hb); have n1_ := Aside0.mk (below_step (by repeat (first | (with_reducible first | exact HB.out | apply below_alloc | apply pw_below_drewN | apply below_drew1 | refine below_set ?_ GE493.out) | exact HB.out)) hb); clear BK493; clear HB; have BK493 := n0_; have HB := n1_; clear n0_ n1_; (try clear hb); (try clear hb2); (try clear hk); (try clear hi)))
          go_ret
          exact ⟨by first | rfl | (simp [errW_none, errW_some] <;> rfl) | (simp [*, errW_none, errW_some] <;> rfl), by repeat (first | (with_reducible first | exact HB.out | apply below_alloc | apply pw_below_drewN | apply below_drew1 | refine below_set ?_ GE493.out) | exact HB.out)⟩
        · replace c9 := Bool.eq_false_iff.mpr c9
          subst c9
          have H1 : (some false) = some true := by first | (rw [if_neg (show ¬ (false = true) by decide)] at H; exact H) | rfl
          clear H
          have H := H1
          clear H1
          exact absurd H (by simp)
      · replace c7 := Bool.eq_false_iff.mpr c7
        subst c7
        have H1 : ((octet_Row.f kj3 a2_1 l0).bind fun bt495 => ((backhaulref05_Row.f kj3 a2_1 l0).bind fun bt497 => ((octet_Unrow.f kj3 a1 a2_0 a2_1 a2_2).bind fun bt499 => ((backhaulref05_Unrow.f kj3 a1 a2_0 a2_1 a2_2).bind fun bt505 => (if bt495.1.toList = bt497.1.toList then (if bt495.2 = bt497.2 then ((backhaulref02_SameInts.f kj3 bt499.1 bt505.1).bind fun t510 => (if t510 = true then (if bt499.2.1 = bt505.2.1 then (if bt499.2.2 = bt505.2.2 then ((backhaullaw05_awake.f).bind fun t511 => (if t511 = true then (some true) else (some false))) else (some false)) else (some false)) else (some false))) else (some false)) else (some false)))))) = some true := by first | (rw [if_neg (show ¬ (false = true) by decide)] at H; exact H) | rfl
        clear H
        have H := H1
        clear H1
        replace H := Option.bind_eq_some_iff.mp H
        obtain ⟨⟨t495, t496⟩, A110, H⟩ := H
        replace H : ((backhaulref05_Row.f kj3 a2_1 l0).bind fun bt497 => ((octet_Unrow.f kj3 a1 a2_0 a2_1 a2_2).bind fun bt499 => ((backhaulref05_Unrow.f kj3 a1 a2_0 a2_1 a2_2).bind fun bt505 => (if t495.toList = bt497.1.toList then (if t496 = bt497.2 then ((backhaulref02_SameInts.f kj3 bt499.1 bt505.1).bind fun t510 => (if t510 = true then (if bt499.2.1 = bt505.2.1 then (if bt499.2.2 = bt505.2.2 then ((backhaullaw05_awake.f).bind fun t511 => (if t511 = true then (some true) else (some false))) else (some false)) else (some false)) else (some false))) else (some false)) else (some false))))) = some true := H
        have A11 := Aside0.mk A110
        clear A110
        replace H := Option.bind_eq_some_iff.mp H
        obtain ⟨⟨t497, t498⟩, A120, H⟩ := H
        replace H : ((octet_Unrow.f kj3 a1 a2_0 a2_1 a2_2).bind fun bt499 => ((backhaulref05_Unrow.f kj3 a1 a2_0 a2_1 a2_2).bind fun bt505 => (if t495.toList = t497.toList then (if t496 = t498 then ((backhaulref02_SameInts.f kj3 bt499.1 bt505.1).bind fun t510 => (if t510 = true then (if bt499.2.1 = bt505.2.1 then (if bt499.2.2 = bt505.2.2 then ((backhaullaw05_awake.f).bind fun t511 => (if t511 = true then (some true) else (some false))) else (some false)) else (some false)) else (some false))) else (some false)) else (some false)))) = some true := H
        have A12 := Aside0.mk A120
        clear A120
        replace H := Option.bind_eq_some_iff.mp H
        obtain ⟨⟨t499, t502, t503⟩, A130, H⟩ := H
        replace H : ((backhaulref05_Unrow.f kj3 a1 a2_0 a2_1 a2_2).bind fun bt505 => (if t495.toList = t497.toList then (if t496 = t498 then ((backhaulref02_SameInts.f kj3 t499 bt505.1).bind fun t510 => (if t510 = true then (if t502 = bt505.2.1 then (if t503 = bt505.2.2 then ((backhaullaw05_awake.f).bind fun t511 => (if t511 = true then (some true) else (some false))) else (some false)) else (some false)) else (some false))) else (some false)) else (some false))) = some true := H
        have A13 := Aside0.mk A130
        clear A130
        replace H := Option.bind_eq_some_iff.mp H
        obtain ⟨⟨t505, t506, t507⟩, A140, H⟩ := H
        replace H : (if t495.toList = t497.toList then (if t496 = t498 then ((backhaulref02_SameInts.f kj3 t499 t505).bind fun t510 => (if t510 = true then (if t502 = t506 then (if t503 = t507 then ((backhaullaw05_awake.f).bind fun t511 => (if t511 = true then (some true) else (some false))) else (some false)) else (some false)) else (some false))) else (some false)) else (some false)) = some true := H
        have A14 := Aside0.mk A140
        clear A140
        by_cases c15 : t495.toList = t497.toList
        · rw [if_pos c15] at H
          have c15b0 : (t495.toList == t497.toList) = true := beq_iff_eq.mpr c15
          have c15b1 : (t495.toList != t497.toList) = false := bne_eq_false_iff_eq.mpr c15
          clear c15
          by_cases c16 : t496 = t498
          · rw [if_pos c16] at H
            have c16b0 : (t496 == t498) = true := beq_iff_eq.mpr c16
            have c16b1 : (t496 != t498) = false := bne_eq_false_iff_eq.mpr c16
            clear c16
            replace H := Option.bind_eq_some_iff.mp H
            obtain ⟨t510, A170, H⟩ := H
            replace H : (if t510 = true then (if t502 = t506 then (if t503 = t507 then ((backhaullaw05_awake.f).bind fun t511 => (if t511 = true then (some true) else (some false))) else (some false)) else (some false)) else (some false)) = some true := H
            have A17 := Aside0.mk A170
            clear A170
            by_cases c18 : t510 = true
            · subst c18
              have H1 : (if t502 = t506 then (if t503 = t507 then ((backhaullaw05_awake.f).bind fun t511 => (if t511 = true then (some true) else (some false))) else (some false)) else (some false)) = some true := by first | (rw [if_pos rfl] at H; exact H) | rfl
              clear H
              have H := H1
              clear H1
              by_cases c19 : t502 = t506
              · rw [if_pos c19] at H
                have c19b0 : (t502 == t506) = true := beq_iff_eq.mpr c19
                have c19b1 : (t502 != t506) = false := bne_eq_false_iff_eq.mpr c19
                clear c19
                by_cases c20 : t503 = t507
                · rw [if_pos c20] at H
                  have c20b0 : (t503 == t507) = true := beq_iff_eq.mpr c20
                  have c20b1 : (t503 != t507) = false := bne_eq_false_iff_eq.mpr c20
                  clear c20
                  replace H := Option.bind_eq_some_iff.mp H
                  obtain ⟨t511, A210, H⟩ := H
                  replace H : (if t511 = true then (some true) else (some false)) = some true := H
                  have A21 := Aside0.mk A210
                  clear A210
                  by_cases c22 : t511 = true
                  · subst c22
                    have H1 : (some true) = some true := by first | (rw [if_pos rfl] at H; exact H) | rfl
                    clear H
                    have H := H1
                    clear H1
                    clear H
                    have hcz23_0 : wc.cell? ⟨gb493, 0, none⟩ = some (.int .i64 a2_0) := (blk_cell BK493.out 0).trans rfl
                    have hcz23_1 : wc.cell? ⟨gb493, 1, none⟩ = some (.int .i64 a2_1) := (blk_cell BK493.out 1).trans rfl
                    have hcz23_2 : wc.cell? ⟨gb493, 2, none⟩ = some (.int .i64 a2_2) := (blk_cell BK493.out 2).trans rfl
                    have hfz23_0 := blk_frozen BK493.out 0
                    have hfz23_1 := blk_frozen BK493.out 1
                    have hfz23_2 := blk_frozen BK493.out 2
                    go_wp2_with (first | ((with_reducible refine gate_callee (f := 44) rfl ?_); refine goesL_ (some 29) rfl rfl Try.func44 (by kernel_rfl) rfl #[.int .i64 a2_1, .slice A0 l0.length c0] rfl (by (try simp only [List.map_toArray, List.map_cons, List.map_nil]); first | done | rfl | (simp only [List.length_drop, List.length_take]; rfl)) ?_; (with_reducible refine (octet_Row.calls kj3 a2_1 _ _ l0 t495 t496 _ ?side1 ?side2 A11.out).mono ?_); (case side1 => repeat (first | exact (Kd.C_below HR0.out HB.out) | (with_reducible refine Kd.C_alloc ?_ _) | (with_reducible refine Kd.C_drewN ?_ _) | (with_reducible refine Kd.C_drew ?_))); (case side2 => exact HC0.out); rintro e w24 ⟨rfl, hb⟩; refine ⟨_, rfl, ?_⟩; have n0_ := Aside0.mk (blk_below (g := gb493) (o := .cells #[.int .i64 a2_0, .int .i64 a2_1, .int .i64 a2_2] 65 (0, 0)) (by (with_reducible repeat (first | refine blk_drewN ?_ _ | refine blk_drew ?_ | refine blk_alloc ?_ _)); exact BK493.out) hb); have n1_ := Aside0.mk (below_step (by repeat (first | (with_reducible first | exact HB.out | apply below_alloc | apply pw_below_drewN | apply below_drew1 | refine below_set ?_ GE493.out) | exact HB.out)) hb); clear BK493; clear HB; have BK493 := n0_; have HB := n1_; clear n0_ n1_; (try clear hb); (try clear hb2); (try clear hk); (try clear hi); have hcz25_0 : w24.cell? ⟨gb493, 0, none⟩ = some (.int .i64 a2_0) := (blk_cell BK493.out 0).trans rfl; have hcz25_1 : w24.cell? ⟨gb493, 1, none⟩ = some (.int .i64 a2_1) := (blk_cell BK493.out 1).trans rfl; have hcz25_2 : w24.cell? ⟨gb493, 2, none⟩ = some (.int .i64 a2_2) := (blk_cell BK493.out 2).trans rfl; have hfz25_0 := blk_frozen BK493.out 0; have hfz25_1 := blk_frozen BK493.out 1; have hfz25_2 := blk_frozen BK493.out 2) | ((with_reducible refine gate_callee (f := 45) rfl ?_); refine goesL_ (some 36) rfl rfl Try.func45 (by kernel_rfl) rfl #[.int .i64 a2_1, .slice A0 l0.length c0] rfl (by (try simp only [List.map_toArray, List.map_cons, List.map_nil]); first | done | rfl | (simp only [List.length_drop, List.length_take]; rfl)) ?_; (with_reducible refine (backhaulref05_Row.calls kj3 a2_1 _ _ l0 t497 t498 _ ?side1 ?side2 A12.out).mono ?_); (case side1 => repeat (first | exact (Kd.C_below HR0.out HB.out) | (with_reducible refine Kd.C_alloc ?_ _) | (with_reducible refine Kd.C_drewN ?_ _) | (with_reducible refine Kd.C_drew ?_))); (case side2 => exact HC0.out); rintro e w26 ⟨rfl, hb⟩; refine ⟨_, rfl, ?_⟩; have n0_ := Aside0.mk (blk_below (g := gb493) (o := .cells #[.int .i64 a2_0, .int .i64 a2_1, .int .i64 a2_2] 65 (0, 0)) (by (with_reducible repeat (first | refine blk_drewN ?_ _ | refine blk_drew ?_ | refine blk_alloc ?_ _)); exact BK493.out) hb); have n1_ := Aside0.mk (below_step (by repeat (first | (with_reducible first | exact HB.out | apply below_alloc | apply pw_below_drewN | apply below_drew1 | refine below_set ?_ GE493.out) | exact HB.out)) hb); clear BK493; clear HB; have BK493 := n0_; have HB := n1_; clear n0_ n1_; (try clear hb); (try clear hb2); (try clear hk); (try clear hi); have hcz27_0 : w26.cell? ⟨gb493, 0, none⟩ = some (.int .i64 a2_0) := (blk_cell BK493.out 0).trans rfl; have hcz27_1 : w26.cell? ⟨gb493, 1, none⟩ = some (.int .i64 a2_1) := (blk_cell BK493.out 1).trans rfl; have hcz27_2 : w26.cell? ⟨gb493, 2, none⟩ = some (.int .i64 a2_2) := (blk_cell BK493.out 2).trans rfl; have hfz27_0 := blk_frozen BK493.out 0; have hfz27_1 := blk_frozen BK493.out 1; have hfz27_2 := blk_frozen BK493.out 2) | ((with_reducible refine gate_callee (f := 46) rfl ?_); refine goesL_ (some 47) rfl rfl Try.func46 (by kernel_rfl) rfl #[.string a1, .int .i64 a2_0, .int .i64 a2_1, .int .i64 a2_2] rfl (by (try simp only [List.map_toArray, List.map_cons, List.map_nil]); first | done | rfl | (simp only [List.length_drop, List.length_take]; rfl)) ?_; (with_reducible refine (octet_Unrow.calls kj3 a1 a2_0 a2_1 a2_2 t499 t502 t503 _ A13.out).mono ?_); rintro e w28 ⟨v500, rfl, ho0, hb⟩; refine ⟨_, rfl, ?_⟩; have n0_ := Aside0.mk (Kd.R_lower ho0 (below_size (by repeat (first | (with_reducible first | exact HB.out | apply below_alloc | apply pw_below_drewN | apply below_drew1 | refine below_set ?_ GE493.out) | exact HB.out)))); have n1_ := Aside0.mk (blk_below (g := gb493) (o := .cells #[.int .i64 a2_0, .int .i64 a2_1, .int .i64 a2_2] 65 (0, 0)) (by (with_reducible repeat (first | refine blk_drewN ?_ _ | refine blk_drew ?_ | refine blk_alloc ?_ _)); exact BK493.out) hb); have n2_ := Aside0.mk (below_step (by repeat (first | (with_reducible first | exact HB.out | apply below_alloc | apply pw_below_drewN | apply below_drew1 | refine below_set ?_ GE493.out) | exact HB.out)) hb); clear BK493; clear HB; have HO501 := n0_; have BK493 := n1_; have HB := n2_; clear n0_ n1_ n2_; (try clear hb); (try clear hb2); (try clear hk); (try clear hi); (try clear ho0)) | ((with_reducible refine gate_dst (N := 11) rfl ?_); (try (refine gate_guard (by rfl) ?_; dsimp only)); refine box_event ?hg (N := 11) ?hd (cs := #[.slice none 0 0, .int .i64 0]) (t := 69) ?hr ?_; (case hd => rfl); (case hg => rfl); (case hr => first | (go_simp; done) | (go_simp; rfl)); intro gb504 hg w29 hbox hb; have n0_ := Aside0.mk (Kd.R_below (by (with_reducible repeat (first | apply Kd.R_alloc | apply Kd.R_drewN | apply Kd.R_drew)); exact HO501.out) hb); have n1_ := Aside0.mk (blk_below (g := gb493) (o := .cells #[.int .i64 a2_0, .int .i64 a2_1, .int .i64 a2_2] 65 (0, 0)) (by (with_reducible repeat (first | refine blk_drewN ?_ _ | refine blk_drew ?_ | refine blk_alloc ?_ _)); exact BK493.out) hb); have n2_ := Aside0.mk (below_step (by repeat (first | (with_reducible first | exact HB.out | apply below_alloc | apply pw_below_drewN | apply below_drew1 | refine below_set ?_ GE493.out) | exact HB.out)) hb); have n3_ := Aside0.mk (hbox); have n4_ := Aside0.mk ((by rw [hg]; exact (below_size (by repeat (first | (with_reducible first | exact HB.out | apply below_alloc | apply pw_below_drewN | apply below_drew1 | refine below_set ?_ GE493.out) | exact HB.out))) : w.heap.size ≤ gb504)); have n5_ := Aside0.mk ((by rw [hg]; exact (below_size (by repeat (first | (with_reducible first | exact HB.out | apply below_alloc | apply pw_below_drewN | apply below_drew1 | refine below_set ?_ GE493.out) | exact HB.out))) : w.heap.size ≤ gb504)); have n6_ := Aside0.mk ((by rw [hg]; exact Nat.ne_of_lt (blk_lt (g := gb493) (o := .cells #[.int .i64 a2_0, .int .i64 a2_1, .int .i64 a2_2] 65 (0, 0)) (by (with_reducible repeat (first | refine blk_drewN ?_ _ | refine blk_drew ?_ | refine blk_alloc ?_ _)); exact BK493.out)) : gb493 ≠ gb504)); have n7_ := Aside0.mk ((by rw [hg]; exact Nat.ne_of_gt (blk_lt (g := gb493) (o := .cells #[.int .i64 a2_0, .int .i64 a2_1, .int .i64 a2_2] 65 (0, 0)) (by (with_reducible repeat (first | refine blk_drewN ?_ _ | refine blk_drew ?_ | refine blk_alloc ?_ _)); exact BK493.out)) : gb504 ≠ gb493)); clear HO501; clear BK493; clear HB; have HO501 := n0_; have BK493 := n1_; have HB := n2_; have BK504 := n3_; have GW504 := n4_; have GE504 := n5_; have NB493_504 := n6_; have NB504_493 := n7_; clear n0_ n1_ n2_ n3_ n4_ n5_ n6_ n7_; clear hb hbox hg; obtain ⟨Ao30, co30, eo30⟩ := Kd.R_slice HO501.out; subst eo30; have hnb31 := NB504_493.out; have hnc31 := NB493_504.out; have hcz32_0 : w29.cell? ⟨gb504, 0, none⟩ = some (.slice none 0 0) := (blk_cell BK504.out 0).trans rfl; have hcz32_1 : w29.cell? ⟨gb504, 1, none⟩ = some (.int .i64 0) := (blk_cell BK504.out 1).trans rfl; have hfz32_0 := blk_frozen BK504.out 0; have hfz32_1 := blk_frozen BK504.out 1; have hcz33_0 : w29.cell? ⟨gb493, 0, none⟩ = some (.int .i64 a2_0) := (blk_cell BK493.out 0).trans rfl; have hcz33_1 : w29.cell? ⟨gb493, 1, none⟩ = some (.int .i64 a2_1) := (blk_cell BK493.out 1).trans rfl; have hcz33_2 : w29.cell? ⟨gb493, 2, none⟩ = some (.int .i64 a2_2) := (blk_cell BK493.out 2).trans rfl; have hfz33_0 := blk_frozen BK493.out 0; have hfz33_1 := blk_frozen BK493.out 1; have hfz33_2 := blk_frozen BK493.out 2) | ((with_reducible refine gate_callee (f := 47) rfl ?_); refine goesL_ (some 58) rfl rfl Try.func47 (by kernel_rfl) rfl #[.string a1, .int .i64 a2_0, .int .i64 a2_1, .int .i64 a2_2] rfl (by (try simp only [List.map_toArray, List.map_cons, List.map_nil]); first | done | rfl | (simp only [List.length_drop, List.length_take]; rfl)) ?_; (with_reducible refine (backhaulref05_Unrow.calls kj3 a1 a2_0 a2_1 a2_2 t505 t506 t507 _ A14.out).mono ?_); rintro e w34 ⟨v508, rfl, ho0, hb⟩; refine ⟨_, rfl, ?_⟩; have n0_ := Aside0.mk (Kd.R_elder' (by (with_reducible repeat (first | apply Kd.R_alloc | apply Kd.R_drewN | apply Kd.R_drew)); exact (Kd.R_mono (Kd.R_far (p := ⟨gb504, 1, none⟩) (Kd.R_far (p := ⟨gb504, 0, none⟩) (Kd.R_types HO501.out BK504.out (by decide)) (fun _ hk => hk.2) (.slice Ao30 t499.length co30)) (fun _ hk => hk.2) (.int .i64 t502)) (fun _ h_ => h_.1))) (Kd.R_base ho0) hb); have n1_ := Aside0.mk (Kd.R_lower (Kd.R_new' ho0 (Kd.R_lt (by (with_reducible repeat (first | apply Kd.R_alloc | apply Kd.R_drewN | apply Kd.R_drew)); exact (Kd.R_mono (Kd.R_far (p := ⟨gb504, 1, none⟩) (Kd.R_far (p := ⟨gb504, 0, none⟩) (Kd.R_types HO501.out BK504.out (by decide)) (fun _ hk => hk.2) (.slice Ao30 t499.length co30)) (fun _ hk => hk.2) (.int .i64 t502)) (fun _ h_ => h_.1))))) (below_size (by repeat (first | (with_reducible first | exact HB.out | apply below_alloc | apply pw_below_drewN | apply below_drew1 | refine below_set ?_ GE493.out | refine below_set ?_ GE504.out) | exact HB.out)))); have n2_ := Aside0.mk (blk_below (g := gb493) (o := .cells #[.int .i64 a2_0, .int .i64 a2_1, .int .i64 a2_2] 65 (0, 0)) (by (with_reducible repeat (first | refine blk_drewN ?_ _ | refine blk_drew ?_ | refine blk_alloc ?_ _)); refine blk_far ?_ NB493_504.out _; (with_reducible repeat (first | refine blk_drewN ?_ _ | refine blk_drew ?_ | refine blk_alloc ?_ _)); refine blk_far ?_ NB493_504.out _; (with_reducible repeat (first | refine blk_drewN ?_ _ | refine blk_drew ?_ | refine blk_alloc ?_ _)); exact BK493.out) hb); have n3_ := Aside0.mk (blk_below (g := gb504) (o := .cells #[.slice Ao30 t499.length co30, .int .i64 t502] 69 (0, 0)) (by (with_reducible repeat (first | refine blk_drewN ?_ _ | refine blk_drew ?_ | refine blk_alloc ?_ _)); refine blk_put (cs := #[.slice Ao30 t499.length co30, .int .i64 0]) ?_ 1 _ rfl; (with_reducible repeat (first | refine blk_drewN ?_ _ | refine blk_drew ?_ | refine blk_alloc ?_ _)); refine blk_put (cs := #[.slice none 0 0, .int .i64 0]) ?_ 0 _ rfl; (with_reducible repeat (first | refine blk_drewN ?_ _ | refine blk_drew ?_ | refine blk_alloc ?_ _)); exact BK504.out) hb); have n4_ := Aside0.mk (below_step (by repeat (first | (with_reducible first | exact HB.out | apply below_alloc | apply pw_below_drewN | apply below_drew1 | refine below_set ?_ GE493.out | refine below_set ?_ GE504.out) | exact HB.out)) hb); clear HO501; clear BK493; clear BK504; clear HB; have HO501 := n0_; have HO509 := n1_; have BK493 := n2_; have BK504 := n3_; have HB := n4_; clear n0_ n1_ n2_ n3_ n4_; (try clear hb); (try clear hb2); (try clear hk); (try clear hi); (try clear ho0); have hcz35_0 : w34.cell? ⟨gb504, 0, none⟩ = some (.slice Ao30 t499.length co30) := (blk_cell BK504.out 0).trans rfl; have hcz35_1 : w34.cell? ⟨gb504, 1, none⟩ = some (.int .i64 t502) := (blk_cell BK504.out 1).trans rfl; have hfz35_0 := blk_frozen BK504.out 0; have hfz35_1 := blk_frozen BK504.out 1; obtain ⟨Ao36, co36, eo36⟩ := Kd.R_slice HO509.out; subst eo36) | (go_at_call 48; (with_reducible refine (backhaulref02_SameInts.calls kj3 _ _ t499 _ _ t505 true _ ?side1 ?side2 ?side3 ?side4 A17.out).mono ?_); (case side1 => repeat (first | exact (Kd.R_reads' HO501.out).2.2 | (with_reducible refine Kd.C_alloc ?_ _) | (with_reducible refine Kd.C_drewN ?_ _) | (with_reducible refine Kd.C_drew ?_))); (case side2 => exact (Kd.R_reads' HO501.out).2.1); (case side3 => repeat (first | exact (Kd.R_reads' HO509.out).2.2 | (with_reducible refine Kd.C_alloc ?_ _) | (with_reducible refine Kd.C_drewN ?_ _) | (with_reducible refine Kd.C_drew ?_))); (case side4 => exact (Kd.R_reads' HO509.out).2.1); rintro e w' ⟨rfl, ⟨nd, rfl⟩⟩) | (go_at_call 34; (with_reducible refine (backhaullaw05_awake.calls  true _ A21.out).mono ?_); rintro e w37 ⟨rfl, hb⟩; have n0_ := Aside0.mk (Kd.R_below (by (with_reducible repeat (first | apply Kd.R_alloc | apply Kd.R_drewN | apply Kd.R_drew)); exact HO501.out) hb); have n1_ := Aside0.mk (Kd.R_below (by (with_reducible repeat (first | apply Kd.R_alloc | apply Kd.R_drewN | apply Kd.R_drew)); exact HO509.out) hb); have n2_ := Aside0.mk (blk_below (g := gb493) (o := .cells #[.int .i64 a2_0, .int .i64 a2_1, .int .i64 a2_2] 65 (0, 0)) (by (with_reducible repeat (first | refine blk_drewN ?_ _ | refine blk_drew ?_ | refine blk_alloc ?_ _)); exact BK493.out) hb); have n3_ := Aside0.mk (blk_below (g := gb504) (o := .cells #[.slice Ao30 t499.length co30, .int .i64 t502] 69 (0, 0)) (by (with_reducible repeat (first | refine blk_drewN ?_ _ | refine blk_drew ?_ | refine blk_alloc ?_ _)); exact BK504.out) hb); have n4_ := Aside0.mk (below_step (by repeat (first | (with_reducible first | exact HB.out | apply below_alloc | apply pw_below_drewN | apply below_drew1 | refine below_set ?_ GE493.out | refine below_set ?_ GE504.out) | exact HB.out)) hb); clear HO501; clear HO509; clear BK493; clear BK504; clear HB; have HO501 := n0_; have HO509 := n1_; have BK493 := n2_; have BK504 := n3_; have HB := n4_; clear n0_ n1_ n2_ n3_ n4_; (try clear hb); (try clear hb2); (try clear hk); (try clear hi)))
                    go_ret
                    exact ⟨by first | rfl | (simp [errW_none, errW_some] <;> rfl) | (simp [*, errW_none, errW_some] <;> rfl), by repeat (first | (with_reducible first | exact HB.out | apply below_alloc | apply pw_below_drewN | apply below_drew1 | refine below_set ?_ GE493.out | refine below_set ?_ GE504.out) | exact HB.out)⟩
                  · replace c22 := Bool.eq_false_iff.mpr c22
                    subst c22
                    have H1 : (some false) = some true := by first | (rw [if_neg (show ¬ (false = true) by decide)] at H; exact H) | rfl
                    clear H
                    have H := H1
                    clear H1
                    exact absurd H (by simp)
                · rw [if_neg c20] at H
                  have c20b0 : (t503 == t507) = false := beq_eq_false_iff_ne.mpr c20
                  have c20b1 : (t503 != t507) = true := bne_iff_ne.mpr c20
                  exact absurd H (by simp)
              · rw [if_neg c19] at H
                have c19b0 : (t502 == t506) = false := beq_eq_false_iff_ne.mpr c19
                have c19b1 : (t502 != t506) = true := bne_iff_ne.mpr c19
                exact absurd H (by simp)
            · replace c18 := Bool.eq_false_iff.mpr c18
              subst c18
              have H1 : (some false) = some true := by first | (rw [if_neg (show ¬ (false = true) by decide)] at H; exact H) | rfl
              clear H
              have H := H1
              clear H1
              exact absurd H (by simp)
          · rw [if_neg c16] at H
            have c16b0 : (t496 == t498) = false := beq_eq_false_iff_ne.mpr c16
            have c16b1 : (t496 != t498) = true := bne_iff_ne.mpr c16
            exact absurd H (by simp)
        · rw [if_neg c15] at H
          have c15b0 : (t495.toList == t497.toList) = false := beq_eq_false_iff_ne.mpr c15
          have c15b1 : (t495.toList != t497.toList) = true := bne_iff_ne.mpr c15
          exact absurd H (by simp)

/-- THE ONE PURE STATEMENT of backhaullaw05_OctetRows. -/
def backhaullaw05_OctetRows.Pure : Prop := ∀ (l0 : List Int) (a1 : ByteArray) (a2_0 : Int) (a2_1 : Int) (a2_2 : Int), (l0.length ≤ maxLen ∧ ∀ x ∈ l0, (Lit.int .i64 x).wf = true) → a1.size ≤ maxLen → (Lit.int .i64 a2_0).wf = true → (Lit.int .i64 a2_1).wf = true → (Lit.int .i64 a2_2).wf = true → ∃ k, backhaullaw05_OctetRows.f k l0 a1 a2_0 a2_1 a2_2 = some true

end Go.Proofs.Ytabapiofkipkoaa.F

/- Plain lemmas on 'from some number of rounds on'; no condition. -/
set_option linter.unusedVariables false
namespace Go.Proofs.Ytabapiofkipkoaa.Q
open Go.RowKit Go.Proofs.YtabapiofkipkoaaW.PrintWords Go.Proofs.YtabapiofkipkoaaW.PrintLast Go.Proofs.YtabapiofkipkoaaW.PrintMore

theorem Ev.ite {α : Type} {c : Prop} [Decidable c] {a b : Nat → Option α} {r : α} (h1 : c → Ev a r) (h2 : ¬ c → Ev b r) : Ev (fun k => if c then a k else b k) r := by
  by_cases h : c
  · simp only [if_pos h]; exact h1 h
  · simp only [if_neg h]; exact h2 h
theorem Ev.pos {α : Type} {c : Prop} [Decidable c] {a b : Nat → Option α} {r : α} (h : c) (h1 : Ev a r) : Ev (fun k => if c then a k else b k) r := by
  simp only [if_pos h]; exact h1
theorem Ev.neg {α : Type} {c : Prop} [Decidable c] {a b : Nat → Option α} {r : α} (h : ¬ c) (h1 : Ev b r) : Ev (fun k => if c then a k else b k) r := by
  simp only [if_neg h]; exact h1
theorem Ev.ok {α : Type} {a b : α} (h : a = b) : Ev (fun _ => some a) b := ⟨0, fun _ _ => by rw [h]⟩
theorem Ev.const {α : Type} {o : Option α} {r : α} (h : o = some r) : Ev (fun _ => o) r := ⟨0, fun _ _ => h⟩
theorem Ev.bindc {α β : Type} {o : Option α} {f : Nat → α → Option β} {a : α} {r : β} (h : o = some a) (k : Ev (fun n => f n a) r) : Ev (fun n => o.bind (f n)) r := by
  subst h
  exact k
theorem Ev.eq {α : Type} {g : Nat → Option α} {a b : α} (h : Ev g a) (e : a = b) : Ev g b := e ▸ h

theorem i64_bounds {x : Int} (h : (Lit.int .i64 x).wf = true) : -9223372036854775808 ≤ x ∧ x ≤ 9223372036854775807 := by
  simp [Lit.wf, IntKind.min, IntKind.max, IntKind.signed, IntKind.bits] at h
  omega
theorem wrap_eq {x : Int} (h0 : -9223372036854775808 ≤ x) (h1 : x ≤ 9223372036854775807) : wrap64 x = x := by
  unfold wrap64; omega
theorem u64_eq {x : Int} (h0 : 0 ≤ x) (h1 : x < 18446744073709551616) : IntKind.u64.wrap x = x := by
  simp [IntKind.wrap, IntKind.signed, IntKind.bits]; omega
theorem countP_split {α : Type} {p : α → Bool} {l : List α} {n : Nat} (hn : n ≤ l.length) (h1 : ∀ j (h : j < l.length), j < n → p l[j] = true) (h2 : ∀ j (h : j < l.length), n ≤ j → p l[j] = false) : l.countP p = n := by
  have e : l = l.take n ++ l.drop n := (List.take_append_drop n l).symm
  have a : (l.take n).countP p = (l.take n).length := by
    rw [List.countP_eq_length]
    intro x hx
    obtain ⟨j, hj, rfl⟩ := List.mem_iff_getElem.1 hx
    rw [List.length_take] at hj
    rw [List.getElem_take]
    exact h1 j (by omega) (by omega)
  have b : (l.drop n).countP p = 0 := by
    rw [List.countP_eq_zero]
    intro x hx
    obtain ⟨j, hj, rfl⟩ := List.mem_iff_getElem.1 hx
    rw [List.length_drop] at hj
    rw [List.getElem_drop, h2 (n + j) (by omega) (by omega)]
    simp
  rw [e, List.countP_append, a, b, List.length_take]
  omega
theorem idxOf_first {α : Type} [BEq α] [LawfulBEq α] {l : List α} {t : α} {i : Nat} (h : i < l.length) (he : l[i] = t) (h1 : ∀ j (h : j < l.length), j < i → l[j] ≠ t) : l.idxOf t = i := by
  unfold List.idxOf
  rw [List.findIdx_eq h]
  exact ⟨by simp [he], fun j hj => by simpa using h1 j (by omega) hj⟩
theorem rd_nat {l : List Int} {i : Nat} (h : i < l.length) : rd l (i : Int) = l[i] := by
  unfold rd; simp [List.getD_eq_getElem?_getD, h]
theorem rdOf_nat {α : Type} {d : α} {l : List α} {i : Nat} (h : i < l.length) : rdOf d l (i : Int) = l[i] := by
  unfold rdOf; simp [List.getD_eq_getElem?_getD, h]
theorem drop_cons {α : Type} {l : List α} {i : Nat} (h : i < l.length) : l.drop i = l[i] :: l.drop (i + 1) := List.drop_eq_getElem_cons h
theorem bytes_ext {a b : ByteArray} : a.toList = b.toList ↔ a = b := by
  constructor
  · intro h
    rw [ByteArray.toList_eq, ByteArray.toList_eq] at h
    cases a; cases b
    simpa [Array.toList_inj] using h
  · rintro rfl; rfl
end Go.Proofs.Ytabapiofkipkoaa.Q

/- Numbers, texts and rows as bytes, plainly: what is put, got, laid, taken, told as a row; each comes back; no condition. -/
set_option linter.unusedVariables false
namespace Go.Proofs.Ytabapiofkipkoaa.Q
open Go.RowKit Go.Proofs.YtabapiofkipkoaaW.PrintWords Go.Proofs.YtabapiofkipkoaaW.PrintLast Go.Proofs.YtabapiofkipkoaaW.PrintMore

def beL : Nat → Nat → List UInt8
  | 0, _ => []
  | w + 1, n => beL w (n / 256) ++ [UInt8.ofNat n]
def beN (l : List UInt8) : Nat := l.foldl (fun a b => 256 * a + b.toNat) 0
theorem beL_length (w : Nat) : ∀ n, (beL w n).length = w := by
  induction w with
  | zero => intro n; rfl
  | succ w ih => intro n; simp [beL, ih]
theorem beN_append (a : List UInt8) (b : UInt8) : beN (a ++ [b]) = 256 * beN a + b.toNat := by
  simp [beN]
theorem toNat_ofNat (n : Nat) : (UInt8.ofNat n).toNat = n % 256 := by simp
theorem beN_beL (w : Nat) : ∀ n, beN (beL w n) = n % 256 ^ w := by
  induction w with
  | zero => intro n; simp [beL, beN, Nat.mod_one]
  | succ w ih =>
    intro n
    rw [beL, beN_append, ih, toNat_ofNat, Nat.pow_succ, Nat.mul_comm (256 ^ w) 256, Nat.mod_mul]
    omega
theorem snoc_cases {α : Type} (l : List α) : l = [] ∨ ∃ a b, l = a ++ [b] := by
  rcases List.eq_nil_or_concat l with h | ⟨a, b, h⟩
  · exact .inl h
  · exact .inr ⟨a, b, by simpa using h⟩
theorem beL_beN (w : Nat) : ∀ l : List UInt8, l.length = w → beL w (beN l) = l := by
  induction w with
  | zero => intro l h; rw [List.eq_nil_of_length_eq_zero h]; rfl
  | succ w ih =>
    intro l h
    rcases snoc_cases l with rfl | ⟨a, b, rfl⟩
    · simp at h
    · have hb := b.toNat_lt
      rw [beL, beN_append, show (256 * beN a + b.toNat) / 256 = beN a by omega, ih a (by simpa using h)]
      congr 2
      apply UInt8.toNat_inj.1
      rw [toNat_ofNat]
      omega
theorem beN_lt (w : Nat) : ∀ l : List UInt8, l.length = w → beN l < 256 ^ w := by
  induction w with
  | zero => intro l h; rw [List.eq_nil_of_length_eq_zero h]; simp [beN]
  | succ w ih =>
    intro l h
    rcases snoc_cases l with rfl | ⟨a, b, rfl⟩
    · simp at h
    · have hb := b.toNat_lt
      have := ih a (by simpa using h)
      rw [beN_append, Nat.pow_succ]
      omega
/-- Of one length, the lists stand as their numbers. -/
theorem less_irrefl (l : List UInt8) : Op.bytesLess l l = false := by
  induction l with
  | nil => rfl
  | cons a l ih => simp [Op.bytesLess, ih]
theorem less_snoc : ∀ (x y : List UInt8) (a b : UInt8), x.length = y.length → Op.bytesLess (x ++ [a]) (y ++ [b]) = (Op.bytesLess x y || (decide (x = y) && decide (a < b)))
  | [], [], a, b, _ => by simp [Op.bytesLess]
  | [], _ :: _, _, _, h => by simp at h
  | _ :: _, [], _, _, h => by simp at h
  | p :: x, q :: y, a, b, h => by
    have ih := less_snoc x y a b (by simpa using h)
    simp only [List.cons_append, Op.bytesLess, ih]
    by_cases hpq : p = q
    · subst hpq; simp
    · have : (p == q) = false := by simpa using hpq
      simp [this, hpq]
theorem less_beN (w : Nat) : ∀ x y : List UInt8, x.length = w → y.length = w → (Op.bytesLess x y = true ↔ beN x < beN y) := by
  induction w with
  | zero => intro x y hx hy; rw [List.eq_nil_of_length_eq_zero hx, List.eq_nil_of_length_eq_zero hy]; simp [Op.bytesLess]
  | succ w ih =>
    intro x y hx hy
    rcases snoc_cases x with rfl | ⟨x, a, rfl⟩
    · simp at hx
    rcases snoc_cases y with rfl | ⟨y, b, rfl⟩
    · simp at hy
    have hx' : x.length = w := by simpa using hx
    have hy' : y.length = w := by simpa using hy
    rw [less_snoc x y a b (by omega), beN_append, beN_append]
    have ih := ih x y hx' hy'
    have ha := a.toNat_lt
    have hb := b.toNat_lt
    have hl : a < b ↔ a.toNat < b.toNat := UInt8.lt_iff_toNat_lt
    rw [Bool.or_eq_true, Bool.and_eq_true, decide_eq_true_eq, decide_eq_true_eq, ih, hl]
    constructor
    · rintro (h | ⟨rfl, h⟩) <;> omega
    · intro h
      by_cases h1 : beN x < beN y
      · exact .inl h1
      · have h2 : beN x = beN y := by omega
        have : x = y := by rw [← beL_beN w x hx', ← beL_beN w y hy', h2]
        exact .inr ⟨this, by omega⟩
def bytesB (l : List UInt8) : ByteArray := ⟨l.toArray⟩
theorem bytesB_data (l : List UInt8) : (bytesB l).data.toList = l := rfl
theorem bytesB_size (l : List UInt8) : (bytesB l).size = l.length := by simp [bytesB, ByteArray.size]
theorem ext_list {a b : ByteArray} (h : a.data.toList = b.data.toList) : a = b := by
  cases a; cases b; simpa [Array.toList_inj] using h
theorem bytesB_append (a b : List UInt8) : bytesB a ++ bytesB b = bytesB (a ++ b) := by
  apply ext_list; simp [bytesB, ByteArray.data_append]
theorem toList_data' (s : ByteArray) : s.toList = s.data.toList := ByteArray.toList_eq s
theorem data_append (a b : ByteArray) : (a ++ b).data.toList = a.data.toList ++ b.data.toList := by simp [ByteArray.data_append]
theorem data_extract (a : ByteArray) (i j : Nat) : (a.extract i j).data.toList = (a.data.toList.take j).drop i := by
  rw [ByteArray.data_extract, Array.toList_extract, List.extract_eq_take_drop, List.drop_take]
theorem size_data (a : ByteArray) : a.data.toList.length = a.size := by rw [Array.length_toList]; rfl
theorem bt_data (s : ByteArray) (i : Nat) (h : i < s.size) : bt s (i : Int) = ((s.data.toList[i]'(by rw [size_data]; exact h)).toNat : Int) := by
  unfold bt
  rw [dif_pos (by simpa using h)]
  simp [ByteArray.getElem_eq_getElem_data]

def wide (w : Int) : Prop := w = 1 ∨ w = 2 ∨ w = 4 ∨ w = 8
instance (w : Int) : Decidable (wide w) := by unfold wide; infer_instance
def putS (n w : Int) : ByteArray × Int := if wide w then (if 0 ≤ n ∧ n < 256 ^ w.toNat then (bytesB (beL w.toNat n.toNat), 0) else (⟨#[]⟩, 8)) else (⟨#[]⟩, 2)
def numAt (s : ByteArray) (at_ w : Nat) : Nat := beN ((s.data.toList.drop at_).take w)
def getS (s : ByteArray) (at_ w : Int) : Int × Int × Int :=
  if wide w ∧ 0 ≤ at_ ∧ at_ ≤ s.size then
    (if s.size - at_ < w then (0, 0, 4) else if (numAt s at_.toNat w.toNat : Int) > 9223372036854775807 then (0, 0, 8) else ((numAt s at_.toNat w.toNat : Int), at_ + w, 0))
  else (0, 0, 2)
def layS (t : ByteArray) : ByteArray × Int := if t.size > 65535 then (⟨#[]⟩, 3) else (bytesB (beL 2 t.size) ++ t, 0)
def takeS (s : ByteArray) (at_ most : Int) : ByteArray × Int × Int :=
  if most < 0 then (⟨#[]⟩, 0, 2) else
  if (getS s at_ 2).2.2 = 0 then
    (if (getS s at_ 2).1 > most then (⟨#[]⟩, 0, 3) else if (getS s at_ 2).1 > s.size - (getS s at_ 2).2.1 then (⟨#[]⟩, 0, 4) else
      (s.extract (getS s at_ 2).2.1.toNat ((getS s at_ 2).2.1 + (getS s at_ 2).1).toNat, (getS s at_ 2).2.1 + (getS s at_ 2).1, 0))
  else (⟨#[]⟩, 0, (getS s at_ 2).2.2)
def rowL (w : Int) : List Int → ByteArray × Int
  | [] => (⟨#[]⟩, 0)
  | x :: xs => if (putS x w).2 = 0 then (if (rowL w xs).2 = 0 then ((putS x w).1 ++ (rowL w xs).1, 0) else (⟨#[]⟩, (rowL w xs).2)) else (⟨#[]⟩, (putS x w).2)
def rowS (w : Int) (l : List Int) : ByteArray × Int :=
  if wide w then (if l.length > 1000 then (⟨#[]⟩, 3) else if (rowL w l).2 = 0 then (bytesB (beL 2 l.length) ++ (rowL w l).1, 0) else (⟨#[]⟩, (rowL w l).2)) else (⟨#[]⟩, 2)
def unrowL (s : ByteArray) (w : Int) : Nat → Int → List Int × Int × Int
  | 0, tt => ([], tt, 0)
  | n + 1, tt => if (getS s tt w).2.2 = 0 then
      (if (unrowL s w n (getS s tt w).2.1).2.2 = 0 then ((getS s tt w).1 :: (unrowL s w n (getS s tt w).2.1).1, (unrowL s w n (getS s tt w).2.1).2) else ([], 0, (unrowL s w n (getS s tt w).2.1).2.2))
    else ([], 0, (getS s tt w).2.2)
def unrowS (s : ByteArray) (at_ w top : Int) : List Int × Int × Int :=
  if ¬ wide w ∨ at_ < 0 ∨ at_ > s.size ∨ top < 0 then ([], 0, 2) else
  if (getS s at_ 2).2.2 = 0 then
    (if (getS s at_ 2).1 > top ∨ (getS s at_ 2).1 > 1000 then ([], 0, 3) else unrowL s w (getS s at_ 2).1.toNat (getS s at_ 2).2.1)
  else ([], 0, (getS s at_ 2).2.2)

theorem wide_nat {w : Int} (h : wide w) : 0 < w ∧ w ≤ 8 := by unfold wide at h; omega
theorem pow_wide {w : Int} (h : wide w) : (256 : Int) ^ w.toNat ≤ 18446744073709551616 := by
  rcases h with rfl | rfl | rfl | rfl <;> decide
theorem pow_cast {a w : Nat} (h : a < 256 ^ w) : (a : Int) < 256 ^ w := by
  have := Int.ofNat_lt.2 h
  rw [Int.natCast_pow] at this
  exact this
theorem pow_cast' {a w : Nat} (h : (a : Int) < 256 ^ w) : a < 256 ^ w := by
  apply Int.ofNat_lt.1
  rw [Int.natCast_pow]
  exact h
theorem beN_from (y : List UInt8) : ∀ a : Nat, y.foldl (fun a b => 256 * a + b.toNat) a = a * 256 ^ y.length + beN y := by
  induction y with
  | nil => intro a; simp [beN]
  | cons b y ih =>
    intro a
    have h := ih (256 * 0 + b.toNat)
    unfold beN at h ⊢
    simp only [List.foldl_cons, List.length_cons]
    rw [ih, h, Nat.pow_succ, Nat.add_mul, Nat.mul_zero, Nat.zero_add]
    unfold beN
    rw [← Nat.add_assoc, Nat.mul_comm 256 a, Nat.mul_assoc, Nat.mul_comm 256 (256 ^ y.length)]
theorem numAt_split {s : ByteArray} {a i d : Nat} (h : a + i + d ≤ s.size) : (numAt s a (i + d) : Int) = (numAt s a i : Int) * 256 ^ d + (numAt s (a + i) d : Int) := by
  have e : numAt s a (i + d) = numAt s a i * 256 ^ d + numAt s (a + i) d := by
    unfold numAt
    rw [List.take_add, List.drop_drop]
    have := beN_from (((s.data.toList).drop (a + i)).take d) (beN (((s.data.toList).drop a).take i))
    rw [List.length_take, List.length_drop, size_data, Nat.min_eq_left (by omega)] at this
    rw [← this]
    unfold beN
    rw [List.foldl_append]
  rw [e, Int.natCast_add, Int.natCast_mul, Int.natCast_pow]
  rfl
theorem getS_ok {s : ByteArray} {a w n tt : Int} (h : getS s a w = (n, tt, 0)) : wide w ∧ 0 ≤ a ∧ a + w ≤ s.size ∧ tt = a + w ∧ n = (numAt s a.toNat w.toNat : Int) ∧ n ≤ 9223372036854775807 ∧ 0 ≤ n := by
  unfold getS at h
  by_cases h1 : wide w ∧ 0 ≤ a ∧ a ≤ s.size
  · rw [if_pos h1] at h
    by_cases h2 : s.size - a < w
    · rw [if_pos h2] at h; simp at h
    · rw [if_neg h2] at h
      by_cases h3 : (numAt s a.toNat w.toNat : Int) > 9223372036854775807
      · rw [if_pos h3] at h; simp at h
      · rw [if_neg h3] at h
        simp only [Prod.mk.injEq] at h
        obtain ⟨rfl, rfl, _⟩ := h
        exact ⟨h1.1, h1.2.1, by omega, rfl, rfl, by omega, by omega⟩
  · rw [if_neg h1] at h; simp at h
theorem putS_ok {n w : Int} {b : ByteArray} (h : putS n w = (b, 0)) : wide w ∧ 0 ≤ n ∧ n < 256 ^ w.toNat ∧ b = bytesB (beL w.toNat n.toNat) := by
  unfold putS at h
  by_cases h1 : wide w
  · rw [if_pos h1] at h
    by_cases h2 : 0 ≤ n ∧ n < 256 ^ w.toNat
    · rw [if_pos h2] at h
      exact ⟨h1, h2.1, h2.2, (Prod.mk.inj h).1.symm⟩
    · rw [if_neg h2] at h; exact absurd (Prod.mk.inj h).2 (by decide)
  · rw [if_neg h1] at h; exact absurd (Prod.mk.inj h).2 (by decide)
theorem numAt_lt {s : ByteArray} {a w : Nat} (h : a + w ≤ s.size) : numAt s a w < 256 ^ w := by
  apply beN_lt
  rw [List.length_take, List.length_drop, size_data]; omega
/-- What is taken was put. -/
theorem put_of_get {s : ByteArray} {a w n tt : Int} (h : getS s a w = (n, tt, 0)) : putS n w = (s.extract a.toNat tt.toNat, 0) := by
  obtain ⟨hw, ha, hs, rfl, rfl, hn, _⟩ := getS_ok h
  have hw' := wide_nat hw
  have hl := numAt_lt (s := s) (a := a.toNat) (w := w.toNat) (by omega)
  unfold putS
  rw [if_pos hw, if_pos ⟨by omega, pow_cast hl⟩]
  congr 1
  apply ext_list
  rw [bytesB_data, data_extract, Int.toNat_natCast, numAt, show (a + w).toNat = a.toNat + w.toNat by omega]
  rw [beL_beN]
  · rw [List.drop_take, Nat.add_sub_cancel_left]
  · rw [List.length_take, List.length_drop, size_data]; omega
/-- What was put is got, wherever it stands. -/
theorem get_of_put {n w : Int} {b x y : ByteArray} (h : putS n w = (b, 0)) (hn : n ≤ 9223372036854775807) : getS (x ++ b ++ y) x.size w = (n, x.size + w, 0) ∧ b.size = w.toNat := by
  obtain ⟨hw, h0, h1, rfl⟩ := putS_ok h
  have hw' := wide_nat hw
  have hsz : (bytesB (beL w.toNat n.toNat)).size = w.toNat := by rw [bytesB_size, beL_length]
  have hnum : (numAt (x ++ bytesB (beL w.toNat n.toNat) ++ y) x.size w.toNat : Int) = n := by
    unfold numAt
    rw [data_append, data_append, bytesB_data, List.append_assoc, List.drop_left' (size_data x), List.take_left' (beL_length _ _), beN_beL, Nat.mod_eq_of_lt]
    · omega
    · have : ((n.toNat : Nat) : Int) < 256 ^ w.toNat := by rw [Int.toNat_of_nonneg h0]; exact h1
      exact pow_cast' this
  refine ⟨?_, hsz⟩
  unfold getS
  rw [if_pos ⟨hw, by omega, by simp only [ByteArray.size_append, hsz]; omega⟩, if_neg (by simp only [ByteArray.size_append, hsz]; omega), Int.toNat_natCast, hnum, if_neg (by omega)]
theorem lay_ok {t b : ByteArray} (h : layS t = (b, 0)) : t.size ≤ 65535 ∧ b = bytesB (beL 2 t.size) ++ t := by
  unfold layS at h
  split at h
  · simp at h
  · simp only [Prod.mk.injEq] at h
    exact ⟨by omega, h.1.symm⟩
theorem put2 {n : Nat} (h : n < 65536) : putS n 2 = (bytesB (beL 2 n), 0) := by
  unfold putS
  rw [if_pos (by decide), if_pos ⟨by omega, by show (n : Int) < 256 ^ 2; omega⟩]; rfl
theorem take_of_lay {t b x y : ByteArray} {most : Int} (h : layS t = (b, 0)) (hm : (t.size : Int) ≤ most) : takeS (x ++ b ++ y) x.size most = (t, (x.size : Int) + b.size, 0) := by
  obtain ⟨hs, rfl⟩ := lay_ok h
  have hg := (get_of_put (x := x) (y := t ++ y) (put2 (n := t.size) (by omega)) (by omega)).1
  rw [show x ++ bytesB (beL 2 t.size) ++ (t ++ y) = x ++ (bytesB (beL 2 t.size) ++ t) ++ y by simp only [ByteArray.append_assoc]] at hg
  unfold takeS
  rw [if_neg (by omega), hg]
  simp only [if_true]
  rw [if_neg (by omega), if_neg (by simp only [ByteArray.size_append, bytesB_size, beL_length]; omega)]
  simp only [ByteArray.size_append, bytesB_size, beL_length, Prod.mk.injEq, and_true]
  refine ⟨?_, by omega⟩
  apply ext_list
  rw [data_extract, data_append, data_append, data_append, bytesB_data]
  rw [show ((x.size : Int) + 2).toNat = x.size + 2 by omega, show ((x.size : Int) + 2 + (t.size : Int)).toNat = x.size + 2 + t.size by omega]
  rw [List.take_append_of_le_length (by simp only [List.length_append, beL_length, size_data]; omega), List.take_of_length_le (by simp only [List.length_append, beL_length, size_data]; omega), ← List.append_assoc, List.drop_left' (by simp only [List.length_append, beL_length, size_data])]
theorem takeS_ok {s t : ByteArray} {a most tt : Int} (h : takeS s a most = (t, tt, 0)) : 0 ≤ most ∧ ∃ n, getS s a 2 = (n, a + 2, 0) ∧ n ≤ most ∧ a + 2 + n ≤ s.size ∧ t = s.extract (a + 2).toNat (a + 2 + n).toNat ∧ tt = a + 2 + n := by
  unfold takeS at h
  split at h
  · simp at h
  · split at h
    · split at h
      · simp at h
      · split at h
        · simp at h
        · rename_i h1 h2 h3 h4
          have hg : getS s a 2 = ((getS s a 2).1, (getS s a 2).2.1, 0) := by rw [← h2]
          obtain ⟨_, _, _, e, _⟩ := getS_ok hg
          simp only [Prod.mk.injEq] at h
          rw [e] at hg h4 h
          exact ⟨by omega, (getS s a 2).1, hg, by omega, by omega, h.1.symm, h.2.1.symm⟩
    · rename_i h1 h2
      simp only [Prod.mk.injEq] at h
      exact absurd h.2.2 h2
theorem lay_of_take {s t : ByteArray} {a most tt : Int} (h : takeS s a most = (t, tt, 0)) : layS t = (s.extract a.toNat tt.toNat, 0) ∧ a ≤ tt ∧ tt ≤ s.size ∧ 0 ≤ a := by
  obtain ⟨hm, n, hg, h1, h2, rfl, rfl⟩ := takeS_ok h
  obtain ⟨_, ha, hs, _, hn, _, h0⟩ := getS_ok hg
  have hp := put_of_get hg
  obtain ⟨_, _, hlt, hb⟩ := putS_ok hp
  have hlt' : n < 65536 := hlt
  refine ⟨?_, by omega, by omega, ha⟩
  have hsz : (s.extract (a + 2).toNat (a + 2 + n).toNat).size = n.toNat := by rw [ByteArray.size_extract]; omega
  unfold layS
  rw [hsz, if_neg (by omega)]
  congr 1
  have : bytesB (beL 2 n.toNat) = s.extract a.toNat (a + 2).toNat := hb.symm
  rw [this]
  apply ext_list
  rw [data_append, data_extract, data_extract, data_extract, List.drop_take, List.drop_take, List.drop_take]
  rw [show (a + 2).toNat - a.toNat = 2 by omega, show (a + 2 + n).toNat - (a + 2).toNat = n.toNat by omega, show (a + 2 + n).toNat - a.toNat = 2 + n.toNat by omega, show (a + 2).toNat = a.toNat + 2 by omega, List.take_add, List.drop_drop]
theorem extract_append {s : ByteArray} {i j k : Nat} (h1 : i ≤ j) (h2 : j ≤ k) : s.extract i j ++ s.extract j k = s.extract i k := by
  apply ext_list
  rw [data_append, data_extract, data_extract, data_extract, List.drop_take, List.drop_take, List.drop_take]
  rw [show k - i = (j - i) + (k - j) by omega, List.take_add, List.drop_drop, show i + (j - i) = j by omega]
theorem extract_self {s : ByteArray} {i : Nat} : s.extract i i = ⟨#[]⟩ := by
  apply ext_list
  rw [data_extract, List.drop_take, Nat.sub_self]; rfl
theorem rowL_cons {w n : Int} {l : List Int} {b : ByteArray} (h : rowL w (n :: l) = (b, 0)) : ∃ p q, putS n w = (p, 0) ∧ rowL w l = (q, 0) ∧ b = p ++ q := by
  simp only [rowL] at h
  by_cases h1 : (putS n w).2 = 0
  · rw [if_pos h1] at h
    by_cases h2 : (rowL w l).2 = 0
    · rw [if_pos h2] at h
      exact ⟨(putS n w).1, (rowL w l).1, by rw [← h1], by rw [← h2], (Prod.mk.inj h).1.symm⟩
    · rw [if_neg h2] at h; exact absurd (Prod.mk.inj h).2 h2
  · rw [if_neg h1] at h; exact absurd (Prod.mk.inj h).2 h1
theorem rowL_mk {w n : Int} {l : List Int} {p q : ByteArray} (h1 : putS n w = (p, 0)) (h2 : rowL w l = (q, 0)) : rowL w (n :: l) = (p ++ q, 0) := by
  simp only [rowL, h1, h2, if_true]
theorem unrowL_cons {s : ByteArray} {w : Int} {n : Nat} {a tt : Int} {l : List Int} (h : unrowL s w (n + 1) a = (l, tt, 0)) : ∃ v t ls, getS s a w = (v, t, 0) ∧ unrowL s w n t = (ls, tt, 0) ∧ l = v :: ls := by
  simp only [unrowL] at h
  by_cases h1 : (getS s a w).2.2 = 0
  · rw [if_pos h1] at h
    by_cases h2 : (unrowL s w n (getS s a w).2.1).2.2 = 0
    · rw [if_pos h2] at h
      obtain ⟨e1, e2⟩ := Prod.mk.inj h
      refine ⟨(getS s a w).1, (getS s a w).2.1, _, by rw [← h1], ?_, e1.symm⟩
      exact Prod.ext rfl e2
    · rw [if_neg h2] at h
      exact absurd (Prod.mk.inj (Prod.mk.inj h).2).2 h2
  · rw [if_neg h1] at h
    exact absurd (Prod.mk.inj (Prod.mk.inj h).2).2 h1
theorem unrowL_of_rowL {w : Int} {y : ByteArray} : ∀ (l : List Int) (b x : ByteArray), rowL w l = (b, 0) → (∀ n ∈ l, n ≤ 9223372036854775807) → unrowL (x ++ b ++ y) w l.length (x.size : Int) = (l, (x.size : Int) + b.size, 0)
  | [], b, x, h, _ => by
    simp only [rowL, Prod.mk.injEq] at h
    obtain ⟨rfl, _⟩ := h
    have e0 : ((⟨#[]⟩ : ByteArray).size : Int) = 0 := rfl
    exact congrArg (fun z => (([] : List Int), z, (0 : Int))) (show (x.size : Int) = (x.size : Int) + ((⟨#[]⟩ : ByteArray).size : Int) by rw [e0]; omega)
  | n :: l, b, x, h, hn => by
    obtain ⟨p, q, hp, hq, rfl⟩ := rowL_cons h
    obtain ⟨hg, hs⟩ := get_of_put (x := x) (y := q ++ y) hp (hn n List.mem_cons_self)
    have hw := wide_nat (putS_ok hp).1
    have ih := unrowL_of_rowL (y := y) l q (x ++ p) hq (fun m hm => hn m (List.mem_cons_of_mem _ hm))
    have e : x ++ p ++ (q ++ y) = x ++ (p ++ q) ++ y := by simp only [ByteArray.append_assoc]
    have e2 : x ++ p ++ q ++ y = x ++ (p ++ q) ++ y := by simp only [ByteArray.append_assoc]
    rw [e] at hg
    rw [e2, ByteArray.size_append, show ((x.size + p.size : Nat) : Int) = (x.size : Int) + w by omega] at ih
    simp only [List.length_cons, unrowL, hg, ih, if_true]
    rw [ByteArray.size_append]
    congr 2
    omega
theorem rowL_of_unrowL {s : ByteArray} {w : Int} : ∀ (n : Nat) (a tt : Int) (l : List Int), unrowL s w n a = (l, tt, 0) → 0 ≤ a → a ≤ s.size → rowL w l = (s.extract a.toNat tt.toNat, 0) ∧ a ≤ tt ∧ tt ≤ s.size ∧ l.length = n
  | 0, a, tt, l, h, h0, h1 => by
    simp only [unrowL, Prod.mk.injEq] at h
    obtain ⟨rfl, rfl, _⟩ := h
    exact ⟨by rw [extract_self]; rfl, Int.le_refl _, h1, rfl⟩
  | n + 1, a, tt, l, h, h0, h1 => by
    obtain ⟨v, t, ls, hg, hu, rfl⟩ := unrowL_cons h
    obtain ⟨hw, _, hs, rfl, _⟩ := getS_ok hg
    have hw' := wide_nat hw
    obtain ⟨ih, i1, i2, i3⟩ := rowL_of_unrowL n (a + w) tt ls hu (by omega) (by omega)
    refine ⟨?_, by omega, i2, by simp [i3]⟩
    rw [rowL_mk (put_of_get hg) ih, extract_append (by omega) (by omega)]
theorem rowS_ok {w : Int} {l : List Int} {b : ByteArray} (h : rowS w l = (b, 0)) : wide w ∧ l.length ≤ 1000 ∧ ∃ q, rowL w l = (q, 0) ∧ b = bytesB (beL 2 l.length) ++ q := by
  unfold rowS at h
  by_cases h1 : wide w
  · rw [if_pos h1] at h
    by_cases h2 : l.length > 1000
    · rw [if_pos h2] at h; exact absurd (Prod.mk.inj h).2 (by decide)
    · rw [if_neg h2] at h
      by_cases h3 : (rowL w l).2 = 0
      · rw [if_pos h3] at h
        exact ⟨h1, by omega, (rowL w l).1, by rw [← h3], (Prod.mk.inj h).1.symm⟩
      · rw [if_neg h3] at h; exact absurd (Prod.mk.inj h).2 h3
  · rw [if_neg h1] at h; exact absurd (Prod.mk.inj h).2 (by decide)
theorem unrow_of_row {w top : Int} {l : List Int} {b x y : ByteArray} (h : rowS w l = (b, 0)) (hn : ∀ n ∈ l, n ≤ 9223372036854775807) (ht : (l.length : Int) ≤ top) : unrowS (x ++ b ++ y) (x.size : Int) w top = (l, (x.size : Int) + b.size, 0) := by
  obtain ⟨hw, hl, q, hq, rfl⟩ := rowS_ok h
  have hg := (get_of_put (x := x) (y := q ++ y) (put2 (n := l.length) (by omega)) (by omega)).1
  have e : x ++ bytesB (beL 2 l.length) ++ (q ++ y) = x ++ (bytesB (beL 2 l.length) ++ q) ++ y := by simp only [ByteArray.append_assoc]
  rw [e] at hg
  have hu := unrowL_of_rowL (y := y) l q (x ++ bytesB (beL 2 l.length)) hq hn
  have e2 : x ++ bytesB (beL 2 l.length) ++ q ++ y = x ++ (bytesB (beL 2 l.length) ++ q) ++ y := by simp only [ByteArray.append_assoc]
  have e3 : (bytesB (beL 2 l.length)).size = 2 := by rw [bytesB_size, beL_length]
  rw [e2, ByteArray.size_append, e3] at hu
  unfold unrowS
  rw [if_neg (by simp only [ByteArray.size_append, e3]; intro h; rcases h with h | h | h | h; exact h hw; omega; omega; omega), hg]
  simp only [if_true]
  rw [if_neg (by omega), Int.toNat_natCast]
  rw [show ((x.size + 2 : Nat) : Int) = (x.size : Int) + 2 by omega] at hu
  rw [hu, ByteArray.size_append, e3]
  congr 2
  omega
theorem unrowS_ok {s : ByteArray} {a w top tt : Int} {l : List Int} (h : unrowS s a w top = (l, tt, 0)) : wide w ∧ 0 ≤ top ∧ ∃ n, getS s a 2 = (n, a + 2, 0) ∧ n ≤ top ∧ n ≤ 1000 ∧ unrowL s w n.toNat (a + 2) = (l, tt, 0) := by
  unfold unrowS at h
  by_cases h1 : ¬ wide w ∨ a < 0 ∨ a > s.size ∨ top < 0
  · rw [if_pos h1] at h; exact absurd (Prod.mk.inj (Prod.mk.inj h).2).2 (by decide)
  · rw [if_neg h1] at h
    by_cases h2 : (getS s a 2).2.2 = 0
    · rw [if_pos h2] at h
      by_cases h3 : (getS s a 2).1 > top ∨ (getS s a 2).1 > 1000
      · rw [if_pos h3] at h; exact absurd (Prod.mk.inj (Prod.mk.inj h).2).2 (by decide)
      · rw [if_neg h3] at h
        have hg : getS s a 2 = ((getS s a 2).1, (getS s a 2).2.1, 0) := by rw [← h2]
        obtain ⟨_, _, _, e, _⟩ := getS_ok hg
        rw [e] at h hg
        exact ⟨Classical.byContradiction fun x => h1 (.inl x), by omega, (getS s a 2).1, hg, by omega, by omega, h⟩
    · rw [if_neg h2] at h; exact absurd (Prod.mk.inj (Prod.mk.inj h).2).2 h2
theorem row_of_unrow {s : ByteArray} {a w top tt : Int} {l : List Int} (h : unrowS s a w top = (l, tt, 0)) : rowS w l = (s.extract a.toNat tt.toNat, 0) ∧ a ≤ tt ∧ tt ≤ s.size ∧ 0 ≤ a := by
  obtain ⟨hw, _, n, hg, _, hn, hu⟩ := unrowS_ok h
  obtain ⟨_, ha, hs, _, _, _, h0⟩ := getS_ok hg
  obtain ⟨hr, h1, h2, hl⟩ := rowL_of_unrowL _ _ _ _ hu (by omega) (by omega)
  have hp := put_of_get hg
  have hb := (putS_ok hp).2.2.2
  refine ⟨?_, by omega, h2, ha⟩
  unfold rowS
  rw [if_pos hw, if_neg (by omega), hr]
  simp only [if_true]
  rw [hl, show bytesB (beL 2 n.toNat) = s.extract a.toNat (a + 2).toNat from hb.symm, extract_append (by omega) (by omega)]
theorem put_order {a b w : Int} {x y : ByteArray} (h1 : putS a w = (x, 0)) (h2 : putS b w = (y, 0)) : (Op.bytesLess x.data.toList y.data.toList = true ↔ a < b) := by
  obtain ⟨_, ha, ha', rfl⟩ := putS_ok h1
  obtain ⟨_, hb, hb', rfl⟩ := putS_ok h2
  rw [bytesB_data, bytesB_data, less_beN w.toNat _ _ (beL_length _ _) (beL_length _ _), beN_beL, beN_beL, Nat.mod_eq_of_lt (pow_cast' (by rw [Int.toNat_of_nonneg ha]; exact ha')), Nat.mod_eq_of_lt (pow_cast' (by rw [Int.toNat_of_nonneg hb]; exact hb'))]
  omega
end Go.Proofs.Ytabapiofkipkoaa.Q

namespace Go.Proofs.Ytabapiofkipkoaa.F
open Go.RowKit Go.Proofs.YtabapiofkipkoaaX Go.Proofs.YtabapiofkipkoaaW.PrintWords Go.Proofs.YtabapiofkipkoaaW.PrintLast Go.Proofs.YtabapiofkipkoaaW.PrintMore
attribute [local go_sem] max2_int min2_int max_two min_two max_three min_three max_four min_four   -- for this text's walks alone
attribute [local go_sem high] str_geq str_leq str_gtr
set_option linter.unusedVariables false
set_option linter.unusedSimpArgs false

/-! ### backhaulref05_Lay: function 40 -/
def backhaulref05_Lay.f (a0 : ByteArray) : Option (ByteArray × Int) := if (a0.size : Int) > 65535 then (some ((⟨#[]⟩ : ByteArray), 3)) else ((some (([((a0.size : Int) / 256) % 256, (a0.size : Int) % 256] : List Int) : List Int)).bind fun y455 => (if (strOfNums y455).size + a0.size ≤ 9223372036854775807 then (some ((strOfNums y455) ++ a0, 0)) else (none)))
set_option maxHeartbeats 8000000 in
set_option maxRecDepth 100000 in
theorem backhaulref05_Lay.calls (a0 : ByteArray) (r1 : ByteArray) (r2 : Int) (w : World) (h : backhaulref05_Lay.f a0 = some (r1, r2)) :
    Calls Try.prog 40 #[.string a0] w fun e w' => e = .returned (.tuple #[.string r1, .int .i64 r2]) ∧ Below w.heap.size w w' := by
  have HB := Aside0.mk (Below.refl w.heap.size w)
  have H : (if (a0.size : Int) > 65535 then (some ((⟨#[]⟩ : ByteArray), 3)) else ((some (([((a0.size : Int) / 256) % 256, (a0.size : Int) % 256] : List Int) : List Int)).bind fun y455 => (if (strOfNums y455).size + a0.size ≤ 9223372036854775807 then (some ((strOfNums y455) ++ a0, 0)) else (none)))) = some (r1, r2) := h
  clear h
  by_cases c2 : (a0.size : Int) > 65535
  · rw [if_pos c2] at H
    have c2b0 : decide (65535 < (a0.size : Int)) = true := decide_eq_true c2
    have c2b1 : decide (65535 < a0.size) = true := decide_eq_true (by omega)
    clear c2
    simp only [Option.some.injEq, Prod.mk.injEq] at H
    obtain ⟨rfl, rfl⟩ := H
    go_enter Try.func40, Try.ntmps40
    go_wp2
    go_ret2
    exact ⟨by first | rfl | (simp [errW_none, errW_some] <;> rfl) | (simp [*, errW_none, errW_some] <;> rfl), by repeat (first | (with_reducible first | exact HB.out | apply below_alloc | apply pw_below_drewN | apply below_drew1) | exact HB.out)⟩
  · rw [if_neg c2] at H
    have c2b0 : decide (65535 < (a0.size : Int)) = false := decide_eq_false c2
    have c2b1 : decide (65535 < a0.size) = false := decide_eq_false (by omega)
    clear c2
    obtain ⟨y455, hy455⟩ : ∃ y_ : List Int, y_ = (([((a0.size : Int) / 256) % 256, (a0.size : Int) % 256] : List Int)) := ⟨_, rfl⟩
    replace H : (if (strOfNums y455).size + a0.size ≤ 9223372036854775807 then (some ((strOfNums y455) ++ a0, 0)) else (none)) = some (r1, r2) := by first | (rw [hy455]; with_reducible exact H) | (have H2_ := (Option.bind_some _ _).symm.trans H; rw [hy455]; with_reducible exact H2_) | (have H2_ := (Option.bind_some _ _).symm.trans H; with_reducible exact H2_) | with_reducible exact H | (rw [hy455]; exact H) | exact H
    have Ny455 := Aside0.mk hy455
    clear hy455
    by_cases c3 : (strOfNums y455).size + a0.size ≤ 9223372036854775807
    · rw [if_pos c3] at H
      have c3b0 := eq_true c3
      have c3b1 : decide ((strOfNums y455).size + a0.size ≤ 9223372036854775807) = true := decide_eq_true c3
      try have c3b2 : (9223372036854775807 < (strOfNums y455).size + a0.size) = False := eq_false (Nat.not_lt.2 c3)
      simp only [Option.some.injEq, Prod.mk.injEq] at H
      obtain ⟨rfl, rfl⟩ := H
      go_enter Try.func40, Try.ntmps40
      go_wp2_with (first | ((with_reducible refine gate_dst (N := 15) rfl ?_); refine Kd.R_lit (Kd.int .u8) _ 5 ?hg (N := 15) ?hd (xs := ([((a0.size : Int) / 256) % 256, (a0.size : Int) % 256] : List Int)) (inner := [.int .u8 (((a0.size : Int) / 256) % 256), .int .u8 ((a0.size : Int) % 256)]) (ok := fun _ => True) (okp := fun _ => True) ?hr ?hp (fun _ hk => hk) trivial (Below.refl _ _) (Nat.le_refl _) (by simp) ?_; (case hd => rfl); (case hg => rfl); (case hr => first | (go_simp; done) | (go_simp; rfl)); (case hp => exact (Reps.one (show Kd.M (Kd.int .u8) _ _ _ (((a0.size : Int) / 256) % 256) [.int .u8 (((a0.size : Int) / 256) % 256)] from rfl) (Reps.one (show Kd.M (Kd.int .u8) _ _ _ ((a0.size : Int) % 256) [.int .u8 ((a0.size : Int) % 256)] from rfl) (Reps.none _ _)))); intro v456 w4 ho5 hb hg_ hnew_; clear hg_ hnew_; (first | rw [← Ny455.out] at ho5 | (simp only [Int.reduceToNat] at ho5; rw [← Ny455.out] at ho5)); have n0_ := Aside0.mk (Kd.R_lower ho5 (below_size (by repeat (first | (with_reducible first | exact HB.out | apply below_alloc | apply pw_below_drewN | apply below_drew1) | exact HB.out)))); have n1_ := Aside0.mk (below_step (by repeat (first | (with_reducible first | exact HB.out | apply below_alloc | apply pw_below_drewN | apply below_drew1) | exact HB.out)) hb); clear HB; have HO457 := n0_; have HB := n1_; clear n0_ n1_; clear hb ho5; have hcv6 := own_string (P := Try.prog) Try.underlying92 Try.underlying5 Try.underlying9 (Kd.own_of_R HO457.out)))
      go_ret2
      exact ⟨by first | rfl | (simp [errW_none, errW_some] <;> rfl) | (simp [*, errW_none, errW_some] <;> rfl), by repeat (first | (with_reducible first | exact HB.out | apply below_alloc | apply pw_below_drewN | apply below_drew1) | exact HB.out)⟩
    · rw [if_neg c3] at H
      exact absurd H (by simp)

end Go.Proofs.Ytabapiofkipkoaa.F

namespace Go.Proofs.Ytabapiofkipkoaa.F
open Go.RowKit Go.Proofs.YtabapiofkipkoaaX Go.Proofs.YtabapiofkipkoaaW.PrintWords Go.Proofs.YtabapiofkipkoaaW.PrintLast Go.Proofs.YtabapiofkipkoaaW.PrintMore
attribute [local go_sem] max2_int min2_int max_two min_two max_three min_three max_four min_four   -- for this text's walks alone
attribute [local go_sem high] str_geq str_leq str_gtr
set_option linter.unusedVariables false
set_option linter.unusedSimpArgs false

/-! ### backhaulref05_Take: function 42 -/
def backhaulref05_Take.j0 : Nat → ByteArray → Int → Int → Bool → Option (ByteArray × Int × Int)
  | 0, _, _, _, _ => none
  | k + 1, x0, x1, x2, x23 => if x23 = true then (some ((⟨#[]⟩ : ByteArray), 0, 2)) else ((backhaulref05_Get.f k x0 x1 2).bind fun bt458 => (if bt458.2.2 = 0 then (if bt458.1 > x2 then (some ((⟨#[]⟩ : ByteArray), 0, 3)) else (if (wrap64 (bt458.2.1 + bt458.1)) > (x0.size : Int) then (some ((⟨#[]⟩ : ByteArray), 0, 4)) else (if 0 ≤ bt458.2.1 then (if bt458.2.1 ≤ (wrap64 (bt458.2.1 + bt458.1)) then (if (wrap64 (bt458.2.1 + bt458.1)) ≤ (x0.size : Int) then (some (x0.extract (bt458.2.1 : Int).toNat ((wrap64 (bt458.2.1 + bt458.1)) : Int).toNat, wrap64 (bt458.2.1 + bt458.1), 0)) else (none)) else (none)) else (none)))) else (some ((⟨#[]⟩ : ByteArray), 0, bt458.2.2))))
def backhaulref05_Take.f (k : Nat) (a0 : ByteArray) (a1 : Int) (a2 : Int) : Option (ByteArray × Int × Int) := if a2 < 0 then (backhaulref05_Take.j0 k a0 a1 a2 true) else (if a1 < 0 then (backhaulref05_Take.j0 k a0 a1 a2 true) else (backhaulref05_Take.j0 k a0 a1 a2 (decide (a1 > (a0.size : Int)))))
theorem backhaulref05_Take.mono_l : ∀ k, (∀ y0 y1 y2 y3, LeO (backhaulref05_Take.j0 k y0 y1 y2 y3) (backhaulref05_Take.j0 (k + 1) y0 y1 y2 y3))
  | 0 => fun _ _ _ _ r h => by simp [backhaulref05_Take.j0] at h
  | k + 1 => by
    have ih0 := backhaulref05_Take.mono_l k
    · intro y0 y1 y2 y3
      unfold backhaulref05_Take.j0
      repeat' first
      | (with_reducible exact ih0 _ _ _ _)
      | (with_reducible exact backhaulref05_Get.mono _ _ _ _)
      | (with_reducible exact LeO.refl _)
      | (with_reducible exact LeO.none _)
      | (with_reducible refine LeO.ite ?_ ?_)
      | (with_reducible refine LeO.bind ?_ (fun _ => ?_))
      | exact ih0 _ _ _ _
      | exact backhaulref05_Get.mono _ _ _ _
      | exact LeO.none _
      | refine LeO.ite ?_ ?_
      | refine LeO.bind ?_ (fun _ => ?_)
theorem backhaulref05_Take.mono : ∀ a0 a1 a2 k, LeO (backhaulref05_Take.f k a0 a1 a2) (backhaulref05_Take.f (k + 1) a0 a1 a2) := by
  intro a0 a1 a2 k
  have ih0 := backhaulref05_Take.mono_l k
  unfold backhaulref05_Take.f
  repeat' first
      | (with_reducible exact ih0 _ _ _ _)
      | (with_reducible exact backhaulref05_Get.mono _ _ _ _)
      | (with_reducible exact LeO.refl _)
      | (with_reducible exact LeO.none _)
      | (with_reducible refine LeO.ite ?_ ?_)
      | (with_reducible refine LeO.bind ?_ (fun _ => ?_))
      | exact ih0 _ _ _ _
      | exact backhaulref05_Get.mono _ _ _ _
      | exact LeO.none _
      | refine LeO.ite ?_ ?_
      | refine LeO.bind ?_ (fun _ => ?_)
set_option maxHeartbeats 8000000 in
set_option maxRecDepth 100000 in
theorem backhaulref05_Take.calls (k : Nat) (a0 : ByteArray) (a1 : Int) (a2 : Int) (r1 : ByteArray) (r2 : Int) (r3 : Int) (w : World) (h : backhaulref05_Take.f k a0 a1 a2 = some (r1, r2, r3)) :
    Calls Try.prog 42 #[.string a0, .int .i64 a1, .int .i64 a2] w fun e w' => e = .returned (.tuple #[.string r1, .int .i64 r2, .int .i64 r3]) ∧ Drawn0 w w' := by
  have H : (if a2 < 0 then (backhaulref05_Take.j0 k a0 a1 a2 true) else (if a1 < 0 then (backhaulref05_Take.j0 k a0 a1 a2 true) else (backhaulref05_Take.j0 k a0 a1 a2 (decide (a1 > (a0.size : Int)))))) = some (r1, r2, r3) := h
  clear h
  have HC4 := Aside0.mk H
  clear H
  go_enter Try.func42, Try.ntmps42
  go_upto_region 1 with (fail)
  go_cut [23] (fun v23 wc => ∃ (kq : Nat) (x23_3 : Bool), v23 = .bool x23_3 ∧ Aside0 (backhaulref05_Take.j0 kq a0 a1 a2 x23_3 = some (r1, r2, r3)) ∧ Aside0 (kq ≤ k) ∧ Drawn0 w wc)
  case first =>
    have H := HC4.out
    clear HC4
    by_cases c5 : a2 < 0
    · rw [if_pos c5] at H
      have c5b0 : decide (a2 < 0) = true := decide_eq_true c5
      clear c5
      (first | rw [c5b0] | (simp only [i64_w, i32_w]; rw [c5b0]) | skip)
      have H' := Aside0.mk H
      clear H
      go_wp2
      go_meet
      case rel => exact ⟨_, (true), (by first | rfl | (simp; done) | (simp [*]; done)), H', ⟨by first | omega | exact Nat.le_refl _⟩, by repeat (first | exact Drawn0.refl _ | apply Drawn0.step)⟩
    · rw [if_neg c5] at H
      have c5b0 : decide (a2 < 0) = false := decide_eq_false c5
      clear c5
      (first | rw [c5b0] | (simp only [i64_w, i32_w]; rw [c5b0]) | skip)
      by_cases c6 : a1 < 0
      · rw [if_pos c6] at H
        have c6b0 : decide (a1 < 0) = true := decide_eq_true c6
        clear c6
        have H' := Aside0.mk H
        clear H
        go_wp2
        go_meet
        case rel => exact ⟨_, (true), (by first | rfl | (simp; done) | (simp [*]; done)), H', ⟨by first | omega | exact Nat.le_refl _⟩, by repeat (first | exact Drawn0.refl _ | apply Drawn0.step)⟩
      · rw [if_neg c6] at H
        have c6b0 : decide (a1 < 0) = false := decide_eq_false c6
        clear c6
        have H' := Aside0.mk H
        clear H
        go_wp2
        go_meet
        case rel => exact ⟨_, (decide (a1 > (a0.size : Int))), (by first | rfl | (simp; done) | (simp [*]; done)), H', ⟨by first | omega | exact Nat.le_refl _⟩, by repeat (first | exact Drawn0.refl _ | apply Drawn0.step)⟩
  case rest =>
    clear HC4
    try clear p2
    try clear c4
    try clear c5
    try clear c5b0
    try clear c6
    try clear c6b0
    obtain ⟨kq, x23_3, rfl, HA, HJ3, ⟨mc3, rfl⟩⟩ := hcut
    cases kq with
    | zero => exact absurd HA.out (by simp [backhaulref05_Take.j0])
    | succ kj3 =>
      have H := HA.out
      clear HA
      simp only [backhaulref05_Take.j0] at H
      by_cases c7 : x23_3 = true
      · subst c7
        have H1 : (some ((⟨#[]⟩ : ByteArray), 0, 2)) = some (r1, r2, r3) := by first | (rw [if_pos rfl] at H; exact H) | rfl
        clear H
        have H := H1
        clear H1
        simp only [Option.some.injEq, Prod.mk.injEq] at H
        obtain ⟨rfl, rfl, rfl⟩ := H
        go_wp2
        go_ret3
        exact ⟨by first | rfl | (simp; done) | (simp [*]; done), by repeat (first | exact Drawn0.refl _ | apply Drawn0.step)⟩
      · replace c7 := Bool.eq_false_iff.mpr c7
        subst c7
        have H1 : ((backhaulref05_Get.f kj3 a0 a1 2).bind fun bt458 => (if bt458.2.2 = 0 then (if bt458.1 > a2 then (some ((⟨#[]⟩ : ByteArray), 0, 3)) else (if (wrap64 (bt458.2.1 + bt458.1)) > (a0.size : Int) then (some ((⟨#[]⟩ : ByteArray), 0, 4)) else (if 0 ≤ bt458.2.1 then (if bt458.2.1 ≤ (wrap64 (bt458.2.1 + bt458.1)) then (if (wrap64 (bt458.2.1 + bt458.1)) ≤ (a0.size : Int) then (some (a0.extract (bt458.2.1 : Int).toNat ((wrap64 (bt458.2.1 + bt458.1)) : Int).toNat, wrap64 (bt458.2.1 + bt458.1), 0)) else (none)) else (none)) else (none)))) else (some ((⟨#[]⟩ : ByteArray), 0, bt458.2.2)))) = some (r1, r2, r3) := by first | (rw [if_neg (show ¬ (false = true) by decide)] at H; exact H) | rfl
        clear H
        have H := H1
        clear H1
        replace H := Option.bind_eq_some_iff.mp H
        obtain ⟨⟨t458, t459, t460⟩, A80, H⟩ := H
        replace H : (if t460 = 0 then (if t458 > a2 then (some ((⟨#[]⟩ : ByteArray), 0, 3)) else (if (wrap64 (t459 + t458)) > (a0.size : Int) then (some ((⟨#[]⟩ : ByteArray), 0, 4)) else (if 0 ≤ t459 then (if t459 ≤ (wrap64 (t459 + t458)) then (if (wrap64 (t459 + t458)) ≤ (a0.size : Int) then (some (a0.extract (t459 : Int).toNat ((wrap64 (t459 + t458)) : Int).toNat, wrap64 (t459 + t458), 0)) else (none)) else (none)) else (none)))) else (some ((⟨#[]⟩ : ByteArray), 0, t460))) = some (r1, r2, r3) := H
        have A8 := Aside0.mk A80
        clear A80
        by_cases c9 : t460 = 0
        · rw [if_pos c9] at H
          have c9b0 : (t460 == 0) = true := beq_iff_eq.mpr c9
          have c9b1 : (t460 != 0) = false := bne_eq_false_iff_eq.mpr c9
          clear c9
          by_cases c10 : t458 > a2
          · rw [if_pos c10] at H
            have c10b0 : decide (a2 < t458) = true := decide_eq_true c10
            clear c10
            simp only [Option.some.injEq, Prod.mk.injEq] at H
            obtain ⟨rfl, rfl, rfl⟩ := H
            go_wp2_with (first | ((with_reducible refine gate_callee (f := 38) rfl ?_); refine goesL_ (some 27) rfl rfl Try.func38 (by kernel_rfl) rfl #[.string a0, .int .i64 a1, .int .i64 2] rfl (by (try simp only [List.map_toArray, List.map_cons, List.map_nil]); first | done | rfl | (simp only [List.length_drop, List.length_take]; rfl)) ?_; (with_reducible refine (backhaulref05_Get.calls kj3 a0 a1 2 t458 t459 t460 _ A8.out).mono ?_); rintro e w' ⟨rfl, ⟨nd, rfl⟩⟩; refine ⟨_, rfl, ?_⟩))
            go_ret3
            exact ⟨by first | rfl | (simp; done) | (simp [*]; done), by repeat (first | exact Drawn0.refl _ | apply Drawn0.step)⟩
          · rw [if_neg c10] at H
            have c10b0 : decide (a2 < t458) = false := decide_eq_false c10
            clear c10
            by_cases c11 : (wrap64 (t459 + t458)) > (a0.size : Int)
            · rw [if_pos c11] at H
              have c11b0 : decide ((a0.size : Int) < (wrap64 (t459 + t458))) = true := decide_eq_true c11
              clear c11
              simp only [Option.some.injEq, Prod.mk.injEq] at H
              obtain ⟨rfl, rfl, rfl⟩ := H
              go_wp2_with (first | ((with_reducible refine gate_callee (f := 38) rfl ?_); refine goesL_ (some 27) rfl rfl Try.func38 (by kernel_rfl) rfl #[.string a0, .int .i64 a1, .int .i64 2] rfl (by (try simp only [List.map_toArray, List.map_cons, List.map_nil]); first | done | rfl | (simp only [List.length_drop, List.length_take]; rfl)) ?_; (with_reducible refine (backhaulref05_Get.calls kj3 a0 a1 2 t458 t459 t460 _ A8.out).mono ?_); rintro e w' ⟨rfl, ⟨nd, rfl⟩⟩; refine ⟨_, rfl, ?_⟩))
              go_ret3
              exact ⟨by first | rfl | (simp; done) | (simp [*]; done), by repeat (first | exact Drawn0.refl _ | apply Drawn0.step)⟩
            · rw [if_neg c11] at H
              have c11b0 : decide ((a0.size : Int) < (wrap64 (t459 + t458))) = false := decide_eq_false c11
              clear c11
              by_cases c12 : 0 ≤ t459
              · rw [if_pos c12] at H
                have c12b0 := eq_true c12
                have c12b1 : decide (0 ≤ t459) = true := decide_eq_true c12
                clear c12
                by_cases c13 : t459 ≤ (wrap64 (t459 + t458))
                · rw [if_pos c13] at H
                  have c13b0 := eq_true c13
                  have c13b1 : decide (t459 ≤ (wrap64 (t459 + t458))) = true := decide_eq_true c13
                  by_cases c14 : (wrap64 (t459 + t458)) ≤ (a0.size : Int)
                  · rw [if_pos c14] at H
                    have c14b0 := eq_true c14
                    have c14b1 : decide ((wrap64 (t459 + t458)) ≤ (a0.size : Int)) = true := decide_eq_true c14
                    simp only [Option.some.injEq, Prod.mk.injEq] at H
                    obtain ⟨rfl, rfl, rfl⟩ := H
                    go_wp2_with (first | ((with_reducible refine gate_callee (f := 38) rfl ?_); refine goesL_ (some 27) rfl rfl Try.func38 (by kernel_rfl) rfl #[.string a0, .int .i64 a1, .int .i64 2] rfl (by (try simp only [List.map_toArray, List.map_cons, List.map_nil]); first | done | rfl | (simp only [List.length_drop, List.length_take]; rfl)) ?_; (with_reducible refine (backhaulref05_Get.calls kj3 a0 a1 2 t458 t459 t460 _ A8.out).mono ?_); rintro e w' ⟨rfl, ⟨nd, rfl⟩⟩; refine ⟨_, rfl, ?_⟩))
                    go_ret3
                    exact ⟨by first | rfl | (simp; done) | (simp [*]; done), by repeat (first | exact Drawn0.refl _ | apply Drawn0.step)⟩
                  · rw [if_neg c14] at H
                    exact absurd H (by simp)
                · rw [if_neg c13] at H
                  exact absurd H (by simp)
              · rw [if_neg c12] at H
                exact absurd H (by simp)
        · rw [if_neg c9] at H
          have c9b0 : (t460 == 0) = false := beq_eq_false_iff_ne.mpr c9
          have c9b1 : (t460 != 0) = true := bne_iff_ne.mpr c9
          simp only [Option.some.injEq, Prod.mk.injEq] at H
          obtain ⟨rfl, rfl, rfl⟩ := H
          go_wp2_with (first | ((with_reducible refine gate_callee (f := 38) rfl ?_); refine goesL_ (some 27) rfl rfl Try.func38 (by kernel_rfl) rfl #[.string a0, .int .i64 a1, .int .i64 2] rfl (by (try simp only [List.map_toArray, List.map_cons, List.map_nil]); first | done | rfl | (simp only [List.length_drop, List.length_take]; rfl)) ?_; (with_reducible refine (backhaulref05_Get.calls kj3 a0 a1 2 t458 t459 t460 _ A8.out).mono ?_); rintro e w' ⟨rfl, ⟨nd, rfl⟩⟩; refine ⟨_, rfl, ?_⟩))
          go_ret3
          exact ⟨by first | rfl | (simp; done) | (simp [*]; done), by repeat (first | exact Drawn0.refl _ | apply Drawn0.step)⟩

end Go.Proofs.Ytabapiofkipkoaa.F

/- What octet's functions (and the document's) come to: numbers and texts put and got; condition: numbers are of 64 bits. -/
set_option linter.unusedVariables false
namespace Go.Proofs.Ytabapiofkipkoaa.Q
open Go.RowKit Go.Proofs.Ytabapiofkipkoaa.F Go.Proofs.YtabapiofkipkoaaW.PrintWords Go.Proofs.YtabapiofkipkoaaW.PrintLast Go.Proofs.YtabapiofkipkoaaW.PrintMore

theorem wide_dec (w : Int) : (if w = 1 then some true else if w = 2 then some true else if w = 4 then some true else some (w == 8)) = some (decide (wide w)) := by
  unfold wide
  by_cases h1 : w = 1
  · rw [if_pos h1]; simp [h1]
  · rw [if_neg h1]
    by_cases h2 : w = 2
    · rw [if_pos h2]; simp [h2]
    · rw [if_neg h2]
      by_cases h4 : w = 4
      · rw [if_pos h4]; simp [h4]
      · rw [if_neg h4]
        by_cases h8 : w = 8
        · simp [h8]
        · simp [h1, h2, h4, h8]
theorem octet_wide_f (w : Int) : octet_wide.f w = some (decide (wide w)) := by
  unfold octet_wide.f
  exact wide_dec w
theorem ref05_wide_f (w : Int) : backhaulref05_wide.f w = some (decide (wide w)) := by
  unfold backhaulref05_wide.f
  exact wide_dec w
theorem octet_inside_f (s : ByteArray) (a : Int) : octet_inside.f s a = some (decide (0 ≤ a ∧ a ≤ s.size)) := by
  unfold octet_inside.f
  by_cases h : a ≥ 0
  · rw [if_pos h]; congr 1; exact decide_eq_decide.2 ⟨fun x => ⟨h, x⟩, fun x => x.2⟩
  · rw [if_neg h]; congr 1; exact (decide_eq_false (fun x => h x.1)).symm
def natI (l : List UInt8) : List Int := l.map (fun b => (b.toNat : Int))
theorem strOfNums_nat (l : List UInt8) : strOfNums (natI l) = bytesB l := by
  unfold strOfNums natI bytesB
  rw [List.map_map]
  congr 2
  exact (List.map_congr_left fun b _ => by simp).trans (List.map_id l)
theorem byte_mod (n : Int) (h : 0 ≤ n) : n % 256 = (((UInt8.ofNat n.toNat).toNat : Nat) : Int) := by
  rw [toNat_ofNat]; omega
theorem octet_put_l0 (d : Nat) : ∀ (n : Int) (t : List UInt8), 0 ≤ n → d ≤ 8 → Ev (fun k => octet_Put.l0 k n (List.replicate d 0 ++ natI t) ((d : Int) - 1)) (bytesB (beL d n.toNat ++ t), 0) := by
  induction d with
  | zero =>
    intro n t hn hd
    refine Ev.step (fun k => by simp only [octet_Put.l0]; rfl) ?_
    refine Ev.neg (by omega) (Ev.ok ?_)
    simp only [List.replicate_zero, List.nil_append, beL]
    rw [strOfNums_nat]
  | succ d ih =>
    intro n t hn hd
    refine Ev.step (fun k => by simp only [octet_Put.l0]; rfl) ?_
    refine Ev.pos (by omega) (Ev.pos (by omega) (Ev.pos (by simp only [List.length_append, List.length_replicate]; omega) ?_))
    have e1 : ((((d + 1 : Nat) : Int) - 1) : Int).toNat = d := by omega
    have e2 : wrap64 (((d + 1 : Nat) : Int) - 1 - 1) = (d : Int) - 1 := by rw [wrap_eq (by omega) (by omega)]; omega
    have e3 : (List.replicate (d + 1) 0 ++ natI t).set d (n % 256) = List.replicate d 0 ++ natI (UInt8.ofNat n.toNat :: t) := by
      rw [List.replicate_succ', List.append_assoc, List.set_append_right _ _ (by simp)]
      simp only [List.length_replicate, Nat.sub_self, List.cons_append, List.nil_append, List.set_cons_zero, natI, List.map_cons, byte_mod n hn]
    rw [e1, e2, e3]
    refine Ev.eq (ih (n / 256) (UInt8.ofNat n.toNat :: t) (by omega) (by omega)) ?_
    rw [beL, show (n / 256).toNat = n.toNat / 256 by omega, List.append_assoc]
    rfl
theorem octet_put_j0 {n w : Int} (hw : wide w) (hn : 0 ≤ n) (hlt : n < 256 ^ w.toNat) : Ev (fun k => octet_Put.j0 k n w false) (putS n w) := by
  have hw' := wide_nat hw
  refine Ev.step (fun k => by simp only [octet_Put.j0]; rfl) ?_
  refine Ev.neg (by decide) (Ev.pos (by omega) (Ev.pos (by omega) ?_))
  have h := octet_put_l0 w.toNat n [] hn (by omega)
  simp only [natI, List.map_nil, List.append_nil] at h
  rw [wrap_eq (by omega) (by omega), show w - 1 = ((w.toNat : Nat) : Int) - 1 by omega]
  refine Ev.eq h ?_
  unfold putS
  rw [if_pos hw, if_pos ⟨hn, hlt⟩]
theorem octet_put_t {n w : Int} (hw : wide w) (h : ¬ (0 ≤ n ∧ n < 256 ^ w.toNat)) : Ev (fun k => octet_Put.j0 k n w true) (putS n w) := by
  refine Ev.step (fun k => by simp only [octet_Put.j0]; rfl) ?_
  refine Ev.pos trivial (Ev.ok ?_)
  unfold putS
  rw [if_pos hw, if_neg h]
theorem octet_put_f {n : Int} (w : Int) (h1 : n ≤ 9223372036854775807) : Ev (fun k => octet_Put.f k n w) (putS n w) := by
  unfold octet_Put.f
  refine Ev.bindc (octet_wide_f w) ?_
  by_cases hw : wide w
  · refine Ev.pos (decide_eq_true hw) ?_
    refine Ev.ite (fun h => octet_put_t hw (by omega)) (fun h => ?_)
    have key : ∀ b : Bool, (b = true ↔ ¬ n < 256 ^ w.toNat) → Ev (fun k => octet_Put.j0 k n w b) (putS n w) := by
      intro b hb
      cases b with
      | true => exact octet_put_t hw (fun x => (hb.1 rfl) x.2)
      | false => exact octet_put_j0 hw (by omega) (Classical.byContradiction fun x => by have := hb.2 x; cases this)
    rcases hw with rfl | rfl | rfl | rfl
    · rw [show wrap64 (8 * 1) = 8 from wrap_eq (by decide) (by decide)]
      refine Ev.pos (by decide) (Ev.pos (by decide) (key _ ?_))
      rw [decide_eq_true_eq, show shr .i64 n 8 = n / 256 from rfl]
      show n / 256 > 0 ↔ ¬ n < 256
      omega
    · rw [show wrap64 (8 * 2) = 16 from wrap_eq (by decide) (by decide)]
      refine Ev.pos (by decide) (Ev.pos (by decide) (key _ ?_))
      rw [decide_eq_true_eq, show shr .i64 n 16 = n / 65536 from rfl]
      show n / 65536 > 0 ↔ ¬ n < 65536
      omega
    · rw [show wrap64 (8 * 4) = 32 from wrap_eq (by decide) (by decide)]
      refine Ev.pos (by decide) (Ev.pos (by decide) (key _ ?_))
      rw [decide_eq_true_eq, show shr .i64 n 32 = n / 4294967296 from rfl]
      show n / 4294967296 > 0 ↔ ¬ n < 4294967296
      omega
    · refine Ev.neg (by decide) (key false ?_)
      show false = true ↔ ¬ n < 18446744073709551616
      simp
      omega
  · refine Ev.neg (fun x => hw (of_decide_eq_true x)) (Ev.ok ?_)
    unfold putS
    rw [if_neg hw]
theorem ref05_put_l0 (d : Nat) : ∀ (n w : Int) (i : Nat) (t : List UInt8), 0 ≤ n → n ≤ 9223372036854775807 → w ≤ 8 → w - i = d → t.length ≤ i → Ev (fun k => backhaulref05_Put.l0 k n w (bytesB t) (i : Int)) (if n < 256 ^ d then (bytesB (beL d n.toNat ++ t), 0) else (⟨#[]⟩, 8)) := by
  induction d with
  | zero =>
    intro n w i t hn hn' hw hd ht
    refine Ev.step (fun k => by simp only [backhaulref05_Put.l0]; rfl) ?_
    refine Ev.neg (by omega) (Ev.ite (fun h => Ev.ok ?_) (fun h => Ev.ok ?_))
    · rw [if_neg (show ¬ n < 256 ^ 0 by show ¬ n < 1; omega)]
    · rw [if_pos (show n < 256 ^ 0 by show n < 1; omega)]; rfl
  | succ d ih =>
    intro n w i t hn hn' hw hd ht
    refine Ev.step (fun k => by simp only [backhaulref05_Put.l0]; rfl) ?_
    refine Ev.pos (by omega) (Ev.bindc rfl ?_)
    have e1 : strOfNums [(Int.tmod n 256) % 256] = bytesB [UInt8.ofNat n.toNat] := by
      rw [Int.tmod_eq_emod_of_nonneg hn, Int.emod_emod, byte_mod n hn]
      exact strOfNums_nat [UInt8.ofNat n.toNat]
    have e2 : wrap64 (Int.tdiv n 256) = n / 256 := by
      rw [Int.tdiv_eq_ediv_of_nonneg hn, wrap_eq (by omega) (by omega)]
    rw [e1, e2, wrap_eq (by omega) (by omega), bytesB_append]
    refine Ev.pos (by simp only [bytesB_size, List.length_cons, List.length_nil]; omega) ?_
    refine Ev.eq (ih (n / 256) w (i + 1) _ (by omega) (by omega) hw (by omega) (by simp only [List.length_append, List.length_cons, List.length_nil]; omega)) ?_
    have e3 : n / 256 < 256 ^ d ↔ n < 256 ^ (d + 1) := by
      rw [Int.pow_succ]
      generalize (256 : Int) ^ d = P
      omega
    by_cases h : n / 256 < 256 ^ d
    · rw [if_pos h, if_pos (e3.1 h), beL, show (n / 256).toNat = n.toNat / 256 by omega, List.append_assoc]
    · rw [if_neg h, if_neg (fun x => h (e3.2 x))]
theorem ref05_put_f {n : Int} (w : Int) (h1 : n ≤ 9223372036854775807) : Ev (fun k => backhaulref05_Put.f k n w) (putS n w) := by
  unfold backhaulref05_Put.f putS
  refine Ev.bindc (ref05_wide_f w) ?_
  by_cases hw : wide w
  · have hw' := wide_nat hw
    rw [if_pos hw]
    refine Ev.pos (decide_eq_true hw) (Ev.ite (fun h => Ev.ok ?_) (fun h => ?_))
    · rw [if_neg (by omega)]
    · refine Ev.eq (ref05_put_l0 w.toNat n w 0 [] (by omega) h1 (by omega) (by omega) (by simp)) ?_
      rw [List.append_nil]
      by_cases hlt : n < 256 ^ w.toNat
      · rw [if_pos hlt, if_pos ⟨by omega, hlt⟩]
      · rw [if_neg hlt, if_neg (fun x => hlt x.2)]
  · rw [if_neg hw]
    exact Ev.neg (fun x => hw (of_decide_eq_true x)) (Ev.ok rfl)
theorem numAt_succ {s : ByteArray} {a i : Nat} (h : a + i < s.size) : (numAt s a (i + 1) : Int) = 256 * (numAt s a i : Int) + bt s ((a + i : Nat) : Int) := by
  have hl : a + i < s.data.toList.length := by rw [size_data]; exact h
  unfold numAt
  rw [List.take_succ_eq_append_getElem (by rw [List.length_drop]; omega), beN_append, bt_data s (a + i) h, List.getElem_drop]
  omega
theorem numAt_lt' {s : ByteArray} {a i : Nat} (h : a + i ≤ s.size) : (numAt s a i : Int) < 256 ^ i := pow_cast (numAt_lt h)
theorem pow_le8 {i : Nat} (h : i ≤ 7) : (256 : Int) ^ i ≤ 72057594037927936 := by
  have : i = 0 ∨ i = 1 ∨ i = 2 ∨ i = 3 ∨ i = 4 ∨ i = 5 ∨ i = 6 ∨ i = 7 := by omega
  rcases this with rfl | rfl | rfl | rfl | rfl | rfl | rfl | rfl <;> decide
theorem bt_range (s : ByteArray) (i : Int) : 0 ≤ bt s i ∧ bt s i < 256 := by
  unfold bt
  split
  · rename_i h
    have := (s[i.toNat]'h).toNat_lt
    omega
  · omega
theorem or_byte {x y : Int} (h0 : 0 ≤ x) (h1 : x < 72057594037927936) (h2 : 0 ≤ y) (h3 : y < 256) : Go.bits .or .u64 (IntKind.u64.wrap (x * 256)) (IntKind.u64.wrap y) = 256 * x + y := by
  rw [u64_eq (x := x * 256) (by omega) (by omega), u64_eq (x := y) (by omega) (by omega)]
  rw [bits_join .u64 64 (by decide) (fun n h0 h1 => u64_eq h0 h1) 8 (x * 256) y (by omega) (by omega) (by omega) (by omega) (by omega) (by omega)]
  omega
theorem getS_in {s : ByteArray} {a w : Int} (hw : wide w) (h0 : 0 ≤ a) (h1 : a + w ≤ s.size) : getS s a w = if (numAt s a.toNat w.toNat : Int) > 9223372036854775807 then (0, 0, 8) else ((numAt s a.toNat w.toNat : Int), a + w, 0) := by
  have hw' := wide_nat hw
  unfold getS
  rw [if_pos ⟨hw, h0, by omega⟩, if_neg (by omega)]
theorem octet_get_l0 {s : ByteArray} {a w : Int} (hs : s.size ≤ 9223372036854775807) (hw : wide w) (h0 : 0 ≤ a) (h1 : a + w ≤ s.size) (d : Nat) : ∀ i : Nat, w - i = d → Ev (fun k => octet_Get.l0 k s a w (numAt s a.toNat i : Int) w (i : Int)) (getS s a w) := by
  have hw' := wide_nat hw
  induction d with
  | zero =>
    intro i hi
    refine Ev.step (fun k => by simp only [octet_Get.l0]; rfl) ?_
    refine Ev.neg (by omega) ?_
    rw [getS_in hw h0 h1, show w.toNat = i by omega]
    refine Ev.ite (fun h => ?_) (fun h => ?_)
    · rw [if_pos h]; exact Ev.ok rfl
    · rw [if_neg h, wrap_eq (x := (numAt s a.toNat i : Int)) (by omega) (by omega), wrap_eq (by omega) (by omega)]
      exact Ev.ok rfl
  | succ d ih =>
    intro i hi
    have hlt := numAt_lt' (s := s) (a := a.toNat) (i := i) (by omega)
    have hp := pow_le8 (i := i) (by omega)
    refine Ev.step (fun k => by simp only [octet_Get.l0]; rfl) ?_
    rw [wrap_eq (x := a + (i : Int)) (by omega) (by omega), wrap_eq (x := (i : Int) + 1) (by omega) (by omega)]
    refine Ev.pos (by omega) (Ev.pos (by omega) (Ev.pos (by omega) ?_))
    have hb := bt_range s (a + i)
    rw [or_byte (by omega) (by omega) hb.1 hb.2]
    have e := numAt_succ (s := s) (a := a.toNat) (i := i) (by omega)
    rw [show ((a.toNat + i : Nat) : Int) = a + i by omega] at e
    rw [← e]
    exact ih (i + 1) (by omega)
theorem octet_get_f {s : ByteArray} (a w : Int) (hs : s.size ≤ 9223372036854775807) : Ev (fun k => octet_Get.f k s a w) (getS s a w) := by
  have bad : ¬ (wide w ∧ 0 ≤ a ∧ a ≤ s.size) → Ev (fun k => octet_Get.j0 k s a w true) (getS s a w) := by
    intro h
    refine Ev.step (fun k => by simp only [octet_Get.j0]; rfl) ?_
    refine Ev.pos trivial (Ev.ok ?_)
    unfold getS
    rw [if_neg h]
  unfold octet_Get.f
  refine Ev.bindc (octet_wide_f w) ?_
  by_cases hw : wide w
  · have hw' := wide_nat hw
    refine Ev.pos (decide_eq_true hw) (Ev.bindc (octet_inside_f s a) ?_)
    by_cases ha : 0 ≤ a ∧ a ≤ s.size
    · rw [decide_eq_true ha]
      refine Ev.step (fun k => by simp only [octet_Get.j0]; rfl) ?_
      refine Ev.neg (by decide) ?_
      rw [wrap_eq (by omega) (by omega)]
      refine Ev.ite (fun h => Ev.ok ?_) (fun h => ?_)
      · unfold getS
        rw [if_pos ⟨hw, ha⟩, if_pos h]
      · exact octet_get_l0 hs hw ha.1 (by omega) w.toNat 0 (by omega)
    · rw [decide_eq_false ha]
      exact bad (fun x => ha x.2)
  · exact Ev.neg (fun x => hw (of_decide_eq_true x)) (bad (fun x => hw x.1))
theorem ref05_get_l0 {s : ByteArray} {a w : Int} (hs : s.size ≤ 9223372036854775807) (hw : wide w) (h0 : 0 ≤ a) (h1 : a + w ≤ s.size) (hm : (numAt s a.toNat w.toNat : Int) ≤ 9223372036854775807) (d : Nat) : ∀ i : Nat, w - i = d → (numAt s a.toNat i : Int) * 256 ^ d ≤ 9223372036854775807 → Ev (fun k => backhaulref05_Get.l0 k s a w (numAt s a.toNat i : Int) (a + i)) ((numAt s a.toNat w.toNat : Int), a + w, 0) := by
  have hw' := wide_nat hw
  induction d with
  | zero =>
    intro i hi hb
    refine Ev.step (fun k => by simp only [backhaulref05_Get.l0]; rfl) ?_
    rw [wrap_eq (x := a + w) (by omega) (by omega)]
    refine Ev.neg (by omega) (Ev.ok ?_)
    rw [show w.toNat = i by omega]
  | succ d ih =>
    intro i hi hb
    have hlt := numAt_lt' (s := s) (a := a.toNat) (i := i) (by omega)
    have hp := pow_le8 (i := i) (by omega)
    have hb' := bt_range s (a + i)
    have e := numAt_succ (s := s) (a := a.toNat) (i := i) (by omega)
    rw [show ((a.toNat + i : Nat) : Int) = a + i by omega] at e
    have hpos : (0 : Int) < 256 ^ d := Int.pow_pos (by decide)
    have hle : (numAt s a.toNat (i + 1) : Int) * 256 ^ d ≤ 9223372036854775807 := by
      have key := numAt_split (s := s) (a := a.toNat) (i := i + 1) (d := d) (by omega)
      rw [show i + 1 + d = w.toNat by omega] at key
      have h2 : (0 : Int) ≤ (numAt s (a.toNat + (i + 1)) d : Int) := by omega
      omega
    have hone : (numAt s a.toNat (i + 1) : Int) ≤ 9223372036854775807 := by
      have h3 : (numAt s a.toNat (i + 1) : Int) * 1 ≤ (numAt s a.toNat (i + 1) : Int) * 256 ^ d := Int.mul_le_mul_of_nonneg_left (by omega) (by omega)
      omega
    refine Ev.step (fun k => by simp only [backhaulref05_Get.l0]; rfl) ?_
    rw [wrap_eq (x := a + w) (by omega) (by omega), wrap_eq (x := 256 * (numAt s a.toNat i : Int)) (by omega) (by omega), wrap_eq (x := bt s (a + i)) (by omega) (by omega), wrap_eq (x := 256 * (numAt s a.toNat i : Int) + bt s (a + i)) (by omega) (by omega), wrap_eq (x := a + (i : Int) + 1) (by omega) (by omega)]
    refine Ev.pos (by omega) (Ev.pos (by omega) (Ev.pos (by omega) ?_))
    rw [← e, show a + (i : Int) + 1 = a + ((i + 1 : Nat) : Int) by omega]
    exact ih (i + 1) (by omega) hle
theorem ref05_get_f {s : ByteArray} (a w : Int) (hs : s.size ≤ 9223372036854775807) : Ev (fun k => backhaulref05_Get.f k s a w) (getS s a w) := by
  have bad : ¬ (wide w ∧ 0 ≤ a ∧ a ≤ s.size) → Ev (fun k => backhaulref05_Get.j0 k s a w true) (getS s a w) := by
    intro h
    refine Ev.step (fun k => by simp only [backhaulref05_Get.j0]; rfl) ?_
    refine Ev.pos trivial (Ev.ok ?_)
    unfold getS
    rw [if_neg h]
  unfold backhaulref05_Get.f
  refine Ev.bindc (ref05_wide_f w) ?_
  by_cases hw : wide w
  · have hw' := wide_nat hw
    refine Ev.pos (decide_eq_true hw) (Ev.ite (fun h => bad (by omega)) (fun h => ?_))
    by_cases h1 : a > s.size
    · rw [decide_eq_true (show a > (s.size : Int) from h1)]
      exact bad (by omega)
    · rw [decide_eq_false (show ¬ a > (s.size : Int) from h1)]
      refine Ev.step (fun k => by simp only [backhaulref05_Get.j0]; rfl) ?_
      refine Ev.neg (by decide) ?_
      rw [wrap_eq (by omega) (by omega)]
      refine Ev.ite (fun h2 => Ev.ok ?_) (fun h2 => ?_)
      · unfold getS
        rw [if_pos ⟨hw, by omega, by omega⟩, if_pos h2]
      · rw [getS_in hw (by omega) (by omega)]
        have fin : (numAt s a.toNat w.toNat : Int) ≤ 9223372036854775807 → Ev (fun k => backhaulref05_Get.j1 k s a w false) (if (numAt s a.toNat w.toNat : Int) > 9223372036854775807 then (0, 0, 8) else ((numAt s a.toNat w.toNat : Int), a + w, 0)) := by
          intro hm
          rw [if_neg (by omega)]
          refine Ev.step (fun k => by simp only [backhaulref05_Get.j1]; rfl) ?_
          refine Ev.neg (by decide) ?_
          have := ref05_get_l0 hs hw (by omega) (by omega) hm w.toNat 0 (by omega) (by show (0 : Int) * _ ≤ _; omega)
          rw [show a + ((0 : Nat) : Int) = a by omega] at this
          exact this
        refine Ev.ite (fun h3 => ?_) (fun h3 => ?_)
        · subst h3
          refine Ev.pos (by omega) (Ev.pos (by omega) ?_)
          have key : (numAt s a.toNat (Int.toNat 8) : Int) = (numAt s a.toNat 1 : Int) * 256 ^ 7 + (numAt s (a.toNat + 1) 7 : Int) := numAt_split (s := s) (a := a.toNat) (i := 1) (d := 7) (by omega)
          have hl := numAt_lt' (s := s) (a := a.toNat + 1) (i := 7) (by omega)
          have e : (numAt s a.toNat 1 : Int) = 256 * (numAt s a.toNat 0 : Int) + bt s ((a.toNat + 0 : Nat) : Int) := numAt_succ (s := s) (a := a.toNat) (i := 0) (by omega)
          have e0 : (numAt s a.toNat 0 : Int) = 0 := by unfold numAt; simp [beN]
          rw [e0, show ((a.toNat + 0 : Nat) : Int) = a by omega] at e
          have p7 : (256 : Int) ^ 7 = 72057594037927936 := by decide
          rw [p7] at key hl
          by_cases h4 : bt s a > 127
          · rw [decide_eq_true h4]
            refine Ev.step (fun k => by simp only [backhaulref05_Get.j1]; rfl) ?_
            refine Ev.pos trivial (Ev.ok ?_)
            rw [if_pos (by omega)]
          · rw [decide_eq_false h4]
            exact fin (by omega)
        · have hl := numAt_lt' (s := s) (a := a.toNat) (i := w.toNat) (by omega)
          have h4 : w.toNat ≤ 4 := by unfold wide at hw; omega
          have hp := pow_le8 (i := w.toNat) (by omega)
          exact fin (by omega)
  · exact Ev.neg (fun x => hw (of_decide_eq_true x)) (bad (fun x => hw x.1))
theorem getS2_lt {s : ByteArray} {a n tt : Int} (h : getS s a 2 = (n, tt, 0)) : n < 65536 := (putS_ok (put_of_get h)).2.2.1
theorem octet_lay_f {t : ByteArray} (ht : t.size ≤ 4611686018427387904) : Ev (fun k => octet_Lay.f k t) (layS t) := by
  unfold octet_Lay.f layS
  refine Ev.ite (fun h => Ev.ok ?_) (fun h => ?_)
  · rw [if_pos (by omega)]
  · rw [if_neg (by omega)]
    refine Ev.bind (octet_put_f 2 (by omega)) ?_
    rw [put2 (by omega)]
    refine Ev.pos ?_ (Ev.ok rfl)
    simp only [bytesB_size, beL_length]; omega
theorem ref05_lay_f {t : ByteArray} (ht : t.size ≤ 4611686018427387904) : backhaulref05_Lay.f t = some (layS t) := by
  unfold backhaulref05_Lay.f layS
  by_cases h : (t.size : Int) > 65535
  · rw [if_pos h, if_pos (by omega)]
  · rw [if_neg h, if_neg (by omega), Option.bind_some]
    have e : strOfNums [((t.size : Int) / 256) % 256, (t.size : Int) % 256] = bytesB (beL 2 t.size) := by
      rw [byte_mod _ (by omega), byte_mod (t.size : Int) (by omega)]
      rw [show ((t.size : Int) / 256).toNat = t.size / 256 by omega, Int.toNat_natCast]
      exact strOfNums_nat [UInt8.ofNat (t.size / 256), UInt8.ofNat t.size]
    rw [e, if_pos (by simp only [bytesB_size, beL_length]; omega)]
theorem octet_take_f {s : ByteArray} (a m : Int) (hs : s.size ≤ 4611686018427387904) : Ev (fun k => octet_Take.f k s a m) (takeS s a m) := by
  unfold octet_Take.f takeS
  refine Ev.ite (fun h => ?_) (fun h => ?_)
  · rw [if_pos h]; exact Ev.ok rfl
  · rw [if_neg h]
    refine Ev.bind (octet_get_f a 2 (by omega)) ?_
    refine Ev.ite (fun h1 => ?_) (fun h1 => ?_)
    · rw [if_pos h1]
      have hg : getS s a 2 = ((getS s a 2).1, (getS s a 2).2.1, 0) := by rw [← h1]
      obtain ⟨_, h2, h3, h4, h5, h6, h7⟩ := getS_ok hg
      refine Ev.ite (fun h8 => ?_) (fun h8 => ?_)
      · rw [if_pos h8]; exact Ev.ok rfl
      · rw [if_neg h8, wrap_eq (x := (s.size : Int) - (getS s a 2).2.1) (by omega) (by omega)]
        refine Ev.ite (fun h9 => ?_) (fun h9 => ?_)
        · rw [if_pos h9]; exact Ev.ok rfl
        · rw [if_neg h9, wrap_eq (by omega) (by omega)]
          exact Ev.pos (by omega) (Ev.pos (by omega) (Ev.pos (by omega) (Ev.ok rfl)))
    · rw [if_neg h1]; exact Ev.ok rfl
theorem ref05_take_f {s : ByteArray} (a m : Int) (hs : s.size ≤ 4611686018427387904) : Ev (fun k => backhaulref05_Take.f k s a m) (takeS s a m) := by
  have bad : m < 0 ∨ a < 0 ∨ a > s.size → Ev (fun k => backhaulref05_Take.j0 k s a m true) (takeS s a m) := by
    intro h
    refine Ev.step (fun k => by simp only [backhaulref05_Take.j0]; rfl) ?_
    refine Ev.pos trivial (Ev.ok ?_)
    unfold takeS
    by_cases hm : m < 0
    · rw [if_pos hm]
    · rw [if_neg hm]
      have e : getS s a 2 = (0, 0, 2) := by unfold getS; rw [if_neg (by omega)]
      rw [e]; rfl
  unfold backhaulref05_Take.f
  refine Ev.ite (fun h => bad (.inl h)) (fun h => Ev.ite (fun h1 => bad (.inr (.inl h1))) (fun h1 => ?_))
  by_cases h2 : a > (s.size : Int)
  · rw [decide_eq_true h2]; exact bad (.inr (.inr h2))
  · rw [decide_eq_false h2]
    refine Ev.step (fun k => by simp only [backhaulref05_Take.j0]; rfl) ?_
    refine Ev.neg (by decide) (Ev.bind (ref05_get_f a 2 (by omega)) ?_)
    unfold takeS
    rw [if_neg h]
    refine Ev.ite (fun h1 => ?_) (fun h1 => ?_)
    · rw [if_pos h1]
      have hg : getS s a 2 = ((getS s a 2).1, (getS s a 2).2.1, 0) := by rw [← h1]
      obtain ⟨_, h2, h3, h4, h5, h6, h7⟩ := getS_ok hg
      refine Ev.ite (fun h8 => ?_) (fun h8 => ?_)
      · rw [if_pos h8]; exact Ev.ok rfl
      · have h10 := getS2_lt hg
        rw [if_neg h8, wrap_eq (x := (getS s a 2).2.1 + (getS s a 2).1) (by omega) (by omega)]
        refine Ev.ite (fun h9 => ?_) (fun h9 => ?_)
        · rw [if_pos (by omega)]; exact Ev.ok rfl
        · rw [if_neg (show ¬ (getS s a 2).1 > (s.size : Int) - (getS s a 2).2.1 by omega)]
          exact Ev.pos (by omega) (Ev.pos (by omega) (Ev.pos (by omega) (Ev.ok rfl)))
    · rw [if_neg h1]; exact Ev.ok rfl
end Go.Proofs.Ytabapiofkipkoaa.Q

/- What octet's rows (and the document's) come to; lists of numbers that are the same; condition: numbers are of 64 bits. -/
set_option linter.unusedVariables false
namespace Go.Proofs.Ytabapiofkipkoaa.Q
open Go.RowKit Go.Proofs.Ytabapiofkipkoaa.F Go.Proofs.YtabapiofkipkoaaW.PrintWords Go.Proofs.YtabapiofkipkoaaW.PrintLast Go.Proofs.YtabapiofkipkoaaW.PrintMore

theorem put_size {n w : Int} : (putS n w).1.size ≤ 8 := by
  unfold putS
  by_cases hw : wide w
  · rw [if_pos hw]
    split
    · have := wide_nat hw
      show (bytesB _).size ≤ 8
      rw [bytesB_size, beL_length]; omega
    · exact Nat.zero_le _
  · rw [if_neg hw]; exact Nat.zero_le _
def rowA (acc : ByteArray) (r : ByteArray × Int) : ByteArray × Int := if r.2 = 0 then (acc ++ r.1, 0) else (⟨#[]⟩, r.2)
theorem rowA_cons {w x : Int} {xs : List Int} {acc : ByteArray} (h : (putS x w).2 = 0) : rowA (acc ++ (putS x w).1) (rowL w xs) = rowA acc (rowL w (x :: xs)) := by
  unfold rowA
  simp only [rowL, if_pos h]
  by_cases h2 : (rowL w xs).2 = 0
  · rw [if_pos h2, if_pos h2, if_pos rfl, ByteArray.append_assoc]
  · rw [if_neg h2, if_neg h2, if_neg h2]
theorem rowA_bad {w x : Int} {xs : List Int} {acc : ByteArray} (h : (putS x w).2 ≠ 0) : ((⟨#[]⟩ : ByteArray), (putS x w).2) = rowA acc (rowL w (x :: xs)) := by
  unfold rowA
  simp only [rowL, if_neg h]
theorem octet_row_go {w : Int} : ∀ (l : List Int) (acc : ByteArray), (∀ x ∈ l, x ≤ 9223372036854775807) → acc.size + 8 * l.length < 140737488355328 → Ev (fun k => octet_Row.go k w l acc) (rowA acc (rowL w l))
  | [], acc, _, _ => by
    refine Ev.ok ?_
    unfold rowA
    simp only [rowL, if_true]
    congr 1
    apply ext_list
    rw [data_append]; simp
  | x :: xs, acc, hx, hs => by
    simp only [octet_Row.go]
    refine Ev.bind (octet_put_f w (hx x List.mem_cons_self)) ?_
    have hp := put_size (n := x) (w := w)
    rw [List.length_cons] at hs
    refine Ev.ite (fun h => ?_) (fun h => Ev.ok (rowA_bad h))
    refine Ev.pos (by omega) ?_
    rw [← rowA_cons h]
    exact octet_row_go xs _ (fun y hy => hx y (List.mem_cons_of_mem _ hy)) (by rw [ByteArray.size_append]; omega)
theorem octet_row_f {l : List Int} (w : Int) (hx : ∀ x ∈ l, x ≤ 9223372036854775807) : Ev (fun k => octet_Row.f k w l) (rowS w l) := by
  unfold octet_Row.f rowS
  refine Ev.bindc (octet_wide_f w) ?_
  by_cases hw : wide w
  · rw [if_pos hw]
    refine Ev.pos (decide_eq_true hw) (Ev.ite (fun h => ?_) (fun h => ?_))
    · rw [if_pos (by omega)]; exact Ev.ok rfl
    · rw [if_neg (by omega)]
      have hb := octet_put_f (n := (l.length : Int)) 2 (by omega)
      rw [put2 (by omega)] at hb
      refine Ev.bind hb (Ev.pos rfl (Ev.pos ?_ ?_))
      · simp only [bytesB_size, beL_length]; omega
      · exact octet_row_go l _ hx (by simp only [bytesB_size, beL_length]; omega)
  · rw [if_neg hw]
    exact Ev.neg (fun x => hw (of_decide_eq_true x)) (Ev.ok rfl)
theorem ref05_row_l0 {l : List Int} {w : Int} (hx : ∀ x ∈ l, x ≤ 9223372036854775807) (hl : l.length ≤ 1000) (d : Nat) : ∀ (i : Nat) (acc : ByteArray), l.length - i = d → i ≤ l.length → acc.size ≤ 2 + 8 * i → Ev (fun k => backhaulref05_Row.l0 k w l acc (i : Int)) (rowA acc (rowL w (l.drop i))) := by
  induction d with
  | zero =>
    intro i acc hd hi hs
    refine Ev.step (fun k => by simp only [backhaulref05_Row.l0]; rfl) ?_
    refine Ev.neg (by omega) (Ev.ok ?_)
    rw [List.drop_eq_nil_of_le (by omega)]
    unfold rowA
    simp only [rowL, if_true]
    congr 1
    apply ext_list
    rw [data_append]; simp
  | succ d ih =>
    intro i acc hd hi hs
    have h : i < l.length := by omega
    refine Ev.step (fun k => by simp only [backhaulref05_Row.l0]; rfl) ?_
    refine Ev.pos (by omega) (Ev.pos (by omega) ?_)
    rw [rd_nat h, wrap_eq (by omega) (by omega), drop_cons h]
    refine Ev.bind (ref05_put_f w (hx _ (List.getElem_mem h))) ?_
    have hp := put_size (n := l[i]) (w := w)
    refine Ev.ite (fun h1 => ?_) (fun h1 => Ev.ok (rowA_bad h1))
    refine Ev.pos (by omega) ?_
    rw [← rowA_cons h1]
    exact ih (i + 1) _ (by omega) (by omega) (by rw [ByteArray.size_append]; omega)
theorem ref05_row_f {l : List Int} (w : Int) (hx : ∀ x ∈ l, x ≤ 9223372036854775807) : Ev (fun k => backhaulref05_Row.f k w l) (rowS w l) := by
  unfold backhaulref05_Row.f rowS
  refine Ev.bindc (ref05_wide_f w) ?_
  by_cases hw : wide w
  · rw [if_pos hw]
    refine Ev.pos (decide_eq_true hw) (Ev.ite (fun h => ?_) (fun h => ?_))
    · rw [if_pos (by omega)]; exact Ev.ok rfl
    · rw [if_neg (by omega)]
      have hb := ref05_put_f (n := (l.length : Int)) 2 (by omega)
      rw [put2 (by omega)] at hb
      exact Ev.bind hb (ref05_row_l0 hx (by omega) l.length 0 _ (by omega) (by omega) (by simp only [bytesB_size, beL_length]; omega))
  · rw [if_neg hw]
    exact Ev.neg (fun x => hw (of_decide_eq_true x)) (Ev.ok rfl)
def unrowA (acc : List Int) (r : List Int × Int × Int) : List Int × Int × Int := if r.2.2 = 0 then (acc ++ r.1, r.2.1, 0) else ([], 0, r.2.2)
theorem unrowA_cons {s : ByteArray} {w t : Int} {n : Nat} {acc : List Int} (h : (getS s t w).2.2 = 0) : unrowA (acc ++ [(getS s t w).1]) (unrowL s w n (getS s t w).2.1) = unrowA acc (unrowL s w (n + 1) t) := by
  unfold unrowA
  simp only [unrowL, if_pos h]
  by_cases h2 : (unrowL s w n (getS s t w).2.1).2.2 = 0
  · rw [if_pos h2, if_pos h2, if_pos h2]; simp
  · rw [if_neg h2, if_neg h2, if_neg h2]
theorem unrowA_bad {s : ByteArray} {w t : Int} {n : Nat} {acc : List Int} (h : (getS s t w).2.2 ≠ 0) : (([] : List Int), (0 : Int), (getS s t w).2.2) = unrowA acc (unrowL s w (n + 1) t) := by
  unfold unrowA
  simp only [unrowL, if_neg h]
theorem unrowA_nil {r : List Int × Int × Int} (h : r.2.2 ≠ 0 → r = ([], 0, r.2.2)) : unrowA [] r = r := by
  unfold unrowA
  by_cases h2 : r.2.2 = 0
  · rw [if_pos h2, List.nil_append, ← h2]
  · rw [if_neg h2]; exact (h h2).symm
theorem unrowL_bad {s : ByteArray} {w : Int} : ∀ (n : Nat) (t : Int), (unrowL s w n t).2.2 ≠ 0 → unrowL s w n t = ([], 0, (unrowL s w n t).2.2)
  | 0, t, h => absurd rfl h
  | n + 1, t, h => by
    simp only [unrowL] at h ⊢
    by_cases h1 : (getS s t w).2.2 = 0
    · rw [if_pos h1] at h ⊢
      by_cases h2 : (unrowL s w n (getS s t w).2.1).2.2 = 0
      · rw [if_pos h2] at h; exact absurd h2 h
      · rw [if_neg h2]
    · rw [if_neg h1]
theorem octet_unrow_l0 {s : ByteArray} {w : Int} {n : Nat} (hs : s.size ≤ 4611686018427387904) (hn : n ≤ 1000) (d : Nat) : ∀ (i : Nat) (acc : List Int) (t : Int), n - i = d → i ≤ n → acc.length ≤ i → Ev (fun k => octet_Unrow.l0 k s w acc t (n : Int) (i : Int)) (unrowA acc (unrowL s w d t)) := by
  induction d with
  | zero =>
    intro i acc t hd hi ha
    refine Ev.step (fun k => by simp only [octet_Unrow.l0]; rfl) ?_
    refine Ev.neg (by omega) (Ev.ok ?_)
    unfold unrowA
    simp [unrowL]
  | succ d ih =>
    intro i acc t hd hi ha
    refine Ev.step (fun k => by simp only [octet_Unrow.l0]; rfl) ?_
    rw [wrap_eq (x := (i : Int) + 1) (by omega) (by omega)]
    refine Ev.pos (by omega) (Ev.bind (octet_get_f t w (by omega)) ?_)
    refine Ev.ite (fun h1 => Ev.pos (by omega) ?_) (fun h1 => Ev.ok (unrowA_bad h1))
    rw [← unrowA_cons h1]
    exact ih (i + 1) _ _ (by omega) (by omega) (by simp only [List.length_append, List.length_cons, List.length_nil]; omega)
theorem ref05_unrow_l0 {s : ByteArray} {w : Int} {n : Nat} (hs : s.size ≤ 4611686018427387904) (hn : n ≤ 1000) (d : Nat) : ∀ (i : Nat) (acc : List Int) (t : Int), n - i = d → i ≤ n → acc.length ≤ i → Ev (fun k => backhaulref05_Unrow.l0 k s w (n : Int) t acc (i : Int)) (unrowA acc (unrowL s w d t)) := by
  induction d with
  | zero =>
    intro i acc t hd hi ha
    refine Ev.step (fun k => by simp only [backhaulref05_Unrow.l0]; rfl) ?_
    refine Ev.neg (by omega) (Ev.ok ?_)
    unfold unrowA
    simp [unrowL]
  | succ d ih =>
    intro i acc t hd hi ha
    refine Ev.step (fun k => by simp only [backhaulref05_Unrow.l0]; rfl) ?_
    rw [wrap_eq (x := (i : Int) + 1) (by omega) (by omega)]
    refine Ev.pos (by omega) (Ev.bind (ref05_get_f t w (by omega)) ?_)
    refine Ev.ite (fun h1 => Ev.pos (by omega) ?_) (fun h1 => Ev.ok (unrowA_bad h1))
    rw [← unrowA_cons h1]
    exact ih (i + 1) _ _ (by omega) (by omega) (by simp only [List.length_append, List.length_cons, List.length_nil]; omega)
theorem getS_bad {s : ByteArray} {a w : Int} (h : (getS s a w).2.2 ≠ 0) : getS s a w = (0, 0, (getS s a w).2.2) := by
  unfold getS at h ⊢
  split
  · rename_i h1
    rw [if_pos h1] at h
    split
    · rfl
    · rename_i h2
      rw [if_neg h2] at h
      split
      · rfl
      · rename_i h3
        rw [if_neg h3] at h
        exact absurd rfl h
  · rfl
theorem octet_unrow_f {s : ByteArray} (a w m : Int) (hs : s.size ≤ 4611686018427387904) : Ev (fun k => octet_Unrow.f k s a w m) (unrowS s a w m) := by
  have bad : (¬ wide w ∨ a < 0 ∨ a > s.size ∨ m < 0) → Ev (fun k => octet_Unrow.j0 k s a w m true) (unrowS s a w m) := by
    intro h
    refine Ev.step (fun k => by simp only [octet_Unrow.j0]; rfl) ?_
    refine Ev.pos trivial (Ev.ok ?_)
    unfold unrowS
    rw [if_pos h]
  unfold octet_Unrow.f
  refine Ev.bindc (octet_wide_f w) ?_
  by_cases hw : wide w
  · refine Ev.pos (decide_eq_true hw) (Ev.bindc (octet_inside_f s a) ?_)
    by_cases ha : 0 ≤ a ∧ a ≤ s.size
    · refine Ev.pos (decide_eq_true ha) ?_
      by_cases hm : m < 0
      · rw [decide_eq_true hm]; exact bad (.inr (.inr (.inr hm)))
      · rw [decide_eq_false hm]
        have e : unrowS s a w m = if (getS s a 2).2.2 = 0 then (if (getS s a 2).1 > m ∨ (getS s a 2).1 > 1000 then ([], 0, 3) else unrowL s w (getS s a 2).1.toNat (getS s a 2).2.1) else ([], 0, (getS s a 2).2.2) := by
          unfold unrowS
          rw [if_neg (fun x => by rcases x with x | x | x | x; exact x hw; omega; omega; omega)]
        rw [e]
        refine Ev.step (fun k => by simp only [octet_Unrow.j0]; rfl) ?_
        refine Ev.neg (by decide) (Ev.bind (octet_get_f a 2 (by omega)) ?_)
        refine Ev.ite (fun h1 => ?_) (fun h1 => ?_)
        · rw [if_pos h1]
          have hg : getS s a 2 = ((getS s a 2).1, (getS s a 2).2.1, 0) := by rw [← h1]
          obtain ⟨_, h2, h3, h4, h5, h6, h7⟩ := getS_ok hg
          have hmn : mn m 1000 = if 1000 < m then 1000 else m := rfl
          refine Ev.ite (fun h8 => ?_) (fun h8 => ?_)
          · rw [if_pos (by rw [hmn] at h8; split at h8 <;> omega)]; exact Ev.ok rfl
          · have h9 : ¬ ((getS s a 2).1 > m ∨ (getS s a 2).1 > 1000) := by rw [hmn] at h8; split at h8 <;> omega
            rw [if_neg h9]
            have := octet_unrow_l0 (w := w) (n := (getS s a 2).1.toNat) hs (by omega) (getS s a 2).1.toNat 0 [] (getS s a 2).2.1 (by omega) (by omega) (by simp)
            rw [Int.toNat_of_nonneg h7, unrowA_nil (unrowL_bad _ _)] at this
            exact this
        · rw [if_neg h1]; exact Ev.ok rfl
    · refine Ev.neg (fun x => ha (of_decide_eq_true x)) (bad (by omega))
  · exact Ev.neg (fun x => hw (of_decide_eq_true x)) (bad (.inl hw))
theorem ref05_unrow_f {s : ByteArray} (a w m : Int) (hs : s.size ≤ 4611686018427387904) : Ev (fun k => backhaulref05_Unrow.f k s a w m) (unrowS s a w m) := by
  have bad : (¬ wide w ∨ a < 0 ∨ a > s.size ∨ m < 0) → Ev (fun k => backhaulref05_Unrow.j0 k s a w m true) (unrowS s a w m) := by
    intro h
    refine Ev.step (fun k => by simp only [backhaulref05_Unrow.j0]; rfl) ?_
    refine Ev.pos trivial (Ev.ok ?_)
    unfold unrowS
    rw [if_pos h]
  unfold backhaulref05_Unrow.f
  refine Ev.bindc (ref05_wide_f w) ?_
  by_cases hw : wide w
  · refine Ev.pos (decide_eq_true hw) (Ev.ite (fun h => bad (.inr (.inl h))) (fun h => Ev.ite (fun h' => bad (.inr (.inr (.inl h')))) (fun h' => ?_)))
    by_cases hm : m < 0
    · rw [decide_eq_true hm]; exact bad (.inr (.inr (.inr hm)))
    · rw [decide_eq_false hm]
      have e : unrowS s a w m = if (getS s a 2).2.2 = 0 then (if (getS s a 2).1 > m ∨ (getS s a 2).1 > 1000 then ([], 0, 3) else unrowL s w (getS s a 2).1.toNat (getS s a 2).2.1) else ([], 0, (getS s a 2).2.2) := by
        unfold unrowS
        rw [if_neg (fun x => by rcases x with x | x | x | x; exact x hw; omega; omega; omega)]
      rw [e]
      refine Ev.step (fun k => by simp only [backhaulref05_Unrow.j0]; rfl) ?_
      refine Ev.neg (by decide) (Ev.bind (ref05_get_f a 2 (by omega)) ?_)
      refine Ev.ite (fun h1 => ?_) (fun h1 => ?_)
      · rw [if_pos h1]
        have hg : getS s a 2 = ((getS s a 2).1, (getS s a 2).2.1, 0) := by rw [← h1]
        obtain ⟨_, h2, h3, h4, h5, h6, h7⟩ := getS_ok hg
        have out : ∀ b : Bool, (b = true ↔ ((getS s a 2).1 > m ∨ (getS s a 2).1 > 1000)) → Ev (fun k => backhaulref05_Unrow.j1 k s w (getS s a 2).1 (getS s a 2).2.1 b) (if (getS s a 2).1 > m ∨ (getS s a 2).1 > 1000 then ([], 0, 3) else unrowL s w (getS s a 2).1.toNat (getS s a 2).2.1) := by
          intro b hb
          refine Ev.step (fun k => by simp only [backhaulref05_Unrow.j1]; rfl) ?_
          refine Ev.ite (fun h8 => ?_) (fun h8 => ?_)
          · rw [if_pos (hb.1 h8)]; exact Ev.ok rfl
          · have h9 : ¬ ((getS s a 2).1 > m ∨ (getS s a 2).1 > 1000) := fun x => h8 (hb.2 x)
            rw [if_neg h9]
            have := ref05_unrow_l0 (w := w) (n := (getS s a 2).1.toNat) hs (by omega) (getS s a 2).1.toNat 0 [] (getS s a 2).2.1 (by omega) (by omega) (by simp)
            rw [Int.toNat_of_nonneg h7, unrowA_nil (unrowL_bad _ _)] at this
            exact this
        refine Ev.ite (fun h8 => out true (by simp [h8])) (fun h8 => out _ (by simp; omega))
      · rw [if_neg h1]; exact Ev.ok rfl
  · exact Ev.neg (fun x => hw (of_decide_eq_true x)) (bad (.inl hw))
theorem same_ints_l0 {a b : List Int} (hl : a.length < 9223372036854775807) (hab : a.length = b.length) (d : Nat) : ∀ i : Nat, a.length - i = d → i ≤ a.length →
    Ev (fun k => backhaulref02_SameInts.l0 k a b (i : Int)) (decide (a.drop i = b.drop i)) := by
  induction d with
  | zero =>
    intro i hd hi
    refine Ev.step (fun k => by simp only [backhaulref02_SameInts.l0]; rfl) ?_
    refine Ev.neg (by omega) (Ev.ok ?_)
    rw [List.drop_eq_nil_of_le (by omega), List.drop_eq_nil_of_le (by omega)]; simp
  | succ d ih =>
    intro i hd hi
    have h : i < a.length := by omega
    have h' : i < b.length := by omega
    refine Ev.step (fun k => by simp only [backhaulref02_SameInts.l0]; rfl) ?_
    refine Ev.pos (by omega) (Ev.pos (by omega) (Ev.pos (by omega) ?_))
    rw [rd_nat h, rd_nat h', drop_cons h, drop_cons h']
    refine Ev.ite (fun he => ?_) (fun he => Ev.ok ?_)
    · rw [wrap_eq (by omega) (by omega)]
      refine Ev.eq (ih (i + 1) (by omega) (by omega)) ?_
      rw [he]
      exact decide_eq_decide.2 ⟨fun e => by rw [e], fun e => by injection e⟩
    · exact (decide_eq_false (fun e => he (by injection e))).symm
theorem same_ints_f {a b : List Int} (hl : a.length < 9223372036854775807) : Ev (fun k => backhaulref02_SameInts.f k a b) (decide (a = b)) := by
  unfold backhaulref02_SameInts.f
  refine Ev.ite (fun h => ?_) (fun h => Ev.ok ?_)
  · exact same_ints_l0 hl (by omega) a.length 0 (by omega) (by omega)
  · have : ¬ a = b := fun e => h (by rw [e])
    simp [this]
end Go.Proofs.Ytabapiofkipkoaa.Q

/- OctetRows: any row has the document's bytes in any width, or none; at any place of any bytes its row stands, or none; no condition. -/
namespace Go.Proofs.Ytabapiofkipkoaa.Pure
open Go.RowKit Go.Proofs.Ytabapiofkipkoaa.F Go.Proofs.Ytabapiofkipkoaa.Q Go.Proofs.YtabapiofkipkoaaW.PrintWords Go.Proofs.YtabapiofkipkoaaW.PrintLast

theorem unrowL_len {s : ByteArray} {w : Int} : ∀ (n : Nat) (t : Int), (unrowL s w n t).1.length ≤ n
  | 0, t => by simp [unrowL]
  | n + 1, t => by
    have ih := unrowL_len (s := s) (w := w) n (getS s t w).2.1
    simp only [unrowL]
    split
    · split
      · simp only [List.length_cons]; omega
      · simp
    · simp
theorem unrowS_len {s : ByteArray} {a w m : Int} : (unrowS s a w m).1.length ≤ 1000 := by
  unfold unrowS
  split
  · simp
  · split
    · split
      · simp
      · have := unrowL_len (s := s) (w := w) (getS s a 2).1.toNat (getS s a 2).2.1
        omega
    · simp
theorem OctetRows : backhaullaw05_OctetRows.Pure := by
  intro l s a w m hl hs ha hw hm
  refine Ev.rounds (r := true) ?_
  unfold backhaullaw05_OctetRows.f
  have hx : ∀ x ∈ l, x ≤ 9223372036854775807 := fun x h => (i64_bounds (hl.2 x h)).2
  have out : ∀ b : Bool, (b = true ∨ s.size ≤ 3000) → Ev (fun k => backhaullaw05_OctetRows.j0 k l s b a w m) true := by
    intro b hb
    refine Ev.step (fun k => by simp only [backhaullaw05_OctetRows.j0]; rfl) ?_
    refine Q.Ev.ite (fun h => Q.Ev.const rfl) (fun h => ?_)
    have h2 := hb.resolve_left h
    refine Ev.bind (octet_row_f w hx) (Ev.bind (ref05_row_f w hx) (Ev.bind (octet_unrow_f a w m (by omega)) (Ev.bind (ref05_unrow_f a w m (by omega)) ?_)))
    refine Q.Ev.pos rfl (Q.Ev.pos rfl ?_)
    exact Ev.bind (same_ints_f (by have := unrowS_len (s := s) (a := a) (w := w) (m := m); omega)) (Q.Ev.pos (by simp) (Q.Ev.pos rfl (Q.Ev.pos rfl (Q.Ev.const rfl))))
  refine Q.Ev.ite (fun h => out true (.inl rfl)) (fun h => out _ ?_)
  by_cases h2 : (s.size : Int) > 3000
  · exact .inl (decide_eq_true h2)
  · exact .inr (by omega)
end Go.Proofs.Ytabapiofkipkoaa.Pure

-- What an argument's reading as data says of its cells, kind by kind: for the rows of laws. (A template: seat's name for Ytabapiofkipkoaa.)
set_option linter.unusedVariables false
set_option linter.unusedSimpArgs false
namespace Go.Proofs.YtabapiofkipkoaaX
open Go.RowKit Go.Proofs.YtabapiofkipkoaaW.PrintWords Go.Proofs.YtabapiofkipkoaaW.PrintLast Go.Proofs.YtabapiofkipkoaaW.PrintMore

/-- Whatever reads as data of type t is of kind k, and is ok. -/
def Opens {α : Type} (P : Program) (t : TypeId) (k : Kd α) (Ok : α → Prop) : Prop :=
  ∀ {H : Type} {enc : TypeId × Value → H} {w : World} {base : Nat} {spare : Nat → Bool} {held : Bool} {fuel : Nat} {cs : List Value} {x : DataW H × List MemPlace},
    DataW.trod enc P w base spare held fuel t cs = some x → ∃ a : α, k.K w a cs ∧ Ok a

theorem Opens.int {P : Program} {t : TypeId} {k : IntKind} (ht : P.underlying t = some (.int k)) : Opens P t (Kd.int k) (fun a => (Lit.int k a).wf = true) := by
  intro H enc w base spare held fuel cs x h
  obtain ⟨n, rfl, _, hw⟩ := DataW.trod_int ht h
  exact ⟨n, rfl, hw⟩
theorem Opens.bool {P : Program} {t : TypeId} (ht : P.underlying t = some .bool) : Opens P t Kd.bool (fun _ => True) := by
  intro H enc w base spare held fuel cs x h
  obtain ⟨n, rfl, _⟩ := DataW.trod_bool ht h
  exact ⟨n, rfl, trivial⟩
theorem Opens.string {P : Program} {t : TypeId} (ht : P.underlying t = some .string) : Opens P t Kd.string (fun a => a.size ≤ maxLen) := by
  intro H enc w base spare held fuel cs x h
  obtain ⟨s, rfl, _, hw⟩ := DataW.trod_string ht h
  exact ⟨s, rfl, hw⟩
theorem list_of {α : Type} {p : Nat → α → Prop} : ∀ n, (∀ i, i < n → ∃ a, p i a) → ∃ xs : List α, xs.length = n ∧ ∀ i a, xs[i]? = some a → p i a
  | 0, _ => ⟨[], rfl, fun i a h => by simp at h⟩
  | n + 1, h => by
    obtain ⟨xs, hl, hx⟩ := list_of n (fun i hi => h i (by omega))
    obtain ⟨a, ha⟩ := h n (by omega)
    refine ⟨xs ++ [a], by simp [hl], fun i b hb => ?_⟩
    rcases Nat.lt_or_ge i xs.length with h1 | h1
    · rw [List.getElem?_append_left h1] at hb
      exact hx i b hb
    · rw [List.getElem?_append_right h1] at hb
      have h2 : i - xs.length = 0 := by
        have := (List.getElem?_eq_some_iff.1 hb).1
        simp at this; omega
      rw [h2] at hb
      have : a = b := by simpa using hb
      subst this
      have : i = n := by omega
      rw [this]; exact ha
theorem Opens.slice {α : Type} {P : Program} {t e : TypeId} {k : Kd α} {Ok : α → Prop} (ht : P.underlying t = some (.slice e)) (hc : P.cellsOf e = k.sz) (h : Opens P e k Ok) :
    Opens P t (Kd.slice e k) (fun xs => xs.length ≤ maxLen ∧ ∀ x ∈ xs, Ok x) := by
  intro H enc w base spare held fuel cs x hx
  rcases Go.Deep.open_slice ht hx with ⟨rfl, rfl⟩ | ⟨a, len, cap, m, n, D, Pl, rfl, hb, hl, hm, hmm, rfl, hel⟩
  · exact ⟨[], ⟨none, 0, rfl, by simp, rfl, by simp, fun h => absurd h (by simp)⟩, by simp [maxLen], by simp⟩
  · have hlm : len ≤ m := by rw [hmm]; split <;> omega
    obtain ⟨xs, hlen, hxs⟩ := list_of (p := fun i (a' : α) => ∃ cs', w.cells? base (a.add (i * P.cellsOf e)) (P.cellsOf e) = some cs' ∧ k.K w a' cs' ∧ Ok a') len (fun i hi => by
      obtain ⟨cs', h1, h2⟩ := hel i (by omega)
      obtain ⟨a', h3, h4⟩ := h h2
      exact ⟨a', cs', h1, h3, h4⟩)
    have hlm2 : len ≤ maxLen := by omega
    refine ⟨xs, ⟨some a, cap, by rw [hlen], by rw [hlen]; exact hl, rfl, by rw [hlen]; simpa [maxLen] using hlm2, fun _ => ⟨a, rfl, fun j p hj => ?_⟩⟩, by rw [hlen]; exact hlm2, fun y hy => ?_⟩
    · obtain ⟨cs', h1, h2, _⟩ := hxs j p hj
      refine ⟨cs', k.K_len h2, h2, fun i u hu => ?_⟩
      obtain ⟨_, _, h3⟩ := World.cells?_some h1
      have h4 := h3 i (by have := (List.getElem?_eq_some_iff.1 hu).1; have := k.K_len h2; omega)
      rw [← hc, ← Go.Proofs.YtabapiofkipkoaaW.PrintWords.add_add]
      rw [← hu]; exact h4
    · obtain ⟨i, hi, rfl⟩ := List.mem_iff_getElem.1 hy
      obtain ⟨_, _, _, h3⟩ := hxs i _ (List.getElem?_eq_getElem hi)
      exact h3
theorem field_reads {H : Type} {enc : TypeId × Value → H} {P : Program} {w : World} {base : Nat} {spare : Nat → Bool} {held : Bool} {fuel : Nat} {t : TypeId} {cs : List Value} {x : DataW H × List MemPlace} {fs : Array Field}
    (ht : P.underlying t = some (.struct fs)) (h : DataW.trod enc P w base spare held fuel t cs = some x) :
    cs.length = P.cellsOf t ∧ ∃ n, ∀ (i : Nat) (f : Field), fs[i]? = some f → ∃ y, DataW.trod enc P w base spare held n f.type ((cs.drop f.offset).take (P.cellsOf f.type)) = some y := by
  obtain ⟨xs, n, _, _, hl, hx, hf⟩ := DataW.trod_struct ht h
  refine ⟨hl, n, fun i f hif => ?_⟩
  rw [hf i f hif]
  have hi := (Array.getElem?_eq_some_iff.1 hif).1
  exact ⟨_, List.getElem?_eq_getElem (by rw [hx]; exact hi)⟩
theorem cell_reads {H : Type} {enc : TypeId × Value → H} {P : Program} {w : World} {base : Nat} {spare : Nat → Bool} {held : Bool} {fuel : Nat} {t e : TypeId} {m : Nat} {cs : List Value} {x : DataW H × List MemPlace}
    (ht : P.underlying t = some (.array m e)) (h : DataW.trod enc P w base spare held fuel t cs = some x) :
    cs.length = P.cellsOf t ∧ ∃ n, ∀ (i : Nat), i < m → ∃ y, DataW.trod enc P w base spare held n e ((cs.drop (i * P.cellsOf e)).take (P.cellsOf e)) = some y := by
  obtain ⟨xs, n, _, _, hl, hx, hf⟩ := DataW.trod_array ht h
  refine ⟨hl, n, fun i hi => ?_⟩
  rw [hf i hi]
  exact ⟨_, List.getElem?_eq_getElem (by rw [hx]; exact hi)⟩
theorem okWide_array' {P : Program} {w : World} {r : Reach} {base : Nat} {t e : TypeId} {m : Nat} {v : Value} (ht : P.underlying t = some (.array m e)) (h : Value.okWide P w r base t v) : ∃ cs, v = .agg cs ∧ cs.size = P.cellsOf t := by
  simp only [Value.okWide, ht] at h
  obtain ⟨cs, h1, h2, _⟩ := h
  exact ⟨cs, h1, h2⟩
/-- The cells of a slice's value. -/
theorem slice_cells {α : Type} {k : Kd α} {e : Nat} {w : World} {xs : List α} {v : Value} (h : (Kd.slice e k).K w xs [v]) : ∃ A c, v = .slice A xs.length c ∧ xs.length ≤ c ∧ k.C w A xs.length xs := by
  obtain ⟨A, c, he, hl, hc⟩ := h
  injection he with he
  exact ⟨A, c, he, hl, hc⟩
/-! The program's head, read once: a long text's signs, told as a list. -/
theorem band {a b : Bool} (h1 : a = true) (h2 : b = true) : (a && b) = true := by rw [h1, h2]; rfl
theorem mayEnter_of {P : Program} {L c : List Char} {rest : List (List Char)} (h : P.initOrder.toList = L) (h1 : behindMainWord (wordsSigns L) = c :: rest) (h2 : ((stripLifts liftWords (c :: rest)).2.head? == some "cut".toList) = true) (h3 : P.laysLater = false) (h4 : P.bearsReflect = false) (h5 : (stripLifts liftWords (c :: rest)).1 = []) (h6 : P.doorFits [] = true) : P.mayEnter = true := by
  unfold Program.mayEnter
  rw [h, h1]
  dsimp only
  rw [h2, h3, h4, h5, h6]
  simp
theorem make_of {P : Program} {L : List Char} {rest : List (List Char)} (h : P.initOrder.toList = L) (h1 : behindMainWord (wordsSigns L) = "cut".toList :: rest) : P.make = some .cut := by
  unfold Program.make
  rw [h, h1]
  dsimp only
  rw [if_neg (by decide), if_pos (by simp)]
end Go.Proofs.YtabapiofkipkoaaX

-- The program's head, as a list of signs. (A template.)
set_option maxRecDepth 10000
namespace Go.Proofs.Ytabapiofkipkoaa.Join
open Go.Proofs.YtabapiofkipkoaaX
def initSigns : List Char := ['h', 'a', 'r', 'n', 'e', 's', 's', ' ', 'e', '7', 'd', '1', 'f', '9', '4', '3', '3', 'd', 'a', '9', 'f', 'a', '3', '3', 'a', '2', 'c', 'f', '8', '8', '8', '5', 'f', '1', '3', 'd', 'b', 'f', '0', 'f', '7', '5', '1', '0', '0', 'f', 'd', '3', 'd', 'd', '0', '4', 'a', 'd', '7', 'f', '7', '6', '6', 'd', '5', '0', 'f', '6', '7', '6', 'a', '8', 'e', 'd', '3', '2', ' ', 'c', 'u', 't', ' ', 'a', 't', ' ', 'b', 'a', 'c', 'k', 'h', 'a', 'u', 'l', '/', 'b', 'a', 'c', 'k', 'h', 'a', 'u', 'l', 'l', 'a', 'w', '1', '3', '.', 'R', 'o', 'w', 's', 'F', 'i', 'n', 'd', ' ', 'b', 'a', 'c', 'k', 'h', 'a', 'u', 'l', '/', 'b', 'a', 'c', 'k', 'h', 'a', 'u', 'l', 'l', 'a', 'w', '1', '3', '.', 'R', 'o', 'w', 's', 'L', 'i', 's', 't', 's', ' ', 'b', 'a', 'c', 'k', 'h', 'a', 'u', 'l', '/', 'b', 'a', 'c', 'k', 'h', 'a', 'u', 'l', 'l', 'a', 'w', '1', '3', '.', 'R', 'o', 'w', 's', 'T', 'u', 'r', 'n', ' ', 'b', 'a', 'c', 'k', 'h', 'a', 'u', 'l', '/', 'b', 'a', 'c', 'k', 'h', 'a', 'u', 'l', 'l', 'a', 'w', '1', '3', '.', 'R', 'o', 'w', 's', 'O', 'r', 'd', 'e', 'r', ' ', 'b', 'a', 'c', 'k', 'h', 'a', 'u', 'l', '/', 'b', 'a', 'c', 'k', 'h', 'a', 'u', 'l', 'l', 'a', 'w', '0', '5', '.', 'O', 'c', 't', 'e', 't', 'N', 'u', 'm', 'b', 'e', 'r', 's', ' ', 'b', 'a', 'c', 'k', 'h', 'a', 'u', 'l', '/', 'b', 'a', 'c', 'k', 'h', 'a', 'u', 'l', 'l', 'a', 'w', '0', '5', '.', 'O', 'c', 't', 'e', 't', 'T', 'e', 'x', 't', 's', ' ', 'b', 'a', 'c', 'k', 'h', 'a', 'u', 'l', '/', 'b', 'a', 'c', 'k', 'h', 'a', 'u', 'l', 'l', 'a', 'w', '0', '5', '.', 'O', 'c', 't', 'e', 't', 'R', 'o', 'w', 's', ' ', 'b', 'a', 'c', 'k', 'h', 'a', 'u', 'l', '/', 'b', 'a', 'c', 'k', 'h', 'a', 'u', 'l', 'l', 'a', 'w', '0', '5', '.', 'O', 'c', 't', 'e', 't', 'B', 'a', 'c', 'k', ' ', 'b', 'a', 'c', 'k', 'h', 'a', 'u', 'l', '/', 'b', 'a', 'c', 'k', 'h', 'a', 'u', 'l', 'l', 'a', 'w', '0', '5', '.', 'O', 'c', 't', 'e', 't', 'C', 'a', 'n', 'o', 'n', ' ', 'b', 'a', 'c', 'k', 'h', 'a', 'u', 'l', '/', 'b', 'a', 'c', 'k', 'h', 'a', 'u', 'l', 'l', 'a', 'w', '0', '5', '.', 'O', 'c', 't', 'e', 't', 'O', 'r', 'd', 'e', 'r', ' ', 'b', 'a', 'c', 'k', 'h', 'a', 'u', 'l', '/', 'b', 'a', 'c', 'k', 'h', 'a', 'u', 'l', 'l', 'a', 'w', '0', '1', '.', 'S', 'e', 'r', 'i', 'a', 'l', 'R', 'u', 'n', 'e', 's', ' ', 'b', 'a', 'c', 'k', 'h', 'a', 'u', 'l', '/', 'b', 'a', 'c', 'k', 'h', 'a', 'u', 'l', 'l', 'a', 'w', '0', '1', '.', 'S', 'e', 'r', 'i', 'a', 'l', 'T', 'e', 'x', 't', 's', ' ', 'b', 'a', 'c', 'k', 'h', 'a', 'u', 'l', '/', 'b', 'a', 'c', 'k', 'h', 'a', 'u', 'l', 'l', 'a', 'w', '0', '1', '.', 'S', 'e', 'r', 'i', 'a', 'l', 'R', 'o', 'w', 's', ' ', 'b', 'a', 'c', 'k', 'h', 'a', 'u', 'l', '/', 'b', 'a', 'c', 'k', 'h', 'a', 'u', 'l', 'l', 'a', 'w', '0', '1', '.', 'S', 'e', 'r', 'i', 'a', 'l', 'F', 'o', 'l', 'd', 's', ' ', 'b', 'a', 'c', 'k', 'h', 'a', 'u', 'l', '/', 'b', 'a', 'c', 'k', 'h', 'a', 'u', 'l', 'l', 'a', 'w', '0', '1', '.', 'S', 'e', 'r', 'i', 'a', 'l', 'M', 'a', 'r', 'k', 's']
theorem initText : Try.pinned.checked.prog.initOrder = String.ofList initSigns := by kernel_rfl
theorem initList : Try.pinned.checked.prog.initOrder.toList = initSigns := (congrArg String.toList initText).trans String.toList_ofList
theorem mayEnter_is : Try.pinned.checked.prog.mayEnter = true :=
  mayEnter_of (L := initSigns) (c := "cut".toList) (rest := (behindMainWord (wordsSigns initSigns)).tail) initList (by kernel_rfl) (by kernel_rfl) (by kernel_rfl) (by kernel_rfl) (by kernel_rfl) (by kernel_rfl)
theorem make_is : Try.pinned.checked.prog.make = some .cut :=
  make_of (L := initSigns) (rest := (behindMainWord (wordsSigns initSigns)).tail) initList (by kernel_rfl)
theorem lifts_is : Try.pinned.checked.prog.liftsFinal = false := by
  unfold Program.liftsFinal Program.headLifts
  rw [initList]
  kernel_rfl
end Go.Proofs.Ytabapiofkipkoaa.Join

namespace Go.Proofs.Ytabapiofkipkoaa.octetRows
open Go.ChangeShapes Go.WideShapes Go.ChangeAt Go.RowKit Go.Proofs.YtabapiofkipkoaaX Go.Proofs.Ytabapiofkipkoaa.F Go.Proofs.YtabapiofkipkoaaW.PrintWords Go.Proofs.YtabapiofkipkoaaW.PrintLast Go.Proofs.YtabapiofkipkoaaW.PrintMore
open Go.ChangeMaps (open_string shut_string)
set_option linter.unusedVariables false
set_option linter.unusedSimpArgs false
theorem own : ownKnob Try.prog.godebug = none := by kernel_rfl
theorem laidOut : laidOutB Try.prog = true := by kernel_rfl
set_option maxRecDepth 100000 in
theorem opens_k65 : Opens Try.prog 65 k65 (fun x => ((Lit.int .i64 x.f0).wf = true ∧ (Lit.int .i64 x.f1).wf = true ∧ (Lit.int .i64 x.f2).wf = true)) := by
  intro H enc w base spare held fuel cs x h
  obtain ⟨hl, n, hf⟩ := cell_reads Try.underlying65 h
  have hl2 : cs.length = 3 := hl.trans (by kernel_rfl)
  match cs, hl2 with
  | [c0, c1, c2], _ =>
    obtain ⟨y0, h0⟩ := hf 0 (by decide)
    have e0 : Try.prog.cellsOf 3 = 1 := by kernel_rfl
    simp only [e0] at h0
    obtain ⟨a0, k0, o0⟩ := (Opens.int Try.underlying3) h0
    have k0' : ((Kd.int .i64)).K w a0 [c0] := k0
    obtain ⟨y1, h1⟩ := hf 1 (by decide)
    have e1 : Try.prog.cellsOf 3 = 1 := by kernel_rfl
    simp only [e1] at h1
    obtain ⟨a1, k1, o1⟩ := (Opens.int Try.underlying3) h1
    have k1' : ((Kd.int .i64)).K w a1 [c1] := k1
    obtain ⟨y2, h2⟩ := hf 2 (by decide)
    have e2 : Try.prog.cellsOf 3 = 1 := by kernel_rfl
    simp only [e2] at h2
    obtain ⟨a2, k2, o2⟩ := (Opens.int Try.underlying3) h2
    have k2' : ((Kd.int .i64)).K w a2 [c2] := k2
    exact ⟨(⟨a0, a1, a2⟩ : S65), ⟨[c0], [c1, c2], rfl, k0', ⟨[c1], [c2], rfl, k1', k2'⟩⟩, ⟨o0, o1, o2⟩⟩
set_option maxRecDepth 100000 in
theorem lifted (os : Os) (started : os.Started) (H : Type) (enc : TypeId × Value → H) :
    ReturnsInHanded {} Try.checked os 9 .any (Rows.octetRowsSpec.pre6 enc Try.prog Try.f9 Rows.octetRowsRow.domain false) (Rows.octetRowsSpec.post enc Try.prog Try.f9 false true false false) := by
  refine returnsInHanded_of_change_sized (C := Try.checked) own started (by kernel_rfl) Try.func9
    (ChangeSpec.witness6 (enc := enc) (C := Try.checked) false ⟨#[], #[.slice none 0 0, .string ByteArray.empty, .agg #[.int .i64 0, .int .i64 0, .int .i64 0]], []⟩ 8 (by kernel_rfl) (by kernel_rfl) (by kernel_rfl) (by kernel_rfl)) ?_
  intro W base args ds gs before hval0 hW hcnd hsz0 _
  have hval : ∀ (j : Nat) t v, Try.f9.params[j]? = some t → args[j]? = some v → Value.okWide Try.prog W .any base t v := hval0
  have hW' := hW
  obtain ⟨p, q, hA0, hV, rfl, hfz, hnd⟩ := hW
  have hA : DataW.TrodAll enc Try.prog W 0 (fun _ => true) true Try.f9.params.toList args.toList ds p := hA0
  rw [Try.params9] at hA hval
  obtain ⟨v0, vs0, d0, ds0, p0, q0, hargs, rfl, rfl, h0, r0⟩ := trodAll_cons hA
  obtain ⟨v1, vs1, d1, ds1, p1, q1, rfl, rfl, rfl, h1, r1⟩ := trodAll_cons r0
  obtain ⟨v2, vs2, d2, ds2, p2, q2, rfl, rfl, rfl, h2, r2⟩ := trodAll_cons r1
  obtain ⟨rfl, rfl, rfl⟩ := trodAll_nil r2
  obtain rfl : args = #[v0, v1, v2] := by cases args; simp_all
  obtain ⟨rfl, rfl⟩ := trodVars_none hV
  have k0 := h0
  have lt0 : ∀ x ∈ p0, x.block < W.heap.size := by obtain ⟨m, hm⟩ := k0; exact DataW.trod_lt m _ _ _ hm
  obtain ⟨b0, len0, cap0, rfl⟩ := okWide_slice Try.underlying22 (hval 0 22 v0 rfl rfl)
  obtain ⟨f0, hf0⟩ := h0
  obtain ⟨x0, hk0, ho0⟩ := (Opens.slice Try.underlying22 (by kernel_rfl) (Opens.int Try.underlying3)) hf0
  obtain ⟨A0, c0, he0, hl0, hc0⟩ := slice_cells (show _ from hk0)
  injection he0 with e0_1 e0_2 e0_3
  subst e0_1 e0_2 e0_3
  have k1 := h1
  have lt1 : ∀ x ∈ p1, x.block < W.heap.size := by obtain ⟨m, hm⟩ := k1; exact DataW.trod_lt m _ _ _ hm
  obtain ⟨x1, rfl⟩ := okWide_string Try.underlying9 (hval 1 9 v1 rfl rfl)
  obtain ⟨f1, hf1⟩ := h1
  obtain ⟨z1, hk1, ho1⟩ := (Opens.string Try.underlying9) hf1
  obtain rfl : x1 = z1 := by have := hk1; injection this with this; injection this
  have k2 := h2
  have lt2 : ∀ x ∈ p2, x.block < W.heap.size := by obtain ⟨m, hm⟩ := k2; exact DataW.trod_lt m _ _ _ hm
  obtain ⟨cs2, rfl, _⟩ := okWide_array' Try.underlying65 (hval 2 65 v2 rfl rfl)
  obtain ⟨f2, hf2⟩ := h2
  obtain ⟨x2, hk2, ho2⟩ := opens_k65 hf2
  have he2 := k65_open hk2
  obtain rfl : cs2 = _ := Array.toList_inj.1 (he2.trans (List.toList_toArray).symm)
  obtain ⟨k, h⟩ : ∃ k, backhaullaw05_OctetRows.f k x0 x1 x2.f0 x2.f1 x2.f2 = some true := Pure.OctetRows x0 x1 x2.f0 x2.f1 x2.f2 ho0 ho1 ho2.1 ho2.2.1 ho2.2.2
  refine (backhaullaw05_OctetRows.calls k _ _ x0 x1 x2.f0 x2.f1 x2.f2 W hc0 hl0 h).mono fun e W' hq => ?_
  obtain ⟨he, bel0⟩ := hq
  have bel : Below W.heap.size W W' := bel0
  subst he
  exact ⟨_, rfl, _, _, _, [], _, [], hW', trodAll_mk1 (shut_bool Try.underlying4 _), (trodAll_cons_mk (Below.trod laidOut (by kernel_rfl) (of_decide_eq_true (by kernel_rfl)) k0 bel lt0) (trodAll_cons_mk (Below.trod laidOut (by kernel_rfl) (of_decide_eq_true (by kernel_rfl)) k1 bel lt1) (trodAll_cons_mk (Below.trod laidOut (by kernel_rfl) (of_decide_eq_true (by kernel_rfl)) k2 bel lt2) trodAll_mk0))), rfl, bel.frame _, fun h => by cases h⟩
theorem closed_ : joinedFacts Try.pinned.checked.prog 9 Try.f9 Rows.octetRowsSpec Rows.octetRowsRow = true := by
  unfold joinedFacts
  repeat' (with_reducible apply band)
  any_goals with_reducible exact Join.mayEnter_is
  any_goals (rw [Join.make_is]; kernel_rfl)
  any_goals (rw [Join.lifts_is]; kernel_rfl)
  all_goals kernel_rfl
theorem over : Rows.octetRowsRow.holds Try.pinned (OpenSpec.ofChange Rows.octetRowsSpec) :=
  OpenClaim.holds_of_wide 9 Try.f9 rfl rfl rfl rfl rfl rfl rfl ⟨rfl, rfl, rfl, rfl, rfl⟩ rfl rfl rfl rfl rfl (by kernel_rfl) Try.func9 closed_
    (of_decide_eq_true (by kernel_rfl)) (by unfold Func.isWrapper; first | (rw [if_pos (by decide +kernel)]; kernel_rfl) | (rw [if_neg (by decide +kernel)]; exact ⟨rfl, rfl⟩))
    (fun os started H enc _ => lifted os started H enc)
theorem proved : Rows.OctetRowsSaid := over
#print axioms proved
end Go.Proofs.Ytabapiofkipkoaa.octetRows
namespace Go.Proofs.Ytabapiofkipkoaa
/-- The row, under a short name, for the claim. -/
theorem octetRows_holds : Rows.OctetRowsSaid := octetRows.proved
end Go.Proofs.Ytabapiofkipkoaa

