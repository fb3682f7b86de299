-- merged and pruned by prune.py (the session's own program); its words go back to the kit's print
import Derived.Test.YtefhljhpcpajgaaProg
import Derived.Below
import Derived.Deep.Draws
import Derived.Deep.AppendLies
import Derived.Maps.AppendAt
import Derived.OwnWalk
import Derived.Laws.BytesArg
import Derived.Laws.MakeOwn
import Derived.Laws.OwnMore
import Derived.Deep.OwnRows
import Derived.Tactics
import Derived.Lib.ConvBytes
import Derived.Laws.Slices
import Derived.WalkKit
import Derived.KernelRfl
import Derived.RowKit3
import Derived.Deep.LoopGhost
import Derived.Deep.QuietTactic
import Derived.BigQuiet
import Derived.WideLaws
import Derived.Deep.DeepCutAuto
import Derived.Deep.CutBlock
import Derived.Deep.RegionHeld3
import Derived.Laws.Rows
import Derived.Lib.AppendStr
import Derived.ArgAppend
import Derived.Laws.IdiomCopy
import Derived.OrdersHeld
import Derived.Laws.BitsLemmas
import Derived.RowKit
import Derived.Laws.StructEq
import Derived.Deep.RegionLawGrows
import Derived.Lib.SliceRun
import Derived.Shelf.SlSortCmp.Insertion1
import Derived.Shelf.Small.Bits
import Derived.Shelf.Strconv.Itoa0
import Derived.Shelf.Bits.Mul64
import Derived.Ground.SlsfProg
import Derived.Shelf.SlSortCmp.Insertion
import Derived.Sort.LotA
import Derived.Sort.OwnSortedInts
import Derived.Deep.Slices
import Derived.ChangeArms
import Derived.WideShapes
import Derived.OpenShut
import Derived.Test.YtefhljhpcpajgaaRows
import Derived.ProofKit
import Derived.ShutString
import Derived.ChangeOld
import Derived.SizedLaws
import Derived.Carry
import Derived.Test.YtefhljhpcpajgaaZShareFair3
namespace Go.Proofs.Ytefhljhpcpajgaa.F
open Go.RowKit Go.Proofs.YtefhljhpcpajgaaX Go.Proofs.YtefhljhpcpajgaaW.PrintWords Go.Proofs.YtefhljhpcpajgaaW.PrintLast Go.Proofs.YtefhljhpcpajgaaW.PrintMore
attribute [local go_sem] max2_int min2_int max_two min_two max_three min_three max_four min_four   
attribute [local go_sem high] str_geq str_leq str_gtr
set_option linter.unusedVariables false
set_option linter.unusedSimpArgs false
mutual
def backhaullaw03_ShareFair.l0 : Nat → List Int → List Int → Bool → Int → Option (Bool)
  | 0, _, _, _, _ => none
  | k + 1, x1, x5, x7, x8 => if x8 < (x5.length : Int) then (if x7 = true then (backhaullaw03_ShareFair.l0 k x1 x5 true (wrap64 (x8 + 1))) else (if 0 ≤ x8 then (if x8 < (x1.length : Int) then (backhaullaw03_ShareFair.l0 k x1 x5 (decide ((rd x1 x8) > 0)) (wrap64 (x8 + 1))) else (none)) else (none))) else (backhaullaw03_ShareFair.l1 k x1 x5 x7 0)
def backhaullaw03_ShareFair.l1 : Nat → List Int → List Int → Bool → Int → Option (Bool)
  | 0, _, _, _, _ => none
  | k + 1, x1, x5, x7, x9 => if x9 < (x5.length : Int) then (if x7 = true then (if 0 ≤ x9 then (if x9 < (x1.length : Int) then (if (rd x1 x9) = 0 then (backhaullaw03_ShareFair.j2 k x1 x5 x7 x9 ((rd x5 x9) != 0)) else (backhaullaw03_ShareFair.j2 k x1 x5 x7 x9 false)) else (none)) else (none)) else (backhaullaw03_ShareFair.j2 k x1 x5 x7 x9 false)) else ((backhaullaw03_awake.f).bind fun t108 => (if t108 = true then (some true) else (some false)))
def backhaullaw03_ShareFair.j2 : Nat → List Int → List Int → Bool → Int → Bool → Option (Bool)
  | 0, _, _, _, _, _ => none
  | k + 1, x1, x5, x7, x9, x65 => if x65 = true then (some false) else (backhaullaw03_ShareFair.l2 k x1 x5 x7 x9 (wrap64 (x9 + 1)))
def backhaullaw03_ShareFair.l2 : Nat → List Int → List Int → Bool → Int → Int → Option (Bool)
  | 0, _, _, _, _, _ => none
  | k + 1, x1, x5, x7, x9, x10 => if x10 < (x5.length : Int) then (if 0 ≤ x9 then (if x9 < (x5.length : Int) then (if 0 ≤ x10 then (if x9 < (x1.length : Int) then (if x10 < (x1.length : Int) then (if (rd x1 x9) > (rd x1 x10) then (if (rd x5 x9) < (rd x5 x10) then (some false) else (if (rd x1 x9) < (rd x1 x10) then (if (rd x5 x9) > (rd x5 x10) then (some false) else (if (rd x1 x9) = (rd x1 x10) then (if (rd x5 x9) > (wrap64 ((rd x5 x10) + 1)) then (some false) else (backhaullaw03_ShareFair.l2 k x1 x5 x7 x9 (wrap64 (x10 + 1)))) else (backhaullaw03_ShareFair.l2 k x1 x5 x7 x9 (wrap64 (x10 + 1))))) else (if (rd x1 x9) = (rd x1 x10) then (if (rd x5 x9) > (wrap64 ((rd x5 x10) + 1)) then (some false) else (backhaullaw03_ShareFair.l2 k x1 x5 x7 x9 (wrap64 (x10 + 1)))) else (backhaullaw03_ShareFair.l2 k x1 x5 x7 x9 (wrap64 (x10 + 1)))))) else (if (rd x1 x9) < (rd x1 x10) then (if (rd x5 x9) > (rd x5 x10) then (some false) else (if (rd x1 x9) = (rd x1 x10) then (if (rd x5 x9) < (rd x5 x10) then (some false) else (if (rd x5 x9) > (wrap64 ((rd x5 x10) + 1)) then (some false) else (backhaullaw03_ShareFair.l2 k x1 x5 x7 x9 (wrap64 (x10 + 1))))) else (backhaullaw03_ShareFair.l2 k x1 x5 x7 x9 (wrap64 (x10 + 1))))) else (if (rd x1 x9) = (rd x1 x10) then (if (rd x5 x9) < (rd x5 x10) then (some false) else (if (rd x5 x9) > (wrap64 ((rd x5 x10) + 1)) then (some false) else (backhaullaw03_ShareFair.l2 k x1 x5 x7 x9 (wrap64 (x10 + 1))))) else (backhaullaw03_ShareFair.l2 k x1 x5 x7 x9 (wrap64 (x10 + 1)))))) else (none)) else (none)) else (none)) else (none)) else (none)) else (backhaullaw03_ShareFair.l1 k x1 x5 x7 (wrap64 (x9 + 1)))
end
def backhaullaw03_ShareFair.f (k : Nat) (a0 : Int) (l1 : List Int) : Option (Bool) := if (l1.length : Int) > 100 then ((backhaullaw03_awake.f).bind fun t101 => (if t101 = true then (some true) else (some false))) else ((share_Out.f k a0 l1).bind fun bt102 => (if bt102.2 = 0 then (if (bt102.1.length : Int) = (l1.length : Int) then (backhaullaw03_ShareFair.l0 k l1 bt102.1 false 0) else (some false)) else ((backhaullaw03_awake.f).bind fun t106 => (if t106 = true then (some true) else (some false)))))
theorem backhaullaw03_ShareFair.mono_l : ∀ k, (∀ y0 y1 y2 y3, LeO (backhaullaw03_ShareFair.l0 k y0 y1 y2 y3) (backhaullaw03_ShareFair.l0 (k + 1) y0 y1 y2 y3)) ∧ (∀ y0 y1 y2 y3, LeO (backhaullaw03_ShareFair.l1 k y0 y1 y2 y3) (backhaullaw03_ShareFair.l1 (k + 1) y0 y1 y2 y3)) ∧ (∀ y0 y1 y2 y3 y4, LeO (backhaullaw03_ShareFair.j2 k y0 y1 y2 y3 y4) (backhaullaw03_ShareFair.j2 (k + 1) y0 y1 y2 y3 y4)) ∧ (∀ y0 y1 y2 y3 y4, LeO (backhaullaw03_ShareFair.l2 k y0 y1 y2 y3 y4) (backhaullaw03_ShareFair.l2 (k + 1) y0 y1 y2 y3 y4))
  | 0 => ⟨fun _ _ _ _ r h => by simp [backhaullaw03_ShareFair.l0] at h, fun _ _ _ _ r h => by simp [backhaullaw03_ShareFair.l1] at h, fun _ _ _ _ _ r h => by simp [backhaullaw03_ShareFair.j2] at h, fun _ _ _ _ _ r h => by simp [backhaullaw03_ShareFair.l2] at h⟩
  | k + 1 => by
    obtain ⟨ih0, ih1, ih2, ih3⟩ := backhaullaw03_ShareFair.mono_l k
    refine ⟨?_, ?_, ?_, ?_⟩
    · intro y0 y1 y2 y3
      unfold backhaullaw03_ShareFair.l0
      repeat' first
      | (with_reducible exact ih0 _ _ _ _)
      | (with_reducible exact ih1 _ _ _ _)
      | (with_reducible exact ih2 _ _ _ _ _)
      | (with_reducible exact ih3 _ _ _ _ _)
      | (with_reducible exact share_Out.mono _ _ _)
      | (with_reducible exact LeO.refl _)
      | (with_reducible exact LeO.none _)
      | (with_reducible refine LeO.ite ?_ ?_)
      | (with_reducible refine LeO.bind ?_ (fun _ => ?_))
      | exact ih0 _ _ _ _
      | exact ih1 _ _ _ _
      | exact ih2 _ _ _ _ _
      | exact ih3 _ _ _ _ _
      | exact share_Out.mono _ _ _
      | exact LeO.none _
      | refine LeO.ite ?_ ?_
      | refine LeO.bind ?_ (fun _ => ?_)
    · intro y0 y1 y2 y3
      unfold backhaullaw03_ShareFair.l1
      repeat' first
      | (with_reducible exact ih0 _ _ _ _)
      | (with_reducible exact ih1 _ _ _ _)
      | (with_reducible exact ih2 _ _ _ _ _)
      | (with_reducible exact ih3 _ _ _ _ _)
      | (with_reducible exact share_Out.mono _ _ _)
      | (with_reducible exact LeO.refl _)
      | (with_reducible exact LeO.none _)
      | (with_reducible refine LeO.ite ?_ ?_)
      | (with_reducible refine LeO.bind ?_ (fun _ => ?_))
      | exact ih0 _ _ _ _
      | exact ih1 _ _ _ _
      | exact ih2 _ _ _ _ _
      | exact ih3 _ _ _ _ _
      | exact share_Out.mono _ _ _
      | exact LeO.none _
      | refine LeO.ite ?_ ?_
      | refine LeO.bind ?_ (fun _ => ?_)
    · intro y0 y1 y2 y3 y4
      unfold backhaullaw03_ShareFair.j2
      repeat' first
      | (with_reducible exact ih0 _ _ _ _)
      | (with_reducible exact ih1 _ _ _ _)
      | (with_reducible exact ih2 _ _ _ _ _)
      | (with_reducible exact ih3 _ _ _ _ _)
      | (with_reducible exact share_Out.mono _ _ _)
      | (with_reducible exact LeO.refl _)
      | (with_reducible exact LeO.none _)
      | (with_reducible refine LeO.ite ?_ ?_)
      | (with_reducible refine LeO.bind ?_ (fun _ => ?_))
      | exact ih0 _ _ _ _
      | exact ih1 _ _ _ _
      | exact ih2 _ _ _ _ _
      | exact ih3 _ _ _ _ _
      | exact share_Out.mono _ _ _
      | exact LeO.none _
      | refine LeO.ite ?_ ?_
      | refine LeO.bind ?_ (fun _ => ?_)
    · intro y0 y1 y2 y3 y4
      unfold backhaullaw03_ShareFair.l2
      repeat' first
      | (with_reducible exact ih0 _ _ _ _)
      | (with_reducible exact ih1 _ _ _ _)
      | (with_reducible exact ih2 _ _ _ _ _)
      | (with_reducible exact ih3 _ _ _ _ _)
      | (with_reducible exact share_Out.mono _ _ _)
      | (with_reducible exact LeO.refl _)
      | (with_reducible exact LeO.none _)
      | (with_reducible refine LeO.ite ?_ ?_)
      | (with_reducible refine LeO.bind ?_ (fun _ => ?_))
      | exact ih0 _ _ _ _
      | exact ih1 _ _ _ _
      | exact ih2 _ _ _ _ _
      | exact ih3 _ _ _ _ _
      | exact share_Out.mono _ _ _
      | exact LeO.none _
      | refine LeO.ite ?_ ?_
      | refine LeO.bind ?_ (fun _ => ?_)
theorem backhaullaw03_ShareFair.mono : ∀ a0 a1 k, LeO (backhaullaw03_ShareFair.f k a0 a1) (backhaullaw03_ShareFair.f (k + 1) a0 a1) := by
  intro a0 a1 k
  obtain ⟨ih0, ih1, ih2, ih3⟩ := backhaullaw03_ShareFair.mono_l k
  unfold backhaullaw03_ShareFair.f
  repeat' first
      | (with_reducible exact ih0 _ _ _ _)
      | (with_reducible exact ih1 _ _ _ _)
      | (with_reducible exact ih2 _ _ _ _ _)
      | (with_reducible exact ih3 _ _ _ _ _)
      | (with_reducible exact share_Out.mono _ _ _)
      | (with_reducible exact LeO.refl _)
      | (with_reducible exact LeO.none _)
      | (with_reducible refine LeO.ite ?_ ?_)
      | (with_reducible refine LeO.bind ?_ (fun _ => ?_))
      | exact ih0 _ _ _ _
      | exact ih1 _ _ _ _
      | exact ih2 _ _ _ _ _
      | exact ih3 _ _ _ _ _
      | exact share_Out.mono _ _ _
      | exact LeO.none _
      | refine LeO.ite ?_ ?_
      | refine LeO.bind ?_ (fun _ => ?_)
set_option maxHeartbeats 8000000 in
set_option maxRecDepth 100000 in
theorem backhaullaw03_ShareFair.calls (k : Nat) (a0 : Int) (A1 : Option Addr) (c1 : Nat) (l1 : List Int) (w : World) (hr1 : Kd.C (Kd.int .i64) w A1 l1.length l1) (hc1 : l1.length ≤ c1) (h : backhaullaw03_ShareFair.f k a0 l1 = some true) :
    Calls Try.prog 12 #[.int .i64 a0, .slice A1 l1.length c1] w fun e w' => e = .returned (.bool true) ∧ Below w.heap.size w w' := by
  have HR1 := Aside0.mk hr1
  have HC1 := Aside0.mk hc1
  clear hr1 hc1
  have HB := Aside0.mk (Below.refl w.heap.size w)
  have H : (if (l1.length : Int) > 100 then ((backhaullaw03_awake.f).bind fun t101 => (if t101 = true then (some true) else (some false))) else ((share_Out.f k a0 l1).bind fun bt102 => (if bt102.2 = 0 then (if (bt102.1.length : Int) = (l1.length : Int) then (backhaullaw03_ShareFair.l0 k l1 bt102.1 false 0) else (some false)) else ((backhaullaw03_awake.f).bind fun t106 => (if t106 = true then (some true) else (some false)))))) = some true := h
  clear h
  by_cases c3 : (l1.length : Int) > 100
  · rw [if_pos c3] at H
    have c3b0 : decide (100 < (l1.length : Int)) = true := decide_eq_true c3
    have c3b1 : decide (100 < l1.length) = true := decide_eq_true (by omega)
    clear c3
    replace H := Option.bind_eq_some_iff.mp H
    obtain ⟨t101, A40, H⟩ := H
    replace H : (if t101 = true then (some true) else (some false)) = some true := H
    have A4 := Aside0.mk A40
    clear A40
    by_cases c5 : t101 = true
    · subst c5
      have H1 : (some true) = some true := by first | (rw [if_pos rfl] at H; exact H) | rfl
      clear H
      have H := H1
      clear H1
      clear H
      go_enter Try.func12, Try.ntmps12
      go_wp2_with (first | (go_at_call 50; (with_reducible refine (backhaullaw03_awake.calls  true _ A4.out).mono ?_); rintro e w6 ⟨rfl, hb⟩; have n0_ := Aside0.mk (below_step (by repeat (first | (with_reducible first | exact HB.out | apply below_alloc | apply pw_below_drewN | apply below_drew1) | exact HB.out)) hb); clear HB; have HB := n0_; clear n0_; (try clear hb); (try clear hb2); (try clear hk); (try clear hi)))
      repeat (go_quiet (first | (go_at_call 50; (with_reducible refine (backhaullaw03_awake.calls  true _ A4.out).mono ?_); rintro e w6 ⟨rfl, hb⟩; have n0_ := Aside0.mk (below_step (by repeat (first | (with_reducible first | exact HB.out | apply below_alloc | apply pw_below_drewN | apply below_drew1) | exact HB.out)) hb); clear HB; have HB := n0_; clear n0_; (try clear hb); (try clear hb2); (try clear hk); (try clear hi))); try go_wp2_with (first | (go_at_call 50; (with_reducible refine (backhaullaw03_awake.calls  true _ A4.out).mono ?_); rintro e w6 ⟨rfl, hb⟩; have n0_ := Aside0.mk (below_step (by repeat (first | (with_reducible first | exact HB.out | apply below_alloc | apply pw_below_drewN | apply below_drew1) | exact HB.out)) hb); clear HB; have HB := n0_; clear n0_; (try clear hb); (try clear hb2); (try clear hk); (try clear hi))))
      go_ret
      exact ⟨by first | rfl | (simp [errW_none, errW_some] <;> rfl) | (simp [*, errW_none, errW_some] <;> rfl), by repeat (first | (with_reducible first | exact HB.out | apply below_alloc | apply pw_below_drewN | apply below_drew1) | exact HB.out)⟩
    · replace c5 := Bool.eq_false_iff.mpr c5
      subst c5
      have H1 : (some false) = some true := by first | (rw [if_neg (show ¬ (false = true) by decide)] at H; exact H) | rfl
      clear H
      have H := H1
      clear H1
      exact absurd H (by simp)
  · rw [if_neg c3] at H
    have c3b0 : decide (100 < (l1.length : Int)) = false := decide_eq_false c3
    have c3b1 : decide (100 < l1.length) = false := decide_eq_false (by omega)
    clear c3
    replace H := Option.bind_eq_some_iff.mp H
    obtain ⟨⟨t102, t103⟩, A70, H⟩ := H
    replace H : (if t103 = 0 then (if (t102.length : Int) = (l1.length : Int) then (backhaullaw03_ShareFair.l0 k l1 t102 false 0) else (some false)) else ((backhaullaw03_awake.f).bind fun t106 => (if t106 = true then (some true) else (some false)))) = some true := H
    have A7 := Aside0.mk A70
    clear A70
    by_cases c8 : t103 = 0
    · rw [if_pos c8] at H
      have c8b0 : (t103 == 0) = true := beq_iff_eq.mpr c8
      have c8b1 : (t103 != 0) = false := bne_eq_false_iff_eq.mpr c8
      clear c8
      by_cases c9 : (t102.length : Int) = (l1.length : Int)
      · rw [if_pos c9] at H
        have c9b0 : ((t102.length : Int) == (l1.length : Int)) = true := beq_iff_eq.mpr c9
        have c9b1 : ((t102.length : Int) != (l1.length : Int)) = false := bne_eq_false_iff_eq.mpr c9
        have c9b2 : (t102.length == l1.length) = true := by first | simpa using c9 | (simp at c9 ⊢; omega)
        clear c9
        have H' := Aside0.mk H
        clear H
        go_enter Try.func12, Try.ntmps12
        go_wp2_with (first | (go_at_call 51; (with_reducible refine (share_Out.calls k a0 _ _ l1 t102 t103 _ ?side1 ?side2 A7.out).mono ?_); (case side1 => repeat (first | exact HR1.out | (with_reducible refine Kd.C_alloc ?_ _) | (with_reducible refine Kd.C_drewN ?_ _) | (with_reducible refine Kd.C_drew ?_))); (case side2 => exact HC1.out); rintro e w10 ⟨v104, rfl, ho0, hb⟩; have n0_ := Aside0.mk (Kd.R_lower ho0 (below_size (by repeat (first | (with_reducible first | exact HB.out | apply below_alloc | apply pw_below_drewN | apply below_drew1) | exact HB.out)))); have n1_ := Aside0.mk (below_step (by repeat (first | (with_reducible first | exact HB.out | apply below_alloc | apply pw_below_drewN | apply below_drew1) | exact HB.out)) hb); clear HB; have HO105 := n0_; have HB := n1_; clear n0_ n1_; (try clear hb); (try clear hb2); (try clear hk); (try clear hi); (try clear ho0); obtain ⟨Ao11, co11, eo11⟩ := Kd.R_slice HO105.out; subst eo11))
        repeat (go_quiet (first | (go_at_call 51; (with_reducible refine (share_Out.calls k a0 _ _ l1 t102 t103 _ ?side1 ?side2 A7.out).mono ?_); (case side1 => repeat (first | exact HR1.out | (with_reducible refine Kd.C_alloc ?_ _) | (with_reducible refine Kd.C_drewN ?_ _) | (with_reducible refine Kd.C_drew ?_))); (case side2 => exact HC1.out); rintro e w10 ⟨v104, rfl, ho0, hb⟩; have n0_ := Aside0.mk (Kd.R_lower ho0 (below_size (by repeat (first | (with_reducible first | exact HB.out | apply below_alloc | apply pw_below_drewN | apply below_drew1) | exact HB.out)))); have n1_ := Aside0.mk (below_step (by repeat (first | (with_reducible first | exact HB.out | apply below_alloc | apply pw_below_drewN | apply below_drew1) | exact HB.out)) hb); clear HB; have HO105 := n0_; have HB := n1_; clear n0_ n1_; (try clear hb); (try clear hb2); (try clear hk); (try clear hi); (try clear ho0); obtain ⟨Ao11, co11, eo11⟩ := Kd.R_slice HO105.out; subst eo11)); try go_wp2_with (first | (go_at_call 51; (with_reducible refine (share_Out.calls k a0 _ _ l1 t102 t103 _ ?side1 ?side2 A7.out).mono ?_); (case side1 => repeat (first | exact HR1.out | (with_reducible refine Kd.C_alloc ?_ _) | (with_reducible refine Kd.C_drewN ?_ _) | (with_reducible refine Kd.C_drew ?_))); (case side2 => exact HC1.out); rintro e w10 ⟨v104, rfl, ho0, hb⟩; have n0_ := Aside0.mk (Kd.R_lower ho0 (below_size (by repeat (first | (with_reducible first | exact HB.out | apply below_alloc | apply pw_below_drewN | apply below_drew1) | exact HB.out)))); have n1_ := Aside0.mk (below_step (by repeat (first | (with_reducible first | exact HB.out | apply below_alloc | apply pw_below_drewN | apply below_drew1) | exact HB.out)) hb); clear HB; have HO105 := n0_; have HB := n1_; clear n0_ n1_; (try clear hb); (try clear hb2); (try clear hk); (try clear hi); (try clear ho0); obtain ⟨Ao11, co11, eo11⟩ := Kd.R_slice HO105.out; subst eo11)))
        go_loopg [7, 8] k (fun kq v7 v8 w' => ∃ (x7_1 : Bool) (x8_1 : Int), v7 = .bool x7_1 ∧ v8 = .int .i64 x8_1 ∧ Aside0 (backhaullaw03_ShareFair.l0 kq l1 t102 x7_1 x8_1 = some true) ∧ Aside0 (kq ≤ k) ∧ Aside0 (Kd.R (Kd.int .i64) 3 w' w.heap.size (fun _ => True) (.slice Ao11 t102.length co11) t102) ∧ Aside0 (Below w.heap.size w w'))
        case atStart => exact ⟨(false), (0), (by first | rfl | (simp; done) | (simp [*]; done)), (by first | rfl | (simp; done) | (simp [*]; done)), H', ⟨Nat.le_refl _⟩, ⟨by (with_reducible repeat (first | apply Kd.R_alloc | apply Kd.R_drewN | apply Kd.R_drew)); exact HO105.out⟩, ⟨by repeat (first | (with_reducible first | exact HB.out | apply below_alloc | apply pw_below_drewN | apply below_drew1) | exact HB.out)⟩⟩
        case round =>
          clear H'
          try clear c1
          try clear p2
          try clear c3
          try clear c3b0
          try clear c3b1
          try clear c5
          try clear c8
          try clear c8b0
          try clear c8b1
          try clear c9
          try clear c9b0
          try clear c9b1
          try clear c9b2
          obtain ⟨x7_1, x8_1, rfl, rfl, HA, HK1, HO_5, HB⟩ := hrel
          cases gk with
          | zero => exact absurd HA.out (by simp [backhaullaw03_ShareFair.l0])
          | succ k1 =>
            have H := HA.out
            clear HA
            simp only [backhaullaw03_ShareFair.l0] at H
            by_cases c12 : x8_1 < (t102.length : Int)
            · rw [if_pos c12] at H
              have c12b0 : decide (x8_1 < (t102.length : Int)) = true := decide_eq_true c12
              clear c12
              by_cases c13 : x7_1 = true
              · subst c13
                have H1 : (backhaullaw03_ShareFair.l0 k1 l1 t102 true (wrap64 (x8_1 + 1))) = some true := by first | (rw [if_pos rfl] at H; exact H) | rfl
                clear H
                have H := H1
                clear H1
                have H' := Aside0.mk H
                clear H
                go_wp2
                repeat (go_quiet (fail); try go_wp2)
                go_roundg k1
                case measure => have := HK1.out; omega
                case rel => exact ⟨(true), (wrap64 (x8_1 + 1)), (by first | rfl | (simp; done) | (simp [*]; done)), (by first | rfl | (simp; done) | (simp [*]; done)), H', ⟨by have := HK1.out; omega⟩, ⟨by (with_reducible repeat (first | apply Kd.R_alloc | apply Kd.R_drewN | apply Kd.R_drew)); exact HO_5.out⟩, ⟨by repeat (first | (with_reducible first | exact HB.out | apply below_alloc | apply pw_below_drewN | apply below_drew1) | exact HB.out)⟩⟩
              · replace c13 := Bool.eq_false_iff.mpr c13
                subst c13
                have H1 : (if 0 ≤ x8_1 then (if x8_1 < (l1.length : Int) then (backhaullaw03_ShareFair.l0 k1 l1 t102 (decide ((rd l1 x8_1) > 0)) (wrap64 (x8_1 + 1))) else (none)) else (none)) = some true := by first | (rw [if_neg (show ¬ (false = true) by decide)] at H; exact H) | rfl
                clear H
                have H := H1
                clear H1
                by_cases c14 : 0 ≤ x8_1
                · rw [if_pos c14] at H
                  have c14b0 : decide (0 ≤ x8_1) = true := decide_eq_true c14
                  clear c14
                  by_cases c15 : x8_1 < (l1.length : Int)
                  · rw [if_pos c15] at H
                    have c15b0 : decide (x8_1 < (l1.length : Int)) = true := decide_eq_true c15
                    clear c15
                    have H' := Aside0.mk H
                    clear H
                    have p107 : 0 ≤ (x8_1 : Int) := of_decide_eq_true (by first | (with_reducible assumption) | assumption)
                    have q107 : x8_1 < (l1.length : Int) := of_decide_eq_true (by first | (with_reducible assumption) | assumption)
                    obtain ⟨ad107, e107, hx107_0⟩ := Kd.at_int HR1.out x8_1 p107 q107
                    cases e107
                    replace hx107_0 := (HB.out.cell (World.block_lt_of_cell? w _ hx107_0)).trans hx107_0
                    replace p107 := eq_true p107
                    replace q107 := eq_true q107
                    go_wp2
                    repeat (go_quiet (fail); try go_wp2)
                    go_roundg k1
                    case measure => have := HK1.out; omega
                    case rel => exact ⟨(decide ((rd l1 x8_1) > 0)), (wrap64 (x8_1 + 1)), (by first | rfl | (simp; done) | (simp [*]; done)), (by first | rfl | (simp; done) | (simp [*]; done)), H', ⟨by have := HK1.out; omega⟩, ⟨by (with_reducible repeat (first | apply Kd.R_alloc | apply Kd.R_drewN | apply Kd.R_drew)); exact HO_5.out⟩, ⟨by repeat (first | (with_reducible first | exact HB.out | apply below_alloc | apply pw_below_drewN | apply below_drew1) | exact HB.out)⟩⟩
                  · rw [if_neg c15] at H
                    exact absurd H (by simp)
                · rw [if_neg c14] at H
                  exact absurd H (by simp)
            · rw [if_neg c12] at H
              have c12b0 : decide (x8_1 < (t102.length : Int)) = false := decide_eq_false c12
              clear c12
              have H' := Aside0.mk H
              clear H
              go_wp2
              repeat (go_quiet (fail); try go_wp2)
              go_loopg [9] k1 (fun kq v9 w' => ∃ (x9_2 : Int), v9 = .int .i64 x9_2 ∧ Aside0 (backhaullaw03_ShareFair.l1 kq l1 t102 x7_1 x9_2 = some true) ∧ Aside0 (kq ≤ k1) ∧ Aside0 (Kd.R (Kd.int .i64) 3 w' w.heap.size (fun _ => True) (.slice Ao11 t102.length co11) t102) ∧ Aside0 (Below w.heap.size w w'))
              case atStart => exact ⟨(0), (by first | rfl | (simp; done) | (simp [*]; done)), H', ⟨Nat.le_refl _⟩, ⟨by (with_reducible repeat (first | apply Kd.R_alloc | apply Kd.R_drewN | apply Kd.R_drew)); exact HO_5.out⟩, ⟨by repeat (first | (with_reducible first | exact HB.out | apply below_alloc | apply pw_below_drewN | apply below_drew1) | exact HB.out)⟩⟩
              case round =>
                clear H'
                try clear c1
                try clear p1
                try clear q1
                try clear hx1
                try clear p2
                try clear c3
                try clear c3b0
                try clear c3b1
                try clear c5
                try clear p6
                try clear c8
                try clear c8b0
                try clear c8b1
                try clear c9
                try clear c9b0
                try clear c9b1
                try clear c9b2
                try clear p10
                try clear q10
                try clear hx10
                try clear c12
                try clear c12b0
                try clear c13
                try clear c14
                try clear c14b0
                try clear c15
                try clear c15b0
                try clear hx107_0
                try clear p107
                try clear p2
                try clear q107
                obtain ⟨x9_2, rfl, HA, HK2, HO_5, HB⟩ := hrel
                cases gk with
                | zero => exact absurd HA.out (by simp [backhaullaw03_ShareFair.l1])
                | succ k2 =>
                  have H := HA.out
                  clear HA
                  simp only [backhaullaw03_ShareFair.l1] at H
                  by_cases c16 : x9_2 < (t102.length : Int)
                  · rw [if_pos c16] at H
                    have c16b0 : decide (x9_2 < (t102.length : Int)) = true := decide_eq_true c16
                    clear c16
                    have HC17 := Aside0.mk H
                    clear H
                    go_upto_region 16 with (fail)
                    repeat (go_quiet (fail); go_upto_region 16 with (fail))
                    go_cut [65] (fun v65 wc => ∃ (kq : Nat) (x65_16 : Bool), v65 = .bool x65_16 ∧ Aside0 (backhaullaw03_ShareFair.j2 kq l1 t102 x7_1 x9_2 x65_16 = some true) ∧ Aside0 (kq ≤ k2) ∧ Aside0 (Kd.R (Kd.int .i64) 3 wc w.heap.size (fun _ => True) (.slice Ao11 t102.length co11) t102) ∧ Aside0 (Below w.heap.size w wc))
                    case first =>
                      have H := HC17.out
                      clear HC17
                      by_cases c18 : x7_1 = true
                      · subst c18
                        have H1 : (if 0 ≤ x9_2 then (if x9_2 < (l1.length : Int) then (if (rd l1 x9_2) = 0 then (backhaullaw03_ShareFair.j2 k2 l1 t102 true x9_2 ((rd t102 x9_2) != 0)) else (backhaullaw03_ShareFair.j2 k2 l1 t102 true x9_2 false)) else (none)) else (none)) = some true := by first | (rw [if_pos rfl] at H; exact H) | rfl
                        clear H
                        have H := H1
                        clear H1
                        by_cases c19 : 0 ≤ x9_2
                        · rw [if_pos c19] at H
                          have c19b0 : decide (0 ≤ x9_2) = true := decide_eq_true c19
                          clear c19
                          (first | rw [c19b0] | (simp only [i64_w, i32_w]; rw [c19b0]) | skip)
                          by_cases c20 : x9_2 < (l1.length : Int)
                          · rw [if_pos c20] at H
                            have c20b0 : decide (x9_2 < (l1.length : Int)) = true := decide_eq_true c20
                            clear c20
                            by_cases c21 : (rd l1 x9_2) = 0
                            · rw [if_pos c21] at H
                              have c21b0 : ((rd l1 x9_2) == 0) = true := beq_iff_eq.mpr c21
                              have c21b1 : ((rd l1 x9_2) != 0) = false := bne_eq_false_iff_eq.mpr c21
                              clear c21
                              have H' := Aside0.mk H
                              clear H
                              have p109 : 0 ≤ (x9_2 : Int) := of_decide_eq_true (by first | (with_reducible assumption) | assumption)
                              have q109 : x9_2 < (l1.length : Int) := of_decide_eq_true (by first | (with_reducible assumption) | assumption)
                              obtain ⟨ad109, e109, hx109_0⟩ := Kd.at_int HR1.out x9_2 p109 q109
                              cases e109
                              replace hx109_0 := (HB.out.cell (World.block_lt_of_cell? w _ hx109_0)).trans hx109_0
                              replace p109 := eq_true p109
                              replace q109 := eq_true q109
                              have p110 : 0 ≤ (x9_2 : Int) := of_decide_eq_true (by first | (with_reducible assumption) | assumption)
                              have q110 : x9_2 < (t102.length : Int) := of_decide_eq_true (by first | (with_reducible assumption) | assumption)
                              obtain ⟨ad110, e110, hx110_0⟩ := Kd.at_int (Kd.R_reads' HO_5.out).2.2 x9_2 p110 q110
                              cases e110
                              replace p110 := eq_true p110
                              replace q110 := eq_true q110
                              go_wp2
                              repeat (go_quiet (fail); try go_wp2)
                              go_meet
                              case rel => exact ⟨_, (((rd t102 x9_2) != 0)), (by first | rfl | (simp; done) | (simp [*]; done)), H', ⟨by have := HK1.out; have := HK2.out; first | omega | exact Nat.le_refl _⟩, ⟨by (with_reducible repeat (first | apply Kd.R_alloc | apply Kd.R_drewN | apply Kd.R_drew)); exact HO_5.out⟩, ⟨by repeat (first | (with_reducible first | exact HB.out | apply below_alloc | apply pw_below_drewN | apply below_drew1) | exact HB.out)⟩⟩
                            · rw [if_neg c21] at H
                              have c21b0 : ((rd l1 x9_2) == 0) = false := beq_eq_false_iff_ne.mpr c21
                              have c21b1 : ((rd l1 x9_2) != 0) = true := bne_iff_ne.mpr c21
                              have H' := Aside0.mk H
                              clear H
                              have p109 : 0 ≤ (x9_2 : Int) := of_decide_eq_true (by first | (with_reducible assumption) | assumption)
                              have q109 : x9_2 < (l1.length : Int) := of_decide_eq_true (by first | (with_reducible assumption) | assumption)
                              obtain ⟨ad109, e109, hx109_0⟩ := Kd.at_int HR1.out x9_2 p109 q109
                              cases e109
                              replace hx109_0 := (HB.out.cell (World.block_lt_of_cell? w _ hx109_0)).trans hx109_0
                              replace p109 := eq_true p109
                              replace q109 := eq_true q109
                              go_wp2
                              repeat (go_quiet (fail); try go_wp2)
                              go_meet
                              case rel => exact ⟨_, (false), (by first | rfl | (simp; done) | (simp [*]; done)), H', ⟨by have := HK1.out; have := HK2.out; first | omega | exact Nat.le_refl _⟩, ⟨by (with_reducible repeat (first | apply Kd.R_alloc | apply Kd.R_drewN | apply Kd.R_drew)); exact HO_5.out⟩, ⟨by repeat (first | (with_reducible first | exact HB.out | apply below_alloc | apply pw_below_drewN | apply below_drew1) | exact HB.out)⟩⟩
                          · rw [if_neg c20] at H
                            exact absurd H (by simp)
                        · rw [if_neg c19] at H
                          exact absurd H (by simp)
                      · replace c18 := Bool.eq_false_iff.mpr c18
                        subst c18
                        have H1 : (backhaullaw03_ShareFair.j2 k2 l1 t102 false x9_2 false) = some true := by first | (rw [if_neg (show ¬ (false = true) by decide)] at H; exact H) | rfl
                        clear H
                        have H := H1
                        clear H1
                        have H' := Aside0.mk H
                        clear H
                        go_wp2
                        repeat (go_quiet (fail); try go_wp2)
                        go_meet
                        case rel => exact ⟨_, (false), (by first | rfl | (simp; done) | (simp [*]; done)), H', ⟨by have := HK1.out; have := HK2.out; first | omega | exact Nat.le_refl _⟩, ⟨by (with_reducible repeat (first | apply Kd.R_alloc | apply Kd.R_drewN | apply Kd.R_drew)); exact HO_5.out⟩, ⟨by repeat (first | (with_reducible first | exact HB.out | apply below_alloc | apply pw_below_drewN | apply below_drew1) | exact HB.out)⟩⟩
                    case rest =>
                      clear HC17
                      try clear c1
                      try clear p1
                      try clear q1
                      try clear hx1
                      try clear c2
                      try clear p2
                      try clear c3
                      try clear c3b0
                      try clear c3b1
                      try clear c5
                      try clear p6
                      try clear c8
                      try clear c8b0
                      try clear c8b1
                      try clear c9
                      try clear c9b0
                      try clear c9b1
                      try clear c9b2
                      try clear p10
                      try clear q10
                      try clear hx10
                      try clear p11
                      try clear q11
                      try clear hx11
                      try clear c12
                      try clear c12b0
                      try clear c13
                      try clear c14
                      try clear c14b0
                      try clear c15
                      try clear c15b0
                      try clear c16
                      try clear c16b0
                      try clear c18
                      try clear c19
                      try clear c19b0
                      try clear c20
                      try clear c20b0
                      try clear c21
                      try clear c21b0
                      try clear c21b1
                      try clear hx107_0
                      try clear hx109_0
                      try clear hx110_0
                      try clear p1
                      try clear p10
                      try clear p107
                      try clear p109
                      try clear p110
                      try clear p2
                      try clear p6
                      try clear q1
                      try clear q10
                      try clear q107
                      try clear q109
                      try clear q110
                      obtain ⟨kq, x65_16, rfl, HA, HJ16, HO_5, HB⟩ := hcut
                      cases kq with
                      | zero => exact absurd HA.out (by simp [backhaullaw03_ShareFair.j2])
                      | succ kj16 =>
                        have H := HA.out
                        clear HA
                        simp only [backhaullaw03_ShareFair.j2] at H
                        by_cases c22 : x65_16 = true
                        · subst c22
                          have H1 : (some false) = some true := by first | (rw [if_pos rfl] at H; exact H) | rfl
                          clear H
                          have H := H1
                          clear H1
                          exact absurd H (by simp)
                        · replace c22 := Bool.eq_false_iff.mpr c22
                          subst c22
                          have H1 : (backhaullaw03_ShareFair.l2 kj16 l1 t102 x7_1 x9_2 (wrap64 (x9_2 + 1))) = some true := by first | (rw [if_neg (show ¬ (false = true) by decide)] at H; exact H) | rfl
                          clear H
                          have H := H1
                          clear H1
                          have H' := Aside0.mk H
                          clear H
                          go_wp2
                          repeat (go_quiet (fail); try go_wp2)
                          go_loopg [10] kj16 (fun kq v10 w' => ∃ (x10_4 : Int), v10 = .int .i64 x10_4 ∧ Aside0 (backhaullaw03_ShareFair.l2 kq l1 t102 x7_1 x9_2 x10_4 = some true) ∧ Aside0 (kq ≤ kj16) ∧ Aside0 (Kd.R (Kd.int .i64) 3 w' w.heap.size (fun _ => True) (.slice Ao11 t102.length co11) t102) ∧ Aside0 (Below w.heap.size w w'))
                          case atStart => exact ⟨(wrap64 (x9_2 + 1)), (by first | rfl | (simp; done) | (simp [*]; done)), H', ⟨Nat.le_refl _⟩, ⟨by (with_reducible repeat (first | apply Kd.R_alloc | apply Kd.R_drewN | apply Kd.R_drew)); exact HO_5.out⟩, ⟨by repeat (first | (with_reducible first | exact HB.out | apply below_alloc | apply pw_below_drewN | apply below_drew1) | exact HB.out)⟩⟩
                          case round =>
                            clear H'
                            try clear c1
                            try clear p1
                            try clear q1
                            try clear hx1
                            try clear c2
                            try clear p2
                            try clear c3
                            try clear c3b0
                            try clear c3b1
                            try clear c5
                            try clear p6
                            try clear c8
                            try clear c8b0
                            try clear c8b1
                            try clear c9
                            try clear c9b0
                            try clear c9b1
                            try clear c9b2
                            try clear p10
                            try clear q10
                            try clear hx10
                            try clear p11
                            try clear q11
                            try clear hx11
                            try clear c12
                            try clear c12b0
                            try clear c13
                            try clear c14
                            try clear c14b0
                            try clear c15
                            try clear c15b0
                            try clear c16
                            try clear c16b0
                            try clear c18
                            try clear c19
                            try clear c19b0
                            try clear c20
                            try clear c20b0
                            try clear c21
                            try clear c21b0
                            try clear c21b1
                            try clear c22
                            try clear hx107_0
                            try clear hx109_0
                            try clear hx110_0
                            try clear p1
                            try clear p10
                            try clear p107
                            try clear p109
                            try clear p11
                            try clear p110
                            try clear p2
                            try clear p6
                            try clear q1
                            try clear q10
                            try clear q107
                            try clear q109
                            try clear q11
                            try clear q110
                            obtain ⟨x10_4, rfl, HA, HK4, HO_5, HB⟩ := hrel
                            cases gk with
                            | zero => exact absurd HA.out (by simp [backhaullaw03_ShareFair.l2])
                            | succ k4 =>
                              have H := HA.out
                              clear HA
                              simp only [backhaullaw03_ShareFair.l2] at H
                              by_cases c23 : x10_4 < (t102.length : Int)
                              · rw [if_pos c23] at H
                                have c23b0 : decide (x10_4 < (t102.length : Int)) = true := decide_eq_true c23
                                clear c23
                                by_cases c24 : 0 ≤ x9_2
                                · rw [if_pos c24] at H
                                  have c24b0 : decide (0 ≤ x9_2) = true := decide_eq_true c24
                                  clear c24
                                  by_cases c25 : x9_2 < (t102.length : Int)
                                  · rw [if_pos c25] at H
                                    have c25b0 : decide (x9_2 < (t102.length : Int)) = true := decide_eq_true c25
                                    clear c25
                                    by_cases c26 : 0 ≤ x10_4
                                    · rw [if_pos c26] at H
                                      have c26b0 : decide (0 ≤ x10_4) = true := decide_eq_true c26
                                      clear c26
                                      by_cases c27 : x9_2 < (l1.length : Int)
                                      · rw [if_pos c27] at H
                                        have c27b0 : decide (x9_2 < (l1.length : Int)) = true := decide_eq_true c27
                                        clear c27
                                        by_cases c28 : x10_4 < (l1.length : Int)
                                        · rw [if_pos c28] at H
                                          have c28b0 : decide (x10_4 < (l1.length : Int)) = true := decide_eq_true c28
                                          clear c28
                                          by_cases c29 : (rd l1 x9_2) > (rd l1 x10_4)
                                          · rw [if_pos c29] at H
                                            have c29b0 : decide ((rd l1 x10_4) < (rd l1 x9_2)) = true := decide_eq_true c29
                                            clear c29
                                            by_cases c30 : (rd t102 x9_2) < (rd t102 x10_4)
                                            · rw [if_pos c30] at H
                                              have c30b0 : decide ((rd t102 x9_2) < (rd t102 x10_4)) = true := decide_eq_true c30
                                              clear c30
                                              exact absurd H (by simp)
                                            · rw [if_neg c30] at H
                                              have c30b0 : decide ((rd t102 x9_2) < (rd t102 x10_4)) = false := decide_eq_false c30
                                              clear c30
                                              by_cases c31 : (rd l1 x9_2) < (rd l1 x10_4)
                                              · rw [if_pos c31] at H
                                                have c31b0 : decide ((rd l1 x9_2) < (rd l1 x10_4)) = true := decide_eq_true c31
                                                clear c31
                                                by_cases c32 : (rd t102 x9_2) > (rd t102 x10_4)
                                                · rw [if_pos c32] at H
                                                  have c32b0 : decide ((rd t102 x10_4) < (rd t102 x9_2)) = true := decide_eq_true c32
                                                  clear c32
                                                  exact absurd H (by simp)
                                                · rw [if_neg c32] at H
                                                  have c32b0 : decide ((rd t102 x10_4) < (rd t102 x9_2)) = false := decide_eq_false c32
                                                  clear c32
                                                  by_cases c33 : (rd l1 x9_2) = (rd l1 x10_4)
                                                  · rw [if_pos c33] at H
                                                    have c33b0 : ((rd l1 x9_2) == (rd l1 x10_4)) = true := beq_iff_eq.mpr c33
                                                    have c33b1 : ((rd l1 x9_2) != (rd l1 x10_4)) = false := bne_eq_false_iff_eq.mpr c33
                                                    clear c33
                                                    by_cases c34 : (rd t102 x9_2) > (wrap64 ((rd t102 x10_4) + 1))
                                                    · rw [if_pos c34] at H
                                                      have c34b0 : decide ((wrap64 ((rd t102 x10_4) + 1)) < (rd t102 x9_2)) = true := decide_eq_true c34
                                                      clear c34
                                                      exact absurd H (by simp)
                                                    · rw [if_neg c34] at H
                                                      have c34b0 : decide ((wrap64 ((rd t102 x10_4) + 1)) < (rd t102 x9_2)) = false := decide_eq_false c34
                                                      clear c34
                                                      have H' := Aside0.mk H
                                                      clear H
                                                      have p111 : 0 ≤ (x9_2 : Int) := of_decide_eq_true (by first | (with_reducible assumption) | assumption)
                                                      have q111 : x9_2 < (t102.length : Int) := of_decide_eq_true (by first | (with_reducible assumption) | assumption)
                                                      obtain ⟨ad111, e111, hx111_0⟩ := Kd.at_int (Kd.R_reads' HO_5.out).2.2 x9_2 p111 q111
                                                      cases e111
                                                      replace p111 := eq_true p111
                                                      replace q111 := eq_true q111
                                                      have p112 : 0 ≤ (x10_4 : Int) := of_decide_eq_true (by first | (with_reducible assumption) | assumption)
                                                      have q112 : x10_4 < (t102.length : Int) := of_decide_eq_true (by first | (with_reducible assumption) | assumption)
                                                      obtain ⟨ad112, e112, hx112_0⟩ := Kd.at_int (Kd.R_reads' HO_5.out).2.2 x10_4 p112 q112
                                                      obtain rfl : ad111 = ad112 := (by injection e112)
                                                      replace p112 := eq_true p112
                                                      replace q112 := eq_true q112
                                                      have p113 : 0 ≤ (x9_2 : Int) := of_decide_eq_true (by first | (with_reducible assumption) | assumption)
                                                      have q113 : x9_2 < (l1.length : Int) := of_decide_eq_true (by first | (with_reducible assumption) | assumption)
                                                      obtain ⟨ad113, e113, hx113_0⟩ := Kd.at_int HR1.out x9_2 p113 q113
                                                      cases e113
                                                      replace hx113_0 := (HB.out.cell (World.block_lt_of_cell? w _ hx113_0)).trans hx113_0
                                                      replace p113 := eq_true p113
                                                      replace q113 := eq_true q113
                                                      have p114 : 0 ≤ (x10_4 : Int) := of_decide_eq_true (by first | (with_reducible assumption) | assumption)
                                                      have q114 : x10_4 < (l1.length : Int) := of_decide_eq_true (by first | (with_reducible assumption) | assumption)
                                                      obtain ⟨ad114, e114, hx114_0⟩ := Kd.at_int HR1.out x10_4 p114 q114
                                                      obtain rfl : ad113 = ad114 := (by injection e114)
                                                      replace hx114_0 := (HB.out.cell (World.block_lt_of_cell? w _ hx114_0)).trans hx114_0
                                                      replace p114 := eq_true p114
                                                      replace q114 := eq_true q114
                                                      have p115 : 0 ≤ (x9_2 : Int) := of_decide_eq_true (by first | (with_reducible assumption) | assumption)
                                                      have q115 : x9_2 < (l1.length : Int) := of_decide_eq_true (by first | (with_reducible assumption) | assumption)
                                                      obtain ⟨ad115, e115, hx115_0⟩ := Kd.at_int HR1.out x9_2 p115 q115
                                                      obtain rfl : ad113 = ad115 := (by injection e115)
                                                      replace hx115_0 := (HB.out.cell (World.block_lt_of_cell? w _ hx115_0)).trans hx115_0
                                                      replace p115 := eq_true p115
                                                      replace q115 := eq_true q115
                                                      have p116 : 0 ≤ (x10_4 : Int) := of_decide_eq_true (by first | (with_reducible assumption) | assumption)
                                                      have q116 : x10_4 < (l1.length : Int) := of_decide_eq_true (by first | (with_reducible assumption) | assumption)
                                                      obtain ⟨ad116, e116, hx116_0⟩ := Kd.at_int HR1.out x10_4 p116 q116
                                                      obtain rfl : ad113 = ad116 := (by injection e116)
                                                      replace hx116_0 := (HB.out.cell (World.block_lt_of_cell? w _ hx116_0)).trans hx116_0
                                                      replace p116 := eq_true p116
                                                      replace q116 := eq_true q116
                                                      have p117 : 0 ≤ (x9_2 : Int) := of_decide_eq_true (by first | (with_reducible assumption) | assumption)
                                                      have q117 : x9_2 < (l1.length : Int) := of_decide_eq_true (by first | (with_reducible assumption) | assumption)
                                                      obtain ⟨ad117, e117, hx117_0⟩ := Kd.at_int HR1.out x9_2 p117 q117
                                                      obtain rfl : ad113 = ad117 := (by injection e117)
                                                      replace hx117_0 := (HB.out.cell (World.block_lt_of_cell? w _ hx117_0)).trans hx117_0
                                                      replace p117 := eq_true p117
                                                      replace q117 := eq_true q117
                                                      have p118 : 0 ≤ (x10_4 : Int) := of_decide_eq_true (by first | (with_reducible assumption) | assumption)
                                                      have q118 : x10_4 < (l1.length : Int) := of_decide_eq_true (by first | (with_reducible assumption) | assumption)
                                                      obtain ⟨ad118, e118, hx118_0⟩ := Kd.at_int HR1.out x10_4 p118 q118
                                                      obtain rfl : ad113 = ad118 := (by injection e118)
                                                      replace hx118_0 := (HB.out.cell (World.block_lt_of_cell? w _ hx118_0)).trans hx118_0
                                                      replace p118 := eq_true p118
                                                      replace q118 := eq_true q118
                                                      go_wp2
                                                      repeat (go_quiet (fail); try go_wp2)
                                                      go_roundg k4
                                                      case measure => have := HK1.out; have := HK2.out; have := HJ16.out; have := HK4.out; omega
                                                      case rel => exact ⟨(wrap64 (x10_4 + 1)), (by first | rfl | (simp; done) | (simp [*]; done)), H', ⟨by have := HK1.out; have := HK2.out; have := HJ16.out; have := HK4.out; omega⟩, ⟨by (with_reducible repeat (first | apply Kd.R_alloc | apply Kd.R_drewN | apply Kd.R_drew)); exact HO_5.out⟩, ⟨by repeat (first | (with_reducible first | exact HB.out | apply below_alloc | apply pw_below_drewN | apply below_drew1) | exact HB.out)⟩⟩
                                                  · rw [if_neg c33] at H
                                                    have c33b0 : ((rd l1 x9_2) == (rd l1 x10_4)) = false := beq_eq_false_iff_ne.mpr c33
                                                    have c33b1 : ((rd l1 x9_2) != (rd l1 x10_4)) = true := bne_iff_ne.mpr c33
                                                    have H' := Aside0.mk H
                                                    clear H
                                                    have p111 : 0 ≤ (x9_2 : Int) := of_decide_eq_true (by first | (with_reducible assumption) | assumption)
                                                    have q111 : x9_2 < (t102.length : Int) := of_decide_eq_true (by first | (with_reducible assumption) | assumption)
                                                    obtain ⟨ad111, e111, hx111_0⟩ := Kd.at_int (Kd.R_reads' HO_5.out).2.2 x9_2 p111 q111
                                                    cases e111
                                                    replace p111 := eq_true p111
                                                    replace q111 := eq_true q111
                                                    have p112 : 0 ≤ (x10_4 : Int) := of_decide_eq_true (by first | (with_reducible assumption) | assumption)
                                                    have q112 : x10_4 < (t102.length : Int) := of_decide_eq_true (by first | (with_reducible assumption) | assumption)
                                                    obtain ⟨ad112, e112, hx112_0⟩ := Kd.at_int (Kd.R_reads' HO_5.out).2.2 x10_4 p112 q112
                                                    obtain rfl : ad111 = ad112 := (by injection e112)
                                                    replace p112 := eq_true p112
                                                    replace q112 := eq_true q112
                                                    have p113 : 0 ≤ (x9_2 : Int) := of_decide_eq_true (by first | (with_reducible assumption) | assumption)
                                                    have q113 : x9_2 < (l1.length : Int) := of_decide_eq_true (by first | (with_reducible assumption) | assumption)
                                                    obtain ⟨ad113, e113, hx113_0⟩ := Kd.at_int HR1.out x9_2 p113 q113
                                                    cases e113
                                                    replace hx113_0 := (HB.out.cell (World.block_lt_of_cell? w _ hx113_0)).trans hx113_0
                                                    replace p113 := eq_true p113
                                                    replace q113 := eq_true q113
                                                    have p114 : 0 ≤ (x10_4 : Int) := of_decide_eq_true (by first | (with_reducible assumption) | assumption)
                                                    have q114 : x10_4 < (l1.length : Int) := of_decide_eq_true (by first | (with_reducible assumption) | assumption)
                                                    obtain ⟨ad114, e114, hx114_0⟩ := Kd.at_int HR1.out x10_4 p114 q114
                                                    obtain rfl : ad113 = ad114 := (by injection e114)
                                                    replace hx114_0 := (HB.out.cell (World.block_lt_of_cell? w _ hx114_0)).trans hx114_0
                                                    replace p114 := eq_true p114
                                                    replace q114 := eq_true q114
                                                    have p115 : 0 ≤ (x9_2 : Int) := of_decide_eq_true (by first | (with_reducible assumption) | assumption)
                                                    have q115 : x9_2 < (l1.length : Int) := of_decide_eq_true (by first | (with_reducible assumption) | assumption)
                                                    obtain ⟨ad115, e115, hx115_0⟩ := Kd.at_int HR1.out x9_2 p115 q115
                                                    obtain rfl : ad113 = ad115 := (by injection e115)
                                                    replace hx115_0 := (HB.out.cell (World.block_lt_of_cell? w _ hx115_0)).trans hx115_0
                                                    replace p115 := eq_true p115
                                                    replace q115 := eq_true q115
                                                    have p116 : 0 ≤ (x10_4 : Int) := of_decide_eq_true (by first | (with_reducible assumption) | assumption)
                                                    have q116 : x10_4 < (l1.length : Int) := of_decide_eq_true (by first | (with_reducible assumption) | assumption)
                                                    obtain ⟨ad116, e116, hx116_0⟩ := Kd.at_int HR1.out x10_4 p116 q116
                                                    obtain rfl : ad113 = ad116 := (by injection e116)
                                                    replace hx116_0 := (HB.out.cell (World.block_lt_of_cell? w _ hx116_0)).trans hx116_0
                                                    replace p116 := eq_true p116
                                                    replace q116 := eq_true q116
                                                    have p117 : 0 ≤ (x9_2 : Int) := of_decide_eq_true (by first | (with_reducible assumption) | assumption)
                                                    have q117 : x9_2 < (l1.length : Int) := of_decide_eq_true (by first | (with_reducible assumption) | assumption)
                                                    obtain ⟨ad117, e117, hx117_0⟩ := Kd.at_int HR1.out x9_2 p117 q117
                                                    obtain rfl : ad113 = ad117 := (by injection e117)
                                                    replace hx117_0 := (HB.out.cell (World.block_lt_of_cell? w _ hx117_0)).trans hx117_0
                                                    replace p117 := eq_true p117
                                                    replace q117 := eq_true q117
                                                    have p118 : 0 ≤ (x10_4 : Int) := of_decide_eq_true (by first | (with_reducible assumption) | assumption)
                                                    have q118 : x10_4 < (l1.length : Int) := of_decide_eq_true (by first | (with_reducible assumption) | assumption)
                                                    obtain ⟨ad118, e118, hx118_0⟩ := Kd.at_int HR1.out x10_4 p118 q118
                                                    obtain rfl : ad113 = ad118 := (by injection e118)
                                                    replace hx118_0 := (HB.out.cell (World.block_lt_of_cell? w _ hx118_0)).trans hx118_0
                                                    replace p118 := eq_true p118
                                                    replace q118 := eq_true q118
                                                    go_wp2
                                                    repeat (go_quiet (fail); try go_wp2)
                                                    go_roundg k4
                                                    case measure => have := HK1.out; have := HK2.out; have := HJ16.out; have := HK4.out; omega
                                                    case rel => exact ⟨(wrap64 (x10_4 + 1)), (by first | rfl | (simp; done) | (simp [*]; done)), H', ⟨by have := HK1.out; have := HK2.out; have := HJ16.out; have := HK4.out; omega⟩, ⟨by (with_reducible repeat (first | apply Kd.R_alloc | apply Kd.R_drewN | apply Kd.R_drew)); exact HO_5.out⟩, ⟨by repeat (first | (with_reducible first | exact HB.out | apply below_alloc | apply pw_below_drewN | apply below_drew1) | exact HB.out)⟩⟩
                                              · rw [if_neg c31] at H
                                                have c31b0 : decide ((rd l1 x9_2) < (rd l1 x10_4)) = false := decide_eq_false c31
                                                clear c31
                                                by_cases c35 : (rd l1 x9_2) = (rd l1 x10_4)
                                                · rw [if_pos c35] at H
                                                  have c35b0 : ((rd l1 x9_2) == (rd l1 x10_4)) = true := beq_iff_eq.mpr c35
                                                  have c35b1 : ((rd l1 x9_2) != (rd l1 x10_4)) = false := bne_eq_false_iff_eq.mpr c35
                                                  clear c35
                                                  by_cases c36 : (rd t102 x9_2) > (wrap64 ((rd t102 x10_4) + 1))
                                                  · rw [if_pos c36] at H
                                                    have c36b0 : decide ((wrap64 ((rd t102 x10_4) + 1)) < (rd t102 x9_2)) = true := decide_eq_true c36
                                                    clear c36
                                                    exact absurd H (by simp)
                                                  · rw [if_neg c36] at H
                                                    have c36b0 : decide ((wrap64 ((rd t102 x10_4) + 1)) < (rd t102 x9_2)) = false := decide_eq_false c36
                                                    clear c36
                                                    have H' := Aside0.mk H
                                                    clear H
                                                    have p111 : 0 ≤ (x9_2 : Int) := of_decide_eq_true (by first | (with_reducible assumption) | assumption)
                                                    have q111 : x9_2 < (t102.length : Int) := of_decide_eq_true (by first | (with_reducible assumption) | assumption)
                                                    obtain ⟨ad111, e111, hx111_0⟩ := Kd.at_int (Kd.R_reads' HO_5.out).2.2 x9_2 p111 q111
                                                    cases e111
                                                    replace p111 := eq_true p111
                                                    replace q111 := eq_true q111
                                                    have p112 : 0 ≤ (x10_4 : Int) := of_decide_eq_true (by first | (with_reducible assumption) | assumption)
                                                    have q112 : x10_4 < (t102.length : Int) := of_decide_eq_true (by first | (with_reducible assumption) | assumption)
                                                    obtain ⟨ad112, e112, hx112_0⟩ := Kd.at_int (Kd.R_reads' HO_5.out).2.2 x10_4 p112 q112
                                                    obtain rfl : ad111 = ad112 := (by injection e112)
                                                    replace p112 := eq_true p112
                                                    replace q112 := eq_true q112
                                                    have p113 : 0 ≤ (x9_2 : Int) := of_decide_eq_true (by first | (with_reducible assumption) | assumption)
                                                    have q113 : x9_2 < (l1.length : Int) := of_decide_eq_true (by first | (with_reducible assumption) | assumption)
                                                    obtain ⟨ad113, e113, hx113_0⟩ := Kd.at_int HR1.out x9_2 p113 q113
                                                    cases e113
                                                    replace hx113_0 := (HB.out.cell (World.block_lt_of_cell? w _ hx113_0)).trans hx113_0
                                                    replace p113 := eq_true p113
                                                    replace q113 := eq_true q113
                                                    have p114 : 0 ≤ (x10_4 : Int) := of_decide_eq_true (by first | (with_reducible assumption) | assumption)
                                                    have q114 : x10_4 < (l1.length : Int) := of_decide_eq_true (by first | (with_reducible assumption) | assumption)
                                                    obtain ⟨ad114, e114, hx114_0⟩ := Kd.at_int HR1.out x10_4 p114 q114
                                                    obtain rfl : ad113 = ad114 := (by injection e114)
                                                    replace hx114_0 := (HB.out.cell (World.block_lt_of_cell? w _ hx114_0)).trans hx114_0
                                                    replace p114 := eq_true p114
                                                    replace q114 := eq_true q114
                                                    have p115 : 0 ≤ (x9_2 : Int) := of_decide_eq_true (by first | (with_reducible assumption) | assumption)
                                                    have q115 : x9_2 < (l1.length : Int) := of_decide_eq_true (by first | (with_reducible assumption) | assumption)
                                                    obtain ⟨ad115, e115, hx115_0⟩ := Kd.at_int HR1.out x9_2 p115 q115
                                                    obtain rfl : ad113 = ad115 := (by injection e115)
                                                    replace hx115_0 := (HB.out.cell (World.block_lt_of_cell? w _ hx115_0)).trans hx115_0
                                                    replace p115 := eq_true p115
                                                    replace q115 := eq_true q115
                                                    have p116 : 0 ≤ (x10_4 : Int) := of_decide_eq_true (by first | (with_reducible assumption) | assumption)
                                                    have q116 : x10_4 < (l1.length : Int) := of_decide_eq_true (by first | (with_reducible assumption) | assumption)
                                                    obtain ⟨ad116, e116, hx116_0⟩ := Kd.at_int HR1.out x10_4 p116 q116
                                                    obtain rfl : ad113 = ad116 := (by injection e116)
                                                    replace hx116_0 := (HB.out.cell (World.block_lt_of_cell? w _ hx116_0)).trans hx116_0
                                                    replace p116 := eq_true p116
                                                    replace q116 := eq_true q116
                                                    have p119 : 0 ≤ (x9_2 : Int) := of_decide_eq_true (by first | (with_reducible assumption) | assumption)
                                                    have q119 : x9_2 < (l1.length : Int) := of_decide_eq_true (by first | (with_reducible assumption) | assumption)
                                                    obtain ⟨ad119, e119, hx119_0⟩ := Kd.at_int HR1.out x9_2 p119 q119
                                                    obtain rfl : ad113 = ad119 := (by injection e119)
                                                    replace hx119_0 := (HB.out.cell (World.block_lt_of_cell? w _ hx119_0)).trans hx119_0
                                                    replace p119 := eq_true p119
                                                    replace q119 := eq_true q119
                                                    have p120 : 0 ≤ (x10_4 : Int) := of_decide_eq_true (by first | (with_reducible assumption) | assumption)
                                                    have q120 : x10_4 < (l1.length : Int) := of_decide_eq_true (by first | (with_reducible assumption) | assumption)
                                                    obtain ⟨ad120, e120, hx120_0⟩ := Kd.at_int HR1.out x10_4 p120 q120
                                                    obtain rfl : ad113 = ad120 := (by injection e120)
                                                    replace hx120_0 := (HB.out.cell (World.block_lt_of_cell? w _ hx120_0)).trans hx120_0
                                                    replace p120 := eq_true p120
                                                    replace q120 := eq_true q120
                                                    go_wp2
                                                    repeat (go_quiet (fail); try go_wp2)
                                                    go_roundg k4
                                                    case measure => have := HK1.out; have := HK2.out; have := HJ16.out; have := HK4.out; omega
                                                    case rel => exact ⟨(wrap64 (x10_4 + 1)), (by first | rfl | (simp; done) | (simp [*]; done)), H', ⟨by have := HK1.out; have := HK2.out; have := HJ16.out; have := HK4.out; omega⟩, ⟨by (with_reducible repeat (first | apply Kd.R_alloc | apply Kd.R_drewN | apply Kd.R_drew)); exact HO_5.out⟩, ⟨by repeat (first | (with_reducible first | exact HB.out | apply below_alloc | apply pw_below_drewN | apply below_drew1) | exact HB.out)⟩⟩
                                                · rw [if_neg c35] at H
                                                  have c35b0 : ((rd l1 x9_2) == (rd l1 x10_4)) = false := beq_eq_false_iff_ne.mpr c35
                                                  have c35b1 : ((rd l1 x9_2) != (rd l1 x10_4)) = true := bne_iff_ne.mpr c35
                                                  have H' := Aside0.mk H
                                                  clear H
                                                  have p111 : 0 ≤ (x9_2 : Int) := of_decide_eq_true (by first | (with_reducible assumption) | assumption)
                                                  have q111 : x9_2 < (t102.length : Int) := of_decide_eq_true (by first | (with_reducible assumption) | assumption)
                                                  obtain ⟨ad111, e111, hx111_0⟩ := Kd.at_int (Kd.R_reads' HO_5.out).2.2 x9_2 p111 q111
                                                  cases e111
                                                  replace p111 := eq_true p111
                                                  replace q111 := eq_true q111
                                                  have p112 : 0 ≤ (x10_4 : Int) := of_decide_eq_true (by first | (with_reducible assumption) | assumption)
                                                  have q112 : x10_4 < (t102.length : Int) := of_decide_eq_true (by first | (with_reducible assumption) | assumption)
                                                  obtain ⟨ad112, e112, hx112_0⟩ := Kd.at_int (Kd.R_reads' HO_5.out).2.2 x10_4 p112 q112
                                                  obtain rfl : ad111 = ad112 := (by injection e112)
                                                  replace p112 := eq_true p112
                                                  replace q112 := eq_true q112
                                                  have p113 : 0 ≤ (x9_2 : Int) := of_decide_eq_true (by first | (with_reducible assumption) | assumption)
                                                  have q113 : x9_2 < (l1.length : Int) := of_decide_eq_true (by first | (with_reducible assumption) | assumption)
                                                  obtain ⟨ad113, e113, hx113_0⟩ := Kd.at_int HR1.out x9_2 p113 q113
                                                  cases e113
                                                  replace hx113_0 := (HB.out.cell (World.block_lt_of_cell? w _ hx113_0)).trans hx113_0
                                                  replace p113 := eq_true p113
                                                  replace q113 := eq_true q113
                                                  have p114 : 0 ≤ (x10_4 : Int) := of_decide_eq_true (by first | (with_reducible assumption) | assumption)
                                                  have q114 : x10_4 < (l1.length : Int) := of_decide_eq_true (by first | (with_reducible assumption) | assumption)
                                                  obtain ⟨ad114, e114, hx114_0⟩ := Kd.at_int HR1.out x10_4 p114 q114
                                                  obtain rfl : ad113 = ad114 := (by injection e114)
                                                  replace hx114_0 := (HB.out.cell (World.block_lt_of_cell? w _ hx114_0)).trans hx114_0
                                                  replace p114 := eq_true p114
                                                  replace q114 := eq_true q114
                                                  have p115 : 0 ≤ (x9_2 : Int) := of_decide_eq_true (by first | (with_reducible assumption) | assumption)
                                                  have q115 : x9_2 < (l1.length : Int) := of_decide_eq_true (by first | (with_reducible assumption) | assumption)
                                                  obtain ⟨ad115, e115, hx115_0⟩ := Kd.at_int HR1.out x9_2 p115 q115
                                                  obtain rfl : ad113 = ad115 := (by injection e115)
                                                  replace hx115_0 := (HB.out.cell (World.block_lt_of_cell? w _ hx115_0)).trans hx115_0
                                                  replace p115 := eq_true p115
                                                  replace q115 := eq_true q115
                                                  have p116 : 0 ≤ (x10_4 : Int) := of_decide_eq_true (by first | (with_reducible assumption) | assumption)
                                                  have q116 : x10_4 < (l1.length : Int) := of_decide_eq_true (by first | (with_reducible assumption) | assumption)
                                                  obtain ⟨ad116, e116, hx116_0⟩ := Kd.at_int HR1.out x10_4 p116 q116
                                                  obtain rfl : ad113 = ad116 := (by injection e116)
                                                  replace hx116_0 := (HB.out.cell (World.block_lt_of_cell? w _ hx116_0)).trans hx116_0
                                                  replace p116 := eq_true p116
                                                  replace q116 := eq_true q116
                                                  have p119 : 0 ≤ (x9_2 : Int) := of_decide_eq_true (by first | (with_reducible assumption) | assumption)
                                                  have q119 : x9_2 < (l1.length : Int) := of_decide_eq_true (by first | (with_reducible assumption) | assumption)
                                                  obtain ⟨ad119, e119, hx119_0⟩ := Kd.at_int HR1.out x9_2 p119 q119
                                                  obtain rfl : ad113 = ad119 := (by injection e119)
                                                  replace hx119_0 := (HB.out.cell (World.block_lt_of_cell? w _ hx119_0)).trans hx119_0
                                                  replace p119 := eq_true p119
                                                  replace q119 := eq_true q119
                                                  have p120 : 0 ≤ (x10_4 : Int) := of_decide_eq_true (by first | (with_reducible assumption) | assumption)
                                                  have q120 : x10_4 < (l1.length : Int) := of_decide_eq_true (by first | (with_reducible assumption) | assumption)
                                                  obtain ⟨ad120, e120, hx120_0⟩ := Kd.at_int HR1.out x10_4 p120 q120
                                                  obtain rfl : ad113 = ad120 := (by injection e120)
                                                  replace hx120_0 := (HB.out.cell (World.block_lt_of_cell? w _ hx120_0)).trans hx120_0
                                                  replace p120 := eq_true p120
                                                  replace q120 := eq_true q120
                                                  go_wp2
                                                  repeat (go_quiet (fail); try go_wp2)
                                                  go_roundg k4
                                                  case measure => have := HK1.out; have := HK2.out; have := HJ16.out; have := HK4.out; omega
                                                  case rel => exact ⟨(wrap64 (x10_4 + 1)), (by first | rfl | (simp; done) | (simp [*]; done)), H', ⟨by have := HK1.out; have := HK2.out; have := HJ16.out; have := HK4.out; omega⟩, ⟨by (with_reducible repeat (first | apply Kd.R_alloc | apply Kd.R_drewN | apply Kd.R_drew)); exact HO_5.out⟩, ⟨by repeat (first | (with_reducible first | exact HB.out | apply below_alloc | apply pw_below_drewN | apply below_drew1) | exact HB.out)⟩⟩
                                          · rw [if_neg c29] at H
                                            have c29b0 : decide ((rd l1 x10_4) < (rd l1 x9_2)) = false := decide_eq_false c29
                                            clear c29
                                            by_cases c37 : (rd l1 x9_2) < (rd l1 x10_4)
                                            · rw [if_pos c37] at H
                                              have c37b0 : decide ((rd l1 x9_2) < (rd l1 x10_4)) = true := decide_eq_true c37
                                              clear c37
                                              by_cases c38 : (rd t102 x9_2) > (rd t102 x10_4)
                                              · rw [if_pos c38] at H
                                                have c38b0 : decide ((rd t102 x10_4) < (rd t102 x9_2)) = true := decide_eq_true c38
                                                clear c38
                                                exact absurd H (by simp)
                                              · rw [if_neg c38] at H
                                                have c38b0 : decide ((rd t102 x10_4) < (rd t102 x9_2)) = false := decide_eq_false c38
                                                clear c38
                                                by_cases c39 : (rd l1 x9_2) = (rd l1 x10_4)
                                                · rw [if_pos c39] at H
                                                  have c39b0 : ((rd l1 x9_2) == (rd l1 x10_4)) = true := beq_iff_eq.mpr c39
                                                  have c39b1 : ((rd l1 x9_2) != (rd l1 x10_4)) = false := bne_eq_false_iff_eq.mpr c39
                                                  clear c39
                                                  by_cases c40 : (rd t102 x9_2) < (rd t102 x10_4)
                                                  · rw [if_pos c40] at H
                                                    have c40b0 : decide ((rd t102 x9_2) < (rd t102 x10_4)) = true := decide_eq_true c40
                                                    clear c40
                                                    exact absurd H (by simp)
                                                  · rw [if_neg c40] at H
                                                    have c40b0 : decide ((rd t102 x9_2) < (rd t102 x10_4)) = false := decide_eq_false c40
                                                    clear c40
                                                    by_cases c41 : (rd t102 x9_2) > (wrap64 ((rd t102 x10_4) + 1))
                                                    · rw [if_pos c41] at H
                                                      have c41b0 : decide ((wrap64 ((rd t102 x10_4) + 1)) < (rd t102 x9_2)) = true := decide_eq_true c41
                                                      clear c41
                                                      exact absurd H (by simp)
                                                    · rw [if_neg c41] at H
                                                      have c41b0 : decide ((wrap64 ((rd t102 x10_4) + 1)) < (rd t102 x9_2)) = false := decide_eq_false c41
                                                      clear c41
                                                      have H' := Aside0.mk H
                                                      clear H
                                                      have p111 : 0 ≤ (x9_2 : Int) := of_decide_eq_true (by first | (with_reducible assumption) | assumption)
                                                      have q111 : x9_2 < (t102.length : Int) := of_decide_eq_true (by first | (with_reducible assumption) | assumption)
                                                      obtain ⟨ad111, e111, hx111_0⟩ := Kd.at_int (Kd.R_reads' HO_5.out).2.2 x9_2 p111 q111
                                                      cases e111
                                                      replace p111 := eq_true p111
                                                      replace q111 := eq_true q111
                                                      have p112 : 0 ≤ (x10_4 : Int) := of_decide_eq_true (by first | (with_reducible assumption) | assumption)
                                                      have q112 : x10_4 < (t102.length : Int) := of_decide_eq_true (by first | (with_reducible assumption) | assumption)
                                                      obtain ⟨ad112, e112, hx112_0⟩ := Kd.at_int (Kd.R_reads' HO_5.out).2.2 x10_4 p112 q112
                                                      obtain rfl : ad111 = ad112 := (by injection e112)
                                                      replace p112 := eq_true p112
                                                      replace q112 := eq_true q112
                                                      have p113 : 0 ≤ (x9_2 : Int) := of_decide_eq_true (by first | (with_reducible assumption) | assumption)
                                                      have q113 : x9_2 < (l1.length : Int) := of_decide_eq_true (by first | (with_reducible assumption) | assumption)
                                                      obtain ⟨ad113, e113, hx113_0⟩ := Kd.at_int HR1.out x9_2 p113 q113
                                                      cases e113
                                                      replace hx113_0 := (HB.out.cell (World.block_lt_of_cell? w _ hx113_0)).trans hx113_0
                                                      replace p113 := eq_true p113
                                                      replace q113 := eq_true q113
                                                      have p114 : 0 ≤ (x10_4 : Int) := of_decide_eq_true (by first | (with_reducible assumption) | assumption)
                                                      have q114 : x10_4 < (l1.length : Int) := of_decide_eq_true (by first | (with_reducible assumption) | assumption)
                                                      obtain ⟨ad114, e114, hx114_0⟩ := Kd.at_int HR1.out x10_4 p114 q114
                                                      obtain rfl : ad113 = ad114 := (by injection e114)
                                                      replace hx114_0 := (HB.out.cell (World.block_lt_of_cell? w _ hx114_0)).trans hx114_0
                                                      replace p114 := eq_true p114
                                                      replace q114 := eq_true q114
                                                      have p121 : 0 ≤ (x9_2 : Int) := of_decide_eq_true (by first | (with_reducible assumption) | assumption)
                                                      have q121 : x9_2 < (l1.length : Int) := of_decide_eq_true (by first | (with_reducible assumption) | assumption)
                                                      obtain ⟨ad121, e121, hx121_0⟩ := Kd.at_int HR1.out x9_2 p121 q121
                                                      obtain rfl : ad113 = ad121 := (by injection e121)
                                                      replace hx121_0 := (HB.out.cell (World.block_lt_of_cell? w _ hx121_0)).trans hx121_0
                                                      replace p121 := eq_true p121
                                                      replace q121 := eq_true q121
                                                      have p122 : 0 ≤ (x10_4 : Int) := of_decide_eq_true (by first | (with_reducible assumption) | assumption)
                                                      have q122 : x10_4 < (l1.length : Int) := of_decide_eq_true (by first | (with_reducible assumption) | assumption)
                                                      obtain ⟨ad122, e122, hx122_0⟩ := Kd.at_int HR1.out x10_4 p122 q122
                                                      obtain rfl : ad113 = ad122 := (by injection e122)
                                                      replace hx122_0 := (HB.out.cell (World.block_lt_of_cell? w _ hx122_0)).trans hx122_0
                                                      replace p122 := eq_true p122
                                                      replace q122 := eq_true q122
                                                      have p123 : 0 ≤ (x9_2 : Int) := of_decide_eq_true (by first | (with_reducible assumption) | assumption)
                                                      have q123 : x9_2 < (l1.length : Int) := of_decide_eq_true (by first | (with_reducible assumption) | assumption)
                                                      obtain ⟨ad123, e123, hx123_0⟩ := Kd.at_int HR1.out x9_2 p123 q123
                                                      obtain rfl : ad113 = ad123 := (by injection e123)
                                                      replace hx123_0 := (HB.out.cell (World.block_lt_of_cell? w _ hx123_0)).trans hx123_0
                                                      replace p123 := eq_true p123
                                                      replace q123 := eq_true q123
                                                      have p124 : 0 ≤ (x10_4 : Int) := of_decide_eq_true (by first | (with_reducible assumption) | assumption)
                                                      have q124 : x10_4 < (l1.length : Int) := of_decide_eq_true (by first | (with_reducible assumption) | assumption)
                                                      obtain ⟨ad124, e124, hx124_0⟩ := Kd.at_int HR1.out x10_4 p124 q124
                                                      obtain rfl : ad113 = ad124 := (by injection e124)
                                                      replace hx124_0 := (HB.out.cell (World.block_lt_of_cell? w _ hx124_0)).trans hx124_0
                                                      replace p124 := eq_true p124
                                                      replace q124 := eq_true q124
                                                      go_wp2
                                                      repeat (go_quiet (fail); try go_wp2)
                                                      go_roundg k4
                                                      case measure => have := HK1.out; have := HK2.out; have := HJ16.out; have := HK4.out; omega
                                                      case rel => exact ⟨(wrap64 (x10_4 + 1)), (by first | rfl | (simp; done) | (simp [*]; done)), H', ⟨by have := HK1.out; have := HK2.out; have := HJ16.out; have := HK4.out; omega⟩, ⟨by (with_reducible repeat (first | apply Kd.R_alloc | apply Kd.R_drewN | apply Kd.R_drew)); exact HO_5.out⟩, ⟨by repeat (first | (with_reducible first | exact HB.out | apply below_alloc | apply pw_below_drewN | apply below_drew1) | exact HB.out)⟩⟩
                                                · rw [if_neg c39] at H
                                                  have c39b0 : ((rd l1 x9_2) == (rd l1 x10_4)) = false := beq_eq_false_iff_ne.mpr c39
                                                  have c39b1 : ((rd l1 x9_2) != (rd l1 x10_4)) = true := bne_iff_ne.mpr c39
                                                  have H' := Aside0.mk H
                                                  clear H
                                                  have p111 : 0 ≤ (x9_2 : Int) := of_decide_eq_true (by first | (with_reducible assumption) | assumption)
                                                  have q111 : x9_2 < (t102.length : Int) := of_decide_eq_true (by first | (with_reducible assumption) | assumption)
                                                  obtain ⟨ad111, e111, hx111_0⟩ := Kd.at_int (Kd.R_reads' HO_5.out).2.2 x9_2 p111 q111
                                                  cases e111
                                                  replace p111 := eq_true p111
                                                  replace q111 := eq_true q111
                                                  have p112 : 0 ≤ (x10_4 : Int) := of_decide_eq_true (by first | (with_reducible assumption) | assumption)
                                                  have q112 : x10_4 < (t102.length : Int) := of_decide_eq_true (by first | (with_reducible assumption) | assumption)
                                                  obtain ⟨ad112, e112, hx112_0⟩ := Kd.at_int (Kd.R_reads' HO_5.out).2.2 x10_4 p112 q112
                                                  obtain rfl : ad111 = ad112 := (by injection e112)
                                                  replace p112 := eq_true p112
                                                  replace q112 := eq_true q112
                                                  have p113 : 0 ≤ (x9_2 : Int) := of_decide_eq_true (by first | (with_reducible assumption) | assumption)
                                                  have q113 : x9_2 < (l1.length : Int) := of_decide_eq_true (by first | (with_reducible assumption) | assumption)
                                                  obtain ⟨ad113, e113, hx113_0⟩ := Kd.at_int HR1.out x9_2 p113 q113
                                                  cases e113
                                                  replace hx113_0 := (HB.out.cell (World.block_lt_of_cell? w _ hx113_0)).trans hx113_0
                                                  replace p113 := eq_true p113
                                                  replace q113 := eq_true q113
                                                  have p114 : 0 ≤ (x10_4 : Int) := of_decide_eq_true (by first | (with_reducible assumption) | assumption)
                                                  have q114 : x10_4 < (l1.length : Int) := of_decide_eq_true (by first | (with_reducible assumption) | assumption)
                                                  obtain ⟨ad114, e114, hx114_0⟩ := Kd.at_int HR1.out x10_4 p114 q114
                                                  obtain rfl : ad113 = ad114 := (by injection e114)
                                                  replace hx114_0 := (HB.out.cell (World.block_lt_of_cell? w _ hx114_0)).trans hx114_0
                                                  replace p114 := eq_true p114
                                                  replace q114 := eq_true q114
                                                  have p121 : 0 ≤ (x9_2 : Int) := of_decide_eq_true (by first | (with_reducible assumption) | assumption)
                                                  have q121 : x9_2 < (l1.length : Int) := of_decide_eq_true (by first | (with_reducible assumption) | assumption)
                                                  obtain ⟨ad121, e121, hx121_0⟩ := Kd.at_int HR1.out x9_2 p121 q121
                                                  obtain rfl : ad113 = ad121 := (by injection e121)
                                                  replace hx121_0 := (HB.out.cell (World.block_lt_of_cell? w _ hx121_0)).trans hx121_0
                                                  replace p121 := eq_true p121
                                                  replace q121 := eq_true q121
                                                  have p122 : 0 ≤ (x10_4 : Int) := of_decide_eq_true (by first | (with_reducible assumption) | assumption)
                                                  have q122 : x10_4 < (l1.length : Int) := of_decide_eq_true (by first | (with_reducible assumption) | assumption)
                                                  obtain ⟨ad122, e122, hx122_0⟩ := Kd.at_int HR1.out x10_4 p122 q122
                                                  obtain rfl : ad113 = ad122 := (by injection e122)
                                                  replace hx122_0 := (HB.out.cell (World.block_lt_of_cell? w _ hx122_0)).trans hx122_0
                                                  replace p122 := eq_true p122
                                                  replace q122 := eq_true q122
                                                  have p123 : 0 ≤ (x9_2 : Int) := of_decide_eq_true (by first | (with_reducible assumption) | assumption)
                                                  have q123 : x9_2 < (l1.length : Int) := of_decide_eq_true (by first | (with_reducible assumption) | assumption)
                                                  obtain ⟨ad123, e123, hx123_0⟩ := Kd.at_int HR1.out x9_2 p123 q123
                                                  obtain rfl : ad113 = ad123 := (by injection e123)
                                                  replace hx123_0 := (HB.out.cell (World.block_lt_of_cell? w _ hx123_0)).trans hx123_0
                                                  replace p123 := eq_true p123
                                                  replace q123 := eq_true q123
                                                  have p124 : 0 ≤ (x10_4 : Int) := of_decide_eq_true (by first | (with_reducible assumption) | assumption)
                                                  have q124 : x10_4 < (l1.length : Int) := of_decide_eq_true (by first | (with_reducible assumption) | assumption)
                                                  obtain ⟨ad124, e124, hx124_0⟩ := Kd.at_int HR1.out x10_4 p124 q124
                                                  obtain rfl : ad113 = ad124 := (by injection e124)
                                                  replace hx124_0 := (HB.out.cell (World.block_lt_of_cell? w _ hx124_0)).trans hx124_0
                                                  replace p124 := eq_true p124
                                                  replace q124 := eq_true q124
                                                  go_wp2
                                                  repeat (go_quiet (fail); try go_wp2)
                                                  go_roundg k4
                                                  case measure => have := HK1.out; have := HK2.out; have := HJ16.out; have := HK4.out; omega
                                                  case rel => exact ⟨(wrap64 (x10_4 + 1)), (by first | rfl | (simp; done) | (simp [*]; done)), H', ⟨by have := HK1.out; have := HK2.out; have := HJ16.out; have := HK4.out; omega⟩, ⟨by (with_reducible repeat (first | apply Kd.R_alloc | apply Kd.R_drewN | apply Kd.R_drew)); exact HO_5.out⟩, ⟨by repeat (first | (with_reducible first | exact HB.out | apply below_alloc | apply pw_below_drewN | apply below_drew1) | exact HB.out)⟩⟩
                                            · rw [if_neg c37] at H
                                              have c37b0 : decide ((rd l1 x9_2) < (rd l1 x10_4)) = false := decide_eq_false c37
                                              clear c37
                                              by_cases c42 : (rd l1 x9_2) = (rd l1 x10_4)
                                              · rw [if_pos c42] at H
                                                have c42b0 : ((rd l1 x9_2) == (rd l1 x10_4)) = true := beq_iff_eq.mpr c42
                                                have c42b1 : ((rd l1 x9_2) != (rd l1 x10_4)) = false := bne_eq_false_iff_eq.mpr c42
                                                clear c42
                                                by_cases c43 : (rd t102 x9_2) < (rd t102 x10_4)
                                                · rw [if_pos c43] at H
                                                  have c43b0 : decide ((rd t102 x9_2) < (rd t102 x10_4)) = true := decide_eq_true c43
                                                  clear c43
                                                  exact absurd H (by simp)
                                                · rw [if_neg c43] at H
                                                  have c43b0 : decide ((rd t102 x9_2) < (rd t102 x10_4)) = false := decide_eq_false c43
                                                  clear c43
                                                  by_cases c44 : (rd t102 x9_2) > (wrap64 ((rd t102 x10_4) + 1))
                                                  · rw [if_pos c44] at H
                                                    have c44b0 : decide ((wrap64 ((rd t102 x10_4) + 1)) < (rd t102 x9_2)) = true := decide_eq_true c44
                                                    clear c44
                                                    exact absurd H (by simp)
                                                  · rw [if_neg c44] at H
                                                    have c44b0 : decide ((wrap64 ((rd t102 x10_4) + 1)) < (rd t102 x9_2)) = false := decide_eq_false c44
                                                    clear c44
                                                    have H' := Aside0.mk H
                                                    clear H
                                                    have p111 : 0 ≤ (x9_2 : Int) := of_decide_eq_true (by first | (with_reducible assumption) | assumption)
                                                    have q111 : x9_2 < (t102.length : Int) := of_decide_eq_true (by first | (with_reducible assumption) | assumption)
                                                    obtain ⟨ad111, e111, hx111_0⟩ := Kd.at_int (Kd.R_reads' HO_5.out).2.2 x9_2 p111 q111
                                                    cases e111
                                                    replace p111 := eq_true p111
                                                    replace q111 := eq_true q111
                                                    have p112 : 0 ≤ (x10_4 : Int) := of_decide_eq_true (by first | (with_reducible assumption) | assumption)
                                                    have q112 : x10_4 < (t102.length : Int) := of_decide_eq_true (by first | (with_reducible assumption) | assumption)
                                                    obtain ⟨ad112, e112, hx112_0⟩ := Kd.at_int (Kd.R_reads' HO_5.out).2.2 x10_4 p112 q112
                                                    obtain rfl : ad111 = ad112 := (by injection e112)
                                                    replace p112 := eq_true p112
                                                    replace q112 := eq_true q112
                                                    have p113 : 0 ≤ (x9_2 : Int) := of_decide_eq_true (by first | (with_reducible assumption) | assumption)
                                                    have q113 : x9_2 < (l1.length : Int) := of_decide_eq_true (by first | (with_reducible assumption) | assumption)
                                                    obtain ⟨ad113, e113, hx113_0⟩ := Kd.at_int HR1.out x9_2 p113 q113
                                                    cases e113
                                                    replace hx113_0 := (HB.out.cell (World.block_lt_of_cell? w _ hx113_0)).trans hx113_0
                                                    replace p113 := eq_true p113
                                                    replace q113 := eq_true q113
                                                    have p114 : 0 ≤ (x10_4 : Int) := of_decide_eq_true (by first | (with_reducible assumption) | assumption)
                                                    have q114 : x10_4 < (l1.length : Int) := of_decide_eq_true (by first | (with_reducible assumption) | assumption)
                                                    obtain ⟨ad114, e114, hx114_0⟩ := Kd.at_int HR1.out x10_4 p114 q114
                                                    obtain rfl : ad113 = ad114 := (by injection e114)
                                                    replace hx114_0 := (HB.out.cell (World.block_lt_of_cell? w _ hx114_0)).trans hx114_0
                                                    replace p114 := eq_true p114
                                                    replace q114 := eq_true q114
                                                    have p121 : 0 ≤ (x9_2 : Int) := of_decide_eq_true (by first | (with_reducible assumption) | assumption)
                                                    have q121 : x9_2 < (l1.length : Int) := of_decide_eq_true (by first | (with_reducible assumption) | assumption)
                                                    obtain ⟨ad121, e121, hx121_0⟩ := Kd.at_int HR1.out x9_2 p121 q121
                                                    obtain rfl : ad113 = ad121 := (by injection e121)
                                                    replace hx121_0 := (HB.out.cell (World.block_lt_of_cell? w _ hx121_0)).trans hx121_0
                                                    replace p121 := eq_true p121
                                                    replace q121 := eq_true q121
                                                    have p122 : 0 ≤ (x10_4 : Int) := of_decide_eq_true (by first | (with_reducible assumption) | assumption)
                                                    have q122 : x10_4 < (l1.length : Int) := of_decide_eq_true (by first | (with_reducible assumption) | assumption)
                                                    obtain ⟨ad122, e122, hx122_0⟩ := Kd.at_int HR1.out x10_4 p122 q122
                                                    obtain rfl : ad113 = ad122 := (by injection e122)
                                                    replace hx122_0 := (HB.out.cell (World.block_lt_of_cell? w _ hx122_0)).trans hx122_0
                                                    replace p122 := eq_true p122
                                                    replace q122 := eq_true q122
                                                    have p125 : 0 ≤ (x9_2 : Int) := of_decide_eq_true (by first | (with_reducible assumption) | assumption)
                                                    have q125 : x9_2 < (l1.length : Int) := of_decide_eq_true (by first | (with_reducible assumption) | assumption)
                                                    obtain ⟨ad125, e125, hx125_0⟩ := Kd.at_int HR1.out x9_2 p125 q125
                                                    obtain rfl : ad113 = ad125 := (by injection e125)
                                                    replace hx125_0 := (HB.out.cell (World.block_lt_of_cell? w _ hx125_0)).trans hx125_0
                                                    replace p125 := eq_true p125
                                                    replace q125 := eq_true q125
                                                    have p126 : 0 ≤ (x10_4 : Int) := of_decide_eq_true (by first | (with_reducible assumption) | assumption)
                                                    have q126 : x10_4 < (l1.length : Int) := of_decide_eq_true (by first | (with_reducible assumption) | assumption)
                                                    obtain ⟨ad126, e126, hx126_0⟩ := Kd.at_int HR1.out x10_4 p126 q126
                                                    obtain rfl : ad113 = ad126 := (by injection e126)
                                                    replace hx126_0 := (HB.out.cell (World.block_lt_of_cell? w _ hx126_0)).trans hx126_0
                                                    replace p126 := eq_true p126
                                                    replace q126 := eq_true q126
                                                    go_wp2
                                                    repeat (go_quiet (fail); try go_wp2)
                                                    go_roundg k4
                                                    case measure => have := HK1.out; have := HK2.out; have := HJ16.out; have := HK4.out; omega
                                                    case rel => exact ⟨(wrap64 (x10_4 + 1)), (by first | rfl | (simp; done) | (simp [*]; done)), H', ⟨by have := HK1.out; have := HK2.out; have := HJ16.out; have := HK4.out; omega⟩, ⟨by (with_reducible repeat (first | apply Kd.R_alloc | apply Kd.R_drewN | apply Kd.R_drew)); exact HO_5.out⟩, ⟨by repeat (first | (with_reducible first | exact HB.out | apply below_alloc | apply pw_below_drewN | apply below_drew1) | exact HB.out)⟩⟩
                                              · rw [if_neg c42] at H
                                                have c42b0 : ((rd l1 x9_2) == (rd l1 x10_4)) = false := beq_eq_false_iff_ne.mpr c42
                                                have c42b1 : ((rd l1 x9_2) != (rd l1 x10_4)) = true := bne_iff_ne.mpr c42
                                                have H' := Aside0.mk H
                                                clear H
                                                have p111 : 0 ≤ (x9_2 : Int) := of_decide_eq_true (by first | (with_reducible assumption) | assumption)
                                                have q111 : x9_2 < (t102.length : Int) := of_decide_eq_true (by first | (with_reducible assumption) | assumption)
                                                obtain ⟨ad111, e111, hx111_0⟩ := Kd.at_int (Kd.R_reads' HO_5.out).2.2 x9_2 p111 q111
                                                cases e111
                                                replace p111 := eq_true p111
                                                replace q111 := eq_true q111
                                                have p112 : 0 ≤ (x10_4 : Int) := of_decide_eq_true (by first | (with_reducible assumption) | assumption)
                                                have q112 : x10_4 < (t102.length : Int) := of_decide_eq_true (by first | (with_reducible assumption) | assumption)
                                                obtain ⟨ad112, e112, hx112_0⟩ := Kd.at_int (Kd.R_reads' HO_5.out).2.2 x10_4 p112 q112
                                                obtain rfl : ad111 = ad112 := (by injection e112)
                                                replace p112 := eq_true p112
                                                replace q112 := eq_true q112
                                                have p113 : 0 ≤ (x9_2 : Int) := of_decide_eq_true (by first | (with_reducible assumption) | assumption)
                                                have q113 : x9_2 < (l1.length : Int) := of_decide_eq_true (by first | (with_reducible assumption) | assumption)
                                                obtain ⟨ad113, e113, hx113_0⟩ := Kd.at_int HR1.out x9_2 p113 q113
                                                cases e113
                                                replace hx113_0 := (HB.out.cell (World.block_lt_of_cell? w _ hx113_0)).trans hx113_0
                                                replace p113 := eq_true p113
                                                replace q113 := eq_true q113
                                                have p114 : 0 ≤ (x10_4 : Int) := of_decide_eq_true (by first | (with_reducible assumption) | assumption)
                                                have q114 : x10_4 < (l1.length : Int) := of_decide_eq_true (by first | (with_reducible assumption) | assumption)
                                                obtain ⟨ad114, e114, hx114_0⟩ := Kd.at_int HR1.out x10_4 p114 q114
                                                obtain rfl : ad113 = ad114 := (by injection e114)
                                                replace hx114_0 := (HB.out.cell (World.block_lt_of_cell? w _ hx114_0)).trans hx114_0
                                                replace p114 := eq_true p114
                                                replace q114 := eq_true q114
                                                have p121 : 0 ≤ (x9_2 : Int) := of_decide_eq_true (by first | (with_reducible assumption) | assumption)
                                                have q121 : x9_2 < (l1.length : Int) := of_decide_eq_true (by first | (with_reducible assumption) | assumption)
                                                obtain ⟨ad121, e121, hx121_0⟩ := Kd.at_int HR1.out x9_2 p121 q121
                                                obtain rfl : ad113 = ad121 := (by injection e121)
                                                replace hx121_0 := (HB.out.cell (World.block_lt_of_cell? w _ hx121_0)).trans hx121_0
                                                replace p121 := eq_true p121
                                                replace q121 := eq_true q121
                                                have p122 : 0 ≤ (x10_4 : Int) := of_decide_eq_true (by first | (with_reducible assumption) | assumption)
                                                have q122 : x10_4 < (l1.length : Int) := of_decide_eq_true (by first | (with_reducible assumption) | assumption)
                                                obtain ⟨ad122, e122, hx122_0⟩ := Kd.at_int HR1.out x10_4 p122 q122
                                                obtain rfl : ad113 = ad122 := (by injection e122)
                                                replace hx122_0 := (HB.out.cell (World.block_lt_of_cell? w _ hx122_0)).trans hx122_0
                                                replace p122 := eq_true p122
                                                replace q122 := eq_true q122
                                                have p125 : 0 ≤ (x9_2 : Int) := of_decide_eq_true (by first | (with_reducible assumption) | assumption)
                                                have q125 : x9_2 < (l1.length : Int) := of_decide_eq_true (by first | (with_reducible assumption) | assumption)
                                                obtain ⟨ad125, e125, hx125_0⟩ := Kd.at_int HR1.out x9_2 p125 q125
                                                obtain rfl : ad113 = ad125 := (by injection e125)
                                                replace hx125_0 := (HB.out.cell (World.block_lt_of_cell? w _ hx125_0)).trans hx125_0
                                                replace p125 := eq_true p125
                                                replace q125 := eq_true q125
                                                have p126 : 0 ≤ (x10_4 : Int) := of_decide_eq_true (by first | (with_reducible assumption) | assumption)
                                                have q126 : x10_4 < (l1.length : Int) := of_decide_eq_true (by first | (with_reducible assumption) | assumption)
                                                obtain ⟨ad126, e126, hx126_0⟩ := Kd.at_int HR1.out x10_4 p126 q126
                                                obtain rfl : ad113 = ad126 := (by injection e126)
                                                replace hx126_0 := (HB.out.cell (World.block_lt_of_cell? w _ hx126_0)).trans hx126_0
                                                replace p126 := eq_true p126
                                                replace q126 := eq_true q126
                                                go_wp2
                                                repeat (go_quiet (fail); try go_wp2)
                                                go_roundg k4
                                                case measure => have := HK1.out; have := HK2.out; have := HJ16.out; have := HK4.out; omega
                                                case rel => exact ⟨(wrap64 (x10_4 + 1)), (by first | rfl | (simp; done) | (simp [*]; done)), H', ⟨by have := HK1.out; have := HK2.out; have := HJ16.out; have := HK4.out; omega⟩, ⟨by (with_reducible repeat (first | apply Kd.R_alloc | apply Kd.R_drewN | apply Kd.R_drew)); exact HO_5.out⟩, ⟨by repeat (first | (with_reducible first | exact HB.out | apply below_alloc | apply pw_below_drewN | apply below_drew1) | exact HB.out)⟩⟩
                                        · rw [if_neg c28] at H
                                          exact absurd H (by simp)
                                      · rw [if_neg c27] at H
                                        exact absurd H (by simp)
                                    · rw [if_neg c26] at H
                                      exact absurd H (by simp)
                                  · rw [if_neg c25] at H
                                    exact absurd H (by simp)
                                · rw [if_neg c24] at H
                                  exact absurd H (by simp)
                              · rw [if_neg c23] at H
                                have c23b0 : decide (x10_4 < (t102.length : Int)) = false := decide_eq_false c23
                                clear c23
                                have H' := Aside0.mk H
                                clear H
                                go_wp2
                                repeat (go_quiet (fail); try go_wp2)
                                go_roundg k4
                                case measure => have := HK1.out; have := HK2.out; have := HJ16.out; have := HK4.out; omega
                                case rel => exact ⟨(wrap64 (x9_2 + 1)), (by first | rfl | (simp; done) | (simp [*]; done)), H', ⟨by have := HK1.out; have := HK2.out; have := HJ16.out; have := HK4.out; omega⟩, ⟨by (with_reducible repeat (first | apply Kd.R_alloc | apply Kd.R_drewN | apply Kd.R_drew)); exact HO_5.out⟩, ⟨by repeat (first | (with_reducible first | exact HB.out | apply below_alloc | apply pw_below_drewN | apply below_drew1) | exact HB.out)⟩⟩
                  · rw [if_neg c16] at H
                    have c16b0 : decide (x9_2 < (t102.length : Int)) = false := decide_eq_false c16
                    clear c16
                    replace H := Option.bind_eq_some_iff.mp H
                    obtain ⟨t108, A450, H⟩ := H
                    replace H : (if t108 = true then (some true) else (some false)) = some true := H
                    have A45 := Aside0.mk A450
                    clear A450
                    by_cases c46 : t108 = true
                    · subst c46
                      have H1 : (some true) = some true := by first | (rw [if_pos rfl] at H; exact H) | rfl
                      clear H
                      have H := H1
                      clear H1
                      clear H
                      go_wp2_with (first | (go_at_call 50; (with_reducible refine (backhaullaw03_awake.calls  true _ A45.out).mono ?_); rintro e w47 ⟨rfl, hb⟩; have n0_ := Aside0.mk (Kd.R_below (by (with_reducible repeat (first | apply Kd.R_alloc | apply Kd.R_drewN | apply Kd.R_drew)); exact HO_5.out) hb); have n1_ := Aside0.mk (below_step (by repeat (first | (with_reducible first | exact HB.out | apply below_alloc | apply pw_below_drewN | apply below_drew1) | exact HB.out)) hb); clear HO_5; clear HB; have HO_5 := n0_; have HB := n1_; clear n0_ n1_; (try clear hb); (try clear hb2); (try clear hk); (try clear hi)))
                      repeat (go_quiet (first | (go_at_call 50; (with_reducible refine (backhaullaw03_awake.calls  true _ A45.out).mono ?_); rintro e w47 ⟨rfl, hb⟩; have n0_ := Aside0.mk (Kd.R_below (by (with_reducible repeat (first | apply Kd.R_alloc | apply Kd.R_drewN | apply Kd.R_drew)); exact HO_5.out) hb); have n1_ := Aside0.mk (below_step (by repeat (first | (with_reducible first | exact HB.out | apply below_alloc | apply pw_below_drewN | apply below_drew1) | exact HB.out)) hb); clear HO_5; clear HB; have HO_5 := n0_; have HB := n1_; clear n0_ n1_; (try clear hb); (try clear hb2); (try clear hk); (try clear hi))); try go_wp2_with (first | (go_at_call 50; (with_reducible refine (backhaullaw03_awake.calls  true _ A45.out).mono ?_); rintro e w47 ⟨rfl, hb⟩; have n0_ := Aside0.mk (Kd.R_below (by (with_reducible repeat (first | apply Kd.R_alloc | apply Kd.R_drewN | apply Kd.R_drew)); exact HO_5.out) hb); have n1_ := Aside0.mk (below_step (by repeat (first | (with_reducible first | exact HB.out | apply below_alloc | apply pw_below_drewN | apply below_drew1) | exact HB.out)) hb); clear HO_5; clear HB; have HO_5 := n0_; have HB := n1_; clear n0_ n1_; (try clear hb); (try clear hb2); (try clear hk); (try clear hi))))
                      go_ret
                      exact ⟨by first | rfl | (simp [errW_none, errW_some] <;> rfl) | (simp [*, errW_none, errW_some] <;> rfl), by repeat (first | (with_reducible first | exact HB.out | apply below_alloc | apply pw_below_drewN | apply below_drew1) | exact HB.out)⟩
                    · replace c46 := Bool.eq_false_iff.mpr c46
                      subst c46
                      have H1 : (some false) = some true := by first | (rw [if_neg (show ¬ (false = true) by decide)] at H; exact H) | rfl
                      clear H
                      have H := H1
                      clear H1
                      exact absurd H (by simp)
      · rw [if_neg c9] at H
        have c9b0 : ((t102.length : Int) == (l1.length : Int)) = false := beq_eq_false_iff_ne.mpr c9
        have c9b1 : ((t102.length : Int) != (l1.length : Int)) = true := bne_iff_ne.mpr c9
        have c9b2 : (t102.length == l1.length) = false := by first | simpa using c9 | (simp at c9 ⊢; omega)
        exact absurd H (by simp)
    · rw [if_neg c8] at H
      have c8b0 : (t103 == 0) = false := beq_eq_false_iff_ne.mpr c8
      have c8b1 : (t103 != 0) = true := bne_iff_ne.mpr c8
      replace H := Option.bind_eq_some_iff.mp H
      obtain ⟨t106, A480, H⟩ := H
      replace H : (if t106 = true then (some true) else (some false)) = some true := H
      have A48 := Aside0.mk A480
      clear A480
      by_cases c49 : t106 = true
      · subst c49
        have H1 : (some true) = some true := by first | (rw [if_pos rfl] at H; exact H) | rfl
        clear H
        have H := H1
        clear H1
        clear H
        go_enter Try.func12, Try.ntmps12
        go_wp2_with (first | (go_at_call 51; (with_reducible refine (share_Out.calls k a0 _ _ l1 t102 t103 _ ?side1 ?side2 A7.out).mono ?_); (case side1 => repeat (first | exact HR1.out | (with_reducible refine Kd.C_alloc ?_ _) | (with_reducible refine Kd.C_drewN ?_ _) | (with_reducible refine Kd.C_drew ?_))); (case side2 => exact HC1.out); rintro e w50 ⟨v104, rfl, ho0, hb⟩; have n0_ := Aside0.mk (Kd.R_lower ho0 (below_size (by repeat (first | (with_reducible first | exact HB.out | apply below_alloc | apply pw_below_drewN | apply below_drew1) | exact HB.out)))); have n1_ := Aside0.mk (below_step (by repeat (first | (with_reducible first | exact HB.out | apply below_alloc | apply pw_below_drewN | apply below_drew1) | exact HB.out)) hb); clear HB; have HO105 := n0_; have HB := n1_; clear n0_ n1_; (try clear hb); (try clear hb2); (try clear hk); (try clear hi); (try clear ho0)) | (go_at_call 50; (with_reducible refine (backhaullaw03_awake.calls  true _ A48.out).mono ?_); rintro e w51 ⟨rfl, hb⟩; have n0_ := Aside0.mk (Kd.R_below (by (with_reducible repeat (first | apply Kd.R_alloc | apply Kd.R_drewN | apply Kd.R_drew)); exact HO105.out) hb); have n1_ := Aside0.mk (below_step (by repeat (first | (with_reducible first | exact HB.out | apply below_alloc | apply pw_below_drewN | apply below_drew1) | exact HB.out)) hb); clear HO105; clear HB; have HO105 := n0_; have HB := n1_; clear n0_ n1_; (try clear hb); (try clear hb2); (try clear hk); (try clear hi)))
        repeat (go_quiet (first | (go_at_call 51; (with_reducible refine (share_Out.calls k a0 _ _ l1 t102 t103 _ ?side1 ?side2 A7.out).mono ?_); (case side1 => repeat (first | exact HR1.out | (with_reducible refine Kd.C_alloc ?_ _) | (with_reducible refine Kd.C_drewN ?_ _) | (with_reducible refine Kd.C_drew ?_))); (case side2 => exact HC1.out); rintro e w50 ⟨v104, rfl, ho0, hb⟩; have n0_ := Aside0.mk (Kd.R_lower ho0 (below_size (by repeat (first | (with_reducible first | exact HB.out | apply below_alloc | apply pw_below_drewN | apply below_drew1) | exact HB.out)))); have n1_ := Aside0.mk (below_step (by repeat (first | (with_reducible first | exact HB.out | apply below_alloc | apply pw_below_drewN | apply below_drew1) | exact HB.out)) hb); clear HB; have HO105 := n0_; have HB := n1_; clear n0_ n1_; (try clear hb); (try clear hb2); (try clear hk); (try clear hi); (try clear ho0)) | (go_at_call 50; (with_reducible refine (backhaullaw03_awake.calls  true _ A48.out).mono ?_); rintro e w51 ⟨rfl, hb⟩; have n0_ := Aside0.mk (Kd.R_below (by (with_reducible repeat (first | apply Kd.R_alloc | apply Kd.R_drewN | apply Kd.R_drew)); exact HO105.out) hb); have n1_ := Aside0.mk (below_step (by repeat (first | (with_reducible first | exact HB.out | apply below_alloc | apply pw_below_drewN | apply below_drew1) | exact HB.out)) hb); clear HO105; clear HB; have HO105 := n0_; have HB := n1_; clear n0_ n1_; (try clear hb); (try clear hb2); (try clear hk); (try clear hi))); try go_wp2_with (first | (go_at_call 51; (with_reducible refine (share_Out.calls k a0 _ _ l1 t102 t103 _ ?side1 ?side2 A7.out).mono ?_); (case side1 => repeat (first | exact HR1.out | (with_reducible refine Kd.C_alloc ?_ _) | (with_reducible refine Kd.C_drewN ?_ _) | (with_reducible refine Kd.C_drew ?_))); (case side2 => exact HC1.out); rintro e w50 ⟨v104, rfl, ho0, hb⟩; have n0_ := Aside0.mk (Kd.R_lower ho0 (below_size (by repeat (first | (with_reducible first | exact HB.out | apply below_alloc | apply pw_below_drewN | apply below_drew1) | exact HB.out)))); have n1_ := Aside0.mk (below_step (by repeat (first | (with_reducible first | exact HB.out | apply below_alloc | apply pw_below_drewN | apply below_drew1) | exact HB.out)) hb); clear HB; have HO105 := n0_; have HB := n1_; clear n0_ n1_; (try clear hb); (try clear hb2); (try clear hk); (try clear hi); (try clear ho0)) | (go_at_call 50; (with_reducible refine (backhaullaw03_awake.calls  true _ A48.out).mono ?_); rintro e w51 ⟨rfl, hb⟩; have n0_ := Aside0.mk (Kd.R_below (by (with_reducible repeat (first | apply Kd.R_alloc | apply Kd.R_drewN | apply Kd.R_drew)); exact HO105.out) hb); have n1_ := Aside0.mk (below_step (by repeat (first | (with_reducible first | exact HB.out | apply below_alloc | apply pw_below_drewN | apply below_drew1) | exact HB.out)) hb); clear HO105; clear HB; have HO105 := n0_; have HB := n1_; clear n0_ n1_; (try clear hb); (try clear hb2); (try clear hk); (try clear hi))))
        go_ret
        exact ⟨by first | rfl | (simp [errW_none, errW_some] <;> rfl) | (simp [*, errW_none, errW_some] <;> rfl), by repeat (first | (with_reducible first | exact HB.out | apply below_alloc | apply pw_below_drewN | apply below_drew1) | exact HB.out)⟩
      · replace c49 := Bool.eq_false_iff.mpr c49
        subst c49
        have H1 : (some false) = some true := by first | (rw [if_neg (show ¬ (false = true) by decide)] at H; exact H) | rfl
        clear H
        have H := H1
        clear H1
        exact absurd H (by simp)
def backhaullaw03_ShareFair.Pure : Prop := ∀ (a0 : Int) (l1 : List Int), (Lit.int .i64 a0).wf = true → (l1.length ≤ maxLen ∧ ∀ x ∈ l1, (Lit.int .i64 x).wf = true) → ∃ k, backhaullaw03_ShareFair.f k a0 l1 = some true
end Go.Proofs.Ytefhljhpcpajgaa.F
set_option linter.unusedVariables false
namespace Go.Proofs.Ytefhljhpcpajgaa.Q
open Go.RowKit
def sumI (l : List Int) : Int := l.foldr (· + ·) 0
theorem sumI_cons (a : Int) (l : List Int) : sumI (a :: l) = a + sumI l := rfl
theorem sumI_mul (l : List Int) (c : Int) : sumI (l.map (fun x => c * x)) = c * sumI l := by
  induction l with
  | nil => simp [sumI]
  | cons x l ih => rw [List.map_cons, sumI_cons, sumI_cons, ih, Int.mul_add]
theorem sumI_add {α : Type} (l : List α) (f g : α → Int) : sumI (l.map (fun x => f x + g x)) = sumI (l.map f) + sumI (l.map g) := by
  induction l with
  | nil => simp [sumI]
  | cons x l ih => simp only [List.map_cons, sumI_cons, ih]; omega
theorem sumI_nonneg {l : List Int} (h : ∀ x ∈ l, 0 ≤ x) : 0 ≤ sumI l := by
  induction l with
  | nil => simp [sumI]
  | cons x l ih =>
    have := h x List.mem_cons_self
    have := ih (fun y hy => h y (List.mem_cons_of_mem _ hy))
    rw [sumI_cons]; omega
theorem sumI_mem_le {l : List Int} (h : ∀ x ∈ l, 0 ≤ x) {a : Int} (ha : a ∈ l) : a ≤ sumI l := by
  induction l with
  | nil => cases ha
  | cons x l ih =>
    have h0 := h x List.mem_cons_self
    have h1 := sumI_nonneg (fun y hy => h y (List.mem_cons_of_mem _ hy))
    rw [sumI_cons]
    rcases List.mem_cons.1 ha with rfl | ha
    · omega
    · have := ih (fun y hy => h y (List.mem_cons_of_mem _ hy)) ha; omega
def prt (t s w : Int) : Int := t * w / s
def rst (t s w : Int) : Int := t * w % s
def leftI (t s : Int) (l : List Int) : Int := t - sumI (l.map (prt t s))
theorem left_mul {t s : Int} {l : List Int} (hs : sumI l = s) : leftI t s l * s = sumI (l.map (rst t s)) := by
  have e : sumI (l.map (fun w => t * w)) = sumI (l.map (fun w => s * prt t s w)) + sumI (l.map (rst t s)) := by
    rw [← sumI_add]
    congr 1
    refine List.map_congr_left fun w _ => ?_
    unfold prt rst
    rw [Int.add_comm]
    exact (Int.emod_add_mul_ediv (t * w) s).symm
  have e2 : sumI (l.map (fun w => s * prt t s w)) = s * sumI (l.map (prt t s)) := by
    rw [← sumI_mul, List.map_map]; rfl
  rw [sumI_mul, hs] at e
  unfold leftI
  rw [Int.sub_mul, e, e2, Int.mul_comm s]
  omega
theorem sum_rests {t s : Int} (hs : 0 < s) (l : List Int) : 0 ≤ sumI (l.map (rst t s)) ∧ sumI (l.map (rst t s)) ≤ ((l.countP (fun w => decide (0 < rst t s w)) : Nat) : Int) * (s - 1) := by
  induction l with
  | nil => simp [sumI]
  | cons w l ih =>
    have h0 : 0 ≤ rst t s w := Int.emod_nonneg _ (by omega)
    have h1 : rst t s w < s := Int.emod_lt_of_pos _ hs
    rw [List.map_cons, sumI_cons, List.countP_cons]
    refine ⟨by omega, ?_⟩
    by_cases h : 0 < rst t s w
    · rw [if_pos (decide_eq_true h), Int.natCast_add, Int.add_mul]
      omega
    · rw [if_neg (by simpa using h)]
      simp only [Int.natCast_add, Int.natCast_zero, Int.add_zero]
      omega
theorem left_bound {t s : Int} {l : List Int} (hs : sumI l = s) (h0 : 0 < s) : 0 ≤ leftI t s l ∧ leftI t s l ≤ ((l.countP (fun w => decide (0 < rst t s w)) : Nat) : Int) ∧ (leftI t s l = 0 ∨ leftI t s l < ((l.countP (fun w => decide (0 < rst t s w)) : Nat) : Int)) := by
  have e := left_mul (t := t) hs
  obtain ⟨h1, h2⟩ := sum_rests (t := t) h0 l
  rw [← e] at h1 h2
  have p0 : 0 ≤ leftI t s l := Int.nonneg_of_mul_nonneg_left h1 h0
  have hC0 : (0 : Int) ≤ ((l.countP (fun w => decide (0 < rst t s w)) : Nat) : Int) := Int.natCast_nonneg _
  generalize hL : leftI t s l = L at *
  generalize ((l.countP (fun w => decide (0 < rst t s w)) : Nat) : Int) = C at *
  have p1 : L * s ≤ C * s - C := by rw [Int.mul_sub, Int.mul_one] at h2; exact h2
  have p2 : L = 0 ∨ L < C := by
    apply Classical.byContradiction
    intro hn
    have h3 : 0 < L ∧ C ≤ L := by omega
    have h4 : C * s ≤ L * s := Int.mul_le_mul_of_nonneg_right h3.2 (by omega)
    have h5 : 0 < L * s := Int.mul_pos h3.1 h0
    by_cases hC : 0 < C
    · omega
    · have : C * s ≤ 0 := by
        have := Int.mul_le_mul_of_nonneg_right (show C ≤ 0 by omega) (show 0 ≤ s by omega)
        rwa [Int.zero_mul] at this
      have : C * (s - 1) ≤ 0 := by
        have := Int.mul_le_mul_of_nonneg_right (show C ≤ 0 by omega) (show 0 ≤ s - 1 by omega)
        rwa [Int.zero_mul] at this
      omega
  refine ⟨p0, ?_, p2⟩
  rcases p2 with h | h
  · omega
  · omega
def wt (l : List Int) (i : Nat) : Int := l.getD i 0
def outAt (t s : Int) (l : List Int) (i : Nat) : Int := prt t s (wt l i) + if (rank (fun j => rst t s (wt l j)) l.length i : Int) < leftI t s l then 1 else 0
def outL (t s : Int) (l : List Int) : List Int := (List.range l.length).map (outAt t s l)
theorem range_map {α : Type} [Inhabited α] (l : List α) (d : α) : (List.range l.length).map (fun i => l.getD i d) = l := by
  apply List.ext_getElem
  · simp
  · intro i h1 h2
    simp [List.getD_eq_getElem?_getD, h2]
theorem prt_mono {t s a b : Int} (ht : 0 ≤ t) (hs : 0 < s) (h : a ≤ b) : prt t s a ≤ prt t s b :=
  Int.ediv_le_ediv hs (Int.mul_le_mul_of_nonneg_left h ht)
theorem left_zero {s : Int} {l : List Int} : leftI 0 s l = 0 := by
  unfold leftI
  have : l.map (prt 0 s) = l.map (fun x => 0 * x) := List.map_congr_left fun x _ => by unfold prt; simp
  rw [this, sumI_mul]; simp
theorem out_more {t s : Int} {l : List Int} (ht : 0 ≤ t) (hs : 0 < s) {i k : Nat} (hi : i < l.length) (hk : k < l.length) (hw : wt l k < wt l i) : outAt t s l k ≤ outAt t s l i := by
  have hp := prt_mono ht hs (Int.le_of_lt hw)
  unfold outAt
  by_cases hb : (rank (fun j => rst t s (wt l j)) l.length k : Int) < leftI t s l
  · rw [if_pos hb]
    by_cases he : prt t s (wt l k) = prt t s (wt l i)
    · have ht0 : 0 < t := by
        apply Classical.byContradiction
        intro hn
        have : t = 0 := by omega
        subst this
        rw [left_zero] at hb
        omega
      have hr : rst t s (wt l k) < rst t s (wt l i) := by
        have e1 := Int.emod_add_mul_ediv (t * wt l k) s
        have e2 := Int.emod_add_mul_ediv (t * wt l i) s
        have h3 : t * wt l k < t * wt l i := Int.mul_lt_mul_of_pos_left hw ht0
        unfold prt at he
        unfold rst
        rw [he] at e1
        omega
      have hbf : bef (fun j => rst t s (wt l j)) i k = true := bef_iff.2 (.inl hr)
      have := (rank_bef hi hk).2 hbf
      rw [if_pos (by omega)]
      omega
    · split <;> omega
  · rw [if_neg hb]; split <;> omega
theorem out_same {t s : Int} {l : List Int} {i k : Nat} (hi : i < l.length) (hk : k < l.length) (hik : i < k) (hw : wt l i = wt l k) : outAt t s l k ≤ outAt t s l i ∧ outAt t s l i ≤ outAt t s l k + 1 := by
  have hbf : bef (fun j => rst t s (wt l j)) i k = true := bef_iff.2 (.inr ⟨by simp [hw], hik⟩)
  have := (rank_bef hi hk).2 hbf
  unfold outAt
  rw [hw]
  split <;> split <;> omega
theorem out_none {t s : Int} {l : List Int} (hs : sumI l = s) (h0 : 0 < s) {i : Nat} (hi : i < l.length) (hw : wt l i = 0) : outAt t s l i = 0 := by
  have hr : rst t s (wt l i) = 0 := by rw [hw]; simp [rst]
  obtain ⟨_, h1, _⟩ := left_bound (t := t) hs h0
  have hc : l.countP (fun w => decide (0 < rst t s w)) = (List.range l.length).countP (fun j => decide (0 < rst t s (wt l j))) := by
    have := congrArg (List.countP (fun w => decide (0 < rst t s w))) (range_map l 0)
    rw [List.countP_map] at this
    exact this.symm
  have hle : (List.range l.length).countP (fun j => decide (0 < rst t s (wt l j))) ≤ rank (fun j => rst t s (wt l j)) l.length i := by
    refine List.countP_mono_left fun j hj h => ?_
    rw [bef_iff]
    have h : 0 < rst t s (wt l j) := by simpa using h
    left
    show rst t s (wt l j) > rst t s (wt l i)
    omega
  unfold outAt
  rw [if_neg (by omega), hw]
  simp [prt]
theorem out_bounds {t s : Int} {l : List Int} {i : Nat} : prt t s (wt l i) ≤ outAt t s l i ∧ outAt t s l i ≤ prt t s (wt l i) + 1 := by
  unfold outAt; split <;> omega
end Go.Proofs.Ytefhljhpcpajgaa.Q
set_option linter.unusedVariables false
namespace Go.Proofs.Ytefhljhpcpajgaa.Q
open Go.RowKit Go.Proofs.Ytefhljhpcpajgaa.F Go.Proofs.YtefhljhpcpajgaaW.PrintWords Go.Proofs.YtefhljhpcpajgaaW.PrintLast Go.Proofs.YtefhljhpcpajgaaW.PrintMore
def amt (n : Int) : Prop := -1000000000000 ≤ n ∧ n ≤ 1000000000000
instance (n : Int) : Decidable (amt n) := by unfold amt; infer_instance
def toldS (n : Int) : Int × Int := if amt n then (n, 0) else (0, 8)
def sumS : Int → List Int → Int × Int
  | n, [] => (n, 0)
  | n, x :: xs => if amt x ∧ amt (n + x) then sumS (n + x) xs else (0, 8)
theorem in_f (n : Int) : cents_In.f n = some (decide (amt n)) := by
  unfold cents_In.f amt
  by_cases h : n ≥ -1000000000000
  · rw [if_pos h]; congr 1; exact decide_eq_decide.2 ⟨fun a => ⟨h, a⟩, fun a => a.2⟩
  · rw [if_neg h]; congr 1; exact (decide_eq_false (fun a => h a.1)).symm
theorem told_f (n : Int) : cents_told.f n = some (toldS n) := by
  unfold cents_told.f toldS
  rw [in_f]
  by_cases h : amt n
  · simp [h]
  · simp [h]
theorem cents_Add_l0 {l : List Int} (hl : l.length < 9223372036854775807) (d : Nat) : ∀ (i : Nat) (n : Int), l.length - i = d → i ≤ l.length → amt n →
    Ev (fun k => cents_Add.l0 k n l (l.length : Int) (i : Int)) (sumS n (l.drop i)) := by
  induction d with
  | zero =>
    intro i n hd hi hn
    refine Ev.step (fun k => by simp only [cents_Add.l0]; rfl) ?_
    refine Ev.neg (by omega) (Ev.ok ?_)
    rw [List.drop_eq_nil_of_le (by omega)]; rfl
  | succ d ih =>
    intro i n hd hi hn
    have h : i < l.length := by omega
    refine Ev.step (fun k => by simp only [cents_Add.l0]; rfl) ?_
    refine Ev.pos (by omega) (Ev.pos (by omega) (Ev.pos (by omega) ?_))
    rw [drop_cons h, rd_nat h]
    refine Q.Ev.bindc (in_f _) ?_
    by_cases h1 : amt l[i]
    · refine Ev.pos (decide_eq_true h1) ?_
      have hw : wrap64 (n + l[i]) = n + l[i] := by unfold amt at hn h1; exact wrap_eq (by omega) (by omega)
      rw [hw]
      refine Q.Ev.bindc (in_f _) ?_
      by_cases h2 : amt (n + l[i])
      · refine Ev.pos (decide_eq_true h2) ?_
        simp only [sumS]
        rw [if_pos ⟨h1, h2⟩, wrap_eq (by omega) (by omega)]
        exact ih (i + 1) _ (by omega) (by omega) h2
      · refine Ev.neg (by simp [h2]) (Ev.ok ?_)
        simp only [sumS]; rw [if_neg (fun a => h2 a.2)]
    · refine Ev.neg (by simp [h1]) (Ev.ok ?_)
      simp only [sumS]; rw [if_neg (fun a => h1 a.1)]
theorem amt0 : amt 0 := by unfold amt; omega
theorem cents_Add_f {l : List Int} (hl : l.length < 9223372036854775807) : Ev (fun k => cents_Add.f k l) (sumS 0 l) := by
  unfold cents_Add.f
  exact cents_Add_l0 hl l.length 0 0 (by omega) (by omega) amt0
theorem and32 {x : Int} (h0 : 0 ≤ x) (h1 : x < 18446744073709551616) : Go.bits .and .u64 x 4294967295 = x % 4294967296 :=
  Go.bits_mask .u64 64 (by decide) (fun n h0 h1 => u64_eq h0 h1) 32 (by decide) x h0 h1
theorem mul64_f {a b : Int} (ha0 : 0 ≤ a) (ha : a < 18446744073709551616) (hb0 : 0 ≤ b) (hb : b < 18446744073709551616) :
    bits_Mul64.f a b = some (a * b / 18446744073709551616, a * b % 18446744073709551616) := by
  unfold bits_Mul64.f
  rw [and32 ha0 ha, and32 hb0 hb]
  obtain ⟨ah, hah⟩ : ∃ x, x = a / 4294967296 := ⟨_, rfl⟩
  obtain ⟨al, hal⟩ : ∃ x, x = a % 4294967296 := ⟨_, rfl⟩
  obtain ⟨bh, hbh⟩ : ∃ x, x = b / 4294967296 := ⟨_, rfl⟩
  obtain ⟨bl, hbl⟩ : ∃ x, x = b % 4294967296 := ⟨_, rfl⟩
  rw [← hah, ← hal, ← hbh, ← hbl]
  have ea : a = ah * 4294967296 + al := by omega
  have eb : b = bh * 4294967296 + bl := by omega
  have bnd : ∀ x y : Int, 0 ≤ x → x ≤ 4294967295 → 0 ≤ y → y ≤ 4294967295 → 0 ≤ x * y ∧ x * y ≤ 18446744065119617025 := by
    intro x y hx0 hx hy0 hy
    refine ⟨Int.mul_nonneg hx0 hy0, ?_⟩
    have := Int.mul_le_mul hx hy hy0 (by omega)
    omega
  obtain ⟨p, hp⟩ : ∃ x, x = ah * bh := ⟨_, rfl⟩
  obtain ⟨q, hq⟩ : ∃ x, x = ah * bl := ⟨_, rfl⟩
  obtain ⟨r, hr⟩ : ∃ x, x = al * bh := ⟨_, rfl⟩
  obtain ⟨s, hs⟩ : ∃ x, x = al * bl := ⟨_, rfl⟩
  have bp := bnd ah bh (by omega) (by omega) (by omega) (by omega)
  have bq := bnd ah bl (by omega) (by omega) (by omega) (by omega)
  have br := bnd al bh (by omega) (by omega) (by omega) (by omega)
  have bs := bnd al bl (by omega) (by omega) (by omega) (by omega)
  have e : a * b = p * 18446744073709551616 + (q + r) * 4294967296 + s := by
    rw [ea, eb, hp, hq, hr, hs]
    simp only [Int.add_mul, Int.mul_add]
    rw [show ah * 4294967296 * (bh * 4294967296) = ah * bh * 18446744073709551616 by rw [Int.mul_assoc, Int.mul_left_comm 4294967296 bh, Int.mul_assoc ah bh]; rfl, show ah * 4294967296 * bl = ah * bl * 4294967296 by rw [Int.mul_right_comm], show al * (bh * 4294967296) = al * bh * 4294967296 by rw [Int.mul_assoc]]
    omega
  rw [← hp] at bp
  rw [← hq] at bq
  rw [← hr] at br
  rw [← hs] at bs
  rw [← hp, ← hq, ← hr, ← hs, e]
  clear e hp hq hr hs ea eb hah hal hbh hbl
  rw [u64_eq (x := p) (by omega) (by omega), u64_eq (x := q) (by omega) (by omega), u64_eq (x := r) (by omega) (by omega), u64_eq (x := s) (by omega) (by omega)]
  rw [u64_eq (x := q + s / 4294967296) (by omega) (by omega)]
  rw [u64_eq (x := p + (q + s / 4294967296) / 4294967296) (by omega) (by omega)]
  rw [and32 (x := q + s / 4294967296) (by omega) (by omega)]
  rw [u64_eq (x := (q + s / 4294967296) % 4294967296 + r) (by omega) (by omega)]
  rw [u64_eq (x := p + (q + s / 4294967296) / 4294967296 + ((q + s / 4294967296) % 4294967296 + r) / 4294967296) (by omega) (by omega)]
  have hw : IntKind.u64.wrap (p * 18446744073709551616 + (q + r) * 4294967296 + s) = (p * 18446744073709551616 + (q + r) * 4294967296 + s) % 18446744073709551616 := by simp [IntKind.wrap, IntKind.signed, IntKind.bits]
  rw [hw]
  congr 2
  omega
theorem product_f {a b : Int} (ha0 : 0 ≤ a) (ha : a < 18446744073709551616) (hb0 : 0 ≤ b) (hb : b < 18446744073709551616) :
    cents_product.f a b = some (a * b / 18446744073709551616, a * b % 18446744073709551616) := by
  unfold cents_product.f
  rw [mul64_f ha0 ha hb0 hb]
  rfl
theorem above_f {x y : Int} (hx0 : 0 ≤ x) (hy0 : 0 ≤ y) : cents_wide_above.f (x / 18446744073709551616) (x % 18446744073709551616) (y / 18446744073709551616) (y % 18446744073709551616) = some (decide (x > y)) := by
  unfold cents_wide_above.f
  split
  · exact congrArg some (decide_eq_true (by omega)).symm
  · split
    · exact congrArg some (decide_eq_decide.2 (by omega))
    · exact congrArg some (decide_eq_false (by omega)).symm
end Go.Proofs.Ytefhljhpcpajgaa.Q
set_option linter.unusedVariables false
set_option maxRecDepth 4000
namespace Go.Proofs.Ytefhljhpcpajgaa.Q
open Go.RowKit Go.Proofs.Ytefhljhpcpajgaa.F Go.Proofs.YtefhljhpcpajgaaW.PrintWords Go.Proofs.YtefhljhpcpajgaaW.PrintLast Go.Proofs.YtefhljhpcpajgaaW.PrintMore
abbrev tab8 : ByteArray := (⟨#[0, 1, 2, 2, 3, 3, 3, 3, 4, 4, 4, 4, 4, 4, 4, 4, 5, 5, 5, 5, 5, 5, 5, 5, 5, 5, 5, 5, 5, 5, 5, 5, 6, 6, 6, 6, 6, 6, 6, 6, 6, 6, 6, 6, 6, 6, 6, 6, 6, 6, 6, 6, 6, 6, 6, 6, 6, 6, 6, 6, 6, 6, 6, 6, 7, 7, 7, 7, 7, 7, 7, 7, 7, 7, 7, 7, 7, 7, 7, 7, 7, 7, 7, 7, 7, 7, 7, 7, 7, 7, 7, 7, 7, 7, 7, 7, 7, 7, 7, 7, 7, 7, 7, 7, 7, 7, 7, 7, 7, 7, 7, 7, 7, 7, 7, 7, 7, 7, 7, 7, 7, 7, 7, 7, 7, 7, 7, 7, 8, 8, 8, 8, 8, 8, 8, 8, 8, 8, 8, 8, 8, 8, 8, 8, 8, 8, 8, 8, 8, 8, 8, 8, 8, 8, 8, 8, 8, 8, 8, 8, 8, 8, 8, 8, 8, 8, 8, 8, 8, 8, 8, 8, 8, 8, 8, 8, 8, 8, 8, 8, 8, 8, 8, 8, 8, 8, 8, 8, 8, 8, 8, 8, 8, 8, 8, 8, 8, 8, 8, 8, 8, 8, 8, 8, 8, 8, 8, 8, 8, 8, 8, 8, 8, 8, 8, 8, 8, 8, 8, 8, 8, 8, 8, 8, 8, 8, 8, 8, 8, 8, 8, 8, 8, 8, 8, 8, 8, 8, 8, 8, 8, 8, 8, 8, 8, 8, 8, 8, 8, 8, 8, 8, 8, 8, 8, 8]⟩ : ByteArray)
def len8ok (x : Nat) : Bool := let t := (bt tab8 (x : Int)).toNat; decide (bt tab8 (x : Int) = (t : Int)) && decide (t ≤ 8) && decide (x < 2 ^ t) && (x == 0 || (decide (1 ≤ t) && decide (2 ^ (t - 1) ≤ x)))
theorem len8_all : (List.range 256).all len8ok = true := by decide +kernel
theorem len8 {x : Int} (h0 : 0 ≤ x) (h1 : x < 256) : ∃ t : Nat, bt tab8 x = (t : Int) ∧ t ≤ 8 ∧ x < (2 : Int) ^ t ∧ (0 < x → 1 ≤ t ∧ (2 : Int) ^ (t - 1) ≤ x) := by
  obtain ⟨n, rfl⟩ := Int.eq_ofNat_of_zero_le h0
  have h := List.all_eq_true.1 len8_all n (List.mem_range.2 (by omega))
  unfold len8ok at h
  simp only [Bool.and_eq_true, decide_eq_true_eq, Bool.or_eq_true, beq_iff_eq] at h
  obtain ⟨⟨⟨ha, hb⟩, hc⟩, hd⟩ := h
  refine ⟨_, ha, hb, by exact_mod_cast hc, fun hp => ?_⟩
  rcases hd with hd | hd
  · omega
  · exact ⟨hd.1, by exact_mod_cast hd.2⟩
theorem up_pow {x : Int} {m t : Nat} (hx : 0 ≤ x) (ht : 1 ≤ t) (h1 : (2 : Int) ^ (t - 1) ≤ x / 2 ^ m) (h2 : x / 2 ^ m < (2 : Int) ^ t) : (2 : Int) ^ (m + t - 1) ≤ x ∧ x < (2 : Int) ^ (m + t) := by
  have hp : (0 : Int) < 2 ^ m := Int.pow_pos (by decide)
  constructor
  · rw [show m + t - 1 = (t - 1) + m by omega, Int.pow_add]
    exact (Int.le_ediv_iff_mul_le hp).1 h1
  · rw [Nat.add_comm, Int.pow_add]
    exact (Int.ediv_lt_iff_lt_mul hp).1 h2
theorem len64_j0 {x c : Int} (hx0 : 0 < x) (hx : x < 4294967296) (hc0 : 0 ≤ c) (hc : c ≤ 32) : ∃ n : Nat, Ev (fun k => bits_Len64.j0 k x c) (c + n) ∧ 1 ≤ n ∧ n ≤ 32 ∧ (2 : Int) ^ (n - 1) ≤ x ∧ x < (2 : Int) ^ n := by
  by_cases h1 : x ≥ 65536
  · by_cases h2 : x / 65536 ≥ 256
    · obtain ⟨t, e, ht, hlt, hpos⟩ := len8 (x := x / 65536 / 256 % 256) (by omega) (by omega)
      obtain ⟨h3, h4⟩ := hpos (by omega)
      have e2 : x / 65536 / 256 % 256 = x / 2 ^ 24 := by rw [show (2 : Int) ^ 24 = 16777216 by decide]; omega
      rw [e2] at hlt h4
      obtain ⟨h5, h6⟩ := up_pow (m := 24) (by omega) h3 h4 hlt
      refine ⟨24 + t, Ev.step (fun k => by simp only [bits_Len64.j0]; rfl) ?_, by omega, by omega, h5, h6⟩
      refine Ev.pos h1 (Ev.pos h2 (Ev.pos (by omega) (Ev.pos (by omega) (Ev.ok ?_))))
      rw [e, wrap_eq (x := c + 16) (by omega) (by omega), wrap_eq (x := (t : Int)) (by omega) (by omega), wrap_eq (x := c + 16 + 8) (by omega) (by omega), wrap_eq (by omega) (by omega)]
      omega
    · obtain ⟨t, e, ht, hlt, hpos⟩ := len8 (x := x / 65536 % 256) (by omega) (by omega)
      obtain ⟨h3, h4⟩ := hpos (by omega)
      have e2 : x / 65536 % 256 = x / 2 ^ 16 := by rw [show (2 : Int) ^ 16 = 65536 by decide]; omega
      rw [e2] at hlt h4
      obtain ⟨h5, h6⟩ := up_pow (m := 16) (by omega) h3 h4 hlt
      refine ⟨16 + t, Ev.step (fun k => by simp only [bits_Len64.j0]; rfl) ?_, by omega, by omega, h5, h6⟩
      refine Ev.pos h1 (Ev.neg h2 (Ev.pos (by omega) (Ev.pos (by omega) (Ev.ok ?_))))
      rw [e, wrap_eq (x := c + 16) (by omega) (by omega), wrap_eq (x := (t : Int)) (by omega) (by omega), wrap_eq (by omega) (by omega)]
      omega
  · by_cases h2 : x ≥ 256
    · obtain ⟨t, e, ht, hlt, hpos⟩ := len8 (x := x / 256 % 256) (by omega) (by omega)
      obtain ⟨h3, h4⟩ := hpos (by omega)
      have e2 : x / 256 % 256 = x / 2 ^ 8 := by rw [show (2 : Int) ^ 8 = 256 by decide]; omega
      rw [e2] at hlt h4
      obtain ⟨h5, h6⟩ := up_pow (m := 8) (by omega) h3 h4 hlt
      refine ⟨8 + t, Ev.step (fun k => by simp only [bits_Len64.j0]; rfl) ?_, by omega, by omega, h5, h6⟩
      refine Ev.neg h1 (Ev.pos h2 (Ev.pos (by omega) (Ev.pos (by omega) (Ev.ok ?_))))
      rw [e, wrap_eq (x := c + 8) (by omega) (by omega), wrap_eq (x := (t : Int)) (by omega) (by omega), wrap_eq (by omega) (by omega)]
      omega
    · obtain ⟨t, e, ht, hlt, hpos⟩ := len8 (x := x % 256) (by omega) (by omega)
      obtain ⟨h3, h4⟩ := hpos (by omega)
      have e2 : x % 256 = x := by omega
      rw [e2] at hlt h4
      refine ⟨t, Ev.step (fun k => by simp only [bits_Len64.j0]; rfl) ?_, by omega, by omega, h4, hlt⟩
      refine Ev.neg h1 (Ev.neg h2 (Ev.pos (by omega) (Ev.pos (by omega) (Ev.ok ?_))))
      rw [e, wrap_eq (x := (t : Int)) (by omega) (by omega), wrap_eq (by omega) (by omega)]
theorem len64_f {x : Int} (hx0 : 0 < x) (hx : x < 18446744073709551616) : ∃ n : Nat, Ev (fun k => bits_Len64.f k x) (n : Int) ∧ 1 ≤ n ∧ n ≤ 64 ∧ (2 : Int) ^ (n - 1) ≤ x ∧ x < (2 : Int) ^ n := by
  by_cases h : x ≥ 4294967296
  · obtain ⟨n, h1, h2, h3, h4, h5⟩ := len64_j0 (x := x / 4294967296) (c := 32) (by omega) (by omega) (by omega) (by omega)
    have e2 : (4294967296 : Int) = 2 ^ 32 := by decide
    obtain ⟨h6, h7⟩ := up_pow (m := 32) (x := x) (by omega) h2 (by rw [← e2]; exact h4) (by rw [← e2]; exact h5)
    refine ⟨32 + n, ?_, by omega, by omega, h6, h7⟩
    unfold bits_Len64.f
    refine Ev.pos h ?_
    have := h1
    rwa [show (32 : Int) + n = ((32 + n : Nat) : Int) by omega] at this
  · obtain ⟨n, h1, h2, h3, h4, h5⟩ := len64_j0 (x := x) (c := 0) (by omega) (by omega) (by omega) (by omega)
    refine ⟨n, ?_, by omega, by omega, h4, h5⟩
    unfold bits_Len64.f
    refine Ev.neg h ?_
    rwa [Int.zero_add] at h1
theorem u64_mod (x : Int) : IntKind.u64.wrap x = x % 18446744073709551616 := by simp [IntKind.wrap, IntKind.signed, IntKind.bits]
theorem digit {Y y1 y0 u d q r U Q : Int} (hY : Y = y1 * 4294967296 + y0) (h1 : 2147483648 ≤ y1) (h0 : 0 ≤ y0) (h0' : y0 < 4294967296) (hu0 : 0 ≤ u) (hu : u < Y) (hd0 : 0 ≤ d) (hd : d < 4294967296)
    (hU : U = u * 4294967296 + d) (hQ : Q = U / Y) (hqr : q * y1 + r = u) (hq0 : 0 ≤ q) (hq : q ≤ 4294967297) (hr0 : 0 ≤ r) (hr : r < 4294967296) (hge : Q ≤ q) :
    ((q ≥ 4294967296 ∨ q < 4294967296 ∧ 4294967296 * r + d < q * y0) ∧ Q ≤ q - 1 ∧ 1 ≤ q ∧ (r + y1 ≥ 4294967296 → q - 1 = Q)) ∨ (q < 4294967296 ∧ ¬ (4294967296 * r + d < q * y0) ∧ q = Q) := by
  have hYp : 0 < Y := by omega
  have eq : q * Y = (u - r) * 4294967296 + q * y0 := by
    rw [hY, Int.mul_add, ← Int.mul_assoc, show q * y1 = u - r by omega]
  have hlt : ∀ z : Int, Q < z ↔ U < z * Y := fun z => by rw [hQ]; exact Int.ediv_lt_iff_lt_mul hYp
  have hQ0 : 0 ≤ Q := by rw [hQ]; exact Int.ediv_nonneg (by omega) (by omega)
  have brk : Q ≤ q - 1 → r + y1 ≥ 4294967296 → q - 1 = Q := by
    intro h2 h3
    have h4 : ¬ (Q < q - 1) := by
      rw [hlt, Int.sub_mul, eq, hY, Int.one_mul]
      have : (q - 1) * y0 ≤ 4294967296 * y0 := Int.mul_le_mul_of_nonneg_right (by omega) h0
      rw [Int.sub_mul, Int.one_mul] at this
      omega
    omega
  by_cases h2 : q ≥ 4294967296
  · have h3 : Q < q := by
      have : Q < 4294967296 := by rw [hlt]; omega
      omega
    exact .inl ⟨.inl h2, by omega, by omega, brk (by omega)⟩
  · by_cases h3 : 4294967296 * r + d < q * y0
    · have h4 : Q < q := by rw [hlt, eq]; omega
      exact .inl ⟨.inr ⟨by omega, h3⟩, by omega, by omega, brk (by omega)⟩
    · have h4 : ¬ Q < q := by rw [hlt, eq]; omega
      exact .inr ⟨by omega, h3, by omega⟩
theorem rest_word {Y u d U Q : Int} (hY : 0 < Y) (hY' : Y < 18446744073709551616) (hU : U = u * 4294967296 + d) (hQ : Q = U / Y) : IntKind.u64.wrap (IntKind.u64.wrap (IntKind.u64.wrap (u * 4294967296) + d) - IntKind.u64.wrap (Q * Y)) = U % Y := by
  simp only [u64_mod]
  have h1 := Int.emod_nonneg U (show Y ≠ 0 by omega)
  have h2 := Int.emod_lt_of_pos U hY
  have h3 : U % Y = U - Q * Y := by rw [Int.emod_def, hQ, Int.mul_comm]
  rw [h3] at h1 h2 ⊢
  omega
structure Div1 (Y y1 y0 : Int) : Prop where
  eq : Y = y1 * 4294967296 + y0
  lo : 2147483648 ≤ y1
  hi : y1 < 4294967296
  z0 : 0 ≤ y0
  z1 : y0 < 4294967296
theorem div_l1 {Y y1 y0 u d s q1 U Q : Int} (D : Div1 Y y1 y0) (hu0 : 0 ≤ u) (hu : u < Y) (hd0 : 0 ≤ d) (hd : d < 4294967296) (hs : 0 ≤ s) (hU : U = u * 4294967296 + d) (hQ : Q = U / Y) (m : Nat) :
    ∀ q r : Int, q * y1 + r = u → 0 ≤ q → q ≤ 4294967297 → 0 ≤ r → r < 4294967296 → Q ≤ q → 4294967296 ≤ r + m * 2147483648 →
    Ev (fun k => bits_Div64.l1 k Y s y1 y0 d q1 r u q) (IntKind.u64.wrap (IntKind.u64.wrap (q1 * 4294967296) + Q), shr .u64 (U % Y) s) := by
  obtain ⟨hY, h1, h1', h0, h0'⟩ := D
  induction m with
  | zero => intro q r _ _ _ _ _ _ hm; omega
  | succ m ih =>
    intro q r hqr hq0 hq hr0 hr hge hm
    have H := digit hY h1 h0 h0' hu0 hu hd0 hd hU hQ hqr hq0 hq hr0 hr hge
    have rw_ := rest_word (show 0 < Y by omega) (by omega) hU hQ
    have yes : ((q ≥ 4294967296 ∨ q < 4294967296 ∧ 4294967296 * r + d < q * y0) ∧ Q ≤ q - 1 ∧ 1 ≤ q ∧ (r + y1 ≥ 4294967296 → q - 1 = Q)) → Ev (fun k => bits_Div64.j4 k Y s y1 y0 d q1 r u q true) (IntKind.u64.wrap (IntKind.u64.wrap (q1 * 4294967296) + Q), shr .u64 (U % Y) s) := by
      rintro ⟨_, h3, h4, h5⟩
      refine Ev.step (fun k => by simp only [bits_Div64.j4]; rfl) ?_
      refine Ev.pos (by first | trivial | rfl) ?_
      rw [u64_eq (x := r + y1) (by omega) (by omega), u64_eq (x := q - 1) (by omega) (by omega)]
      refine Ev.ite (fun h6 => Ev.pos hs (Ev.ok ?_)) (fun h6 => ?_)
      · rw [h5 h6, rw_]
      · exact ih (q - 1) (r + y1) (by rw [Int.sub_mul]; omega) (by omega) (by omega) (by omega) (by omega) h3 (by omega)
    have no : q = Q → Ev (fun k => bits_Div64.j4 k Y s y1 y0 d q1 r u q false) (IntKind.u64.wrap (IntKind.u64.wrap (q1 * 4294967296) + Q), shr .u64 (U % Y) s) := by
      rintro rfl
      refine Ev.step (fun k => by simp only [bits_Div64.j4]; rfl) ?_
      refine Ev.neg (by decide) (Ev.pos hs (Ev.ok ?_))
      rw [rw_]
    refine Ev.step (fun k => by simp only [bits_Div64.l1]; rfl) ?_
    refine Ev.ite (fun h6 => ?_) (fun h6 => ?_)
    · rcases H with H | H
      · exact yes H
      · omega
    · have hb : q * y0 ≤ 4294967295 * 4294967295 := Int.mul_le_mul (by omega) (by omega) h0 (by decide)
      have hb0 : 0 ≤ q * y0 := Int.mul_nonneg hq0 h0
      rw [u64_eq (x := q * y0) hb0 (by omega), u64_eq (x := 4294967296 * r) (by omega) (by omega), u64_eq (x := 4294967296 * r + d) (by omega) (by omega)]
      rcases H with H | H
      · rw [decide_eq_true (by omega)]; exact yes H
      · rw [decide_eq_false (by omega)]; exact no H.2.2
theorem div_l0 {Y y1 y0 u d d0 s U Q : Int} {R : Int × Int} (D : Div1 Y y1 y0) (hu0 : 0 ≤ u) (hu : u < Y) (hd0 : 0 ≤ d) (hd : d < 4294967296) (hU : U = u * 4294967296 + d) (hQ : Q = U / Y)
    (next : Ev (fun k => bits_Div64.j2 k Y s y1 y0 u d d0 Q) R) (m : Nat) :
    ∀ q r : Int, q * y1 + r = u → 0 ≤ q → q ≤ 4294967297 → 0 ≤ r → r < 4294967296 → Q ≤ q → 4294967296 ≤ r + m * 2147483648 →
    Ev (fun k => bits_Div64.l0 k Y s y1 y0 u d d0 q r) R := by
  obtain ⟨hY, h1, h1', h0, h0'⟩ := D
  induction m with
  | zero => intro q r _ _ _ _ _ _ hm; omega
  | succ m ih =>
    intro q r hqr hq0 hq hr0 hr hge hm
    have H := digit hY h1 h0 h0' hu0 hu hd0 hd hU hQ hqr hq0 hq hr0 hr hge
    have yes : ((q ≥ 4294967296 ∨ q < 4294967296 ∧ 4294967296 * r + d < q * y0) ∧ Q ≤ q - 1 ∧ 1 ≤ q ∧ (r + y1 ≥ 4294967296 → q - 1 = Q)) → Ev (fun k => bits_Div64.j1 k Y s y1 y0 u d d0 q r true) R := by
      rintro ⟨_, h3, h4, h5⟩
      refine Ev.step (fun k => by simp only [bits_Div64.j1]; rfl) ?_
      refine Ev.pos (by first | trivial | rfl) ?_
      rw [u64_eq (x := r + y1) (by omega) (by omega), u64_eq (x := q - 1) (by omega) (by omega)]
      refine Ev.ite (fun h6 => ?_) (fun h6 => ?_)
      · rw [h5 h6]; exact next
      · exact ih (q - 1) (r + y1) (by rw [Int.sub_mul]; omega) (by omega) (by omega) (by omega) (by omega) h3 (by omega)
    have no : q = Q → Ev (fun k => bits_Div64.j1 k Y s y1 y0 u d d0 q r false) R := by
      rintro rfl
      refine Ev.step (fun k => by simp only [bits_Div64.j1]; rfl) ?_
      exact Ev.neg (by decide) next
    refine Ev.step (fun k => by simp only [bits_Div64.l0]; rfl) ?_
    refine Ev.ite (fun h6 => ?_) (fun h6 => ?_)
    · rcases H with H | H
      · exact yes H
      · omega
    · have hb : q * y0 ≤ 4294967295 * 4294967295 := Int.mul_le_mul (by omega) (by omega) h0 (by decide)
      have hb0 : 0 ≤ q * y0 := Int.mul_nonneg hq0 h0
      rw [u64_eq (x := q * y0) hb0 (by omega), u64_eq (x := 4294967296 * r) (by omega) (by omega), u64_eq (x := 4294967296 * r + d) (by omega) (by omega)]
      rcases H with H | H
      · rw [decide_eq_true (by omega)]; exact yes H
      · rw [decide_eq_false (by omega)]; exact no H.2.2
theorem guess {Y y1 y0 u d U Q : Int} (D : Div1 Y y1 y0) (hu0 : 0 ≤ u) (hu : u < Y) (hd0 : 0 ≤ d) (hd : d < 4294967296) (hU : U = u * 4294967296 + d) (hQ : Q = U / Y) :
    ∃ q r : Int, IntKind.u64.wrap (Int.tdiv u y1) = q ∧ IntKind.u64.wrap (u - IntKind.u64.wrap (q * y1)) = r ∧ q * y1 + r = u ∧ 0 ≤ q ∧ q ≤ 4294967297 ∧ 0 ≤ r ∧ r < 4294967296 ∧ Q ≤ q := by
  obtain ⟨hY, h1, h1', h0, h0'⟩ := D
  have hq0 : 0 ≤ u / y1 := Int.ediv_nonneg hu0 (by omega)
  have hq : u / y1 < 4294967298 := by rw [Int.ediv_lt_iff_lt_mul (by omega)]; omega
  have hm := Int.emod_def u y1
  have hr0 := Int.emod_nonneg u (show y1 ≠ 0 by omega)
  have hr := Int.emod_lt_of_pos u (show 0 < y1 by omega)
  have hc : u / y1 * y1 = u - u % y1 := by rw [Int.mul_comm]; omega
  have hcp : 0 ≤ u / y1 * y1 := Int.mul_nonneg hq0 (by omega)
  refine ⟨u / y1, u % y1, ?_, ?_, by omega, hq0, by omega, hr0, by omega, ?_⟩
  · rw [Int.tdiv_eq_ediv_of_nonneg hu0, u64_eq hq0 (by omega)]
  · rw [hc, u64_eq (x := u - u % y1) (by omega) (by omega), show u - (u - u % y1) = u % y1 by omega, u64_eq (by omega) (by omega)]
  · have hlt : Q < u / y1 + 1 := by
      rw [hQ, Int.ediv_lt_iff_lt_mul (by omega), hY, Int.mul_add, ← Int.mul_assoc, Int.add_mul, hc, Int.one_mul]
      have : 0 ≤ (u / y1 + 1) * y0 := Int.mul_nonneg (by omega) h0
      omega
    omega
theorem shl_at {x y s : Int} {n : Nat} (hs : s = (n : Int)) (hn : n ≤ 64) (h : x * 2 ^ n = y) (h0 : 0 ≤ y) (h1 : y < 18446744073709551616) : shl .u64 x s = y := by
  unfold shl
  rw [hs, Int.toNat_natCast, Nat.min_eq_left (by simpa [IntKind.bits] using hn), h, u64_eq h0 h1]
theorem and32' {x : Int} (h0 : 0 ≤ x) (h1 : x < 18446744073709551616) : Go.bits .and .u64 x 4294967295 = x % 4294967296 :=
  Go.bits_mask .u64 64 (by decide) (fun n h0 h1 => u64_eq h0 h1) 32 (by decide) x h0 h1
theorem div64_f {a b c : Int} (ha0 : 0 ≤ a) (ha : a < c) (hb0 : 0 ≤ b) (hb : b < 18446744073709551616) (hc : c < 18446744073709551616) :
    Ev (fun k => bits_Div64.f k a b c) ((a * 18446744073709551616 + b) / c, (a * 18446744073709551616 + b) % c) := by
  have hc0 : 0 < c := by omega
  unfold bits_Div64.f
  refine Ev.neg (by omega) (Ev.neg (by omega) ?_)
  by_cases hz : a = 0
  · refine Ev.pos hz (Ev.ok ?_)
    subst hz
    rw [Int.zero_mul, Int.zero_add, Int.tdiv_eq_ediv_of_nonneg hb0, Int.tmod_eq_emod_of_nonneg hb0]
    have h1 := Int.ediv_nonneg hb0 (show 0 ≤ c by omega)
    have h2 := Int.ediv_le_self c hb0
    rw [u64_eq h1 (by omega)]
  refine Ev.neg hz ?_
  obtain ⟨n, hev, hn1, hn2, hlo, hhi⟩ := len64_f hc0 hc
  obtain ⟨s, hs⟩ : ∃ s : Nat, s = 64 - n := ⟨_, rfl⟩
  have hsn : s + n = 64 := by omega
  have hs63 : s ≤ 63 := by omega
  obtain ⟨p, hp⟩ : ∃ p : Int, p = 2 ^ s := ⟨_, rfl⟩
  obtain ⟨r, hr⟩ : ∃ r : Int, r = 2 ^ n := ⟨_, rfl⟩
  have hp0 : 0 < p := by rw [hp]; exact Int.pow_pos (by decide)
  have hr0 : 0 < r := by rw [hr]; exact Int.pow_pos (by decide)
  have hpr : p * r = 18446744073709551616 := by rw [hp, hr, ← Int.pow_add, hsn]; decide
  have hY1 : c * p < 18446744073709551616 := by
    rw [← hpr, Int.mul_comm p r]
    exact Int.mul_lt_mul_of_pos_right (by rw [hr]; exact hhi) hp0
  have hY0 : 9223372036854775808 ≤ c * p := by
    have h1 : (2 : Int) ^ (n - 1) * p ≤ c * p := Int.mul_le_mul_of_nonneg_right hlo (by omega)
    have h2 : (2 : Int) ^ (n - 1) * p = 9223372036854775808 := by
      rw [hp, ← Int.pow_add, show n - 1 + s = 63 by omega]; decide
    omega
  obtain ⟨Y, hY⟩ : ∃ Y, Y = c * p := ⟨_, rfl⟩
  rw [← hY] at hY0 hY1
  have haY : a * p < Y := by rw [hY]; exact Int.mul_lt_mul_of_pos_right ha hp0
  have hap0 : 0 ≤ a * p := Int.mul_nonneg ha0 (by omega)
  have hbr0 : 0 ≤ b / r := Int.ediv_nonneg hb0 (by omega)
  have hbr : b / r < p := by rw [Int.ediv_lt_iff_lt_mul hr0, hpr]; exact hb
  have eY : shl .u64 c (s : Int) = Y := shl_at rfl (by omega) (by rw [hY, hp]) (by omega) hY1
  have ea : shl .u64 a (s : Int) = a * p := shl_at rfl (by omega) (by rw [hp]) hap0 (by omega)
  have eb : shr .u64 b (n : Int) = b / r := by
    unfold shr
    rw [Int.toNat_natCast, Nat.min_eq_left (by simpa [IntKind.bits] using hn2), hr]
  have eb2 : shl .u64 b (s : Int) = (b * p) % 18446744073709551616 := by
    unfold shl
    rw [Int.toNat_natCast, Nat.min_eq_left (by simp [IntKind.bits]; omega), u64_mod, hp]
  have hor : Go.bits .or .u64 (a * p) (b / r) = a * p + b / r := by
    refine Go.bits_join .u64 64 (by decide) (fun n h0 h1 => u64_eq h0 h1) s (a * p) (b / r) hap0 ?_ ?_ hbr0 ?_ ?_
    · rw [hp]; exact Int.mul_emod_left _ _
    · exact Int.lt_trans haY hY1
    · rw [← hp]; exact hbr
    · have : p ≤ 18446744073709551616 := by
        rw [← hpr]
        have := Int.mul_le_mul_of_nonneg_left (show (1 : Int) ≤ r by omega) (show 0 ≤ p by omega)
        omega
      exact Int.lt_of_lt_of_le hbr this
  obtain ⟨u, hu⟩ : ∃ u, u = a * p + b / r := ⟨_, rfl⟩
  rw [← hu] at hor
  have huY : u < Y := by
    have h1 : (a + 1) * p ≤ c * p := Int.mul_le_mul_of_nonneg_right (by omega) (by omega)
    rw [Int.add_mul, Int.one_mul, ← hY] at h1
    omega
  have hu0 : 0 ≤ u := by omega
  obtain ⟨v, hv⟩ : ∃ v, v = (b * p) % 18446744073709551616 := ⟨_, rfl⟩
  rw [← hv] at eb2
  have hv0 : 0 ≤ v := by omega
  have hv1 : v < 18446744073709551616 := by omega
  have hbp : b * p = (b / r) * 18446744073709551616 + v := by
    have h1 : b * p / 18446744073709551616 = b / r := by
      rw [← hpr, Int.mul_comm p r]
      exact Int.mul_ediv_mul_of_pos_left b r hp0
    have h2 := Int.mul_ediv_add_emod (b * p) 18446744073709551616
    rw [h1, ← hv] at h2
    omega
  have hN : (a * 18446744073709551616 + b) * p = u * 18446744073709551616 + v := by
    rw [Int.add_mul, hbp, hu, Int.add_mul, Int.mul_right_comm]
    omega
  have ew : IntKind.u64.wrap (wrap64 (64 - (n : Int))) = (s : Int) := by
    rw [wrap_eq (by omega) (by omega), u64_eq (by omega) (by omega)]; omega
  have ew2 : IntKind.u64.wrap (64 - (s : Int)) = (n : Int) := by rw [u64_eq (by omega) (by omega)]; omega
  have hlz : Ev (fun k => bits_LeadingZeros64.f k c) (wrap64 (64 - (n : Int))) := by
    unfold bits_LeadingZeros64.f
    exact Ev.bind hev (Ev.ok rfl)
  refine Ev.bind hlz ?_
  simp only [ew, ew2, eY, ea, eb, eb2, hor]
  have D : Div1 Y (Y / 4294967296) (Go.bits .and .u64 Y 4294967295) := by
    rw [and32' (by omega) hY1]
    exact ⟨by omega, by omega, by omega, by omega, by omega⟩
  rw [and32' hv0 hv1]
  refine Ev.pos (by omega) (Ev.pos (by omega) (Ev.neg (by have := D.lo; omega) ?_))
  obtain ⟨y1, hy1⟩ : ∃ x, x = Y / 4294967296 := ⟨_, rfl⟩
  obtain ⟨y0, hy0⟩ : ∃ x, x = Go.bits .and .u64 Y 4294967295 := ⟨_, rfl⟩
  rw [← hy1, ← hy0] at D ⊢
  obtain ⟨d1, hd1⟩ : ∃ x, x = v / 4294967296 := ⟨_, rfl⟩
  obtain ⟨d0, hd0⟩ : ∃ x, x = v % 4294967296 := ⟨_, rfl⟩
  rw [← hd1, ← hd0]
  obtain ⟨U1, hU1⟩ : ∃ x, x = u * 4294967296 + d1 := ⟨_, rfl⟩
  obtain ⟨Q1, hQ1⟩ : ∃ x, x = U1 / Y := ⟨_, rfl⟩
  obtain ⟨R1, hR1⟩ : ∃ x, x = U1 % Y := ⟨_, rfl⟩
  obtain ⟨U0, hU0⟩ : ∃ x, x = R1 * 4294967296 + d0 := ⟨_, rfl⟩
  obtain ⟨Q0, hQ0⟩ : ∃ x, x = U0 / Y := ⟨_, rfl⟩
  have hYp : 0 < Y := by omega
  have hR10 : 0 ≤ R1 := by rw [hR1]; exact Int.emod_nonneg _ (by omega)
  have hR1Y : R1 < Y := by rw [hR1]; exact Int.emod_lt_of_pos _ hYp
  have e1 : U1 = Q1 * Y + R1 := by rw [hQ1, hR1, Int.mul_comm]; exact (Int.mul_ediv_add_emod U1 Y).symm
  have hQ1lt : Q1 < 4294967296 := by rw [hQ1, Int.ediv_lt_iff_lt_mul hYp]; omega
  have hQ10 : 0 ≤ Q1 := by rw [hQ1]; exact Int.ediv_nonneg (by omega) (by omega)
  have hQ0lt : Q0 < 4294967296 := by rw [hQ0, Int.ediv_lt_iff_lt_mul hYp]; omega
  have hQ00 : 0 ≤ Q0 := by rw [hQ0]; exact Int.ediv_nonneg (by omega) (by omega)
  have hNU : (a * 18446744073709551616 + b) * p = U0 + (Q1 * 4294967296) * Y := by
    rw [hN, hU0, Int.mul_right_comm]
    have : Q1 * Y = U1 - R1 := by omega
    rw [this]
    omega
  have hq : (a * 18446744073709551616 + b) / c = Q1 * 4294967296 + Q0 := by
    rw [← Int.mul_ediv_mul_of_pos_left _ c hp0, ← hY, hNU, Int.add_mul_ediv_right _ _ (by omega), ← hQ0]
    omega
  have hm : (a * 18446744073709551616 + b) % c = (U0 % Y) / p := by
    have h1 : (a * 18446744073709551616 + b) * p % (c * p) = (a * 18446744073709551616 + b) % c * p := by
      rw [Int.mul_comm _ p, Int.mul_comm c p, Int.mul_emod_mul_of_pos _ _ hp0, Int.mul_comm]
    rw [← hY, hNU, Int.add_mul_emod_self_right] at h1
    rw [h1, Int.mul_ediv_cancel _ (by omega)]
  have last : shr .u64 (U0 % Y) (s : Int) = (a * 18446744073709551616 + b) % c := by
    rw [hm, hp]
    unfold shr
    rw [Int.toNat_natCast, Nat.min_eq_left (by simp [IntKind.bits]; omega)]
  have res : (IntKind.u64.wrap (IntKind.u64.wrap (Q1 * 4294967296) + Q0), shr .u64 (U0 % Y) (s : Int)) = ((a * 18446744073709551616 + b) / c, (a * 18446744073709551616 + b) % c) := by
    rw [last, hq, u64_eq (x := Q1 * 4294967296) (by omega) (by omega), u64_eq (by omega) (by omega)]
  rw [← res]
  obtain ⟨q, rr, g1, g2, g3, g4, g5, g6, g7, g8⟩ := guess D hu0 huY (by omega) (by omega) hU1 hQ1
  rw [g1, g2]
  refine div_l0 D hu0 huY (by omega) (by omega) hU1 hQ1 ?_ 2 q rr g3 g4 g5 g6 g7 g8 (by omega)
  refine Ev.step (fun k => by simp only [bits_Div64.j2]; rfl) ?_
  refine Ev.neg (by have := D.lo; omega) ?_
  rw [rest_word hYp hY1 hU1 hQ1, ← hR1]
  obtain ⟨q', r', g1, g2, g3, g4, g5, g6, g7, g8⟩ := guess D hR10 hR1Y (by omega) (by omega) hU0 hQ0
  rw [g1, g2]
  exact div_l1 D hR10 hR1Y (by omega) (by omega) (by omega) hU0 hQ0 2 q' r' g3 g4 g5 g6 g7 g8 (by omega)
end Go.Proofs.Ytefhljhpcpajgaa.Q
set_option linter.unusedVariables false
namespace Go.Proofs.Ytefhljhpcpajgaa.Q
open Go.RowKit Go.Proofs.Ytefhljhpcpajgaa.F Go.Proofs.YtefhljhpcpajgaaW.PrintWords Go.Proofs.YtefhljhpcpajgaaW.PrintLast Go.Proofs.YtefhljhpcpajgaaW.PrintMore
def may (a b c : Int) : Prop := 0 ≤ a ∧ a ≤ 1000000000000 ∧ 0 ≤ b ∧ b ≤ 1000000000000 ∧ c ≤ 1000000000000
instance (a b c : Int) : Decidable (may a b c) := by unfold may; infer_instance
def divS (a b c : Int) : Int × Int × Int := if c < 1 then (0, 0, 2) else if may a b c then (if a * b > c * 1000000000001 then (0, 0, 8) else (a * b / c, a * b % c, 0)) else (0, 0, 8)
def floorS (a b c : Int) : Int × Int := if c < 1 then (0, 2) else if may a b c then toldS (a * b / c) else (0, 8)
def restS (a b c : Int) : Int × Int := if c < 1 then (0, 2) else if may a b c then (if amt (a * b / c) then (a * b % c, 0) else (0, 8)) else (0, 8)
theorem mul_bound {x y B C : Int} (hx0 : 0 ≤ x) (hx : x ≤ B) (hy0 : 0 ≤ y) (hy : y ≤ C) : 0 ≤ x * y ∧ x * y ≤ B * C :=
  ⟨Int.mul_nonneg hx0 hy0, Int.mul_le_mul hx hy hy0 (by omega)⟩
theorem divided_f (a b c : Int) (hc1 : -9223372036854775808 ≤ c) (hc2 : c ≤ 9223372036854775807) : Ev (fun k => cents_divided.f k a b c) (divS a b c) := by
  unfold cents_divided.f divS
  refine Ev.ite (fun h => Ev.ok (by rw [if_pos h])) (fun h => ?_)
  rw [if_neg h]
  have bad : ¬ may a b c → (if may a b c then (if a * b > c * 1000000000001 then (0, 0, 8) else (a * b / c, a * b % c, 0)) else ((0 : Int), (0 : Int), (8 : Int))) = (0, 0, 8) := fun h => if_neg h
  refine Ev.ite (fun h1 => Ev.ok (bad (by unfold may; omega)).symm) (fun h1 => ?_)
  refine Ev.ite (fun h2 => Ev.ok (bad (by unfold may; omega)).symm) (fun h2 => ?_)
  refine Ev.bindc (in_f _) (Ev.ite (fun h3 => ?_) (fun h3 => Ev.ok (bad (fun hm => h3 (decide_eq_true (by unfold may at hm; unfold amt; omega)))).symm))
  refine Ev.bindc (in_f _) (Ev.ite (fun h4 => ?_) (fun h4 => Ev.ok (bad (fun hm => h4 (decide_eq_true (by unfold may at hm; unfold amt; omega)))).symm))
  refine Ev.bindc (in_f _) (Ev.ite (fun h5 => ?_) (fun h5 => Ev.ok (bad (fun hm => h5 (decide_eq_true (by unfold may at hm; unfold amt; omega)))).symm))
  have hm : may a b c := by
    have := of_decide_eq_true h3; have := of_decide_eq_true h4; have := of_decide_eq_true h5
    unfold amt at *; unfold may; omega
  rw [if_pos hm]
  unfold may at hm
  rw [u64_eq (x := a) (by omega) (by omega), u64_eq (x := b) (by omega) (by omega), u64_eq (x := c) (by omega) (by omega)]
  obtain ⟨m0, m1⟩ := mul_bound (x := a) (y := b) (B := 1000000000000) (C := 1000000000000) (by omega) (by omega) (by omega) (by omega)
  refine Ev.bindc (product_f (by omega) (by omega) (by omega) (by omega)) ?_
  refine Ev.bindc (product_f (by omega) (by omega) (by omega) (by omega)) ?_
  refine Ev.bindc (above_f m0 (by omega)) ?_
  by_cases h6 : a * b > c * 1000000000001
  · rw [if_pos h6]
    exact Ev.pos (decide_eq_true h6) (Ev.ok rfl)
  · rw [if_neg h6]
    refine Ev.neg (by simp; omega) (Ev.neg (by dsimp only; omega) ?_)
    refine Ev.bind (div64_f (a := a * b / 18446744073709551616) (b := a * b % 18446744073709551616) (by omega) (by omega) (by omega) (by omega) (by omega)) ?_
    have e : a * b / 18446744073709551616 * 18446744073709551616 + a * b % 18446744073709551616 = a * b := by omega
    rw [e]
    have d0 : 0 ≤ a * b / c := Int.ediv_nonneg m0 (by omega)
    have d1 : a * b / c < 1000000000002 := by rw [Int.ediv_lt_iff_lt_mul (by omega)]; omega
    have r0 := Int.emod_nonneg (a * b) (show c ≠ 0 by omega)
    have r1 := Int.emod_lt_of_pos (a * b) (show 0 < c by omega)
    refine Ev.ok ?_
    dsimp only
    rw [wrap_eq (by omega) (by omega), wrap_eq (by omega) (by omega)]
theorem divS_cases (a b c : Int) : (c < 1 ∧ divS a b c = (0, 0, 2)) ∨ (1 ≤ c ∧ ¬ may a b c ∧ divS a b c = (0, 0, 8)) ∨ (1 ≤ c ∧ may a b c ∧ a * b / c > 1000000000000 ∧ divS a b c = (0, 0, 8)) ∨ (1 ≤ c ∧ may a b c ∧ 0 ≤ a * b / c ∧ a * b / c ≤ 1000000000001 ∧ 0 ≤ a * b % c ∧ a * b % c < c ∧ divS a b c = (a * b / c, a * b % c, 0)) := by
  unfold divS
  by_cases h : c < 1
  · exact .inl ⟨h, if_pos h⟩
  · rw [if_neg h]
    by_cases h1 : may a b c
    · rw [if_pos h1]
      by_cases h2 : a * b > c * 1000000000001
      · refine .inr (.inr (.inl ⟨by omega, h1, ?_, if_pos h2⟩))
        have : 1000000000001 ≤ a * b / c := by rw [Int.le_ediv_iff_mul_le (by omega)]; omega
        omega
      · have h3 := h1
        unfold may at h3
        refine .inr (.inr (.inr ⟨by omega, h1, Int.ediv_nonneg (Int.mul_nonneg h3.1 h3.2.2.1) (by omega), ?_, Int.emod_nonneg _ (by omega), Int.emod_lt_of_pos _ (by omega), if_neg h2⟩))
        have : a * b / c < 1000000000002 := by rw [Int.ediv_lt_iff_lt_mul (by omega)]; omega
        omega
    · exact .inr (.inl ⟨by omega, h1, if_neg h1⟩)
theorem toldS_big {n : Int} (h : n > 1000000000000) : toldS n = (0, 8) := by unfold toldS; rw [if_neg (show ¬ amt n by unfold amt; omega)]
section
variable {a b c : Int} (hc1 : -9223372036854775808 ≤ c) (hc2 : c ≤ 9223372036854775807)
include hc1 hc2
theorem floor_f : Ev (fun k => cents_Floor.f k a b c) (floorS a b c) := by
  unfold cents_Floor.f
  refine Ev.bind (divided_f a b c hc1 hc2) ?_
  unfold floorS
  rcases divS_cases a b c with ⟨h, e⟩ | ⟨h, h1, e⟩ | ⟨h, h1, h2, e⟩ | ⟨h, h1, h2, h3, h4, h5, e⟩ <;> rw [e]
  · rw [if_pos h]; exact Ev.neg (by decide) (Ev.ok rfl)
  · rw [if_neg (show ¬ c < 1 by omega), if_neg h1]; exact Ev.neg (by decide) (Ev.ok rfl)
  · rw [if_neg (show ¬ c < 1 by omega), if_pos h1, toldS_big h2]; exact Ev.neg (by decide) (Ev.ok rfl)
  · rw [if_neg (show ¬ c < 1 by omega), if_pos h1]; exact Ev.pos (by first | trivial | rfl) (Ev.bindc (told_f _) (Ev.ok rfl))
theorem rest_f : Ev (fun k => cents_Rest.f k a b c) (restS a b c) := by
  unfold cents_Rest.f
  refine Ev.bind (divided_f a b c hc1 hc2) ?_
  unfold restS
  rcases divS_cases a b c with ⟨h, e⟩ | ⟨h, h1, e⟩ | ⟨h, h1, h2, e⟩ | ⟨h, h1, h2, h3, h4, h5, e⟩ <;> rw [e]
  · rw [if_pos h]; exact Ev.neg (by decide) (Ev.ok rfl)
  · rw [if_neg (show ¬ c < 1 by omega), if_neg h1]; exact Ev.neg (by decide) (Ev.ok rfl)
  · rw [if_neg (show ¬ c < 1 by omega), if_pos h1, if_neg (show ¬ amt (a * b / c) by unfold amt; omega)]; exact Ev.neg (by decide) (Ev.ok rfl)
  · rw [if_neg (show ¬ c < 1 by omega), if_pos h1]
    refine Ev.pos (by first | trivial | rfl) (Ev.bindc (told_f _) ?_)
    unfold toldS
    dsimp only
    by_cases h6 : amt (a * b / c)
    · simp only [if_pos h6]; exact Ev.pos (by first | trivial | rfl) (Ev.ok rfl)
    · simp only [if_neg h6]; exact Ev.neg (by decide) (Ev.ok rfl)
end
end Go.Proofs.Ytefhljhpcpajgaa.Q
set_option linter.unusedVariables false
set_option linter.unusedSimpArgs false
namespace Go.Proofs.Ytefhljhpcpajgaa.Q
open Go.RowKit Go.Proofs.Ytefhljhpcpajgaa.F Go.Proofs.YtefhljhpcpajgaaW.PrintWords Go.Proofs.YtefhljhpcpajgaaW.PrintLast Go.Proofs.YtefhljhpcpajgaaW.PrintMore
theorem even_l0 {n : Nat} (hn : n ≤ 35184372088832) (d : Nat) : ∀ i : Nat, n - i = d → i ≤ n → Ev (fun k => share_even.l0 k (List.replicate i 1 ++ List.replicate (n - i) 0) (n : Int) (i : Int)) (List.replicate n 1) := by
  induction d with
  | zero =>
    intro i hd hi
    obtain rfl : i = n := by omega
    refine Ev.step (fun k => by simp only [share_even.l0]; rfl) ?_
    exact Ev.neg (by omega) (Ev.ok (by simp))
  | succ d ih =>
    intro i hd hi
    refine Ev.step (fun k => by simp only [share_even.l0]; rfl) ?_
    refine Ev.pos (by omega) (Ev.pos (by omega) (Ev.pos (by simp; omega) ?_))
    have e : (List.replicate i (1 : Int) ++ List.replicate (n - i) 0).set (i : Int).toNat 1 = List.replicate (i + 1) 1 ++ List.replicate (n - (i + 1)) 0 := by
      rw [Int.toNat_natCast]
      apply List.ext_getElem
      · simp; omega
      · intro p h1 h2
        rw [List.getElem_set]
        simp only [List.getElem_append, List.getElem_replicate, List.length_replicate]
        (repeat' split) <;> first | rfl | omega
    rw [e, wrap_eq (by omega) (by omega)]
    exact ih (i + 1) (by omega) (by omega)
theorem even_f {n : Nat} (hn : n ≤ 35184372088832) : Ev (fun k => share_even.f k (n : Int)) (List.replicate n 1) := by
  unfold share_even.f
  refine Ev.pos (by omega) (Ev.pos (by rw [Int.toNat_natCast]; exact hn) ?_)
  refine Q.Ev.bindc rfl ?_
  have := even_l0 hn n 0 (by omega) (by omega)
  simpa using this
def maxS (m : Int) (l : List Int) : Int := l.foldl mx m
theorem max_l0 {l : List Int} (hl : l.length < 9223372036854775807) (d : Nat) : ∀ (i : Nat) (m : Int), l.length - i = d → i ≤ l.length → Ev (fun k => slices_Max_int_int.l0 k l m (i : Int)) (maxS m (l.drop i)) := by
  induction d with
  | zero =>
    intro i m hd hi
    refine Ev.step (fun k => by simp only [slices_Max_int_int.l0]; rfl) ?_
    refine Ev.neg (by omega) (Ev.ok ?_)
    rw [List.drop_eq_nil_of_le (by omega)]; rfl
  | succ d ih =>
    intro i m hd hi
    have h : i < l.length := by omega
    refine Ev.step (fun k => by simp only [slices_Max_int_int.l0]; rfl) ?_
    refine Ev.pos (by omega) (Ev.pos (by omega) ?_)
    rw [drop_cons h, rd_nat h, wrap_eq (by omega) (by omega)]
    exact ih (i + 1) _ (by omega) (by omega)
theorem maxS_zero {l : List Int} : ∀ {m : Int}, 0 ≤ m → (∀ x ∈ l, 0 ≤ x) → (maxS m l = 0 ↔ m = 0 ∧ sumI l = 0) := by
  induction l with
  | nil => intro m h0 hl; simp [maxS, sumI]
  | cons x l ih =>
    intro m h0 hl
    have hx := hl x List.mem_cons_self
    have hs := sumI_nonneg (fun y hy => hl y (List.mem_cons_of_mem _ hy))
    have := ih (m := mx m x) (by unfold mx; split <;> omega) (fun y hy => hl y (List.mem_cons_of_mem _ hy))
    show maxS (mx m x) l = 0 ↔ _
    rw [this, sumI_cons]
    unfold mx
    split <;> omega
theorem max_f {l : List Int} (h1 : 1 ≤ l.length) (hl : l.length < 9223372036854775807) (h0 : ∀ x ∈ l, 0 ≤ x) : ∃ m, Ev (fun k => slices_Max_int_int.f k l) m ∧ (m = 0 ↔ sumI l = 0) := by
  refine ⟨maxS (rd l 0) (l.drop 1), ?_, ?_⟩
  · unfold slices_Max_int_int.f
    refine Ev.neg (by omega) (Ev.pos (by omega) ?_)
    have := max_l0 hl (l.length - 1) 1 (rd l 0) rfl h1
    exact this
  · cases l with
    | nil => simp at h1
    | cons x l =>
      have e : rd (x :: l) 0 = x := rfl
      rw [e, List.drop_succ_cons, List.drop_zero, maxS_zero (h0 x List.mem_cons_self) (fun y hy => h0 y (List.mem_cons_of_mem _ hy)), sumI_cons]
      have := h0 x List.mem_cons_self
      have := sumI_nonneg (fun y hy => h0 y (List.mem_cons_of_mem _ hy))
      omega
def negs (l : List Int) : Bool := l.any fun x => decide (x < 0)
theorem negs_false {l : List Int} : negs l = false ↔ ∀ x ∈ l, 0 ≤ x := by
  unfold negs
  rw [List.any_eq_false]
  exact ⟨fun h x hx => by have := h x hx; simp at this; omega, fun h x hx => by have := h x hx; simp; omega⟩
def wholeS (l : List Int) : Int × Int := if l.length < 1 ∨ 200 < l.length then (0, 2) else if negs l = true then (0, 8) else if 1000000000000 < sumI l then (0, 8) else if sumI l = 0 then ((l.length : Int), 0) else (sumI l, 0)
theorem sumS_nonneg {l : List Int} : ∀ {n : Int}, 0 ≤ n → n ≤ 1000000000000 → (∀ x ∈ l, 0 ≤ x) → sumS n l = if 1000000000000 < n + sumI l then (0, 8) else (n + sumI l, 0) := by
  induction l with
  | nil => intro n h0 h1 _; rw [show sumI ([] : List Int) = 0 from rfl, if_neg (by omega)]; simp [sumS]
  | cons x l ih =>
    intro n h0 h1 h
    have hx := h x List.mem_cons_self
    have hl := fun y hy => h y (List.mem_cons_of_mem _ hy)
    have hs := sumI_nonneg hl
    simp only [sumS]
    rw [sumI_cons]
    by_cases c : amt x ∧ amt (n + x)
    · rw [if_pos c, ih (by omega) (by have := c.2; unfold amt at this; omega) hl]
      rw [show n + x + sumI l = n + (x + sumI l) by omega]
    · rw [if_neg c, if_pos (by unfold amt at c; omega)]
theorem whole_l0 {l : List Int} (hl : l.length ≤ 200) (d : Nat) : ∀ i : Nat, l.length - i = d → i ≤ l.length → (∀ x ∈ l.take i, 0 ≤ x) → Ev (fun k => share_Whole.l0 k l l (l.length : Int) (i : Int)) (if negs l = true then (0, 8) else if 1000000000000 < sumI l then (0, 8) else if sumI l = 0 then ((l.length : Int), 0) else (sumI l, 0)) := by
  induction d with
  | zero =>
    intro i hd hi ht
    refine Ev.step (fun k => by simp only [share_Whole.l0]; rfl) ?_
    refine Ev.neg (by omega) ?_
    rw [List.take_of_length_le (by omega)] at ht
    rw [if_neg (by rw [negs_false.2 ht]; decide)]
    refine Ev.bind (cents_Add_f (l := l) (by omega)) ?_
    rw [sumS_nonneg (by omega) (by omega) ht, show (0 : Int) + sumI l = sumI l by omega]
    by_cases c : 1000000000000 < sumI l
    · rw [if_pos c, if_pos c]
      exact Ev.neg (by decide) (Ev.const rfl)
    · rw [if_neg c, if_neg c]
      refine Ev.pos rfl ?_
      exact Q.Ev.ite (fun h => Ev.ok (by rw [if_pos h])) (fun h => Ev.ok (by rw [if_neg h]))
  | succ d ih =>
    intro i hd hi ht
    have h : i < l.length := by omega
    refine Ev.step (fun k => by simp only [share_Whole.l0]; rfl) ?_
    refine Ev.pos (by omega) (Ev.pos (by omega) (Ev.pos (by omega) ?_))
    rw [rd_nat h]
    by_cases c : l[i] < 0
    · refine Ev.pos c (Ev.ok ?_)
      rw [if_pos]
      unfold negs
      exact List.any_eq_true.2 ⟨l[i], List.getElem_mem h, decide_eq_true c⟩
    · refine Ev.neg c ?_
      rw [wrap_eq (by omega) (by omega)]
      refine ih (i + 1) (by omega) (by omega) (fun x hx => ?_)
      rw [List.take_succ_eq_append_getElem h] at hx
      rcases List.mem_append.1 hx with hx | hx
      · exact ht x hx
      · rw [List.mem_singleton.1 hx]; omega
theorem whole_f {l : List Int} (hl : l.length < 9223372036854775807) : Ev (fun k => share_Whole.f k l) (wholeS l) := by
  unfold share_Whole.f wholeS
  by_cases h1 : l.length < 1
  · refine Ev.pos (by omega) ?_
    refine Ev.step (fun k => by simp only [share_Whole.j0]; rfl) ?_
    exact Ev.pos (by simp) (Ev.ok (by rw [if_pos (.inl h1)]))
  · refine Ev.neg (by omega) ?_
    refine Ev.step (fun k => by simp only [share_Whole.j0]; rfl) ?_
    by_cases h2 : 200 < l.length
    · exact Ev.pos (decide_eq_true (by omega)) (Ev.ok (by rw [if_pos (.inr h2)]))
    · refine Ev.neg (by simp; omega) ?_
      rw [if_neg (by omega)]
      exact whole_l0 (by omega) l.length 0 (by omega) (by omega) (by simp)
def eff (l : List Int) : List Int := if sumI l = 0 then List.replicate l.length 1 else l
theorem eff_len (l : List Int) : (eff l).length = l.length := by unfold eff; split <;> simp
theorem sumI_ones (n : Nat) : sumI (List.replicate n 1) = (n : Int) := by
  induction n with
  | zero => simp [sumI]
  | succ n ih => rw [List.replicate_succ, sumI_cons, ih]; omega
theorem whole_ok {l : List Int} (h : (wholeS l).2 = 0) : 1 ≤ l.length ∧ l.length ≤ 200 ∧ (∀ x ∈ l, 0 ≤ x) ∧ sumI l ≤ 1000000000000 ∧ 1 ≤ (wholeS l).1 ∧ (wholeS l).1 ≤ 1000000000000 ∧ sumI (eff l) = (wholeS l).1 ∧ (∀ x ∈ eff l, 0 ≤ x) := by
  unfold wholeS at h ⊢
  by_cases h1 : l.length < 1 ∨ 200 < l.length
  · rw [if_pos h1] at h; simp at h
  · rw [if_neg h1] at h ⊢
    by_cases h2 : negs l = true
    · rw [if_pos h2] at h; simp at h
    · rw [if_neg h2] at h ⊢
      have h0 := negs_false.1 (by simpa using h2)
      have hs := sumI_nonneg h0
      by_cases h3 : 1000000000000 < sumI l
      · rw [if_pos h3] at h; simp at h
      · rw [if_neg h3] at h ⊢
        unfold eff
        by_cases h4 : sumI l = 0
        · rw [if_pos h4, if_pos h4, sumI_ones]
          refine ⟨by omega, by omega, h0, by omega, by dsimp only; omega, by dsimp only; omega, rfl, fun x hx => ?_⟩
          rw [(List.mem_replicate.1 hx).2]; omega
        · rw [if_neg h4, if_neg h4]
          exact ⟨by omega, by omega, h0, by omega, by dsimp only; omega, by dsimp only; omega, rfl, h0⟩
theorem prt_ok {t s w : Int} (ht : 0 ≤ t) (ht2 : t ≤ 1000000000000) (hs : 1 ≤ s) (hw : 0 ≤ w) (hws : w ≤ s) : 0 ≤ prt t s w ∧ prt t s w ≤ t ∧ 0 ≤ rst t s w ∧ rst t s w < s := by
  unfold prt rst
  refine ⟨Int.ediv_nonneg (Int.mul_nonneg ht hw) (by omega), ?_, Int.emod_nonneg _ (by omega), Int.emod_lt_of_pos _ (by omega)⟩
  exact Int.ediv_le_of_le_mul (by omega) (Int.mul_le_mul_of_nonneg_left hws ht)
theorem floor_at {t s w : Int} (ht : 0 ≤ t) (ht2 : t ≤ 1000000000000) (hs : 1 ≤ s) (hs2 : s ≤ 1000000000000) (hw : 0 ≤ w) (hws : w ≤ s) : floorS t w s = (prt t s w, 0) := by
  have h := prt_ok ht ht2 hs hw hws
  unfold floorS
  rw [if_neg (by omega), if_pos (by unfold may; omega)]
  unfold toldS
  rw [if_pos (by unfold amt; unfold prt at h; omega)]
  rfl
theorem rest_at {t s w : Int} (ht : 0 ≤ t) (ht2 : t ≤ 1000000000000) (hs : 1 ≤ s) (hs2 : s ≤ 1000000000000) (hw : 0 ≤ w) (hws : w ≤ s) : restS t w s = (rst t s w, 0) := by
  have h := prt_ok ht ht2 hs hw hws
  unfold restS
  rw [if_neg (by omega), if_pos (by unfold may; omega), if_pos (by unfold amt; unfold prt at h; omega)]
  rfl
theorem parts_l0 {t s : Int} {l : List Int} (hl : l.length ≤ 200) (ht : 0 ≤ t) (ht2 : t ≤ 1000000000000) (hs : 1 ≤ s) (hs2 : s ≤ 1000000000000) (h0 : ∀ x ∈ l, 0 ≤ x ∧ x ≤ s) (d : Nat) : ∀ (i : Nat) (L : Int) (A B : List Int), l.length - i = d → i ≤ l.length → A.length = i → B.length = i → L ≤ 1000000000000 → -((i : Int) * 1000000000000) ≤ L →
    Ev (fun k => share_parts.l0 k t s A B L l (l.length : Int) (i : Int)) (A ++ (l.drop i).map (prt t s), B ++ (l.drop i).map (rst t s), L - sumI ((l.drop i).map (prt t s)), 0) := by
  induction d with
  | zero =>
    intro i L A B hd hi hA hB hL hL2
    refine Ev.step (fun k => by simp only [share_parts.l0]; rfl) ?_
    refine Ev.neg (by omega) (Ev.ok ?_)
    rw [List.drop_eq_nil_of_le (by omega)]; simp [sumI]
  | succ d ih =>
    intro i L A B hd hi hA hB hL hL2
    have h : i < l.length := by omega
    have hx := h0 l[i] (List.getElem_mem h)
    have hp := prt_ok ht ht2 hs hx.1 hx.2
    refine Ev.step (fun k => by simp only [share_parts.l0]; rfl) ?_
    refine Ev.pos (by omega) (Ev.pos (by omega) (Ev.pos (by omega) ?_))
    rw [rd_nat h]
    refine Ev.bind (floor_f (by omega) (by omega)) ?_
    rw [floor_at ht ht2 hs hs2 hx.1 hx.2]
    refine Ev.pos rfl (Ev.bind (rest_f (by omega) (by omega)) ?_)
    rw [rest_at ht ht2 hs hs2 hx.1 hx.2]
    refine Ev.pos rfl (Ev.pos (by omega) (Ev.pos (by omega) ?_))
    dsimp only
    rw [wrap_eq (by omega) (by omega), wrap_eq (by omega) (by omega), drop_cons h]
    have := ih (i + 1) (L - prt t s l[i]) (A ++ [prt t s l[i]]) (B ++ [rst t s l[i]]) (by omega) (by omega) (by simp [hA]) (by simp [hB]) (by omega) (by omega)
    simp only [List.map_cons, sumI_cons, List.append_assoc, List.singleton_append] at this ⊢
    rw [show L - (prt t s l[i] + sumI ((l.drop (i + 1)).map (prt t s))) = L - prt t s l[i] - sumI ((l.drop (i + 1)).map (prt t s)) by omega]
    exact this
theorem parts_f {t s : Int} {l : List Int} (hl : l.length ≤ 200) (ht : 0 ≤ t) (ht2 : t ≤ 1000000000000) (hs : 1 ≤ s) (hs2 : s ≤ 1000000000000) (h0 : ∀ x ∈ l, 0 ≤ x ∧ x ≤ s) : Ev (fun k => share_parts.f k t s l) (l.map (prt t s), l.map (rst t s), leftI t s l, 0) := by
  unfold share_parts.f
  have := parts_l0 hl ht ht2 hs hs2 h0 l.length 0 t [] [] (by omega) (by omega) rfl rfl (by omega) (by omega)
  simpa [leftI] using this
theorem rank_ex {r : Nat → Int} {n p : Nat} (hp : p < n) : ∃ i, i < n ∧ rank r n i = p := by
  apply Classical.byContradiction
  intro hn
  have h1 := rank_count r n p (by omega)
  have h2 := rank_count r n (p + 1) (by omega)
  have : (List.range n).countP (fun i => decide (rank r n i < p + 1)) = (List.range n).countP (fun i => decide (rank r n i < p)) := by
    refine List.countP_congr fun i hi => ?_
    have hi := List.mem_range.1 hi
    rw [decide_eq_true_eq, decide_eq_true_eq]
    have : rank r n i ≠ p := fun e => hn ⟨i, hi, e⟩
    omega
  omega
def atp (r : Nat → Int) (n p : Nat) : Nat := ((List.range n).find? fun i => rank r n i == p).getD 0
theorem atp_spec {r : Nat → Int} {n p : Nat} (hp : p < n) : atp r n p < n ∧ rank r n (atp r n p) = p := by
  obtain ⟨i, hi, e⟩ := rank_ex (r := r) hp
  unfold atp
  cases hf : (List.range n).find? (fun i => rank r n i == p) with
  | none => exact absurd (show (rank r n i == p) = true by rw [e]; exact beq_self_eq_true p) (List.find?_eq_none.1 hf i (List.mem_range.2 hi))
  | some j =>
    have h1 := List.find?_some hf
    exact ⟨List.mem_range.1 (List.mem_of_find?_eq_some hf), by simpa using h1⟩
theorem atp_iff {r : Nat → Int} {n p i : Nat} (hp : p < n) (hi : i < n) : atp r n p = i ↔ rank r n i = p := by
  have h := atp_spec (r := r) hp
  exact ⟨fun e => e ▸ h.2, fun e => rank_inj h.1 hi (h.2.trans e.symm)⟩
theorem count_first {r : Nat → Int} {n i : Nat} (hi : i < n) : ∀ L, L ≤ n → (List.range L).countP (fun p => decide (atp r n p = i)) = if rank r n i < L then 1 else 0 := by
  intro L
  induction L with
  | zero => intro _; simp
  | succ L ih =>
    intro hL
    rw [List.range_succ, List.countP_append, ih (by omega)]
    simp only [List.countP_cons, List.countP_nil, decide_eq_true_eq]
    have := atp_iff (r := r) (n := n) (p := L) (i := i) (by omega) hi
    by_cases c : rank r n i = L
    · rw [if_neg (by omega), if_pos (this.2 c), if_pos (by omega)]
    · rw [if_neg (fun e => c (this.1 e))]
      by_cases c2 : rank r n i < L
      · rw [if_pos c2, if_pos (by omega)]
      · rw [if_neg c2, if_neg (by omega)]
theorem inc_l0 {ys : List Int} (hy : ys.length ≤ 200) (d : Nat) : ∀ (j : Nat) (o : List Int), ys.length - j = d → j ≤ ys.length → o.length ≤ 200 → (∀ y ∈ ys, 0 ≤ y ∧ y < (o.length : Int)) → (∀ x ∈ o, 0 ≤ x ∧ x ≤ 1000000000000 + (j : Int)) →
    Ev (fun k => share_Out.l0 k o ys (ys.length : Int) (j : Int)) ((List.range o.length).map (fun i => o.getD i 0 + (((ys.drop j).countP (fun y => decide (y = (i : Int))) : Nat) : Int)), 0) := by
  induction d with
  | zero =>
    intro j o hd hj ho hr hx
    refine Ev.step (fun k => by simp only [share_Out.l0]; rfl) ?_
    refine Ev.neg (by omega) (Ev.ok ?_)
    rw [List.drop_eq_nil_of_le (by omega)]
    simp only [List.countP_nil, Int.natCast_zero, Int.add_zero]
    rw [range_map]
  | succ d ih =>
    intro j o hd hj ho hr hx
    have h : j < ys.length := by omega
    have hyj := hr ys[j] (List.getElem_mem h)
    obtain ⟨q, hq⟩ := Int.eq_ofNat_of_zero_le hyj.1
    have hqo : q < o.length := by omega
    have hoq := hx o[q] (List.getElem_mem hqo)
    refine Ev.step (fun k => by simp only [share_Out.l0]; rfl) ?_
    refine Ev.pos (by omega) (Ev.pos (by omega) (Ev.pos (by omega) ?_))
    rw [rd_nat h, hq]
    refine Ev.pos (by omega) (Ev.pos (by omega) ?_)
    rw [rd_nat hqo, Int.toNat_natCast, wrap_eq (by omega) (by omega), wrap_eq (by omega) (by omega)]
    have := ih (j + 1) (o.set q (o[q] + 1)) (by omega) (by omega) (by simpa using ho) (by simpa using hr) (fun x hx' => by
      rcases List.mem_or_eq_of_mem_set hx' with hx' | rfl
      · have := hx x hx'; omega
      · omega)
    rw [drop_cons h]
    refine Ev.eq this ?_
    congr 1
    rw [List.length_set]
    refine List.map_congr_left fun i hi => ?_
    have hi := List.mem_range.1 hi
    rw [List.countP_cons, hq]
    by_cases c : q = i
    · subst c
      simp only [decide_true, if_true]
      simp [List.getD_eq_getElem?_getD, hqo]
      omega
    · rw [if_neg (by simp; omega)]
      simp [List.getD_eq_getElem?_getD, c]
theorem getD_map {f : Int → Int} {l : List Int} {i : Nat} (h : i < l.length) : (l.map f).getD i 0 = f (wt l i) := by
  unfold wt; simp [List.getD_eq_getElem?_getD, h]
theorem rank_rests {t s : Int} {l : List Int} {i : Nat} (hi : i < l.length) : rank (fun j => (l.map (rst t s)).getD j 0) l.length i = rank (fun j => rst t s (wt l j)) l.length i := by
  unfold rank
  refine List.countP_congr fun j hj => ?_
  have hj := List.mem_range.1 hj
  rw [bef_iff, bef_iff]
  rw [getD_map hi, getD_map hj]
theorem deal_f {t s : Int} {l : List Int} (h1 : 1 ≤ l.length) (hl : l.length ≤ 200) (ht : 0 ≤ t) (ht2 : t ≤ 1000000000000) (hs : sumI l = s) (hs1 : 1 ≤ s) (hs2 : s ≤ 1000000000000) (h0 : ∀ x ∈ l, 0 ≤ x) :
    Ev (fun k => (share_parts.f k t s l).bind fun b => if b.2.2.2 = 0 then ((share_by_share_Out_1_v22.f (b.1.length : Int) b.2.1).bind fun p => if 0 ≤ b.2.2.1 then (if b.2.2.1 ≤ (p.length : Int) then ((some (p.take (b.2.2.1 : Int).toNat : List Int)).bind fun y => share_Out.l0 k b.1 y (y.length : Int) 0) else none) else none) else some (([] : List Int), b.2.2.2)) (outL t s l, 0) := by
  have hws : ∀ x ∈ l, 0 ≤ x ∧ x ≤ s := fun x hx => ⟨h0 x hx, by rw [← hs]; exact sumI_mem_le h0 hx⟩
  refine Ev.bind (parts_f hl ht ht2 hs1 hs2 hws) (Ev.pos rfl ?_)
  obtain ⟨b0, b1, _⟩ := left_bound (t := t) hs (by omega)
  have hc : l.countP (fun w => decide (0 < rst t s w)) ≤ l.length := List.countP_le_length
  obtain ⟨L, hL⟩ := Int.eq_ofNat_of_zero_le b0
  have hby : share_by_share_Out_1_v22.f ((l.map (prt t s)).length : Int) (l.map (rst t s)) = some ((List.range l.length).map fun p => ((atp (fun j => (l.map (rst t s)).getD j 0) l.length p : Nat) : Int)) := by
    unfold share_by_share_Out_1_v22.f
    rw [if_pos ⟨by simp, by rw [List.length_map]; omega, by rw [List.length_map]; omega⟩]
    unfold byList atp
    rw [List.length_map]
  refine Q.Ev.bindc hby ?_
  dsimp only
  rw [hL]
  refine Ev.pos (by omega) (Ev.pos (by simp; omega) (Q.Ev.bindc rfl ?_))
  rw [Int.toNat_natCast, ← List.map_take, List.take_range, Nat.min_eq_left (by omega)]
  have := inc_l0 (ys := (List.range L).map fun p => ((atp (fun j => (l.map (rst t s)).getD j 0) l.length p : Nat) : Int)) (by simp; omega) L 0 (l.map (prt t s)) (by simp) (by omega) (by simpa using hl) (fun y hy => by
    obtain ⟨p, hp, rfl⟩ := List.mem_map.1 hy
    have := (atp_spec (r := fun j => (l.map (rst t s)).getD j 0) (n := l.length) (p := p) (by have := List.mem_range.1 hp; omega)).1
    refine ⟨by omega, ?_⟩
    rw [List.length_map]; omega) (fun x hx => by
    obtain ⟨w, hw, rfl⟩ := List.mem_map.1 hx
    have := prt_ok ht ht2 hs1 (hws w hw).1 (hws w hw).2
    omega)
  rw [Int.natCast_zero] at this
  refine Ev.eq this ?_
  congr 1
  rw [List.length_map]
  unfold outL
  refine List.map_congr_left fun i hi => ?_
  have hi := List.mem_range.1 hi
  unfold outAt
  rw [getD_map hi, List.drop_zero, List.countP_map]
  congr 1
  have e : (List.range L).countP ((fun y => decide (y = (i : Int))) ∘ fun p => ((atp (fun j => (l.map (rst t s)).getD j 0) l.length p : Nat) : Int)) = (List.range L).countP (fun p => decide (atp (fun j => (l.map (rst t s)).getD j 0) l.length p = i)) := by
    refine List.countP_congr fun p _ => ?_
    simp only [Function.comp, decide_eq_true_eq]
    omega
  rw [e, count_first hi L (by omega), rank_rests hi, hL]
  by_cases c : rank (fun j => rst t s (wt l j)) l.length i < L
  · rw [if_pos c, if_pos (by omega)]; rfl
  · rw [if_neg c, if_neg (by omega)]; rfl
def outS (t : Int) (l : List Int) : List Int × Int := if (wholeS l).2 = 0 then (if t < 0 ∨ 1000000000000 < t then ([], 8) else (outL t (wholeS l).1 (eff l), 0)) else ([], (wholeS l).2)
theorem out_f {t : Int} {l : List Int} (hl : l.length < 9223372036854775807) : Ev (fun k => share_Out.f k t l) (outS t l) := by
  unfold share_Out.f outS
  refine Ev.bind (whole_f hl) ?_
  by_cases hw : (wholeS l).2 = 0
  · rw [if_pos hw]
    refine Ev.pos hw ?_
    obtain ⟨h1, h2, h0, h3, h4, h5, h6, h7⟩ := whole_ok hw
    by_cases ht : t < 0
    · rw [if_pos (.inl ht)]; exact Ev.pos ht (Ev.const rfl)
    · refine Ev.neg ht (Q.Ev.bindc (in_f t) ?_)
      by_cases ht2 : 1000000000000 < t
      · rw [if_pos (.inr ht2)]
        exact Ev.neg (by rw [decide_eq_true_eq]; unfold amt; omega) (Ev.const rfl)
      · rw [if_neg (by omega)]
        refine Ev.pos (decide_eq_true (by unfold amt; omega)) ?_
        obtain ⟨m, hm, hm0⟩ := max_f h1 hl h0
        refine Ev.bind hm ?_
        by_cases c : sumI l = 0
        · refine Ev.pos (hm0.2 c) (Ev.bind (even_f (by omega)) ?_)
          have e : eff l = List.replicate l.length 1 := by unfold eff; rw [if_pos c]
          rw [e] at h6 h7 ⊢
          exact deal_f (by simpa using h1) (by simpa using h2) (by omega) (by omega) h6 h4 h5 h7
        · refine Ev.neg (fun e => c (hm0.1 e)) ?_
          have e : eff l = l := by unfold eff; rw [if_neg c]
          rw [e] at h6 h7 ⊢
          exact deal_f h1 h2 (by omega) (by omega) h6 h4 h5 h7
  · rw [if_neg hw]
    exact Ev.neg hw (Ev.ok rfl)
end Go.Proofs.Ytefhljhpcpajgaa.Q
set_option linter.unusedVariables false
set_option linter.unusedSimpArgs false
namespace Go.Proofs.Ytefhljhpcpajgaa.Pure
open Go.RowKit Go.Proofs.Ytefhljhpcpajgaa.F Go.Proofs.Ytefhljhpcpajgaa.Q Go.Proofs.YtefhljhpcpajgaaW.PrintWords Go.Proofs.YtefhljhpcpajgaaW.PrintLast
namespace Fair
theorem outL_len (t s : Int) (l : List Int) : (outL t s l).length = l.length := by unfold outL; simp
theorem outL_at {t s : Int} {l : List Int} {i : Nat} (h : i < (outL t s l).length) : (outL t s l)[i] = outAt t s l i := by
  show ((List.range l.length).map (outAt t s l))[i]'(by rw [outL_len] at h; simpa using h) = _
  rw [List.getElem_map, List.getElem_range]
theorem outAt_nonneg {t s : Int} {l : List Int} (hl : ∀ x ∈ l, 0 ≤ x ∧ x ≤ s) (ht : 0 ≤ t) (ht2 : t ≤ 1000000000000) (hs : 1 ≤ s) {i : Nat} (hi : i < l.length) : 0 ≤ outAt t s l i ∧ outAt t s l i ≤ t + 1 := by
  have hb := out_bounds (t := t) (s := s) (l := l) (i := i)
  have hw : wt l i = l[i] := by unfold wt; simp [List.getD_eq_getElem?_getD, hi]
  have hx := hl _ (List.getElem_mem hi)
  have := prt_ok ht ht2 hs (w := wt l i) (by rw [hw]; exact hx.1) (by rw [hw]; exact hx.2)
  omega
structure Ok (l o : List Int) : Prop where
  len : o.length = l.length
  short : l.length ≤ 100
  pos : ∀ x ∈ l, 0 ≤ x
  small : ∀ x ∈ o, 0 ≤ x ∧ x ≤ 2000000000000
  more : ∀ i k (hi : i < l.length) (hk : k < l.length), l[k] < l[i] → o[k]'(by omega) ≤ o[i]'(by omega)
  same : ∀ i k (hi : i < l.length) (hk : k < l.length), i < k → l[i] = l[k] → o[k]'(by omega) ≤ o[i]'(by omega) ∧ o[i]'(by omega) ≤ o[k]'(by omega) + 1
  none : sumI l ≠ 0 → ∀ i (hi : i < l.length), l[i] = 0 → o[i]'(by omega) = 0
theorem ok_of {t : Int} {l : List Int} (hw : (wholeS l).2 = 0) (ht : 0 ≤ t) (ht2 : t ≤ 1000000000000) (hl : l.length ≤ 100) : Ok l (outL t (wholeS l).1 (eff l)) := by
  obtain ⟨h1, h2, h0, h3, h4, h5, h6, h7⟩ := whole_ok hw
  have hlen : (outL t (wholeS l).1 (eff l)).length = l.length := by rw [outL_len, eff_len]
  have hws : ∀ x ∈ eff l, 0 ≤ x ∧ x ≤ (wholeS l).1 := fun x hx => ⟨h7 x hx, by rw [← h6]; exact sumI_mem_le h7 hx⟩
  have hz : sumI l = 0 → ∀ i (hi : i < l.length), l[i] = 0 := fun hs i hi => by
    have a := h0 _ (List.getElem_mem hi)
    have b := sumI_mem_le h0 (List.getElem_mem hi)
    omega
  have hwt : ∀ i (hi : i < l.length), wt (eff l) i = if sumI l = 0 then 1 else l[i] := fun i hi => by
    unfold wt eff
    by_cases c : sumI l = 0
    · rw [if_pos c, if_pos c]; simp [List.getD_eq_getElem?_getD, hi]
    · rw [if_neg c, if_neg c]; simp [List.getD_eq_getElem?_getD, hi]
  refine ⟨hlen, hl, h0, fun x hx => ?_, fun i k hi hk h => ?_, fun i k hi hk hik h => ?_, fun hs i hi h => ?_⟩
  · obtain ⟨i, hi, rfl⟩ := List.mem_iff_getElem.1 hx
    rw [outL_at hi]
    have := outAt_nonneg hws ht ht2 h4 (i := i) (by rw [outL_len] at hi; exact hi)
    omega
  · rw [outL_at, outL_at]
    refine out_more ht (by omega) (by rw [eff_len]; exact hi) (by rw [eff_len]; exact hk) ?_
    rw [hwt i hi, hwt k hk]
    by_cases c : sumI l = 0
    · have := hz c i hi; have := hz c k hk; omega
    · rw [if_neg c, if_neg c]; exact h
  · rw [outL_at, outL_at]
    refine out_same (by rw [eff_len]; exact hi) (by rw [eff_len]; exact hk) hik ?_
    rw [hwt i hi, hwt k hk, h]
  · rw [outL_at]
    refine out_none h6 (by omega) (by rw [eff_len]; exact hi) ?_
    rw [hwt i hi, if_neg hs, h]
theorem inner {l o : List Int} (O : Ok l o) {b : Bool} {i : Nat} (hi : i < l.length) (hR : Ev (fun k => backhaullaw03_ShareFair.l1 k l o b ((i : Int) + 1)) true) (d : Nat) : ∀ k : Nat, l.length - k = d → k ≤ l.length → i < k →
    Ev (fun q => backhaullaw03_ShareFair.l2 q l o b (i : Int) (k : Int)) true := by
  have hlen := O.len
  have hsh := O.short
  induction d with
  | zero =>
    intro k hd hk hik
    refine Ev.step (fun k => by simp only [backhaullaw03_ShareFair.l2]; rfl) ?_
    refine Ev.neg (by omega) ?_
    rw [wrap_eq (by omega) (by omega)]
    exact hR
  | succ d ih =>
    intro k hd hk hik
    have h : k < l.length := by omega
    have sk := O.small (o[k]'(by omega)) (List.getElem_mem _)
    have ih := ih (k + 1) (by omega) (by omega) (by omega)
    rw [show ((k + 1 : Nat) : Int) = (k : Int) + 1 by omega] at ih
    refine Ev.step (fun k => by simp only [backhaullaw03_ShareFair.l2]; rfl) ?_
    refine Ev.pos (by omega) (Ev.pos (by omega) (Ev.pos (by omega) (Ev.pos (by omega) (Ev.pos (by omega) (Ev.pos (by omega) ?_)))))
    rw [rd_nat hi, rd_nat h, rd_nat (show i < o.length by omega), rd_nat (show k < o.length by omega), wrap_eq (x := (k : Int) + 1) (by omega) (by omega), wrap_eq (x := o[k] + 1) (by omega) (by omega)]
    by_cases c1 : l[i] > l[k]
    · have := O.more i k hi h c1
      exact Ev.pos c1 (Ev.neg (by omega) (Ev.neg (by omega) (Ev.neg (by omega) ih)))
    · refine Ev.neg c1 ?_
      by_cases c2 : l[i] < l[k]
      · have := O.more k i h hi c2
        exact Ev.pos c2 (Ev.neg (by omega) (Ev.neg (by omega) ih))
      · have := O.same i k hi h hik (by omega)
        exact Ev.neg c2 (Ev.pos (by omega) (Ev.neg (by omega) (Ev.neg (by omega) ih)))
theorem outer {l o : List Int} (O : Ok l o) {b : Bool} (hb : b = true → sumI l ≠ 0) (haw : backhaullaw03_awake.f = some true) (d : Nat) : ∀ i : Nat, l.length - i = d → i ≤ l.length →
    Ev (fun q => backhaullaw03_ShareFair.l1 q l o b (i : Int)) true := by
  have hlen := O.len
  have hsh := O.short
  induction d with
  | zero =>
    intro i hd hi
    refine Ev.step (fun k => by simp only [backhaullaw03_ShareFair.l1]; rfl) ?_
    exact Ev.neg (by omega) (Q.Ev.bindc haw (Ev.pos rfl (Ev.const rfl)))
  | succ d ih =>
    intro i hd hi
    have h : i < l.length := by omega
    have ih := ih (i + 1) (by omega) (by omega)
    rw [show ((i + 1 : Nat) : Int) = (i : Int) + 1 by omega] at ih
    have j2 : Ev (fun q => backhaullaw03_ShareFair.j2 q l o b (i : Int) false) true := by
      refine Ev.step (fun k => by simp only [backhaullaw03_ShareFair.j2]; rfl) ?_
      refine Ev.neg (by simp) ?_
      rw [wrap_eq (by omega) (by omega)]
      exact inner O h ih (l.length - (i + 1)) (i + 1) rfl (by omega) (by omega)
    refine Ev.step (fun k => by simp only [backhaullaw03_ShareFair.l1]; rfl) ?_
    refine Ev.pos (by omega) ?_
    cases b with
    | true =>
      refine Ev.pos rfl (Ev.pos (by omega) (Ev.pos (by omega) ?_))
      rw [rd_nat h, rd_nat (show i < o.length by omega)]
      by_cases c : l[i] = 0
      · refine Ev.pos c ?_
        rw [O.none (hb rfl) i h c]
        exact j2
      · exact Ev.neg c j2
    | false => exact Ev.neg (by decide) j2
theorem some_l0 {l o : List Int} (O : Ok l o) (haw : backhaullaw03_awake.f = some true) (d : Nat) : ∀ (i : Nat) (b : Bool), l.length - i = d → i ≤ l.length → (b = true → sumI l ≠ 0) →
    Ev (fun q => backhaullaw03_ShareFair.l0 q l o b (i : Int)) true := by
  have hlen := O.len
  have hsh := O.short
  induction d with
  | zero =>
    intro i b hd hi hb
    refine Ev.step (fun k => by simp only [backhaullaw03_ShareFair.l0]; rfl) ?_
    exact Ev.neg (by omega) (outer O hb haw l.length 0 (by omega) (by omega))
  | succ d ih =>
    intro i b hd hi hb
    have h : i < l.length := by omega
    refine Ev.step (fun k => by simp only [backhaullaw03_ShareFair.l0]; rfl) ?_
    refine Ev.pos (by omega) ?_
    rw [wrap_eq (by omega) (by omega)]
    cases b with
    | true => exact Ev.pos rfl (ih (i + 1) true (by omega) (by omega) hb)
    | false =>
      refine Ev.neg (by decide) (Ev.pos (by omega) (Ev.pos (by omega) ?_))
      rw [rd_nat h]
      refine ih (i + 1) _ (by omega) (by omega) (fun hd => ?_)
      have := of_decide_eq_true hd
      have := sumI_mem_le O.pos (List.getElem_mem h)
      omega
end Fair
theorem ShareFair : backhaullaw03_ShareFair.Pure := by
  intro t l ht0 hl0
  refine Ev.rounds (r := true) ?_
  have haw : backhaullaw03_awake.f = some true := rfl
  unfold backhaullaw03_ShareFair.f
  by_cases hb : l.length > 100
  · exact Q.Ev.pos (by omega) (Q.Ev.bindc haw (Q.Ev.pos rfl (Q.Ev.const rfl)))
  · refine Q.Ev.neg (by omega) (Ev.bind (out_f (by omega)) ?_)
    unfold outS
    by_cases hw : (wholeS l).2 = 0
    · rw [if_pos hw]
      by_cases ht : t < 0 ∨ 1000000000000 < t
      · rw [if_pos ht]
        exact Q.Ev.neg (by decide) (Q.Ev.bindc haw (Q.Ev.pos rfl (Q.Ev.const rfl)))
      · rw [if_neg ht]
        have O := Fair.ok_of hw (t := t) (by omega) (by omega) (by omega)
        refine Q.Ev.pos rfl (Q.Ev.pos (by have := O.len; dsimp only; omega) ?_)
        exact Fair.some_l0 O haw l.length 0 false (by omega) (by omega) (by simp)
    · rw [if_neg hw]
      exact Q.Ev.neg hw (Q.Ev.bindc haw (Q.Ev.pos rfl (Q.Ev.const rfl)))
end Go.Proofs.Ytefhljhpcpajgaa.Pure
set_option linter.unusedVariables false
set_option linter.unusedSimpArgs false
namespace Go.Proofs.YtefhljhpcpajgaaX
open Go.RowKit Go.Proofs.YtefhljhpcpajgaaW.PrintWords Go.Proofs.YtefhljhpcpajgaaW.PrintLast Go.Proofs.YtefhljhpcpajgaaW.PrintMore
def Opens {α : Type} (P : Program) (t : TypeId) (k : Kd α) (Ok : α → Prop) : Prop :=
  ∀ {H : Type} {enc : TypeId × Value → H} {w : World} {base : Nat} {spare : Nat → Bool} {held : Bool} {fuel : Nat} {cs : List Value} {x : DataW H × List MemPlace},
    DataW.trod enc P w base spare held fuel t cs = some x → ∃ a : α, k.K w a cs ∧ Ok a
theorem Opens.int {P : Program} {t : TypeId} {k : IntKind} (ht : P.underlying t = some (.int k)) : Opens P t (Kd.int k) (fun a => (Lit.int k a).wf = true) := by
  intro H enc w base spare held fuel cs x h
  obtain ⟨n, rfl, _, hw⟩ := DataW.trod_int ht h
  exact ⟨n, rfl, hw⟩
theorem Opens.bool {P : Program} {t : TypeId} (ht : P.underlying t = some .bool) : Opens P t Kd.bool (fun _ => True) := by
  intro H enc w base spare held fuel cs x h
  obtain ⟨n, rfl, _⟩ := DataW.trod_bool ht h
  exact ⟨n, rfl, trivial⟩
theorem Opens.string {P : Program} {t : TypeId} (ht : P.underlying t = some .string) : Opens P t Kd.string (fun a => a.size ≤ maxLen) := by
  intro H enc w base spare held fuel cs x h
  obtain ⟨s, rfl, _, hw⟩ := DataW.trod_string ht h
  exact ⟨s, rfl, hw⟩
theorem list_of {α : Type} {p : Nat → α → Prop} : ∀ n, (∀ i, i < n → ∃ a, p i a) → ∃ xs : List α, xs.length = n ∧ ∀ i a, xs[i]? = some a → p i a
  | 0, _ => ⟨[], rfl, fun i a h => by simp at h⟩
  | n + 1, h => by
    obtain ⟨xs, hl, hx⟩ := list_of n (fun i hi => h i (by omega))
    obtain ⟨a, ha⟩ := h n (by omega)
    refine ⟨xs ++ [a], by simp [hl], fun i b hb => ?_⟩
    rcases Nat.lt_or_ge i xs.length with h1 | h1
    · rw [List.getElem?_append_left h1] at hb
      exact hx i b hb
    · rw [List.getElem?_append_right h1] at hb
      have h2 : i - xs.length = 0 := by
        have := (List.getElem?_eq_some_iff.1 hb).1
        simp at this; omega
      rw [h2] at hb
      have : a = b := by simpa using hb
      subst this
      have : i = n := by omega
      rw [this]; exact ha
theorem Opens.slice {α : Type} {P : Program} {t e : TypeId} {k : Kd α} {Ok : α → Prop} (ht : P.underlying t = some (.slice e)) (hc : P.cellsOf e = k.sz) (h : Opens P e k Ok) :
    Opens P t (Kd.slice e k) (fun xs => xs.length ≤ maxLen ∧ ∀ x ∈ xs, Ok x) := by
  intro H enc w base spare held fuel cs x hx
  rcases Go.Deep.open_slice ht hx with ⟨rfl, rfl⟩ | ⟨a, len, cap, m, n, D, Pl, rfl, hb, hl, hm, hmm, rfl, hel⟩
  · exact ⟨[], ⟨none, 0, rfl, by simp, rfl, by simp, fun h => absurd h (by simp)⟩, by simp [maxLen], by simp⟩
  · have hlm : len ≤ m := by rw [hmm]; split <;> omega
    obtain ⟨xs, hlen, hxs⟩ := list_of (p := fun i (a' : α) => ∃ cs', w.cells? base (a.add (i * P.cellsOf e)) (P.cellsOf e) = some cs' ∧ k.K w a' cs' ∧ Ok a') len (fun i hi => by
      obtain ⟨cs', h1, h2⟩ := hel i (by omega)
      obtain ⟨a', h3, h4⟩ := h h2
      exact ⟨a', cs', h1, h3, h4⟩)
    have hlm2 : len ≤ maxLen := by omega
    refine ⟨xs, ⟨some a, cap, by rw [hlen], by rw [hlen]; exact hl, rfl, by rw [hlen]; simpa [maxLen] using hlm2, fun _ => ⟨a, rfl, fun j p hj => ?_⟩⟩, by rw [hlen]; exact hlm2, fun y hy => ?_⟩
    · obtain ⟨cs', h1, h2, _⟩ := hxs j p hj
      refine ⟨cs', k.K_len h2, h2, fun i u hu => ?_⟩
      obtain ⟨_, _, h3⟩ := World.cells?_some h1
      have h4 := h3 i (by have := (List.getElem?_eq_some_iff.1 hu).1; have := k.K_len h2; omega)
      rw [← hc, ← Go.Proofs.YtefhljhpcpajgaaW.PrintWords.add_add]
      rw [← hu]; exact h4
    · obtain ⟨i, hi, rfl⟩ := List.mem_iff_getElem.1 hy
      obtain ⟨_, _, _, h3⟩ := hxs i _ (List.getElem?_eq_getElem hi)
      exact h3
theorem slice_cells {α : Type} {k : Kd α} {e : Nat} {w : World} {xs : List α} {v : Value} (h : (Kd.slice e k).K w xs [v]) : ∃ A c, v = .slice A xs.length c ∧ xs.length ≤ c ∧ k.C w A xs.length xs := by
  obtain ⟨A, c, he, hl, hc⟩ := h
  injection he with he
  exact ⟨A, c, he, hl, hc⟩
theorem band {a b : Bool} (h1 : a = true) (h2 : b = true) : (a && b) = true := by rw [h1, h2]; rfl
theorem mayEnter_of {P : Program} {L c : List Char} {rest : List (List Char)} (h : P.initOrder.toList = L) (h1 : behindMainWord (wordsSigns L) = c :: rest) (h2 : ((stripLifts liftWords (c :: rest)).2.head? == some "cut".toList) = true) (h3 : P.laysLater = false) (h4 : P.bearsReflect = false) (h5 : (stripLifts liftWords (c :: rest)).1 = []) (h6 : P.doorFits [] = true) : P.mayEnter = true := by
  unfold Program.mayEnter
  rw [h, h1]
  dsimp only
  rw [h2, h3, h4, h5, h6]
  simp
theorem make_of {P : Program} {L : List Char} {rest : List (List Char)} (h : P.initOrder.toList = L) (h1 : behindMainWord (wordsSigns L) = "cut".toList :: rest) : P.make = some .cut := by
  unfold Program.make
  rw [h, h1]
  dsimp only
  rw [if_neg (by decide), if_pos (by simp)]
end Go.Proofs.YtefhljhpcpajgaaX
set_option maxRecDepth 10000
namespace Go.Proofs.Ytefhljhpcpajgaa.Join
open Go.Proofs.YtefhljhpcpajgaaX
def initSigns : List Char := ['h', 'a', 'r', 'n', 'e', 's', 's', ' ', '5', '6', '5', 'd', 'd', 'd', '3', '6', '6', '5', 'c', '5', '5', '9', 'c', '2', '4', '9', 'e', '2', 'e', '3', '7', '8', 'c', '7', '1', 'b', 'b', 'b', '4', '7', '4', '9', '6', '8', '7', '8', 'a', '7', '0', 'b', '1', 'c', '4', '8', '9', 'f', '4', '3', '5', '5', '6', 'b', 'b', '7', 'f', '7', 'f', '7', '4', '9', '2', 'f', ' ', 'c', 'u', 't', ' ', 'a', 't', ' ', 'b', 'a', 'c', 'k', 'h', 'a', 'u', 'l', '/', 'b', 'a', 'c', 'k', 'h', 'a', 'u', 'l', 'l', 'a', 'w', '0', '2', '.', 'C', 'e', 'n', 't', 's', 'S', 'u', 'm', 's', ' ', 'b', 'a', 'c', 'k', 'h', 'a', 'u', 'l', '/', 'b', 'a', 'c', 'k', 'h', 'a', 'u', 'l', 'l', 'a', 'w', '0', '2', '.', 'C', 'e', 'n', 't', 's', 'S', 'h', 'a', 'r', 'e', 's', ' ', 'b', 'a', 'c', 'k', 'h', 'a', 'u', 'l', '/', 'b', 'a', 'c', 'k', 'h', 'a', 'u', 'l', 'l', 'a', 'w', '0', '2', '.', 'C', 'e', 'n', 't', 's', 'O', 'v', 'e', 'r', ' ', 'b', 'a', 'c', 'k', 'h', 'a', 'u', 'l', '/', 'b', 'a', 'c', 'k', 'h', 'a', 'u', 'l', 'l', 'a', 'w', '0', '2', '.', 'C', 'e', 'n', 't', 's', 'D', 'i', 'v', 's', ' ', 'b', 'a', 'c', 'k', 'h', 'a', 'u', 'l', '/', 'b', 'a', 'c', 'k', 'h', 'a', 'u', 'l', 'l', 'a', 'w', '0', '4', '.', 'F', 'e', 'e', 'T', 'e', 'l', 'l', 's', ' ', 'b', 'a', 'c', 'k', 'h', 'a', 'u', 'l', '/', 'b', 'a', 'c', 'k', 'h', 'a', 'u', 'l', 'l', 'a', 'w', '0', '4', '.', 'F', 'e', 'e', 'B', 'o', 'u', 'n', 'd', 's', ' ', 'b', 'a', 'c', 'k', 'h', 'a', 'u', 'l', '/', 'b', 'a', 'c', 'k', 'h', 'a', 'u', 'l', 'l', 'a', 'w', '0', '4', '.', 'F', 'e', 'e', 'S', 't', 'e', 'p', 's', ' ', 'b', 'a', 'c', 'k', 'h', 'a', 'u', 'l', '/', 'b', 'a', 'c', 'k', 'h', 'a', 'u', 'l', 'l', 'a', 'w', '0', '3', '.', 'S', 'h', 'a', 'r', 'e', 'D', 'e', 'a', 'l', 's', ' ', 'b', 'a', 'c', 'k', 'h', 'a', 'u', 'l', '/', 'b', 'a', 'c', 'k', 'h', 'a', 'u', 'l', 'l', 'a', 'w', '0', '3', '.', 'S', 'h', 'a', 'r', 'e', 'A', 'l', 'l', ' ', 'b', 'a', 'c', 'k', 'h', 'a', 'u', 'l', '/', 'b', 'a', 'c', 'k', 'h', 'a', 'u', 'l', 'l', 'a', 'w', '0', '3', '.', 'S', 'h', 'a', 'r', 'e', 'F', 'a', 'i', 'r', ' ', 'b', 'a', 'c', 'k', 'h', 'a', 'u', 'l', '/', 'b', 'a', 'c', 'k', 'h', 'a', 'u', 'l', 'l', 'a', 'w', '2', '1', '.', 'L', 'i', 'n', 'e', 'D', 'e', 'a', 'l', 's', ' ', 'b', 'a', 'c', 'k', 'h', 'a', 'u', 'l', '/', 'b', 'a', 'c', 'k', 'h', 'a', 'u', 'l', 'l', 'a', 'w', '2', '1', '.', 'L', 'i', 'n', 'e', 'T', 'e', 'l', 'l', 's', ' ', 'b', 'a', 'c', 'k', 'h', 'a', 'u', 'l', '/', 'b', 'a', 'c', 'k', 'h', 'a', 'u', 'l', 'l', 'a', 'w', '2', '1', '.', 'L', 'i', 'n', 'e', 'A', 'l', 'l', ' ', 'b', 'a', 'c', 'k', 'h', 'a', 'u', 'l', '/', 'b', 'a', 'c', 'k', 'h', 'a', 'u', 'l', 'l', 'a', 'w', '2', '1', '.', 'L', 'i', 'n', 'e', 'U', 'n', 'i', 't', 's', ' ', 'b', 'a', 'c', 'k', 'h', 'a', 'u', 'l', '/', 'b', 'a', 'c', 'k', 'h', 'a', 'u', 'l', 'l', 'a', 'w', '2', '2', '.', 'V', 'a', 'l', 'u', 'e', 'T', 'e', 'l', 'l', 's', ' ', 'b', 'a', 'c', 'k', 'h', 'a', 'u', 'l', '/', 'b', 'a', 'c', 'k', 'h', 'a', 'u', 'l', 'l', 'a', 'w', '2', '2', '.', 'V', 'a', 'l', 'u', 'e', 'B', 'o', 'u', 'n', 'd', 's', ' ', 'b', 'a', 'c', 'k', 'h', 'a', 'u', 'l', '/', 'b', 'a', 'c', 'k', 'h', 'a', 'u', 'l', 'l', 'a', 'w', '2', '2', '.', 'V', 'a', 'l', 'u', 'e', 'W', 'h', 'o', 'l', 'e', ' ', 'b', 'a', 'c', 'k', 'h', 'a', 'u', 'l', '/', 'b', 'a', 'c', 'k', 'h', 'a', 'u', 'l', 'l', 'a', 'w', '2', '6', '.', 'O', 'r', 'd', 'e', 'r', 'M', 'a', 'k', 'e', 's', ' ', 'b', 'a', 'c', 'k', 'h', 'a', 'u', 'l', '/', 'b', 'a', 'c', 'k', 'h', 'a', 'u', 'l', 'l', 'a', 'w', '2', '6', '.', 'O', 'r', 'd', 'e', 'r', 'T', 'e', 'l', 'l', 's', ' ', 'b', 'a', 'c', 'k', 'h', 'a', 'u', 'l', '/', 'b', 'a', 'c', 'k', 'h', 'a', 'u', 'l', 'l', 'a', 'w', '2', '6', '.', 'O', 'r', 'd', 'e', 'r', 'D', 'e', 'a', 'l', 's', ' ', 'b', 'a', 'c', 'k', 'h', 'a', 'u', 'l', '/', 'b', 'a', 'c', 'k', 'h', 'a', 'u', 'l', 'l', 'a', 'w', '2', '6', '.', 'O', 'r', 'd', 'e', 'r', 'F', 'i', 'n', 'd', 's']
theorem initText : Try.pinned.checked.prog.initOrder = String.ofList initSigns := by kernel_rfl
theorem initList : Try.pinned.checked.prog.initOrder.toList = initSigns := (congrArg String.toList initText).trans String.toList_ofList
theorem mayEnter_is : Try.pinned.checked.prog.mayEnter = true :=
  mayEnter_of (L := initSigns) (c := "cut".toList) (rest := (behindMainWord (wordsSigns initSigns)).tail) initList (by kernel_rfl) (by kernel_rfl) (by kernel_rfl) (by kernel_rfl) (by kernel_rfl) (by kernel_rfl)
theorem make_is : Try.pinned.checked.prog.make = some .cut :=
  make_of (L := initSigns) (rest := (behindMainWord (wordsSigns initSigns)).tail) initList (by kernel_rfl)
theorem lifts_is : Try.pinned.checked.prog.liftsFinal = false := by
  unfold Program.liftsFinal Program.headLifts
  rw [initList]
  kernel_rfl
end Go.Proofs.Ytefhljhpcpajgaa.Join
namespace Go.Proofs.Ytefhljhpcpajgaa.shareFair
open Go.ChangeShapes Go.WideShapes Go.ChangeAt Go.RowKit Go.Proofs.YtefhljhpcpajgaaX Go.Proofs.Ytefhljhpcpajgaa.F Go.Proofs.YtefhljhpcpajgaaW.PrintWords Go.Proofs.YtefhljhpcpajgaaW.PrintLast Go.Proofs.YtefhljhpcpajgaaW.PrintMore
open Go.ChangeMaps (open_string shut_string)
set_option linter.unusedVariables false
set_option linter.unusedSimpArgs false
theorem own : ownKnob Try.prog.godebug = none := by kernel_rfl
theorem laidOut : laidOutB Try.prog = true := by kernel_rfl
set_option maxRecDepth 100000 in
theorem lifted (os : Os) (started : os.Started) (H : Type) (enc : TypeId × Value → H) :
    ReturnsInHanded {} Try.checked os 12 .any (Rows.shareFairSpec.pre6 enc Try.prog Try.f12 Rows.shareFairRow.domain false) (Rows.shareFairSpec.post enc Try.prog Try.f12 false true false false) := by
  refine returnsInHanded_of_change_sized (C := Try.checked) own started (by kernel_rfl) Try.func12
    (ChangeSpec.witness6 (enc := enc) (C := Try.checked) false ⟨#[], #[.int .i64 0, .slice none 0 0], []⟩ 8 (by kernel_rfl) (by kernel_rfl) (by kernel_rfl) (by kernel_rfl)) ?_
  intro W base args ds gs before hval0 hW hcnd hsz0 _
  have hval : ∀ (j : Nat) t v, Try.f12.params[j]? = some t → args[j]? = some v → Value.okWide Try.prog W .any base t v := hval0
  have hW' := hW
  obtain ⟨p, q, hA0, hV, rfl, hfz, hnd⟩ := hW
  have hA : DataW.TrodAll enc Try.prog W 0 (fun _ => true) true Try.f12.params.toList args.toList ds p := hA0
  rw [Try.params12] at hA hval
  obtain ⟨v0, vs0, d0, ds0, p0, q0, hargs, rfl, rfl, h0, r0⟩ := trodAll_cons hA
  obtain ⟨v1, vs1, d1, ds1, p1, q1, rfl, rfl, rfl, h1, r1⟩ := trodAll_cons r0
  obtain ⟨rfl, rfl, rfl⟩ := trodAll_nil r1
  obtain rfl : args = #[v0, v1] := by cases args; simp_all
  obtain ⟨rfl, rfl⟩ := trodVars_none hV
  have k0 := h0
  have lt0 : ∀ x ∈ p0, x.block < W.heap.size := by obtain ⟨m, hm⟩ := k0; exact DataW.trod_lt m _ _ _ hm
  obtain ⟨x0, rfl⟩ := okWide_int Try.underlying3 (hval 0 3 v0 rfl rfl)
  obtain ⟨f0, hf0⟩ := h0
  obtain ⟨z0, hk0, ho0⟩ := (Opens.int Try.underlying3) hf0
  obtain rfl : x0 = z0 := by have := hk0; injection this with this; injection this
  have k1 := h1
  have lt1 : ∀ x ∈ p1, x.block < W.heap.size := by obtain ⟨m, hm⟩ := k1; exact DataW.trod_lt m _ _ _ hm
  obtain ⟨b1, len1, cap1, rfl⟩ := okWide_slice Try.underlying22 (hval 1 22 v1 rfl rfl)
  obtain ⟨f1, hf1⟩ := h1
  obtain ⟨x1, hk1, ho1⟩ := (Opens.slice Try.underlying22 (by kernel_rfl) (Opens.int Try.underlying3)) hf1
  obtain ⟨A1, c1, he1, hl1, hc1⟩ := slice_cells (show _ from hk1)
  injection he1 with e1_1 e1_2 e1_3
  subst e1_1 e1_2 e1_3
  obtain ⟨k, h⟩ : ∃ k, backhaullaw03_ShareFair.f k x0 x1 = some true := Pure.ShareFair x0 x1 ho0 ho1
  refine (backhaullaw03_ShareFair.calls k x0 _ _ x1 W hc1 hl1 h).mono fun e W' hq => ?_
  obtain ⟨he, bel0⟩ := hq
  have bel : Below W.heap.size W W' := bel0
  subst he
  exact ⟨_, rfl, _, _, _, [], _, [], hW', trodAll_mk1 (shut_bool Try.underlying4 _), (trodAll_cons_mk (Below.trod laidOut (by kernel_rfl) (of_decide_eq_true (by kernel_rfl)) k0 bel lt0) (trodAll_cons_mk (Below.trod laidOut (by kernel_rfl) (of_decide_eq_true (by kernel_rfl)) k1 bel lt1) trodAll_mk0)), rfl, bel.frame _, fun h => by cases h⟩
theorem closed_ : joinedFacts Try.pinned.checked.prog 12 Try.f12 Rows.shareFairSpec Rows.shareFairRow = true := by
  unfold joinedFacts
  repeat' (with_reducible apply band)
  any_goals with_reducible exact Join.mayEnter_is
  any_goals (rw [Join.make_is]; kernel_rfl)
  any_goals (rw [Join.lifts_is]; kernel_rfl)
  all_goals kernel_rfl
theorem over : Rows.shareFairRow.holds Try.pinned (OpenSpec.ofChange Rows.shareFairSpec) :=
  OpenClaim.holds_of_wide 12 Try.f12 rfl rfl rfl rfl rfl rfl rfl ⟨rfl, rfl, rfl, rfl, rfl⟩ rfl rfl rfl rfl rfl (by kernel_rfl) Try.func12 closed_
    (of_decide_eq_true (by kernel_rfl)) (by unfold Func.isWrapper; first | (rw [if_pos (by decide +kernel)]; kernel_rfl) | (rw [if_neg (by decide +kernel)]; exact ⟨rfl, rfl⟩))
    (fun os started H enc _ => lifted os started H enc)
theorem proved : Rows.ShareFairSaid := over
#print axioms proved
end Go.Proofs.Ytefhljhpcpajgaa.shareFair
namespace Go.Proofs.Ytefhljhpcpajgaa
theorem shareFair_holds : Rows.ShareFairSaid := shareFair.proved
end Go.Proofs.Ytefhljhpcpajgaa
