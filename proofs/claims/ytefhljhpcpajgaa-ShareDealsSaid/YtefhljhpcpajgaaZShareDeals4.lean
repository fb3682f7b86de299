-- merged and pruned by prune.py (the session's own program); its words go back to the kit's print
import Derived.Test.YtefhljhpcpajgaaProg
import Derived.Below
import Derived.Deep.Draws
import Derived.Deep.AppendLies
import Derived.Maps.AppendAt
import Derived.OwnWalk
import Derived.Laws.BytesArg
import Derived.Laws.MakeOwn
import Derived.Laws.OwnMore
import Derived.Deep.OwnRows
import Derived.Tactics
import Derived.Lib.ConvBytes
import Derived.Laws.Slices
import Derived.WalkKit
import Derived.KernelRfl
import Derived.RowKit3
import Derived.Deep.LoopGhost
import Derived.Deep.QuietTactic
import Derived.BigQuiet
import Derived.WideLaws
import Derived.Deep.DeepCutAuto
import Derived.Deep.CutBlock
import Derived.Deep.RegionHeld3
import Derived.Laws.Rows
import Derived.Lib.AppendStr
import Derived.ArgAppend
import Derived.Laws.IdiomCopy
import Derived.OrdersHeld
import Derived.Laws.BitsLemmas
import Derived.RowKit
import Derived.Laws.StructEq
import Derived.Deep.RegionLawGrows
import Derived.Lib.SliceRun
import Derived.Shelf.SlSortCmp.Insertion1
import Derived.Shelf.Small.Bits
import Derived.Shelf.Strconv.Itoa0
import Derived.Shelf.Bits.Mul64
import Derived.Ground.SlsfProg
import Derived.Shelf.SlSortCmp.Insertion
import Derived.Sort.LotA
import Derived.Sort.OwnSortedInts
import Derived.Test.YtefhljhpcpajgaaZShareDeals3
namespace Go.Proofs.Ytefhljhpcpajgaa.F
open Go.RowKit Go.Proofs.YtefhljhpcpajgaaX Go.Proofs.YtefhljhpcpajgaaW.PrintWords Go.Proofs.YtefhljhpcpajgaaW.PrintLast Go.Proofs.YtefhljhpcpajgaaW.PrintMore
attribute [local go_sem] max2_int min2_int max_two min_two max_three min_three max_four min_four   
attribute [local go_sem high] str_geq str_leq str_gtr
set_option linter.unusedVariables false
set_option linter.unusedSimpArgs false
mutual
def backhaulref03_Out.j0 : Nat → Int → List Int → Int → Bool → Option (List Int × Int)
  | 0, _, _, _, _ => none
  | k + 1, x0, x1, x6, x32 => if x32 = true then (some (([] : List Int), 8)) else (backhaulref03_Out.l0 k x0 x1 x6 0 0)
def backhaulref03_Out.l0 : Nat → Int → List Int → Int → Int → Int → Option (List Int × Int)
  | 0, _, _, _, _, _ => none
  | k + 1, x0, x1, x6, x8, x9 => if x9 < (x1.length : Int) then (if 0 ≤ x9 then (backhaulref03_Out.l0 k x0 x1 x6 (wrap64 (x8 + (rd x1 x9))) (wrap64 (x9 + 1))) else (none)) else (backhaulref03_Out.l1 k x0 x1 x6 x8 ([] : List Int) ([] : List Int) x0 0)
def backhaulref03_Out.l1 : Nat → Int → List Int → Int → Int → List Int → List Int → Int → Int → Option (List Int × Int)
  | 0, _, _, _, _, _, _, _, _ => none
  | k + 1, x0, x1, x6, x8, x10, x11, x12, x13 => if x13 < (x1.length : Int) then (if 0 ≤ x13 then (if x8 = 0 then ((backhaulref02_Div.f k x0 1 x6).bind fun bt105 => (if x10.length < 17592186044416 then (if x11.length < 17592186044416 then (backhaulref03_Out.l1 k x0 x1 x6 x8 (x10 ++ [bt105.1]) (x11 ++ [bt105.2]) (wrap64 (x12 - bt105.1)) (wrap64 (x13 + 1))) else (none)) else (none))) else ((backhaulref02_Div.f k x0 (rd x1 x13) x6).bind fun bt113 => (if x10.length < 17592186044416 then (if x11.length < 17592186044416 then (backhaulref03_Out.l1 k x0 x1 x6 x8 (x10 ++ [bt113.1]) (x11 ++ [bt113.2]) (wrap64 (x12 - bt113.1)) (wrap64 (x13 + 1))) else (none)) else (none)))) else (none)) else (backhaulref03_Out.l2 k x1 x10 x11 x12)
def backhaulref03_Out.l2 : Nat → List Int → List Int → List Int → Int → Option (List Int × Int)
  | 0, _, _, _, _ => none
  | k + 1, x1, x10, x11, x12 => if x12 > 0 then (backhaulref03_Out.l3 k x1 x10 x11 x12 0 0) else (some (x10, 0))
def backhaulref03_Out.l3 : Nat → List Int → List Int → List Int → Int → Int → Int → Option (List Int × Int)
  | 0, _, _, _, _, _, _ => none
  | k + 1, x1, x10, x11, x12, x17, x18 => if x18 < (x1.length : Int) then (if 0 ≤ x18 then (if x18 < (x11.length : Int) then (if 0 ≤ x17 then (if x17 < (x11.length : Int) then (if (rd x11 x18) > (rd x11 x17) then (backhaulref03_Out.l3 k x1 x10 x11 x12 x18 (wrap64 (x18 + 1))) else (backhaulref03_Out.l3 k x1 x10 x11 x12 x17 (wrap64 (x18 + 1)))) else (none)) else (none)) else (none)) else (none)) else (if 0 ≤ x17 then (if x17 < (x10.length : Int) then (if x17 < (x11.length : Int) then (backhaulref03_Out.l2 k x1 (x10.set (x17 : Int).toNat (wrap64 ((rd x10 x17) + 1))) (x11.set (x17 : Int).toNat (-1)) (wrap64 (x12 - 1))) else (none)) else (none)) else (none))
end
def backhaulref03_Out.f (k : Nat) (a0 : Int) (l1 : List Int) : Option (List Int × Int) := (backhaulref03_Whole.f k l1).bind fun bt101 => (if bt101.2 = 0 then (if a0 < 0 then (backhaulref03_Out.j0 k a0 l1 bt101.1 true) else (backhaulref03_Out.j0 k a0 l1 bt101.1 (decide (a0 > 1000000000000)))) else (some (([] : List Int), bt101.2)))
theorem backhaulref03_Out.mono_l : ∀ k, (∀ y0 y1 y2 y3, LeO (backhaulref03_Out.j0 k y0 y1 y2 y3) (backhaulref03_Out.j0 (k + 1) y0 y1 y2 y3)) ∧ (∀ y0 y1 y2 y3 y4, LeO (backhaulref03_Out.l0 k y0 y1 y2 y3 y4) (backhaulref03_Out.l0 (k + 1) y0 y1 y2 y3 y4)) ∧ (∀ y0 y1 y2 y3 y4 y5 y6 y7, LeO (backhaulref03_Out.l1 k y0 y1 y2 y3 y4 y5 y6 y7) (backhaulref03_Out.l1 (k + 1) y0 y1 y2 y3 y4 y5 y6 y7)) ∧ (∀ y0 y1 y2 y3, LeO (backhaulref03_Out.l2 k y0 y1 y2 y3) (backhaulref03_Out.l2 (k + 1) y0 y1 y2 y3)) ∧ (∀ y0 y1 y2 y3 y4 y5, LeO (backhaulref03_Out.l3 k y0 y1 y2 y3 y4 y5) (backhaulref03_Out.l3 (k + 1) y0 y1 y2 y3 y4 y5))
  | 0 => ⟨fun _ _ _ _ r h => by simp [backhaulref03_Out.j0] at h, fun _ _ _ _ _ r h => by simp [backhaulref03_Out.l0] at h, fun _ _ _ _ _ _ _ _ r h => by simp [backhaulref03_Out.l1] at h, fun _ _ _ _ r h => by simp [backhaulref03_Out.l2] at h, fun _ _ _ _ _ _ r h => by simp [backhaulref03_Out.l3] at h⟩
  | k + 1 => by
    obtain ⟨ih0, ih1, ih2, ih3, ih4⟩ := backhaulref03_Out.mono_l k
    refine ⟨?_, ?_, ?_, ?_, ?_⟩
    · intro y0 y1 y2 y3
      unfold backhaulref03_Out.j0
      repeat' first
      | (with_reducible exact ih0 _ _ _ _)
      | (with_reducible exact ih1 _ _ _ _ _)
      | (with_reducible exact ih2 _ _ _ _ _ _ _ _)
      | (with_reducible exact ih3 _ _ _ _)
      | (with_reducible exact ih4 _ _ _ _ _ _)
      | (with_reducible exact backhaulref02_Div.mono _ _ _ _)
      | (with_reducible exact backhaulref03_Whole.mono _ _)
      | (with_reducible exact LeO.refl _)
      | (with_reducible exact LeO.none _)
      | (with_reducible refine LeO.ite ?_ ?_)
      | (with_reducible refine LeO.bind ?_ (fun _ => ?_))
      | exact ih0 _ _ _ _
      | exact ih1 _ _ _ _ _
      | exact ih2 _ _ _ _ _ _ _ _
      | exact ih3 _ _ _ _
      | exact ih4 _ _ _ _ _ _
      | exact backhaulref02_Div.mono _ _ _ _
      | exact backhaulref03_Whole.mono _ _
      | exact LeO.none _
      | refine LeO.ite ?_ ?_
      | refine LeO.bind ?_ (fun _ => ?_)
    · intro y0 y1 y2 y3 y4
      unfold backhaulref03_Out.l0
      repeat' first
      | (with_reducible exact ih0 _ _ _ _)
      | (with_reducible exact ih1 _ _ _ _ _)
      | (with_reducible exact ih2 _ _ _ _ _ _ _ _)
      | (with_reducible exact ih3 _ _ _ _)
      | (with_reducible exact ih4 _ _ _ _ _ _)
      | (with_reducible exact backhaulref02_Div.mono _ _ _ _)
      | (with_reducible exact backhaulref03_Whole.mono _ _)
      | (with_reducible exact LeO.refl _)
      | (with_reducible exact LeO.none _)
      | (with_reducible refine LeO.ite ?_ ?_)
      | (with_reducible refine LeO.bind ?_ (fun _ => ?_))
      | exact ih0 _ _ _ _
      | exact ih1 _ _ _ _ _
      | exact ih2 _ _ _ _ _ _ _ _
      | exact ih3 _ _ _ _
      | exact ih4 _ _ _ _ _ _
      | exact backhaulref02_Div.mono _ _ _ _
      | exact backhaulref03_Whole.mono _ _
      | exact LeO.none _
      | refine LeO.ite ?_ ?_
      | refine LeO.bind ?_ (fun _ => ?_)
    · intro y0 y1 y2 y3 y4 y5 y6 y7
      unfold backhaulref03_Out.l1
      repeat' first
      | (with_reducible exact ih0 _ _ _ _)
      | (with_reducible exact ih1 _ _ _ _ _)
      | (with_reducible exact ih2 _ _ _ _ _ _ _ _)
      | (with_reducible exact ih3 _ _ _ _)
      | (with_reducible exact ih4 _ _ _ _ _ _)
      | (with_reducible exact backhaulref02_Div.mono _ _ _ _)
      | (with_reducible exact backhaulref03_Whole.mono _ _)
      | (with_reducible exact LeO.refl _)
      | (with_reducible exact LeO.none _)
      | (with_reducible refine LeO.ite ?_ ?_)
      | (with_reducible refine LeO.bind ?_ (fun _ => ?_))
      | exact ih0 _ _ _ _
      | exact ih1 _ _ _ _ _
      | exact ih2 _ _ _ _ _ _ _ _
      | exact ih3 _ _ _ _
      | exact ih4 _ _ _ _ _ _
      | exact backhaulref02_Div.mono _ _ _ _
      | exact backhaulref03_Whole.mono _ _
      | exact LeO.none _
      | refine LeO.ite ?_ ?_
      | refine LeO.bind ?_ (fun _ => ?_)
    · intro y0 y1 y2 y3
      unfold backhaulref03_Out.l2
      repeat' first
      | (with_reducible exact ih0 _ _ _ _)
      | (with_reducible exact ih1 _ _ _ _ _)
      | (with_reducible exact ih2 _ _ _ _ _ _ _ _)
      | (with_reducible exact ih3 _ _ _ _)
      | (with_reducible exact ih4 _ _ _ _ _ _)
      | (with_reducible exact backhaulref02_Div.mono _ _ _ _)
      | (with_reducible exact backhaulref03_Whole.mono _ _)
      | (with_reducible exact LeO.refl _)
      | (with_reducible exact LeO.none _)
      | (with_reducible refine LeO.ite ?_ ?_)
      | (with_reducible refine LeO.bind ?_ (fun _ => ?_))
      | exact ih0 _ _ _ _
      | exact ih1 _ _ _ _ _
      | exact ih2 _ _ _ _ _ _ _ _
      | exact ih3 _ _ _ _
      | exact ih4 _ _ _ _ _ _
      | exact backhaulref02_Div.mono _ _ _ _
      | exact backhaulref03_Whole.mono _ _
      | exact LeO.none _
      | refine LeO.ite ?_ ?_
      | refine LeO.bind ?_ (fun _ => ?_)
    · intro y0 y1 y2 y3 y4 y5
      unfold backhaulref03_Out.l3
      repeat' first
      | (with_reducible exact ih0 _ _ _ _)
      | (with_reducible exact ih1 _ _ _ _ _)
      | (with_reducible exact ih2 _ _ _ _ _ _ _ _)
      | (with_reducible exact ih3 _ _ _ _)
      | (with_reducible exact ih4 _ _ _ _ _ _)
      | (with_reducible exact backhaulref02_Div.mono _ _ _ _)
      | (with_reducible exact backhaulref03_Whole.mono _ _)
      | (with_reducible exact LeO.refl _)
      | (with_reducible exact LeO.none _)
      | (with_reducible refine LeO.ite ?_ ?_)
      | (with_reducible refine LeO.bind ?_ (fun _ => ?_))
      | exact ih0 _ _ _ _
      | exact ih1 _ _ _ _ _
      | exact ih2 _ _ _ _ _ _ _ _
      | exact ih3 _ _ _ _
      | exact ih4 _ _ _ _ _ _
      | exact backhaulref02_Div.mono _ _ _ _
      | exact backhaulref03_Whole.mono _ _
      | exact LeO.none _
      | refine LeO.ite ?_ ?_
      | refine LeO.bind ?_ (fun _ => ?_)
theorem backhaulref03_Out.mono : ∀ a0 a1 k, LeO (backhaulref03_Out.f k a0 a1) (backhaulref03_Out.f (k + 1) a0 a1) := by
  intro a0 a1 k
  obtain ⟨ih0, ih1, ih2, ih3, ih4⟩ := backhaulref03_Out.mono_l k
  unfold backhaulref03_Out.f
  repeat' first
      | (with_reducible exact ih0 _ _ _ _)
      | (with_reducible exact ih1 _ _ _ _ _)
      | (with_reducible exact ih2 _ _ _ _ _ _ _ _)
      | (with_reducible exact ih3 _ _ _ _)
      | (with_reducible exact ih4 _ _ _ _ _ _)
      | (with_reducible exact backhaulref02_Div.mono _ _ _ _)
      | (with_reducible exact backhaulref03_Whole.mono _ _)
      | (with_reducible exact LeO.refl _)
      | (with_reducible exact LeO.none _)
      | (with_reducible refine LeO.ite ?_ ?_)
      | (with_reducible refine LeO.bind ?_ (fun _ => ?_))
      | exact ih0 _ _ _ _
      | exact ih1 _ _ _ _ _
      | exact ih2 _ _ _ _ _ _ _ _
      | exact ih3 _ _ _ _
      | exact ih4 _ _ _ _ _ _
      | exact backhaulref02_Div.mono _ _ _ _
      | exact backhaulref03_Whole.mono _ _
      | exact LeO.none _
      | refine LeO.ite ?_ ?_
      | refine LeO.bind ?_ (fun _ => ?_)
set_option maxHeartbeats 8000000 in
set_option maxRecDepth 100000 in
theorem backhaulref03_Out.calls (k : Nat) (a0 : Int) (A1 : Option Addr) (c1 : Nat) (l1 : List Int) (r1 : List Int) (r2 : Int) (w : World) (hr1 : Kd.C (Kd.int .i64) w A1 l1.length l1) (hc1 : l1.length ≤ c1) (h : backhaulref03_Out.f k a0 l1 = some (r1, r2)) :
    Calls Try.prog 52 #[.int .i64 a0, .slice A1 l1.length c1] w fun e w' => ∃ v0_ : Value, e = .returned (.tuple #[v0_, .int .i64 r2]) ∧ Kd.R (Kd.int .i64) 3 w' w.heap.size (fun _ => True) v0_ r1 ∧ Below w.heap.size w w' := by
  have HR1 := Aside0.mk hr1
  have HC1 := Aside0.mk hc1
  clear hr1 hc1
  have HB := Aside0.mk (Below.refl w.heap.size w)
  have H : ((backhaulref03_Whole.f k l1).bind fun bt101 => (if bt101.2 = 0 then (if a0 < 0 then (backhaulref03_Out.j0 k a0 l1 bt101.1 true) else (backhaulref03_Out.j0 k a0 l1 bt101.1 (decide (a0 > 1000000000000)))) else (some (([] : List Int), bt101.2)))) = some (r1, r2) := h
  clear h
  replace H := Option.bind_eq_some_iff.mp H
  obtain ⟨⟨t101, t102⟩, A30, H⟩ := H
  replace H : (if t102 = 0 then (if a0 < 0 then (backhaulref03_Out.j0 k a0 l1 t101 true) else (backhaulref03_Out.j0 k a0 l1 t101 (decide (a0 > 1000000000000)))) else (some (([] : List Int), t102))) = some (r1, r2) := H
  have A3 := Aside0.mk A30
  clear A30
  by_cases c4 : t102 = 0
  · rw [if_pos c4] at H
    have c4b0 : (t102 == 0) = true := beq_iff_eq.mpr c4
    have c4b1 : (t102 != 0) = false := bne_eq_false_iff_eq.mpr c4
    clear c4
    have HC5 := Aside0.mk H
    clear H
    go_enter Try.func52, Try.ntmps52
    go_upto_region 4 with (first | (go_at_call 58; (with_reducible refine (backhaulref03_Whole.calls k _ _ l1 t101 t102 _ ?side1 ?side2 A3.out).mono ?_); (case side1 => repeat (first | exact HR1.out | (with_reducible refine Kd.C_alloc ?_ _) | (with_reducible refine Kd.C_drewN ?_ _) | (with_reducible refine Kd.C_drew ?_))); (case side2 => exact HC1.out); rintro e w' ⟨rfl, ⟨nd, rfl⟩⟩; (try first | exact ⟨rfl, _, World.drewN_drewN _ _ _⟩ | exact ⟨rfl, _, Eq.trans (World.drewN_drewN _ _ _) (congrArg (World.drewN _) (Nat.add_assoc _ _ _))⟩)))
    repeat (go_quiet (first | (go_at_call 58; (with_reducible refine (backhaulref03_Whole.calls k _ _ l1 t101 t102 _ ?side1 ?side2 A3.out).mono ?_); (case side1 => repeat (first | exact HR1.out | (with_reducible refine Kd.C_alloc ?_ _) | (with_reducible refine Kd.C_drewN ?_ _) | (with_reducible refine Kd.C_drew ?_))); (case side2 => exact HC1.out); rintro e w' ⟨rfl, ⟨nd, rfl⟩⟩; (try first | exact ⟨rfl, _, World.drewN_drewN _ _ _⟩ | exact ⟨rfl, _, Eq.trans (World.drewN_drewN _ _ _) (congrArg (World.drewN _) (Nat.add_assoc _ _ _))⟩))); go_upto_region 4 with (first | (go_at_call 58; (with_reducible refine (backhaulref03_Whole.calls k _ _ l1 t101 t102 _ ?side1 ?side2 A3.out).mono ?_); (case side1 => repeat (first | exact HR1.out | (with_reducible refine Kd.C_alloc ?_ _) | (with_reducible refine Kd.C_drewN ?_ _) | (with_reducible refine Kd.C_drew ?_))); (case side2 => exact HC1.out); rintro e w' ⟨rfl, ⟨nd, rfl⟩⟩; (try first | exact ⟨rfl, _, World.drewN_drewN _ _ _⟩ | exact ⟨rfl, _, Eq.trans (World.drewN_drewN _ _ _) (congrArg (World.drewN _) (Nat.add_assoc _ _ _))⟩))))
    (try simp only [Act.put, List.setIfInBounds_toArray, List.set_cons_zero, List.set_cons_succ])
    go_cut [32] (fun v32 wc => ∃ (kq : Nat) (x32_4 : Bool), v32 = .bool x32_4 ∧ Aside0 (backhaulref03_Out.j0 kq a0 l1 t101 x32_4 = some (r1, r2)) ∧ Aside0 (kq ≤ k) ∧ Aside0 (Below w.heap.size w wc))
    case first =>
      have H := HC5.out
      clear HC5
      by_cases c6 : a0 < 0
      · rw [if_pos c6] at H
        have c6b0 : decide (a0 < 0) = true := decide_eq_true c6
        clear c6
        (first | rw [c6b0] | (simp only [i64_w, i32_w]; rw [c6b0]) | skip)
        have H' := Aside0.mk H
        clear H
        go_wp2
        repeat (go_quiet (fail); try go_wp2)
        go_meet
        case rel => exact ⟨_, (true), (by first | rfl | (simp; done) | (simp [*]; done)), H', ⟨by first | omega | exact Nat.le_refl _⟩, ⟨by repeat (first | (with_reducible first | exact HB.out | apply below_alloc | apply pw_below_drewN | apply below_drew1) | exact HB.out)⟩⟩
      · rw [if_neg c6] at H
        have c6b0 : decide (a0 < 0) = false := decide_eq_false c6
        clear c6
        (first | rw [c6b0] | (simp only [i64_w, i32_w]; rw [c6b0]) | skip)
        have H' := Aside0.mk H
        clear H
        go_wp2
        repeat (go_quiet (fail); try go_wp2)
        go_meet
        case rel => exact ⟨_, (decide (a0 > 1000000000000)), (by first | rfl | (simp; done) | (simp [*]; done)), H', ⟨by first | omega | exact Nat.le_refl _⟩, ⟨by repeat (first | (with_reducible first | exact HB.out | apply below_alloc | apply pw_below_drewN | apply below_drew1) | exact HB.out)⟩⟩
    case rest =>
      clear HC5
      try clear c1
      try clear p2
      try clear c4
      try clear c4b0
      try clear c4b1
      try clear c5
      try clear c6
      try clear c6b0
      obtain ⟨kq, x32_4, rfl, HA, HJ4, HB⟩ := hcut
      cases kq with
      | zero => exact absurd HA.out (by simp [backhaulref03_Out.j0])
      | succ kj4 =>
        have H := HA.out
        clear HA
        simp only [backhaulref03_Out.j0] at H
        by_cases c7 : x32_4 = true
        · subst c7
          have H1 : (some (([] : List Int), 8)) = some (r1, r2) := by first | (rw [if_pos rfl] at H; exact H) | rfl
          clear H
          have H := H1
          clear H1
          simp only [Option.some.injEq, Prod.mk.injEq] at H
          obtain ⟨rfl, rfl⟩ := H
          go_wp2
          repeat (go_quiet (fail); try go_wp2)
          go_ret2
          exact ⟨_, by first | rfl | (simp [errW_none, errW_some] <;> rfl) | (simp [*, errW_none, errW_some] <;> rfl), by first | exact Kd.R_nil _ _ _ _ _ | exact Kd.N_nil _ _ _ _ _ | exact Kd.V_nil _ _ _ _ _ | exact Kd.Q_nil _ _ _ _ _ | exact Kd.S_nil _ _ _ _ _, by repeat (first | (with_reducible first | exact HB.out | apply below_alloc | apply pw_below_drewN | apply below_drew1) | exact HB.out)⟩
        · replace c7 := Bool.eq_false_iff.mpr c7
          subst c7
          have H1 : (backhaulref03_Out.l0 kj4 a0 l1 t101 0 0) = some (r1, r2) := by first | (rw [if_neg (show ¬ (false = true) by decide)] at H; exact H) | rfl
          clear H
          have H := H1
          clear H1
          have H' := Aside0.mk H
          clear H
          go_wp2
          repeat (go_quiet (fail); try go_wp2)
          go_loopg [8, 9] kj4 (fun kq v8 v9 w' => ∃ (x8_2 : Int) (x9_2 : Int), v8 = .int .i64 x8_2 ∧ v9 = .int .i64 x9_2 ∧ Aside0 (backhaulref03_Out.l0 kq a0 l1 t101 x8_2 x9_2 = some (r1, r2)) ∧ Aside0 (kq ≤ kj4) ∧ Aside0 (Below w.heap.size w w'))
          case atStart => exact ⟨(0), (0), (by first | rfl | (simp; done) | (simp [*]; done)), (by first | rfl | (simp; done) | (simp [*]; done)), H', ⟨Nat.le_refl _⟩, ⟨by repeat (first | (with_reducible first | exact HB.out | apply below_alloc | apply pw_below_drewN | apply below_drew1) | exact HB.out)⟩⟩
          case round =>
            clear H'
            try clear c1
            try clear p2
            try clear c4
            try clear c4b0
            try clear c4b1
            try clear c5
            try clear c6
            try clear c6b0
            try clear c7
            try clear p2
            obtain ⟨x8_2, x9_2, rfl, rfl, HA, HK2, HB⟩ := hrel
            cases gk with
            | zero => exact absurd HA.out (by simp [backhaulref03_Out.l0])
            | succ k2 =>
              have H := HA.out
              clear HA
              simp only [backhaulref03_Out.l0] at H
              by_cases c8 : x9_2 < (l1.length : Int)
              · rw [if_pos c8] at H
                have c8b0 : decide (x9_2 < (l1.length : Int)) = true := decide_eq_true c8
                clear c8
                by_cases c9 : 0 ≤ x9_2
                · rw [if_pos c9] at H
                  have c9b0 : decide (0 ≤ x9_2) = true := decide_eq_true c9
                  clear c9
                  have H' := Aside0.mk H
                  clear H
                  have p103 : 0 ≤ (x9_2 : Int) := of_decide_eq_true (by first | (with_reducible assumption) | assumption)
                  have q103 : x9_2 < (l1.length : Int) := of_decide_eq_true (by first | (with_reducible assumption) | assumption)
                  obtain ⟨ad103, e103, hx103_0⟩ := Kd.at_int HR1.out x9_2 p103 q103
                  cases e103
                  replace hx103_0 := (HB.out.cell (World.block_lt_of_cell? w _ hx103_0)).trans hx103_0
                  replace p103 := eq_true p103
                  replace q103 := eq_true q103
                  go_wp2
                  repeat (go_quiet (fail); try go_wp2)
                  go_roundg k2
                  case measure => have := HJ4.out; have := HK2.out; omega
                  case rel => exact ⟨(wrap64 (x8_2 + (rd l1 x9_2))), (wrap64 (x9_2 + 1)), (by first | rfl | (simp; done) | (simp [*]; done)), (by first | rfl | (simp; done) | (simp [*]; done)), H', ⟨by have := HJ4.out; have := HK2.out; omega⟩, ⟨by repeat (first | (with_reducible first | exact HB.out | apply below_alloc | apply pw_below_drewN | apply below_drew1) | exact HB.out)⟩⟩
                · rw [if_neg c9] at H
                  exact absurd H (by simp)
              · rw [if_neg c8] at H
                have c8b0 : decide (x9_2 < (l1.length : Int)) = false := decide_eq_false c8
                clear c8
                have H' := Aside0.mk H
                clear H
                go_wp2
                repeat (go_quiet (fail); try go_wp2)
                go_loopg [10, 11, 12, 13] k2 (fun kq v10 v11 v12 v13 w' => ∃ (x10_3 : List Int) (x11_3 : List Int) (x12_3 : Int) (x13_3 : Int), v12 = .int .i64 x12_3 ∧ v13 = .int .i64 x13_3 ∧ Aside0 (backhaulref03_Out.l1 kq a0 l1 t101 x8_2 x10_3 x11_3 x12_3 x13_3 = some (r1, r2)) ∧ Aside0 (kq ≤ k2) ∧ Aside0 (Kd.R (Kd.int .i64) 3 w' w.heap.size (fun k_ => some k_ ≠ (v11 : Value).ownBlock) v10 x10_3) ∧ Aside0 (Kd.R (Kd.int .i64) 3 w' w.heap.size (fun k_ => some k_ ≠ (v10 : Value).ownBlock) v11 x11_3) ∧ Aside0 (Below w.heap.size w w'))
                case atStart => exact ⟨(([] : List Int)), (([] : List Int)), (a0), (0), (by first | rfl | (simp; done) | (simp [*]; done)), (by first | rfl | (simp; done) | (simp [*]; done)), H', ⟨Nat.le_refl _⟩, ⟨by first | exact Kd.R_nil _ _ _ _ _ | exact Kd.N_nil _ _ _ _ _ | exact Kd.V_nil _ _ _ _ _ | exact Kd.Q_nil _ _ _ _ _ | exact Kd.S_nil _ _ _ _ _⟩, ⟨by first | exact Kd.R_nil _ _ _ _ _ | exact Kd.N_nil _ _ _ _ _ | exact Kd.V_nil _ _ _ _ _ | exact Kd.Q_nil _ _ _ _ _ | exact Kd.S_nil _ _ _ _ _⟩, ⟨by repeat (first | (with_reducible first | exact HB.out | apply below_alloc | apply pw_below_drewN | apply below_drew1) | exact HB.out)⟩⟩
                case round =>
                  clear H'
                  try clear c1
                  try clear p1
                  try clear q1
                  try clear hx1
                  try clear p2
                  try clear c4
                  try clear c4b0
                  try clear c4b1
                  try clear c5
                  try clear c6
                  try clear c6b0
                  try clear p6
                  try clear c7
                  try clear c8
                  try clear c8b0
                  try clear c9
                  try clear c9b0
                  try clear hx103_0
                  try clear p103
                  try clear p2
                  try clear q103
                  obtain ⟨x10_3, x11_3, x12_3, x13_3, rfl, rfl, HA, HK3, HO_10, HO_11, HB⟩ := hrel
                  cases gk with
                  | zero => exact absurd HA.out (by simp [backhaulref03_Out.l1])
                  | succ k3 =>
                    have H := HA.out
                    clear HA
                    simp only [backhaulref03_Out.l1] at H
                    by_cases c10 : x13_3 < (l1.length : Int)
                    · rw [if_pos c10] at H
                      have c10b0 : decide (x13_3 < (l1.length : Int)) = true := decide_eq_true c10
                      clear c10
                      by_cases c11 : 0 ≤ x13_3
                      · rw [if_pos c11] at H
                        have c11b0 : decide (0 ≤ x13_3) = true := decide_eq_true c11
                        clear c11
                        by_cases c12 : x8_2 = 0
                        · rw [if_pos c12] at H
                          have c12b0 : (x8_2 == 0) = true := beq_iff_eq.mpr c12
                          have c12b1 : (x8_2 != 0) = false := bne_eq_false_iff_eq.mpr c12
                          clear c12
                          replace H := Option.bind_eq_some_iff.mp H
                          obtain ⟨⟨t105, t106⟩, A130, H⟩ := H
                          replace H : (if x10_3.length < 17592186044416 then (if x11_3.length < 17592186044416 then (backhaulref03_Out.l1 k3 a0 l1 t101 x8_2 (x10_3 ++ [t105]) (x11_3 ++ [t106]) (wrap64 (x12_3 - t105)) (wrap64 (x13_3 + 1))) else (none)) else (none)) = some (r1, r2) := H
                          have A13 := Aside0.mk A130
                          clear A130
                          by_cases c14 : x10_3.length < 17592186044416
                          · rw [if_pos c14] at H
                            have LMc14 := Aside0.mk c14
                            clear c14
                            obtain ⟨y107, hy107⟩ : ∃ y_ : List Int, y_ = (x10_3 ++ [t105]) := ⟨_, rfl⟩
                            replace H : (if x11_3.length < 17592186044416 then (backhaulref03_Out.l1 k3 a0 l1 t101 x8_2 y107 (x11_3 ++ [t106]) (wrap64 (x12_3 - t105)) (wrap64 (x13_3 + 1))) else (none)) = some (r1, r2) := by first | (rw [hy107]; with_reducible exact H) | (have H2_ := (Option.bind_some _ _).symm.trans H; rw [hy107]; with_reducible exact H2_) | (have H2_ := (Option.bind_some _ _).symm.trans H; with_reducible exact H2_) | with_reducible exact H | (rw [hy107]; exact H) | exact H
                            have Ny107 := Aside0.mk hy107
                            clear hy107
                            by_cases c15 : x11_3.length < 17592186044416
                            · rw [if_pos c15] at H
                              have LMc15 := Aside0.mk c15
                              clear c15
                              obtain ⟨y110, hy110⟩ : ∃ y_ : List Int, y_ = (x11_3 ++ [t106]) := ⟨_, rfl⟩
                              replace H : (backhaulref03_Out.l1 k3 a0 l1 t101 x8_2 y107 y110 (wrap64 (x12_3 - t105)) (wrap64 (x13_3 + 1))) = some (r1, r2) := by first | (rw [hy110]; with_reducible exact H) | (have H2_ := (Option.bind_some _ _).symm.trans H; rw [hy110]; with_reducible exact H2_) | (have H2_ := (Option.bind_some _ _).symm.trans H; with_reducible exact H2_) | with_reducible exact H | (rw [hy110]; exact H) | exact H
                              have Ny110 := Aside0.mk hy110
                              clear hy110
                              have H' := Aside0.mk H
                              clear H
                              have p104 : 0 ≤ (x13_3 : Int) := of_decide_eq_true (by first | (with_reducible assumption) | assumption)
                              have q104 : x13_3 < (l1.length : Int) := of_decide_eq_true (by first | (with_reducible assumption) | assumption)
                              obtain ⟨ad104, e104, hx104_0⟩ := Kd.at_int HR1.out x13_3 p104 q104
                              cases e104
                              replace hx104_0 := (HB.out.cell (World.block_lt_of_cell? w _ hx104_0)).trans hx104_0
                              replace p104 := eq_true p104
                              replace q104 := eq_true q104
                              go_wp2_with (first | (go_at_call 102; (with_reducible refine (backhaulref02_Div.calls k3 a0 1 t101 t105 t106 _ A13.out).mono ?_); rintro e w' ⟨rfl, ⟨nd, rfl⟩⟩; (try first | exact ⟨rfl, _, World.drewN_drewN _ _ _⟩ | exact ⟨rfl, _, Eq.trans (World.drewN_drewN _ _ _) (congrArg (World.drewN _) (Nat.add_assoc _ _ _))⟩)) | ((with_reducible refine gate_builtin (b := .append) (xs := #[.tmp 65, .tmp 67]) rfl ?_); at_builtin; refine Kd.R_append (Kd.int .i64) (w0 := w) w.heap.size rfl (.tmp 65) (.tmp 67) 22 3 (.int .i64 0) 8 rfl Try.underlying22 info3 rfl (by decide) (by omega) u10 x10_3 t105 [.int .i64 t105] (fun k_ => some k_ ≠ (u11 : Value).ownBlock) (fun _ => False) rfl rfl ?aP (fun _ hk => hk.elim) ?aF ?aO ?aB ?aS ?aL ?_; (case aP => exact rfl); (case aB => exact (by repeat (first | (with_reducible first | exact HB.out | apply below_alloc | apply pw_below_drewN | apply below_drew1) | exact HB.out))); (case aF => exact (fun k_ hk => Kd.fresh' (Kd.R_lt (by (with_reducible repeat (first | apply Kd.R_alloc | apply Kd.R_drewN | apply Kd.R_drew)); exact HO_11.out)) k_ hk)); (case aO => exact (by (with_reducible repeat (first | apply Kd.R_alloc | apply Kd.R_drewN | apply Kd.R_drew)); exact HO_10.out)); (case aS => exact (below_size (by repeat (first | (with_reducible first | exact HB.out | apply below_alloc | apply pw_below_drewN | apply below_drew1) | exact HB.out)))); (case aL => have := LMc14.out; omega); intro v108 w16 ho hb hg hat; rw [← Ny107.out] at ho; have n0_ := Aside0.mk (Kd.R_after (ok := (fun _ => True)) (by (with_reducible repeat (first | apply Kd.R_alloc | apply Kd.R_drewN | apply Kd.R_drew)); exact Kd.R_mono HO_11.out (fun _ hk => ⟨trivial, hk⟩)) hg hat); have n1_ := Aside0.mk (hb); have n2_ := Aside0.mk (ho); clear HO_11; clear HB; clear HO_10; have HO_11 := n0_; have HB := n1_; have HO109 := n2_; clear n0_ n1_ n2_; clear ho hb hg hat) | ((with_reducible refine gate_builtin (b := .append) (xs := #[.tmp 69, .tmp 71]) rfl ?_); at_builtin; refine Kd.R_append (Kd.int .i64) (w0 := w) w.heap.size rfl (.tmp 69) (.tmp 71) 22 3 (.int .i64 0) 8 rfl Try.underlying22 info3 rfl (by decide) (by omega) u11 x11_3 t106 [.int .i64 t106] (fun k_ => some k_ ≠ (v108 : Value).ownBlock) (fun _ => False) rfl rfl ?aP (fun _ hk => hk.elim) ?aF ?aO ?aB ?aS ?aL ?_; (case aP => exact rfl); (case aB => exact (by repeat (first | (with_reducible first | exact HB.out | apply below_alloc | apply pw_below_drewN | apply below_drew1) | exact HB.out))); (case aF => exact (fun k_ hk => Kd.fresh' (Kd.R_lt (by (with_reducible repeat (first | apply Kd.R_alloc | apply Kd.R_drewN | apply Kd.R_drew)); exact HO109.out)) k_ hk)); (case aO => exact (by (with_reducible repeat (first | apply Kd.R_alloc | apply Kd.R_drewN | apply Kd.R_drew)); exact Kd.R_mono HO_11.out (fun _ hk => hk.2))); (case aS => exact (below_size (by repeat (first | (with_reducible first | exact HB.out | apply below_alloc | apply pw_below_drewN | apply below_drew1) | exact HB.out)))); (case aL => have := LMc15.out; omega); intro v111 w17 ho hb hg hat; rw [← Ny110.out] at ho; have n0_ := Aside0.mk (Kd.R_after (ok := (fun _ => True)) (by (with_reducible repeat (first | apply Kd.R_alloc | apply Kd.R_drewN | apply Kd.R_drew)); exact Kd.R_mono HO109.out (fun _ hk => ⟨trivial, hk⟩)) hg hat); have n1_ := Aside0.mk (hb); have n2_ := Aside0.mk (ho); clear HO109; clear HB; clear HO_11; have HO109 := n0_; have HB := n1_; have HO112 := n2_; clear n0_ n1_ n2_; clear ho hb hg hat))
                              repeat (go_quiet (first | (go_at_call 102; (with_reducible refine (backhaulref02_Div.calls k3 a0 1 t101 t105 t106 _ A13.out).mono ?_); rintro e w' ⟨rfl, ⟨nd, rfl⟩⟩; (try first | exact ⟨rfl, _, World.drewN_drewN _ _ _⟩ | exact ⟨rfl, _, Eq.trans (World.drewN_drewN _ _ _) (congrArg (World.drewN _) (Nat.add_assoc _ _ _))⟩)) | ((with_reducible refine gate_builtin (b := .append) (xs := #[.tmp 65, .tmp 67]) rfl ?_); at_builtin; refine Kd.R_append (Kd.int .i64) (w0 := w) w.heap.size rfl (.tmp 65) (.tmp 67) 22 3 (.int .i64 0) 8 rfl Try.underlying22 info3 rfl (by decide) (by omega) u10 x10_3 t105 [.int .i64 t105] (fun k_ => some k_ ≠ (u11 : Value).ownBlock) (fun _ => False) rfl rfl ?aP (fun _ hk => hk.elim) ?aF ?aO ?aB ?aS ?aL ?_; (case aP => exact rfl); (case aB => exact (by repeat (first | (with_reducible first | exact HB.out | apply below_alloc | apply pw_below_drewN | apply below_drew1) | exact HB.out))); (case aF => exact (fun k_ hk => Kd.fresh' (Kd.R_lt (by (with_reducible repeat (first | apply Kd.R_alloc | apply Kd.R_drewN | apply Kd.R_drew)); exact HO_11.out)) k_ hk)); (case aO => exact (by (with_reducible repeat (first | apply Kd.R_alloc | apply Kd.R_drewN | apply Kd.R_drew)); exact HO_10.out)); (case aS => exact (below_size (by repeat (first | (with_reducible first | exact HB.out | apply below_alloc | apply pw_below_drewN | apply below_drew1) | exact HB.out)))); (case aL => have := LMc14.out; omega); intro v108 w16 ho hb hg hat; rw [← Ny107.out] at ho; have n0_ := Aside0.mk (Kd.R_after (ok := (fun _ => True)) (by (with_reducible repeat (first | apply Kd.R_alloc | apply Kd.R_drewN | apply Kd.R_drew)); exact Kd.R_mono HO_11.out (fun _ hk => ⟨trivial, hk⟩)) hg hat); have n1_ := Aside0.mk (hb); have n2_ := Aside0.mk (ho); clear HO_11; clear HB; clear HO_10; have HO_11 := n0_; have HB := n1_; have HO109 := n2_; clear n0_ n1_ n2_; clear ho hb hg hat) | ((with_reducible refine gate_builtin (b := .append) (xs := #[.tmp 69, .tmp 71]) rfl ?_); at_builtin; refine Kd.R_append (Kd.int .i64) (w0 := w) w.heap.size rfl (.tmp 69) (.tmp 71) 22 3 (.int .i64 0) 8 rfl Try.underlying22 info3 rfl (by decide) (by omega) u11 x11_3 t106 [.int .i64 t106] (fun k_ => some k_ ≠ (v108 : Value).ownBlock) (fun _ => False) rfl rfl ?aP (fun _ hk => hk.elim) ?aF ?aO ?aB ?aS ?aL ?_; (case aP => exact rfl); (case aB => exact (by repeat (first | (with_reducible first | exact HB.out | apply below_alloc | apply pw_below_drewN | apply below_drew1) | exact HB.out))); (case aF => exact (fun k_ hk => Kd.fresh' (Kd.R_lt (by (with_reducible repeat (first | apply Kd.R_alloc | apply Kd.R_drewN | apply Kd.R_drew)); exact HO109.out)) k_ hk)); (case aO => exact (by (with_reducible repeat (first | apply Kd.R_alloc | apply Kd.R_drewN | apply Kd.R_drew)); exact Kd.R_mono HO_11.out (fun _ hk => hk.2))); (case aS => exact (below_size (by repeat (first | (with_reducible first | exact HB.out | apply below_alloc | apply pw_below_drewN | apply below_drew1) | exact HB.out)))); (case aL => have := LMc15.out; omega); intro v111 w17 ho hb hg hat; rw [← Ny110.out] at ho; have n0_ := Aside0.mk (Kd.R_after (ok := (fun _ => True)) (by (with_reducible repeat (first | apply Kd.R_alloc | apply Kd.R_drewN | apply Kd.R_drew)); exact Kd.R_mono HO109.out (fun _ hk => ⟨trivial, hk⟩)) hg hat); have n1_ := Aside0.mk (hb); have n2_ := Aside0.mk (ho); clear HO109; clear HB; clear HO_11; have HO109 := n0_; have HB := n1_; have HO112 := n2_; clear n0_ n1_ n2_; clear ho hb hg hat)); try go_wp2_with (first | (go_at_call 102; (with_reducible refine (backhaulref02_Div.calls k3 a0 1 t101 t105 t106 _ A13.out).mono ?_); rintro e w' ⟨rfl, ⟨nd, rfl⟩⟩; (try first | exact ⟨rfl, _, World.drewN_drewN _ _ _⟩ | exact ⟨rfl, _, Eq.trans (World.drewN_drewN _ _ _) (congrArg (World.drewN _) (Nat.add_assoc _ _ _))⟩)) | ((with_reducible refine gate_builtin (b := .append) (xs := #[.tmp 65, .tmp 67]) rfl ?_); at_builtin; refine Kd.R_append (Kd.int .i64) (w0 := w) w.heap.size rfl (.tmp 65) (.tmp 67) 22 3 (.int .i64 0) 8 rfl Try.underlying22 info3 rfl (by decide) (by omega) u10 x10_3 t105 [.int .i64 t105] (fun k_ => some k_ ≠ (u11 : Value).ownBlock) (fun _ => False) rfl rfl ?aP (fun _ hk => hk.elim) ?aF ?aO ?aB ?aS ?aL ?_; (case aP => exact rfl); (case aB => exact (by repeat (first | (with_reducible first | exact HB.out | apply below_alloc | apply pw_below_drewN | apply below_drew1) | exact HB.out))); (case aF => exact (fun k_ hk => Kd.fresh' (Kd.R_lt (by (with_reducible repeat (first | apply Kd.R_alloc | apply Kd.R_drewN | apply Kd.R_drew)); exact HO_11.out)) k_ hk)); (case aO => exact (by (with_reducible repeat (first | apply Kd.R_alloc | apply Kd.R_drewN | apply Kd.R_drew)); exact HO_10.out)); (case aS => exact (below_size (by repeat (first | (with_reducible first | exact HB.out | apply below_alloc | apply pw_below_drewN | apply below_drew1) | exact HB.out)))); (case aL => have := LMc14.out; omega); intro v108 w16 ho hb hg hat; rw [← Ny107.out] at ho; have n0_ := Aside0.mk (Kd.R_after (ok := (fun _ => True)) (by (with_reducible repeat (first | apply Kd.R_alloc | apply Kd.R_drewN | apply Kd.R_drew)); exact Kd.R_mono HO_11.out (fun _ hk => ⟨trivial, hk⟩)) hg hat); have n1_ := Aside0.mk (hb); have n2_ := Aside0.mk (ho); clear HO_11; clear HB; clear HO_10; have HO_11 := n0_; have HB := n1_; have HO109 := n2_; clear n0_ n1_ n2_; clear ho hb hg hat) | ((with_reducible refine gate_builtin (b := .append) (xs := #[.tmp 69, .tmp 71]) rfl ?_); at_builtin; refine Kd.R_append (Kd.int .i64) (w0 := w) w.heap.size rfl (.tmp 69) (.tmp 71) 22 3 (.int .i64 0) 8 rfl Try.underlying22 info3 rfl (by decide) (by omega) u11 x11_3 t106 [.int .i64 t106] (fun k_ => some k_ ≠ (v108 : Value).ownBlock) (fun _ => False) rfl rfl ?aP (fun _ hk => hk.elim) ?aF ?aO ?aB ?aS ?aL ?_; (case aP => exact rfl); (case aB => exact (by repeat (first | (with_reducible first | exact HB.out | apply below_alloc | apply pw_below_drewN | apply below_drew1) | exact HB.out))); (case aF => exact (fun k_ hk => Kd.fresh' (Kd.R_lt (by (with_reducible repeat (first | apply Kd.R_alloc | apply Kd.R_drewN | apply Kd.R_drew)); exact HO109.out)) k_ hk)); (case aO => exact (by (with_reducible repeat (first | apply Kd.R_alloc | apply Kd.R_drewN | apply Kd.R_drew)); exact Kd.R_mono HO_11.out (fun _ hk => hk.2))); (case aS => exact (below_size (by repeat (first | (with_reducible first | exact HB.out | apply below_alloc | apply pw_below_drewN | apply below_drew1) | exact HB.out)))); (case aL => have := LMc15.out; omega); intro v111 w17 ho hb hg hat; rw [← Ny110.out] at ho; have n0_ := Aside0.mk (Kd.R_after (ok := (fun _ => True)) (by (with_reducible repeat (first | apply Kd.R_alloc | apply Kd.R_drewN | apply Kd.R_drew)); exact Kd.R_mono HO109.out (fun _ hk => ⟨trivial, hk⟩)) hg hat); have n1_ := Aside0.mk (hb); have n2_ := Aside0.mk (ho); clear HO109; clear HB; clear HO_11; have HO109 := n0_; have HB := n1_; have HO112 := n2_; clear n0_ n1_ n2_; clear ho hb hg hat)))
                              go_roundg k3
                              case measure => have := HJ4.out; have := HK2.out; have := HK3.out; omega
                              case rel => exact ⟨(y107), (y110), (wrap64 (x12_3 - t105)), (wrap64 (x13_3 + 1)), (by first | rfl | (simp; done) | (simp [*]; done)), (by first | rfl | (simp; done) | (simp [*]; done)), H', ⟨by have := HJ4.out; have := HK2.out; have := HK3.out; omega⟩, ⟨by (with_reducible repeat (first | apply Kd.R_alloc | apply Kd.R_drewN | apply Kd.R_drew)); exact Kd.R_mono HO109.out (fun _ hk => hk.2)⟩, ⟨by (with_reducible repeat (first | apply Kd.R_alloc | apply Kd.R_drewN | apply Kd.R_drew)); exact HO112.out⟩, ⟨by repeat (first | (with_reducible first | exact HB.out | apply below_alloc | apply pw_below_drewN | apply below_drew1) | exact HB.out)⟩⟩
                            · rw [if_neg c15] at H
                              exact absurd H (by simp)
                          · rw [if_neg c14] at H
                            exact absurd H (by simp)
                        · rw [if_neg c12] at H
                          have c12b0 : (x8_2 == 0) = false := beq_eq_false_iff_ne.mpr c12
                          have c12b1 : (x8_2 != 0) = true := bne_iff_ne.mpr c12
                          replace H := Option.bind_eq_some_iff.mp H
                          obtain ⟨⟨t113, t114⟩, A180, H⟩ := H
                          replace H : (if x10_3.length < 17592186044416 then (if x11_3.length < 17592186044416 then (backhaulref03_Out.l1 k3 a0 l1 t101 x8_2 (x10_3 ++ [t113]) (x11_3 ++ [t114]) (wrap64 (x12_3 - t113)) (wrap64 (x13_3 + 1))) else (none)) else (none)) = some (r1, r2) := H
                          have A18 := Aside0.mk A180
                          clear A180
                          by_cases c19 : x10_3.length < 17592186044416
                          · rw [if_pos c19] at H
                            have LMc19 := Aside0.mk c19
                            clear c19
                            obtain ⟨y115, hy115⟩ : ∃ y_ : List Int, y_ = (x10_3 ++ [t113]) := ⟨_, rfl⟩
                            replace H : (if x11_3.length < 17592186044416 then (backhaulref03_Out.l1 k3 a0 l1 t101 x8_2 y115 (x11_3 ++ [t114]) (wrap64 (x12_3 - t113)) (wrap64 (x13_3 + 1))) else (none)) = some (r1, r2) := by first | (rw [hy115]; with_reducible exact H) | (have H2_ := (Option.bind_some _ _).symm.trans H; rw [hy115]; with_reducible exact H2_) | (have H2_ := (Option.bind_some _ _).symm.trans H; with_reducible exact H2_) | with_reducible exact H | (rw [hy115]; exact H) | exact H
                            have Ny115 := Aside0.mk hy115
                            clear hy115
                            by_cases c20 : x11_3.length < 17592186044416
                            · rw [if_pos c20] at H
                              have LMc20 := Aside0.mk c20
                              clear c20
                              obtain ⟨y118, hy118⟩ : ∃ y_ : List Int, y_ = (x11_3 ++ [t114]) := ⟨_, rfl⟩
                              replace H : (backhaulref03_Out.l1 k3 a0 l1 t101 x8_2 y115 y118 (wrap64 (x12_3 - t113)) (wrap64 (x13_3 + 1))) = some (r1, r2) := by first | (rw [hy118]; with_reducible exact H) | (have H2_ := (Option.bind_some _ _).symm.trans H; rw [hy118]; with_reducible exact H2_) | (have H2_ := (Option.bind_some _ _).symm.trans H; with_reducible exact H2_) | with_reducible exact H | (rw [hy118]; exact H) | exact H
                              have Ny118 := Aside0.mk hy118
                              clear hy118
                              have H' := Aside0.mk H
                              clear H
                              have p104 : 0 ≤ (x13_3 : Int) := of_decide_eq_true (by first | (with_reducible assumption) | assumption)
                              have q104 : x13_3 < (l1.length : Int) := of_decide_eq_true (by first | (with_reducible assumption) | assumption)
                              obtain ⟨ad104, e104, hx104_0⟩ := Kd.at_int HR1.out x13_3 p104 q104
                              cases e104
                              replace hx104_0 := (HB.out.cell (World.block_lt_of_cell? w _ hx104_0)).trans hx104_0
                              replace p104 := eq_true p104
                              replace q104 := eq_true q104
                              go_wp2_with (first | (go_at_call 102; (with_reducible refine (backhaulref02_Div.calls k3 a0 (rd l1 x13_3) t101 t113 t114 _ A18.out).mono ?_); rintro e w' ⟨rfl, ⟨nd, rfl⟩⟩; (try first | exact ⟨rfl, _, World.drewN_drewN _ _ _⟩ | exact ⟨rfl, _, Eq.trans (World.drewN_drewN _ _ _) (congrArg (World.drewN _) (Nat.add_assoc _ _ _))⟩)) | ((with_reducible refine gate_builtin (b := .append) (xs := #[.tmp 65, .tmp 67]) rfl ?_); at_builtin; refine Kd.R_append (Kd.int .i64) (w0 := w) w.heap.size rfl (.tmp 65) (.tmp 67) 22 3 (.int .i64 0) 8 rfl Try.underlying22 info3 rfl (by decide) (by omega) u10 x10_3 t113 [.int .i64 t113] (fun k_ => some k_ ≠ (u11 : Value).ownBlock) (fun _ => False) rfl rfl ?aP (fun _ hk => hk.elim) ?aF ?aO ?aB ?aS ?aL ?_; (case aP => exact rfl); (case aB => exact (by repeat (first | (with_reducible first | exact HB.out | apply below_alloc | apply pw_below_drewN | apply below_drew1) | exact HB.out))); (case aF => exact (fun k_ hk => Kd.fresh' (Kd.R_lt (by (with_reducible repeat (first | apply Kd.R_alloc | apply Kd.R_drewN | apply Kd.R_drew)); exact HO_11.out)) k_ hk)); (case aO => exact (by (with_reducible repeat (first | apply Kd.R_alloc | apply Kd.R_drewN | apply Kd.R_drew)); exact HO_10.out)); (case aS => exact (below_size (by repeat (first | (with_reducible first | exact HB.out | apply below_alloc | apply pw_below_drewN | apply below_drew1) | exact HB.out)))); (case aL => have := LMc19.out; omega); intro v116 w21 ho hb hg hat; rw [← Ny115.out] at ho; have n0_ := Aside0.mk (Kd.R_after (ok := (fun _ => True)) (by (with_reducible repeat (first | apply Kd.R_alloc | apply Kd.R_drewN | apply Kd.R_drew)); exact Kd.R_mono HO_11.out (fun _ hk => ⟨trivial, hk⟩)) hg hat); have n1_ := Aside0.mk (hb); have n2_ := Aside0.mk (ho); clear HO_11; clear HB; clear HO_10; have HO_11 := n0_; have HB := n1_; have HO117 := n2_; clear n0_ n1_ n2_; clear ho hb hg hat) | ((with_reducible refine gate_builtin (b := .append) (xs := #[.tmp 69, .tmp 71]) rfl ?_); at_builtin; refine Kd.R_append (Kd.int .i64) (w0 := w) w.heap.size rfl (.tmp 69) (.tmp 71) 22 3 (.int .i64 0) 8 rfl Try.underlying22 info3 rfl (by decide) (by omega) u11 x11_3 t114 [.int .i64 t114] (fun k_ => some k_ ≠ (v116 : Value).ownBlock) (fun _ => False) rfl rfl ?aP (fun _ hk => hk.elim) ?aF ?aO ?aB ?aS ?aL ?_; (case aP => exact rfl); (case aB => exact (by repeat (first | (with_reducible first | exact HB.out | apply below_alloc | apply pw_below_drewN | apply below_drew1) | exact HB.out))); (case aF => exact (fun k_ hk => Kd.fresh' (Kd.R_lt (by (with_reducible repeat (first | apply Kd.R_alloc | apply Kd.R_drewN | apply Kd.R_drew)); exact HO117.out)) k_ hk)); (case aO => exact (by (with_reducible repeat (first | apply Kd.R_alloc | apply Kd.R_drewN | apply Kd.R_drew)); exact Kd.R_mono HO_11.out (fun _ hk => hk.2))); (case aS => exact (below_size (by repeat (first | (with_reducible first | exact HB.out | apply below_alloc | apply pw_below_drewN | apply below_drew1) | exact HB.out)))); (case aL => have := LMc20.out; omega); intro v119 w22 ho hb hg hat; rw [← Ny118.out] at ho; have n0_ := Aside0.mk (Kd.R_after (ok := (fun _ => True)) (by (with_reducible repeat (first | apply Kd.R_alloc | apply Kd.R_drewN | apply Kd.R_drew)); exact Kd.R_mono HO117.out (fun _ hk => ⟨trivial, hk⟩)) hg hat); have n1_ := Aside0.mk (hb); have n2_ := Aside0.mk (ho); clear HO117; clear HB; clear HO_11; have HO117 := n0_; have HB := n1_; have HO120 := n2_; clear n0_ n1_ n2_; clear ho hb hg hat))
                              repeat (go_quiet (first | (go_at_call 102; (with_reducible refine (backhaulref02_Div.calls k3 a0 (rd l1 x13_3) t101 t113 t114 _ A18.out).mono ?_); rintro e w' ⟨rfl, ⟨nd, rfl⟩⟩; (try first | exact ⟨rfl, _, World.drewN_drewN _ _ _⟩ | exact ⟨rfl, _, Eq.trans (World.drewN_drewN _ _ _) (congrArg (World.drewN _) (Nat.add_assoc _ _ _))⟩)) | ((with_reducible refine gate_builtin (b := .append) (xs := #[.tmp 65, .tmp 67]) rfl ?_); at_builtin; refine Kd.R_append (Kd.int .i64) (w0 := w) w.heap.size rfl (.tmp 65) (.tmp 67) 22 3 (.int .i64 0) 8 rfl Try.underlying22 info3 rfl (by decide) (by omega) u10 x10_3 t113 [.int .i64 t113] (fun k_ => some k_ ≠ (u11 : Value).ownBlock) (fun _ => False) rfl rfl ?aP (fun _ hk => hk.elim) ?aF ?aO ?aB ?aS ?aL ?_; (case aP => exact rfl); (case aB => exact (by repeat (first | (with_reducible first | exact HB.out | apply below_alloc | apply pw_below_drewN | apply below_drew1) | exact HB.out))); (case aF => exact (fun k_ hk => Kd.fresh' (Kd.R_lt (by (with_reducible repeat (first | apply Kd.R_alloc | apply Kd.R_drewN | apply Kd.R_drew)); exact HO_11.out)) k_ hk)); (case aO => exact (by (with_reducible repeat (first | apply Kd.R_alloc | apply Kd.R_drewN | apply Kd.R_drew)); exact HO_10.out)); (case aS => exact (below_size (by repeat (first | (with_reducible first | exact HB.out | apply below_alloc | apply pw_below_drewN | apply below_drew1) | exact HB.out)))); (case aL => have := LMc19.out; omega); intro v116 w21 ho hb hg hat; rw [← Ny115.out] at ho; have n0_ := Aside0.mk (Kd.R_after (ok := (fun _ => True)) (by (with_reducible repeat (first | apply Kd.R_alloc | apply Kd.R_drewN | apply Kd.R_drew)); exact Kd.R_mono HO_11.out (fun _ hk => ⟨trivial, hk⟩)) hg hat); have n1_ := Aside0.mk (hb); have n2_ := Aside0.mk (ho); clear HO_11; clear HB; clear HO_10; have HO_11 := n0_; have HB := n1_; have HO117 := n2_; clear n0_ n1_ n2_; clear ho hb hg hat) | ((with_reducible refine gate_builtin (b := .append) (xs := #[.tmp 69, .tmp 71]) rfl ?_); at_builtin; refine Kd.R_append (Kd.int .i64) (w0 := w) w.heap.size rfl (.tmp 69) (.tmp 71) 22 3 (.int .i64 0) 8 rfl Try.underlying22 info3 rfl (by decide) (by omega) u11 x11_3 t114 [.int .i64 t114] (fun k_ => some k_ ≠ (v116 : Value).ownBlock) (fun _ => False) rfl rfl ?aP (fun _ hk => hk.elim) ?aF ?aO ?aB ?aS ?aL ?_; (case aP => exact rfl); (case aB => exact (by repeat (first | (with_reducible first | exact HB.out | apply below_alloc | apply pw_below_drewN | apply below_drew1) | exact HB.out))); (case aF => exact (fun k_ hk => Kd.fresh' (Kd.R_lt (by (with_reducible repeat (first | apply Kd.R_alloc | apply Kd.R_drewN | apply Kd.R_drew)); exact HO117.out)) k_ hk)); (case aO => exact (by (with_reducible repeat (first | apply Kd.R_alloc | apply Kd.R_drewN | apply Kd.R_drew)); exact Kd.R_mono HO_11.out (fun _ hk => hk.2))); (case aS => exact (below_size (by repeat (first | (with_reducible first | exact HB.out | apply below_alloc | apply pw_below_drewN | apply below_drew1) | exact HB.out)))); (case aL => have := LMc20.out; omega); intro v119 w22 ho hb hg hat; rw [← Ny118.out] at ho; have n0_ := Aside0.mk (Kd.R_after (ok := (fun _ => True)) (by (with_reducible repeat (first | apply Kd.R_alloc | apply Kd.R_drewN | apply Kd.R_drew)); exact Kd.R_mono HO117.out (fun _ hk => ⟨trivial, hk⟩)) hg hat); have n1_ := Aside0.mk (hb); have n2_ := Aside0.mk (ho); clear HO117; clear HB; clear HO_11; have HO117 := n0_; have HB := n1_; have HO120 := n2_; clear n0_ n1_ n2_; clear ho hb hg hat)); try go_wp2_with (first | (go_at_call 102; (with_reducible refine (backhaulref02_Div.calls k3 a0 (rd l1 x13_3) t101 t113 t114 _ A18.out).mono ?_); rintro e w' ⟨rfl, ⟨nd, rfl⟩⟩; (try first | exact ⟨rfl, _, World.drewN_drewN _ _ _⟩ | exact ⟨rfl, _, Eq.trans (World.drewN_drewN _ _ _) (congrArg (World.drewN _) (Nat.add_assoc _ _ _))⟩)) | ((with_reducible refine gate_builtin (b := .append) (xs := #[.tmp 65, .tmp 67]) rfl ?_); at_builtin; refine Kd.R_append (Kd.int .i64) (w0 := w) w.heap.size rfl (.tmp 65) (.tmp 67) 22 3 (.int .i64 0) 8 rfl Try.underlying22 info3 rfl (by decide) (by omega) u10 x10_3 t113 [.int .i64 t113] (fun k_ => some k_ ≠ (u11 : Value).ownBlock) (fun _ => False) rfl rfl ?aP (fun _ hk => hk.elim) ?aF ?aO ?aB ?aS ?aL ?_; (case aP => exact rfl); (case aB => exact (by repeat (first | (with_reducible first | exact HB.out | apply below_alloc | apply pw_below_drewN | apply below_drew1) | exact HB.out))); (case aF => exact (fun k_ hk => Kd.fresh' (Kd.R_lt (by (with_reducible repeat (first | apply Kd.R_alloc | apply Kd.R_drewN | apply Kd.R_drew)); exact HO_11.out)) k_ hk)); (case aO => exact (by (with_reducible repeat (first | apply Kd.R_alloc | apply Kd.R_drewN | apply Kd.R_drew)); exact HO_10.out)); (case aS => exact (below_size (by repeat (first | (with_reducible first | exact HB.out | apply below_alloc | apply pw_below_drewN | apply below_drew1) | exact HB.out)))); (case aL => have := LMc19.out; omega); intro v116 w21 ho hb hg hat; rw [← Ny115.out] at ho; have n0_ := Aside0.mk (Kd.R_after (ok := (fun _ => True)) (by (with_reducible repeat (first | apply Kd.R_alloc | apply Kd.R_drewN | apply Kd.R_drew)); exact Kd.R_mono HO_11.out (fun _ hk => ⟨trivial, hk⟩)) hg hat); have n1_ := Aside0.mk (hb); have n2_ := Aside0.mk (ho); clear HO_11; clear HB; clear HO_10; have HO_11 := n0_; have HB := n1_; have HO117 := n2_; clear n0_ n1_ n2_; clear ho hb hg hat) | ((with_reducible refine gate_builtin (b := .append) (xs := #[.tmp 69, .tmp 71]) rfl ?_); at_builtin; refine Kd.R_append (Kd.int .i64) (w0 := w) w.heap.size rfl (.tmp 69) (.tmp 71) 22 3 (.int .i64 0) 8 rfl Try.underlying22 info3 rfl (by decide) (by omega) u11 x11_3 t114 [.int .i64 t114] (fun k_ => some k_ ≠ (v116 : Value).ownBlock) (fun _ => False) rfl rfl ?aP (fun _ hk => hk.elim) ?aF ?aO ?aB ?aS ?aL ?_; (case aP => exact rfl); (case aB => exact (by repeat (first | (with_reducible first | exact HB.out | apply below_alloc | apply pw_below_drewN | apply below_drew1) | exact HB.out))); (case aF => exact (fun k_ hk => Kd.fresh' (Kd.R_lt (by (with_reducible repeat (first | apply Kd.R_alloc | apply Kd.R_drewN | apply Kd.R_drew)); exact HO117.out)) k_ hk)); (case aO => exact (by (with_reducible repeat (first | apply Kd.R_alloc | apply Kd.R_drewN | apply Kd.R_drew)); exact Kd.R_mono HO_11.out (fun _ hk => hk.2))); (case aS => exact (below_size (by repeat (first | (with_reducible first | exact HB.out | apply below_alloc | apply pw_below_drewN | apply below_drew1) | exact HB.out)))); (case aL => have := LMc20.out; omega); intro v119 w22 ho hb hg hat; rw [← Ny118.out] at ho; have n0_ := Aside0.mk (Kd.R_after (ok := (fun _ => True)) (by (with_reducible repeat (first | apply Kd.R_alloc | apply Kd.R_drewN | apply Kd.R_drew)); exact Kd.R_mono HO117.out (fun _ hk => ⟨trivial, hk⟩)) hg hat); have n1_ := Aside0.mk (hb); have n2_ := Aside0.mk (ho); clear HO117; clear HB; clear HO_11; have HO117 := n0_; have HB := n1_; have HO120 := n2_; clear n0_ n1_ n2_; clear ho hb hg hat)))
                              go_roundg k3
                              case measure => have := HJ4.out; have := HK2.out; have := HK3.out; omega
                              case rel => exact ⟨(y115), (y118), (wrap64 (x12_3 - t113)), (wrap64 (x13_3 + 1)), (by first | rfl | (simp; done) | (simp [*]; done)), (by first | rfl | (simp; done) | (simp [*]; done)), H', ⟨by have := HJ4.out; have := HK2.out; have := HK3.out; omega⟩, ⟨by (with_reducible repeat (first | apply Kd.R_alloc | apply Kd.R_drewN | apply Kd.R_drew)); exact Kd.R_mono HO117.out (fun _ hk => hk.2)⟩, ⟨by (with_reducible repeat (first | apply Kd.R_alloc | apply Kd.R_drewN | apply Kd.R_drew)); exact HO120.out⟩, ⟨by repeat (first | (with_reducible first | exact HB.out | apply below_alloc | apply pw_below_drewN | apply below_drew1) | exact HB.out)⟩⟩
                            · rw [if_neg c20] at H
                              exact absurd H (by simp)
                          · rw [if_neg c19] at H
                            exact absurd H (by simp)
                      · rw [if_neg c11] at H
                        exact absurd H (by simp)
                    · rw [if_neg c10] at H
                      have c10b0 : decide (x13_3 < (l1.length : Int)) = false := decide_eq_false c10
                      clear c10
                      have H' := Aside0.mk H
                      clear H
                      go_wp2
                      repeat (go_quiet (fail); try go_wp2)
                      go_loopg [12] k3 (fun kq v12 w' => ∃ (x10_4 : List Int) (x11_4 : List Int) (x12_4 : Int), v12 = .int .i64 x12_4 ∧ Aside0 (backhaulref03_Out.l2 kq l1 x10_4 x11_4 x12_4 = some (r1, r2)) ∧ Aside0 (kq ≤ k3) ∧ Aside0 (Kd.R (Kd.int .i64) 3 w' w.heap.size (fun k_ => some k_ ≠ (u11 : Value).ownBlock) u10 x10_4) ∧ Aside0 (Kd.R (Kd.int .i64) 3 w' w.heap.size (fun k_ => some k_ ≠ (u10 : Value).ownBlock) u11 x11_4) ∧ Aside0 (Below w.heap.size w w'))
                      case atStart => exact ⟨(x10_3), (x11_3), (x12_3), (by first | rfl | (simp; done) | (simp [*]; done)), H', ⟨Nat.le_refl _⟩, ⟨by (with_reducible repeat (first | apply Kd.R_alloc | apply Kd.R_drewN | apply Kd.R_drew)); exact HO_10.out⟩, ⟨by (with_reducible repeat (first | apply Kd.R_alloc | apply Kd.R_drewN | apply Kd.R_drew)); exact HO_11.out⟩, ⟨by repeat (first | (with_reducible first | exact HB.out | apply below_alloc | apply pw_below_drewN | apply below_drew1) | exact HB.out)⟩⟩
                      case round =>
                        clear H'
                        try clear c1
                        try clear p1
                        try clear q1
                        try clear hx1
                        try clear c2
                        try clear p2
                        try clear c4
                        try clear c4b0
                        try clear c4b1
                        try clear c5
                        try clear c6
                        try clear c6b0
                        try clear p6
                        try clear c7
                        try clear c8
                        try clear c8b0
                        try clear c9
                        try clear c9b0
                        try clear c10
                        try clear c10b0
                        try clear p10
                        try clear q10
                        try clear hx10
                        try clear c11
                        try clear c11b0
                        try clear c12
                        try clear c12b0
                        try clear c12b1
                        try clear c14
                        try clear c15
                        try clear c19
                        try clear c20
                        try clear hx103_0
                        try clear hx104_0
                        try clear p1
                        try clear p103
                        try clear p104
                        try clear p2
                        try clear p6
                        try clear q1
                        try clear q103
                        try clear q104
                        obtain ⟨x10_4, x11_4, x12_4, rfl, HA, HK4, HO_10, HO_11, HB⟩ := hrel
                        cases gk with
                        | zero => exact absurd HA.out (by simp [backhaulref03_Out.l2])
                        | succ k4 =>
                          have H := HA.out
                          clear HA
                          simp only [backhaulref03_Out.l2] at H
                          by_cases c23 : x12_4 > 0
                          · rw [if_pos c23] at H
                            have c23b0 : decide (0 < x12_4) = true := decide_eq_true c23
                            clear c23
                            have H' := Aside0.mk H
                            clear H
                            go_wp2
                            repeat (go_quiet (fail); try go_wp2)
                            go_loopg [17, 18] k4 (fun kq v17 v18 w' => ∃ (x17_5 : Int) (x18_5 : Int), v17 = .int .i64 x17_5 ∧ v18 = .int .i64 x18_5 ∧ Aside0 (backhaulref03_Out.l3 kq l1 x10_4 x11_4 x12_4 x17_5 x18_5 = some (r1, r2)) ∧ Aside0 (kq ≤ k4) ∧ Aside0 (Kd.R (Kd.int .i64) 3 w' w.heap.size (fun k_ => some k_ ≠ (u11 : Value).ownBlock) u10 x10_4) ∧ Aside0 (Kd.R (Kd.int .i64) 3 w' w.heap.size (fun k_ => some k_ ≠ (u10 : Value).ownBlock) u11 x11_4) ∧ Aside0 (Below w.heap.size w w'))
                            case atStart => exact ⟨(0), (0), (by first | rfl | (simp; done) | (simp [*]; done)), (by first | rfl | (simp; done) | (simp [*]; done)), H', ⟨Nat.le_refl _⟩, ⟨by (with_reducible repeat (first | apply Kd.R_alloc | apply Kd.R_drewN | apply Kd.R_drew)); exact HO_10.out⟩, ⟨by (with_reducible repeat (first | apply Kd.R_alloc | apply Kd.R_drewN | apply Kd.R_drew)); exact HO_11.out⟩, ⟨by repeat (first | (with_reducible first | exact HB.out | apply below_alloc | apply pw_below_drewN | apply below_drew1) | exact HB.out)⟩⟩
                            case round =>
                              clear H'
                              try clear c1
                              try clear p1
                              try clear q1
                              try clear hx1
                              try clear c2
                              try clear p2
                              try clear c4
                              try clear c4b0
                              try clear c4b1
                              try clear c5
                              try clear c6
                              try clear c6b0
                              try clear p6
                              try clear c7
                              try clear c8
                              try clear c8b0
                              try clear c9
                              try clear c9b0
                              try clear c10
                              try clear c10b0
                              try clear p10
                              try clear q10
                              try clear hx10
                              try clear c11
                              try clear c11b0
                              try clear c12
                              try clear c12b0
                              try clear c12b1
                              try clear c14
                              try clear c15
                              try clear c19
                              try clear c20
                              try clear c23
                              try clear c23b0
                              try clear hx103_0
                              try clear hx104_0
                              try clear p1
                              try clear p10
                              try clear p103
                              try clear p104
                              try clear p2
                              try clear p6
                              try clear q1
                              try clear q10
                              try clear q103
                              try clear q104
                              obtain ⟨x17_5, x18_5, rfl, rfl, HA, HK5, HO_10, HO_11, HB⟩ := hrel
                              cases gk with
                              | zero => exact absurd HA.out (by simp [backhaulref03_Out.l3])
                              | succ k5 =>
                                have H := HA.out
                                clear HA
                                simp only [backhaulref03_Out.l3] at H
                                by_cases c24 : x18_5 < (l1.length : Int)
                                · rw [if_pos c24] at H
                                  have c24b0 : decide (x18_5 < (l1.length : Int)) = true := decide_eq_true c24
                                  clear c24
                                  by_cases c25 : 0 ≤ x18_5
                                  · rw [if_pos c25] at H
                                    have c25b0 : decide (0 ≤ x18_5) = true := decide_eq_true c25
                                    clear c25
                                    by_cases c26 : x18_5 < (x11_4.length : Int)
                                    · rw [if_pos c26] at H
                                      have c26b0 : decide (x18_5 < (x11_4.length : Int)) = true := decide_eq_true c26
                                      clear c26
                                      by_cases c27 : 0 ≤ x17_5
                                      · rw [if_pos c27] at H
                                        have c27b0 : decide (0 ≤ x17_5) = true := decide_eq_true c27
                                        clear c27
                                        by_cases c28 : x17_5 < (x11_4.length : Int)
                                        · rw [if_pos c28] at H
                                          have c28b0 : decide (x17_5 < (x11_4.length : Int)) = true := decide_eq_true c28
                                          clear c28
                                          by_cases c29 : (rd x11_4 x18_5) > (rd x11_4 x17_5)
                                          · rw [if_pos c29] at H
                                            have c29b0 : decide ((rd x11_4 x17_5) < (rd x11_4 x18_5)) = true := decide_eq_true c29
                                            clear c29
                                            have H' := Aside0.mk H
                                            clear H
                                            obtain ⟨Ao30, co30, eo30⟩ := Kd.R_slice HO_11.out
                                            subst eo30
                                            have p121 : 0 ≤ (x18_5 : Int) := of_decide_eq_true (by first | (with_reducible assumption) | assumption)
                                            have q121 : x18_5 < (x11_4.length : Int) := of_decide_eq_true (by first | (with_reducible assumption) | assumption)
                                            obtain ⟨ad121, e121, hx121_0⟩ := Kd.at_int (Kd.R_reads' HO_11.out).2.2 x18_5 p121 q121
                                            cases e121
                                            replace p121 := eq_true p121
                                            replace q121 := eq_true q121
                                            have p122 : 0 ≤ (x17_5 : Int) := of_decide_eq_true (by first | (with_reducible assumption) | assumption)
                                            have q122 : x17_5 < (x11_4.length : Int) := of_decide_eq_true (by first | (with_reducible assumption) | assumption)
                                            obtain ⟨ad122, e122, hx122_0⟩ := Kd.at_int (Kd.R_reads' HO_11.out).2.2 x17_5 p122 q122
                                            obtain rfl : ad121 = ad122 := (by injection e122)
                                            replace p122 := eq_true p122
                                            replace q122 := eq_true q122
                                            go_wp2
                                            repeat (go_quiet (fail); try go_wp2)
                                            go_roundg k5
                                            case measure => have := HJ4.out; have := HK2.out; have := HK3.out; have := HK4.out; have := HK5.out; omega
                                            case rel => exact ⟨(x18_5), (wrap64 (x18_5 + 1)), (by first | rfl | (simp; done) | (simp [*]; done)), (by first | rfl | (simp; done) | (simp [*]; done)), H', ⟨by have := HJ4.out; have := HK2.out; have := HK3.out; have := HK4.out; have := HK5.out; omega⟩, ⟨by (with_reducible repeat (first | apply Kd.R_alloc | apply Kd.R_drewN | apply Kd.R_drew)); exact HO_10.out⟩, ⟨by (with_reducible repeat (first | apply Kd.R_alloc | apply Kd.R_drewN | apply Kd.R_drew)); exact HO_11.out⟩, ⟨by repeat (first | (with_reducible first | exact HB.out | apply below_alloc | apply pw_below_drewN | apply below_drew1) | exact HB.out)⟩⟩
                                          · rw [if_neg c29] at H
                                            have c29b0 : decide ((rd x11_4 x17_5) < (rd x11_4 x18_5)) = false := decide_eq_false c29
                                            clear c29
                                            have H' := Aside0.mk H
                                            clear H
                                            obtain ⟨Ao31, co31, eo31⟩ := Kd.R_slice HO_11.out
                                            subst eo31
                                            have p121 : 0 ≤ (x18_5 : Int) := of_decide_eq_true (by first | (with_reducible assumption) | assumption)
                                            have q121 : x18_5 < (x11_4.length : Int) := of_decide_eq_true (by first | (with_reducible assumption) | assumption)
                                            obtain ⟨ad121, e121, hx121_0⟩ := Kd.at_int (Kd.R_reads' HO_11.out).2.2 x18_5 p121 q121
                                            cases e121
                                            replace p121 := eq_true p121
                                            replace q121 := eq_true q121
                                            have p122 : 0 ≤ (x17_5 : Int) := of_decide_eq_true (by first | (with_reducible assumption) | assumption)
                                            have q122 : x17_5 < (x11_4.length : Int) := of_decide_eq_true (by first | (with_reducible assumption) | assumption)
                                            obtain ⟨ad122, e122, hx122_0⟩ := Kd.at_int (Kd.R_reads' HO_11.out).2.2 x17_5 p122 q122
                                            obtain rfl : ad121 = ad122 := (by injection e122)
                                            replace p122 := eq_true p122
                                            replace q122 := eq_true q122
                                            go_wp2
                                            repeat (go_quiet (fail); try go_wp2)
                                            go_roundg k5
                                            case measure => have := HJ4.out; have := HK2.out; have := HK3.out; have := HK4.out; have := HK5.out; omega
                                            case rel => exact ⟨(x17_5), (wrap64 (x18_5 + 1)), (by first | rfl | (simp; done) | (simp [*]; done)), (by first | rfl | (simp; done) | (simp [*]; done)), H', ⟨by have := HJ4.out; have := HK2.out; have := HK3.out; have := HK4.out; have := HK5.out; omega⟩, ⟨by (with_reducible repeat (first | apply Kd.R_alloc | apply Kd.R_drewN | apply Kd.R_drew)); exact HO_10.out⟩, ⟨by (with_reducible repeat (first | apply Kd.R_alloc | apply Kd.R_drewN | apply Kd.R_drew)); exact HO_11.out⟩, ⟨by repeat (first | (with_reducible first | exact HB.out | apply below_alloc | apply pw_below_drewN | apply below_drew1) | exact HB.out)⟩⟩
                                        · rw [if_neg c28] at H
                                          exact absurd H (by simp)
                                      · rw [if_neg c27] at H
                                        exact absurd H (by simp)
                                    · rw [if_neg c26] at H
                                      exact absurd H (by simp)
                                  · rw [if_neg c25] at H
                                    exact absurd H (by simp)
                                · rw [if_neg c24] at H
                                  have c24b0 : decide (x18_5 < (l1.length : Int)) = false := decide_eq_false c24
                                  clear c24
                                  by_cases c32 : 0 ≤ x17_5
                                  · rw [if_pos c32] at H
                                    have c32b0 : decide (0 ≤ x17_5) = true := decide_eq_true c32
                                    clear c32
                                    by_cases c33 : x17_5 < (x10_4.length : Int)
                                    · rw [if_pos c33] at H
                                      have c33b0 : decide (x17_5 < (x10_4.length : Int)) = true := decide_eq_true c33
                                      clear c33
                                      obtain ⟨y124, hy124⟩ : ∃ y_ : List Int, y_ = (x10_4.set (x17_5 : Int).toNat (wrap64 ((rd x10_4 x17_5) + 1))) := ⟨_, rfl⟩
                                      replace H : (if x17_5 < (x11_4.length : Int) then (backhaulref03_Out.l2 k5 l1 y124 (x11_4.set (x17_5 : Int).toNat (-1)) (wrap64 (x12_4 - 1))) else (none)) = some (r1, r2) := by first | (rw [hy124]; with_reducible exact H) | (have H2_ := (Option.bind_some _ _).symm.trans H; rw [hy124]; with_reducible exact H2_) | (have H2_ := (Option.bind_some _ _).symm.trans H; with_reducible exact H2_) | with_reducible exact H | (rw [hy124]; exact H) | exact H
                                      have Ny124 := Aside0.mk hy124
                                      clear hy124
                                      by_cases c35 : x17_5 < (x11_4.length : Int)
                                      · rw [if_pos c35] at H
                                        have c35b0 : decide (x17_5 < (x11_4.length : Int)) = true := decide_eq_true c35
                                        clear c35
                                        obtain ⟨y125, hy125⟩ : ∃ y_ : List Int, y_ = (x11_4.set (x17_5 : Int).toNat (-1)) := ⟨_, rfl⟩
                                        replace H : (backhaulref03_Out.l2 k5 l1 y124 y125 (wrap64 (x12_4 - 1))) = some (r1, r2) := by first | (rw [hy125]; with_reducible exact H) | (have H2_ := (Option.bind_some _ _).symm.trans H; rw [hy125]; with_reducible exact H2_) | (have H2_ := (Option.bind_some _ _).symm.trans H; with_reducible exact H2_) | with_reducible exact H | (rw [hy125]; exact H) | exact H
                                        have Ny125 := Aside0.mk hy125
                                        clear hy125
                                        have H' := Aside0.mk H
                                        clear H
                                        obtain ⟨Ao37, co37, eo37⟩ := Kd.R_slice HO_10.out
                                        subst eo37
                                        have p123 : 0 ≤ (x17_5 : Int) := of_decide_eq_true (by first | (with_reducible assumption) | assumption)
                                        have q123 : x17_5 < (x10_4.length : Int) := of_decide_eq_true (by first | (with_reducible assumption) | assumption)
                                        obtain ⟨ad123, e123, hx123_0⟩ := Kd.at_int (Kd.R_reads' HO_10.out).2.2 x17_5 p123 q123
                                        cases e123
                                        replace p123 := eq_true p123
                                        replace q123 := eq_true q123
                                        have p34 : 0 ≤ (x17_5 : Int) := of_decide_eq_true (by first | (with_reducible assumption) | assumption)
                                        have q34 : (x17_5 : Int) < ((x10_4.length : Int) : Int) := of_decide_eq_true (by first | (with_reducible assumption) | assumption)
                                        obtain ⟨go34, co34, eo34, gb34, gl34, cl34, HG34⟩ := Kd.R_form HO_10.out (by omega)
                                        (first | cases eo34 | (injection eo34 with ea_ en_ ec_; (first | subst ea_ | (injection ea_ with ea_; subst ea_)); subst ec_; clear en_))
                                        have GB34 := Aside0.mk gb34
                                        have GG34 := Aside0.mk HG34
                                        clear gb34 gl34 HG34
                                        (first | simp only [add_plain] at hx123_0 | skip)
                                        obtain ⟨hx34_0, hf34_0⟩ := Kd.R_celln 0 HO_10.out (x17_5 : Int) p34 q34
                                        replace p34 := eq_true p34
                                        replace q34 := eq_true q34
                                        have HP38 := Kd.R_putg HO_10.out (x17_5 : Int) (wrap64 ((rd x10_4 x17_5) + 1))
                                        go_wp2_with (first | ((with_reducible refine gate_store (t := 3) (p := 103) rfl ?_); (try (rw [drewN_self wr]; generalize hq_ : World.drewN wr _ = wr; have n0_ := Aside0.mk (Kd.R_at hq_ HO_10.out); have n1_ := Aside0.mk (Kd.R_at hq_ HO_11.out); have n2_ := Aside0.mk (below_at hq_ HB.out); clear hq_ HO_10 HO_11 HB; have HO_10 := n0_; have HO_11 := n1_; have HB := n2_; clear n0_ n1_ n2_; (try (have HP38 := Kd.R_putg HO_10.out (x17_5 : Int) (wrap64 ((rd x10_4 x17_5) + 1)))))); refine store_event (t := 3) (p := 103) (v := ?vo_w39) (w1 := (wr.setCell ⟨go34, (x17_5 : Int).toNat, none⟩ (.int .i64 (wrap64 ((rd x10_4 x17_5) + 1))))) ?hg ?ho ?hn ?hr ?_; (case ho => rfl); (case hg => rfl); (case hn => rfl); (case hr => first | (go_simp; done) | (go_simp; rfl)); intro w39 hw; have hg : wr.grownBy w39 (some go34) := (by rw [hw]; exact HP38.2); have hp_ : Kd.R (Kd.int .i64) 3 w39 w.heap.size (fun k_ => some k_ ≠ (u11 : Value).ownBlock) (.slice (some ⟨go34, 0, none⟩) x10_4.length co37) y124 := (by rw [hw, Ny124.out]; exact HP38.1); clear HP38; have n0_ := Aside0.mk (hp_); have n1_ := Aside0.mk (Kd.R_after (v := (.slice (some ⟨go34, 0, none⟩) x10_4.length co37)) (v1 := (.slice (some ⟨go34, 0, none⟩) x10_4.length co37)) (ok := (fun _ => True)) (by (with_reducible repeat (first | apply Kd.R_alloc | apply Kd.R_drewN | apply Kd.R_drew)); exact Kd.R_mono HO_11.out (fun _ hk => ⟨trivial, hk⟩)) hg (.inl rfl)); have n2_ := Aside0.mk ((by rw [hw]; exact below_set (HB.out) GB34.out : Below w.heap.size w w39)); clear HO_10; clear HO_11; clear HB; have HO_10 := n0_; have HO_11 := n1_; have HB := n2_; clear n0_ n1_ n2_; clear hg hw hp_; have p36 : 0 ≤ (x17_5 : Int) := of_decide_eq_true (by first | (with_reducible assumption) | assumption); have q36 : (x17_5 : Int) < ((x11_4.length : Int) : Int) := of_decide_eq_true (by first | (with_reducible assumption) | assumption); obtain ⟨go36, co36, eo36, gb36, gl36, cl36, HG36⟩ := Kd.R_form HO_11.out (by omega); (first | cases eo36 | (injection eo36 with ea_ en_ ec_; (first | subst ea_ | (injection ea_ with ea_; subst ea_)); subst ec_; clear en_)); have GB36 := Aside0.mk gb36; have GG36 := Aside0.mk HG36; clear gb36 gl36 HG36; obtain ⟨hx36_0, hf36_0⟩ := Kd.R_celln 0 HO_11.out (x17_5 : Int) p36 q36; replace p36 := eq_true p36; replace q36 := eq_true q36; have n_ := Aside0.mk (Kd.R_mono (ok' := (fun k_ => some k_ ≠ (.slice (some ⟨go34, 0, none⟩) x10_4.length co37 : Value).ownBlock)) HO_11.out (fun k_ hk => hk.2)); clear HO_11; have HO_11 := n_; clear n_; obtain ⟨hy40_, hz40_⟩ := Kd.R_celln 0 HO_11.out (x17_5 : Int) (of_decide_eq_true (by first | (with_reducible assumption) | assumption)) (of_decide_eq_true (by first | (with_reducible assumption) | assumption)); have HP40 := Kd.R_putg HO_11.out (x17_5 : Int) (-1)) | ((with_reducible refine gate_store (t := 3) (p := 106) rfl ?_); (try (rw [drewN_self w39]; generalize hq_ : World.drewN w39 _ = w39; have n0_ := Aside0.mk (Kd.R_at hq_ HO_10.out); have n1_ := Aside0.mk (Kd.R_at hq_ HO_11.out); have n2_ := Aside0.mk (below_at hq_ HB.out); clear hq_ HO_10 HO_11 HB; have HO_10 := n0_; have HO_11 := n1_; have HB := n2_; clear n0_ n1_ n2_; (try (have n_ := Aside0.mk (Kd.R_mono (ok' := (fun k_ => some k_ ≠ (.slice (some ⟨go34, 0, none⟩) x10_4.length co37 : Value).ownBlock)) HO_11.out (fun k_ hk => hk.2)); clear HO_11; have HO_11 := n_; clear n_)); (try (obtain ⟨hy40_, hz40_⟩ := Kd.R_celln 0 HO_11.out (x17_5 : Int) (of_decide_eq_true (by first | (with_reducible assumption) | assumption)) (of_decide_eq_true (by first | (with_reducible assumption) | assumption)))); (try (have HP40 := Kd.R_putg HO_11.out (x17_5 : Int) (-1))))); refine store_event (t := 3) (p := 106) (v := ?vo_w41) (w1 := (w39.setCell ⟨go36, (x17_5 : Int).toNat, none⟩ (.int .i64 (-1)))) ?hg ?ho ?hn ?hr ?_; (case ho => rfl); (case hg => rfl); (case hn => rfl); (case hr => first | (go_simp; done) | (go_simp; rfl)); intro w41 hw; have hg : w39.grownBy w41 (some go36) := (by rw [hw]; exact HP40.2); have hp_ : Kd.R (Kd.int .i64) 3 w41 w.heap.size (fun k_ => some k_ ≠ (.slice (some ⟨go34, 0, none⟩) x10_4.length co37 : Value).ownBlock) (.slice (some ⟨go36, 0, none⟩) x11_4.length co36) y125 := (by rw [hw, Ny125.out]; exact HP40.1); clear HP40; have n0_ := Aside0.mk (Kd.R_after (v := (.slice (some ⟨go36, 0, none⟩) x11_4.length co36)) (v1 := (.slice (some ⟨go36, 0, none⟩) x11_4.length co36)) (ok := (fun _ => True)) (by (with_reducible repeat (first | apply Kd.R_alloc | apply Kd.R_drewN | apply Kd.R_drew)); exact Kd.R_mono HO_10.out (fun _ hk => ⟨trivial, hk⟩)) hg (.inl rfl)); have n1_ := Aside0.mk (hp_); have n2_ := Aside0.mk ((by rw [hw]; exact below_set (HB.out) GB36.out : Below w.heap.size w w41)); clear HO_10; clear HO_11; clear HB; have HO_10 := n0_; have HO_11 := n1_; have HB := n2_; clear n0_ n1_ n2_; clear hg hw hp_))
                                        repeat (go_quiet (first | ((with_reducible refine gate_store (t := 3) (p := 103) rfl ?_); (try (rw [drewN_self wr]; generalize hq_ : World.drewN wr _ = wr; have n0_ := Aside0.mk (Kd.R_at hq_ HO_10.out); have n1_ := Aside0.mk (Kd.R_at hq_ HO_11.out); have n2_ := Aside0.mk (below_at hq_ HB.out); clear hq_ HO_10 HO_11 HB; have HO_10 := n0_; have HO_11 := n1_; have HB := n2_; clear n0_ n1_ n2_; (try (have HP38 := Kd.R_putg HO_10.out (x17_5 : Int) (wrap64 ((rd x10_4 x17_5) + 1)))))); refine store_event (t := 3) (p := 103) (v := ?vo_w39) (w1 := (wr.setCell ⟨go34, (x17_5 : Int).toNat, none⟩ (.int .i64 (wrap64 ((rd x10_4 x17_5) + 1))))) ?hg ?ho ?hn ?hr ?_; (case ho => rfl); (case hg => rfl); (case hn => rfl); (case hr => first | (go_simp; done) | (go_simp; rfl)); intro w39 hw; have hg : wr.grownBy w39 (some go34) := (by rw [hw]; exact HP38.2); have hp_ : Kd.R (Kd.int .i64) 3 w39 w.heap.size (fun k_ => some k_ ≠ (u11 : Value).ownBlock) (.slice (some ⟨go34, 0, none⟩) x10_4.length co37) y124 := (by rw [hw, Ny124.out]; exact HP38.1); clear HP38; have n0_ := Aside0.mk (hp_); have n1_ := Aside0.mk (Kd.R_after (v := (.slice (some ⟨go34, 0, none⟩) x10_4.length co37)) (v1 := (.slice (some ⟨go34, 0, none⟩) x10_4.length co37)) (ok := (fun _ => True)) (by (with_reducible repeat (first | apply Kd.R_alloc | apply Kd.R_drewN | apply Kd.R_drew)); exact Kd.R_mono HO_11.out (fun _ hk => ⟨trivial, hk⟩)) hg (.inl rfl)); have n2_ := Aside0.mk ((by rw [hw]; exact below_set (HB.out) GB34.out : Below w.heap.size w w39)); clear HO_10; clear HO_11; clear HB; have HO_10 := n0_; have HO_11 := n1_; have HB := n2_; clear n0_ n1_ n2_; clear hg hw hp_; have p36 : 0 ≤ (x17_5 : Int) := of_decide_eq_true (by first | (with_reducible assumption) | assumption); have q36 : (x17_5 : Int) < ((x11_4.length : Int) : Int) := of_decide_eq_true (by first | (with_reducible assumption) | assumption); obtain ⟨go36, co36, eo36, gb36, gl36, cl36, HG36⟩ := Kd.R_form HO_11.out (by omega); (first | cases eo36 | (injection eo36 with ea_ en_ ec_; (first | subst ea_ | (injection ea_ with ea_; subst ea_)); subst ec_; clear en_)); have GB36 := Aside0.mk gb36; have GG36 := Aside0.mk HG36; clear gb36 gl36 HG36; obtain ⟨hx36_0, hf36_0⟩ := Kd.R_celln 0 HO_11.out (x17_5 : Int) p36 q36; replace p36 := eq_true p36; replace q36 := eq_true q36; have n_ := Aside0.mk (Kd.R_mono (ok' := (fun k_ => some k_ ≠ (.slice (some ⟨go34, 0, none⟩) x10_4.length co37 : Value).ownBlock)) HO_11.out (fun k_ hk => hk.2)); clear HO_11; have HO_11 := n_; clear n_; obtain ⟨hy40_, hz40_⟩ := Kd.R_celln 0 HO_11.out (x17_5 : Int) (of_decide_eq_true (by first | (with_reducible assumption) | assumption)) (of_decide_eq_true (by first | (with_reducible assumption) | assumption)); have HP40 := Kd.R_putg HO_11.out (x17_5 : Int) (-1)) | ((with_reducible refine gate_store (t := 3) (p := 106) rfl ?_); (try (rw [drewN_self w39]; generalize hq_ : World.drewN w39 _ = w39; have n0_ := Aside0.mk (Kd.R_at hq_ HO_10.out); have n1_ := Aside0.mk (Kd.R_at hq_ HO_11.out); have n2_ := Aside0.mk (below_at hq_ HB.out); clear hq_ HO_10 HO_11 HB; have HO_10 := n0_; have HO_11 := n1_; have HB := n2_; clear n0_ n1_ n2_; (try (have n_ := Aside0.mk (Kd.R_mono (ok' := (fun k_ => some k_ ≠ (.slice (some ⟨go34, 0, none⟩) x10_4.length co37 : Value).ownBlock)) HO_11.out (fun k_ hk => hk.2)); clear HO_11; have HO_11 := n_; clear n_)); (try (obtain ⟨hy40_, hz40_⟩ := Kd.R_celln 0 HO_11.out (x17_5 : Int) (of_decide_eq_true (by first | (with_reducible assumption) | assumption)) (of_decide_eq_true (by first | (with_reducible assumption) | assumption)))); (try (have HP40 := Kd.R_putg HO_11.out (x17_5 : Int) (-1))))); refine store_event (t := 3) (p := 106) (v := ?vo_w41) (w1 := (w39.setCell ⟨go36, (x17_5 : Int).toNat, none⟩ (.int .i64 (-1)))) ?hg ?ho ?hn ?hr ?_; (case ho => rfl); (case hg => rfl); (case hn => rfl); (case hr => first | (go_simp; done) | (go_simp; rfl)); intro w41 hw; have hg : w39.grownBy w41 (some go36) := (by rw [hw]; exact HP40.2); have hp_ : Kd.R (Kd.int .i64) 3 w41 w.heap.size (fun k_ => some k_ ≠ (.slice (some ⟨go34, 0, none⟩) x10_4.length co37 : Value).ownBlock) (.slice (some ⟨go36, 0, none⟩) x11_4.length co36) y125 := (by rw [hw, Ny125.out]; exact HP40.1); clear HP40; have n0_ := Aside0.mk (Kd.R_after (v := (.slice (some ⟨go36, 0, none⟩) x11_4.length co36)) (v1 := (.slice (some ⟨go36, 0, none⟩) x11_4.length co36)) (ok := (fun _ => True)) (by (with_reducible repeat (first | apply Kd.R_alloc | apply Kd.R_drewN | apply Kd.R_drew)); exact Kd.R_mono HO_10.out (fun _ hk => ⟨trivial, hk⟩)) hg (.inl rfl)); have n1_ := Aside0.mk (hp_); have n2_ := Aside0.mk ((by rw [hw]; exact below_set (HB.out) GB36.out : Below w.heap.size w w41)); clear HO_10; clear HO_11; clear HB; have HO_10 := n0_; have HO_11 := n1_; have HB := n2_; clear n0_ n1_ n2_; clear hg hw hp_)); try go_wp2_with (first | ((with_reducible refine gate_store (t := 3) (p := 103) rfl ?_); (try (rw [drewN_self wr]; generalize hq_ : World.drewN wr _ = wr; have n0_ := Aside0.mk (Kd.R_at hq_ HO_10.out); have n1_ := Aside0.mk (Kd.R_at hq_ HO_11.out); have n2_ := Aside0.mk (below_at hq_ HB.out); clear hq_ HO_10 HO_11 HB; have HO_10 := n0_; have HO_11 := n1_; have HB := n2_; clear n0_ n1_ n2_; (try (have HP38 := Kd.R_putg HO_10.out (x17_5 : Int) (wrap64 ((rd x10_4 x17_5) + 1)))))); refine store_event (t := 3) (p := 103) (v := ?vo_w39) (w1 := (wr.setCell ⟨go34, (x17_5 : Int).toNat, none⟩ (.int .i64 (wrap64 ((rd x10_4 x17_5) + 1))))) ?hg ?ho ?hn ?hr ?_; (case ho => rfl); (case hg => rfl); (case hn => rfl); (case hr => first | (go_simp; done) | (go_simp; rfl)); intro w39 hw; have hg : wr.grownBy w39 (some go34) := (by rw [hw]; exact HP38.2); have hp_ : Kd.R (Kd.int .i64) 3 w39 w.heap.size (fun k_ => some k_ ≠ (u11 : Value).ownBlock) (.slice (some ⟨go34, 0, none⟩) x10_4.length co37) y124 := (by rw [hw, Ny124.out]; exact HP38.1); clear HP38; have n0_ := Aside0.mk (hp_); have n1_ := Aside0.mk (Kd.R_after (v := (.slice (some ⟨go34, 0, none⟩) x10_4.length co37)) (v1 := (.slice (some ⟨go34, 0, none⟩) x10_4.length co37)) (ok := (fun _ => True)) (by (with_reducible repeat (first | apply Kd.R_alloc | apply Kd.R_drewN | apply Kd.R_drew)); exact Kd.R_mono HO_11.out (fun _ hk => ⟨trivial, hk⟩)) hg (.inl rfl)); have n2_ := Aside0.mk ((by rw [hw]; exact below_set (HB.out) GB34.out : Below w.heap.size w w39)); clear HO_10; clear HO_11; clear HB; have HO_10 := n0_; have HO_11 := n1_; have HB := n2_; clear n0_ n1_ n2_; clear hg hw hp_; have p36 : 0 ≤ (x17_5 : Int) := of_decide_eq_true (by first | (with_reducible assumption) | assumption); have q36 : (x17_5 : Int) < ((x11_4.length : Int) : Int) := of_decide_eq_true (by first | (with_reducible assumption) | assumption); obtain ⟨go36, co36, eo36, gb36, gl36, cl36, HG36⟩ := Kd.R_form HO_11.out (by omega); (first | cases eo36 | (injection eo36 with ea_ en_ ec_; (first | subst ea_ | (injection ea_ with ea_; subst ea_)); subst ec_; clear en_)); have GB36 := Aside0.mk gb36; have GG36 := Aside0.mk HG36; clear gb36 gl36 HG36; obtain ⟨hx36_0, hf36_0⟩ := Kd.R_celln 0 HO_11.out (x17_5 : Int) p36 q36; replace p36 := eq_true p36; replace q36 := eq_true q36; have n_ := Aside0.mk (Kd.R_mono (ok' := (fun k_ => some k_ ≠ (.slice (some ⟨go34, 0, none⟩) x10_4.length co37 : Value).ownBlock)) HO_11.out (fun k_ hk => hk.2)); clear HO_11; have HO_11 := n_; clear n_; obtain ⟨hy40_, hz40_⟩ := Kd.R_celln 0 HO_11.out (x17_5 : Int) (of_decide_eq_true (by first | (with_reducible assumption) | assumption)) (of_decide_eq_true (by first | (with_reducible assumption) | assumption)); have HP40 := Kd.R_putg HO_11.out (x17_5 : Int) (-1)) | ((with_reducible refine gate_store (t := 3) (p := 106) rfl ?_); (try (rw [drewN_self w39]; generalize hq_ : World.drewN w39 _ = w39; have n0_ := Aside0.mk (Kd.R_at hq_ HO_10.out); have n1_ := Aside0.mk (Kd.R_at hq_ HO_11.out); have n2_ := Aside0.mk (below_at hq_ HB.out); clear hq_ HO_10 HO_11 HB; have HO_10 := n0_; have HO_11 := n1_; have HB := n2_; clear n0_ n1_ n2_; (try (have n_ := Aside0.mk (Kd.R_mono (ok' := (fun k_ => some k_ ≠ (.slice (some ⟨go34, 0, none⟩) x10_4.length co37 : Value).ownBlock)) HO_11.out (fun k_ hk => hk.2)); clear HO_11; have HO_11 := n_; clear n_)); (try (obtain ⟨hy40_, hz40_⟩ := Kd.R_celln 0 HO_11.out (x17_5 : Int) (of_decide_eq_true (by first | (with_reducible assumption) | assumption)) (of_decide_eq_true (by first | (with_reducible assumption) | assumption)))); (try (have HP40 := Kd.R_putg HO_11.out (x17_5 : Int) (-1))))); refine store_event (t := 3) (p := 106) (v := ?vo_w41) (w1 := (w39.setCell ⟨go36, (x17_5 : Int).toNat, none⟩ (.int .i64 (-1)))) ?hg ?ho ?hn ?hr ?_; (case ho => rfl); (case hg => rfl); (case hn => rfl); (case hr => first | (go_simp; done) | (go_simp; rfl)); intro w41 hw; have hg : w39.grownBy w41 (some go36) := (by rw [hw]; exact HP40.2); have hp_ : Kd.R (Kd.int .i64) 3 w41 w.heap.size (fun k_ => some k_ ≠ (.slice (some ⟨go34, 0, none⟩) x10_4.length co37 : Value).ownBlock) (.slice (some ⟨go36, 0, none⟩) x11_4.length co36) y125 := (by rw [hw, Ny125.out]; exact HP40.1); clear HP40; have n0_ := Aside0.mk (Kd.R_after (v := (.slice (some ⟨go36, 0, none⟩) x11_4.length co36)) (v1 := (.slice (some ⟨go36, 0, none⟩) x11_4.length co36)) (ok := (fun _ => True)) (by (with_reducible repeat (first | apply Kd.R_alloc | apply Kd.R_drewN | apply Kd.R_drew)); exact Kd.R_mono HO_10.out (fun _ hk => ⟨trivial, hk⟩)) hg (.inl rfl)); have n1_ := Aside0.mk (hp_); have n2_ := Aside0.mk ((by rw [hw]; exact below_set (HB.out) GB36.out : Below w.heap.size w w41)); clear HO_10; clear HO_11; clear HB; have HO_10 := n0_; have HO_11 := n1_; have HB := n2_; clear n0_ n1_ n2_; clear hg hw hp_)))
                                        go_roundg k5
                                        case measure => have := HJ4.out; have := HK2.out; have := HK3.out; have := HK4.out; have := HK5.out; omega
                                        case rel => exact ⟨(y124), (y125), (wrap64 (x12_4 - 1)), (by first | rfl | (simp; done) | (simp [*]; done)), H', ⟨by have := HJ4.out; have := HK2.out; have := HK3.out; have := HK4.out; have := HK5.out; omega⟩, ⟨by (with_reducible repeat (first | apply Kd.R_alloc | apply Kd.R_drewN | apply Kd.R_drew)); exact Kd.R_mono HO_10.out (fun _ hk => hk.2)⟩, ⟨by (with_reducible repeat (first | apply Kd.R_alloc | apply Kd.R_drewN | apply Kd.R_drew)); exact HO_11.out⟩, ⟨by repeat (first | (with_reducible first | exact HB.out | apply below_alloc | apply pw_below_drewN | apply below_drew1) | exact HB.out)⟩⟩
                                      · rw [if_neg c35] at H
                                        exact absurd H (by simp)
                                    · rw [if_neg c33] at H
                                      exact absurd H (by simp)
                                  · rw [if_neg c32] at H
                                    exact absurd H (by simp)
                          · rw [if_neg c23] at H
                            have c23b0 : decide (0 < x12_4) = false := decide_eq_false c23
                            clear c23
                            simp only [Option.some.injEq, Prod.mk.injEq] at H
                            obtain ⟨rfl, rfl⟩ := H
                            go_wp2
                            repeat (go_quiet (fail); try go_wp2)
                            go_ret2
                            exact ⟨_, by first | rfl | (simp [errW_none, errW_some] <;> rfl) | (simp [*, errW_none, errW_some] <;> rfl), by (with_reducible repeat (first | apply Kd.R_alloc | apply Kd.R_drewN | apply Kd.R_drew)); exact Kd.R_mono HO_10.out (fun _ hk => trivial), by repeat (first | (with_reducible first | exact HB.out | apply below_alloc | apply pw_below_drewN | apply below_drew1) | exact HB.out)⟩
  · rw [if_neg c4] at H
    have c4b0 : (t102 == 0) = false := beq_eq_false_iff_ne.mpr c4
    have c4b1 : (t102 != 0) = true := bne_iff_ne.mpr c4
    simp only [Option.some.injEq, Prod.mk.injEq] at H
    obtain ⟨rfl, rfl⟩ := H
    go_enter Try.func52, Try.ntmps52
    go_wp2_with (first | (go_at_call 58; (with_reducible refine (backhaulref03_Whole.calls k _ _ l1 t101 t102 _ ?side1 ?side2 A3.out).mono ?_); (case side1 => repeat (first | exact HR1.out | (with_reducible refine Kd.C_alloc ?_ _) | (with_reducible refine Kd.C_drewN ?_ _) | (with_reducible refine Kd.C_drew ?_))); (case side2 => exact HC1.out); rintro e w' ⟨rfl, ⟨nd, rfl⟩⟩; (try first | exact ⟨rfl, _, World.drewN_drewN _ _ _⟩ | exact ⟨rfl, _, Eq.trans (World.drewN_drewN _ _ _) (congrArg (World.drewN _) (Nat.add_assoc _ _ _))⟩)))
    repeat (go_quiet (first | (go_at_call 58; (with_reducible refine (backhaulref03_Whole.calls k _ _ l1 t101 t102 _ ?side1 ?side2 A3.out).mono ?_); (case side1 => repeat (first | exact HR1.out | (with_reducible refine Kd.C_alloc ?_ _) | (with_reducible refine Kd.C_drewN ?_ _) | (with_reducible refine Kd.C_drew ?_))); (case side2 => exact HC1.out); rintro e w' ⟨rfl, ⟨nd, rfl⟩⟩; (try first | exact ⟨rfl, _, World.drewN_drewN _ _ _⟩ | exact ⟨rfl, _, Eq.trans (World.drewN_drewN _ _ _) (congrArg (World.drewN _) (Nat.add_assoc _ _ _))⟩))); try go_wp2_with (first | (go_at_call 58; (with_reducible refine (backhaulref03_Whole.calls k _ _ l1 t101 t102 _ ?side1 ?side2 A3.out).mono ?_); (case side1 => repeat (first | exact HR1.out | (with_reducible refine Kd.C_alloc ?_ _) | (with_reducible refine Kd.C_drewN ?_ _) | (with_reducible refine Kd.C_drew ?_))); (case side2 => exact HC1.out); rintro e w' ⟨rfl, ⟨nd, rfl⟩⟩; (try first | exact ⟨rfl, _, World.drewN_drewN _ _ _⟩ | exact ⟨rfl, _, Eq.trans (World.drewN_drewN _ _ _) (congrArg (World.drewN _) (Nat.add_assoc _ _ _))⟩))))
    go_ret2
    exact ⟨_, by first | rfl | (simp [errW_none, errW_some] <;> rfl) | (simp [*, errW_none, errW_some] <;> rfl), by first | exact Kd.R_nil _ _ _ _ _ | exact Kd.N_nil _ _ _ _ _ | exact Kd.V_nil _ _ _ _ _ | exact Kd.Q_nil _ _ _ _ _ | exact Kd.S_nil _ _ _ _ _, by repeat (first | (with_reducible first | exact HB.out | apply below_alloc | apply pw_below_drewN | apply below_drew1) | exact HB.out)⟩
end Go.Proofs.Ytefhljhpcpajgaa.F
namespace Go.Proofs.Ytefhljhpcpajgaa.F
open Go.RowKit Go.Proofs.YtefhljhpcpajgaaX Go.Proofs.YtefhljhpcpajgaaW.PrintWords Go.Proofs.YtefhljhpcpajgaaW.PrintLast Go.Proofs.YtefhljhpcpajgaaW.PrintMore
attribute [local go_sem] max2_int min2_int max_two min_two max_three min_three max_four min_four   
attribute [local go_sem high] str_geq str_leq str_gtr
set_option linter.unusedVariables false
set_option linter.unusedSimpArgs false
def backhaulref03_Evenly.f (k : Nat) (a0 : Int) (a1 : Int) : Option (List Int × Int) := if a1 < 1 then (some (([] : List Int), 2)) else (if a1 > 200 then (some (([] : List Int), 2)) else (if 0 ≤ a1 then (if (a1 : Int).toNat ≤ 35184372088832 then ((backhaulref03_Out.f k a0 (List.replicate (a1 : Int).toNat 0)).bind fun bt104 => (some (bt104.1, bt104.2))) else (none)) else (none)))
theorem backhaulref03_Evenly.mono : ∀ a0 a1 k, LeO (backhaulref03_Evenly.f k a0 a1) (backhaulref03_Evenly.f (k + 1) a0 a1) := by
  intro a0 a1 k
  unfold backhaulref03_Evenly.f
  repeat' first
      | (with_reducible exact backhaulref03_Out.mono _ _ _)
      | (with_reducible exact LeO.refl _)
      | (with_reducible exact LeO.none _)
      | (with_reducible refine LeO.ite ?_ ?_)
      | (with_reducible refine LeO.bind ?_ (fun _ => ?_))
      | exact backhaulref03_Out.mono _ _ _
      | exact LeO.none _
      | refine LeO.ite ?_ ?_
      | refine LeO.bind ?_ (fun _ => ?_)
set_option maxHeartbeats 8000000 in
set_option maxRecDepth 100000 in
theorem backhaulref03_Evenly.calls (k : Nat) (a0 : Int) (a1 : Int) (r1 : List Int) (r2 : Int) (w : World) (h : backhaulref03_Evenly.f k a0 a1 = some (r1, r2)) :
    Calls Try.prog 54 #[.int .i64 a0, .int .i64 a1] w fun e w' => ∃ v0_ : Value, e = .returned (.tuple #[v0_, .int .i64 r2]) ∧ Kd.R (Kd.int .i64) 3 w' w.heap.size (fun _ => True) v0_ r1 ∧ Below w.heap.size w w' := by
  have HB := Aside0.mk (Below.refl w.heap.size w)
  have H : (if a1 < 1 then (some (([] : List Int), 2)) else (if a1 > 200 then (some (([] : List Int), 2)) else (if 0 ≤ a1 then (if (a1 : Int).toNat ≤ 35184372088832 then ((backhaulref03_Out.f k a0 (List.replicate (a1 : Int).toNat 0)).bind fun bt104 => (some (bt104.1, bt104.2))) else (none)) else (none)))) = some (r1, r2) := h
  clear h
  by_cases c3 : a1 < 1
  · rw [if_pos c3] at H
    have c3b0 : decide (a1 < 1) = true := decide_eq_true c3
    clear c3
    simp only [Option.some.injEq, Prod.mk.injEq] at H
    obtain ⟨rfl, rfl⟩ := H
    go_enter Try.func54, Try.ntmps54
    go_wp2
    go_ret2
    exact ⟨_, by first | rfl | (simp [errW_none, errW_some] <;> rfl) | (simp [*, errW_none, errW_some] <;> rfl), by first | exact Kd.R_nil _ _ _ _ _ | exact Kd.N_nil _ _ _ _ _ | exact Kd.V_nil _ _ _ _ _ | exact Kd.Q_nil _ _ _ _ _ | exact Kd.S_nil _ _ _ _ _, by repeat (first | (with_reducible first | exact HB.out | apply below_alloc | apply pw_below_drewN | apply below_drew1) | exact HB.out)⟩
  · rw [if_neg c3] at H
    have c3b0 : decide (a1 < 1) = false := decide_eq_false c3
    clear c3
    by_cases c4 : a1 > 200
    · rw [if_pos c4] at H
      have c4b0 : decide (200 < a1) = true := decide_eq_true c4
      clear c4
      simp only [Option.some.injEq, Prod.mk.injEq] at H
      obtain ⟨rfl, rfl⟩ := H
      go_enter Try.func54, Try.ntmps54
      go_wp2
      go_ret2
      exact ⟨_, by first | rfl | (simp [errW_none, errW_some] <;> rfl) | (simp [*, errW_none, errW_some] <;> rfl), by first | exact Kd.R_nil _ _ _ _ _ | exact Kd.N_nil _ _ _ _ _ | exact Kd.V_nil _ _ _ _ _ | exact Kd.Q_nil _ _ _ _ _ | exact Kd.S_nil _ _ _ _ _, by repeat (first | (with_reducible first | exact HB.out | apply below_alloc | apply pw_below_drewN | apply below_drew1) | exact HB.out)⟩
    · rw [if_neg c4] at H
      have c4b0 : decide (200 < a1) = false := decide_eq_false c4
      clear c4
      by_cases c5 : 0 ≤ a1
      · rw [if_pos c5] at H
        have c5b0 := eq_true c5
        have c5b1 : decide (0 ≤ a1) = true := decide_eq_true c5
        clear c5
        by_cases c6 : (a1 : Int).toNat ≤ 35184372088832
        · rw [if_pos c6] at H
          have c6b0 := eq_true c6
          have c6b1 : decide ((a1 : Int).toNat ≤ 35184372088832) = true := decide_eq_true c6
          clear c6
          obtain ⟨y101, hy101⟩ : ∃ y_ : List Int, y_ = (List.replicate (a1 : Int).toNat 0) := ⟨_, rfl⟩
          replace H : ((backhaulref03_Out.f k a0 y101).bind fun bt104 => (some (bt104.1, bt104.2))) = some (r1, r2) := by first | (rw [hy101]; with_reducible exact H) | (have H2_ := (Option.bind_some _ _).symm.trans H; rw [hy101]; with_reducible exact H2_) | (have H2_ := (Option.bind_some _ _).symm.trans H; with_reducible exact H2_) | with_reducible exact H | (rw [hy101]; exact H) | exact H
          have Ny101 := Aside0.mk hy101
          clear hy101
          replace H := Option.bind_eq_some_iff.mp H
          obtain ⟨⟨t104, t105⟩, A70, H⟩ := H
          replace H : (some (t104, t105)) = some (r1, r2) := H
          have A7 := Aside0.mk A70
          clear A70
          simp only [Option.some.injEq, Prod.mk.injEq] at H
          obtain ⟨rfl, rfl⟩ := H
          go_enter Try.func54, Try.ntmps54
          go_wp2_with (first | ((with_reducible refine gate_dst (N := 14) rfl ?_); refine Kd.R_make (Kd.int .i64) _ 3 rfl (N := 14) rfl 22 _ _ rfl a1 rfl rfl Try.underlying22 (.int .i64 0) 8 info3 rfl (by decide) (by omega) 0 (ok := fun _ => True) (okp := fun _ => True) rfl (fun _ hk => hk) trivial (of_decide_eq_true (by first | (with_reducible assumption) | assumption)) (Nat.le_trans (Nat.mul_le_mul_right _ (of_decide_eq_true (by first | (with_reducible assumption) | assumption) : a1.toNat ≤ 35184372088832)) (by omega)) (Below.refl _ _) (Nat.le_refl _) ?_; intro v102 w8 ho9 hb hg_ hnew_; clear hg_ hnew_; (first | rw [← Ny101.out] at ho9 | (simp only [Int.reduceToNat] at ho9; rw [← Ny101.out] at ho9)); have n0_ := Aside0.mk (Kd.R_lower ho9 (below_size (by repeat (first | (with_reducible first | exact HB.out | apply below_alloc | apply pw_below_drewN | apply below_drew1) | exact HB.out)))); have n1_ := Aside0.mk (below_step (by repeat (first | (with_reducible first | exact HB.out | apply below_alloc | apply pw_below_drewN | apply below_drew1) | exact HB.out)) hb); clear HB; have HO103 := n0_; have HB := n1_; clear n0_ n1_; clear hb ho9; obtain ⟨Ao10, co10, eo10⟩ := Kd.R_slice HO103.out; subst eo10) | ((with_reducible refine gate_callee (f := 52) rfl ?_); refine goesL_ (some 15) rfl rfl Try.func52 (by kernel_rfl) rfl #[.int .i64 a0, .slice Ao10 y101.length co10] rfl (by (try simp only [List.map_toArray, List.map_cons, List.map_nil]); first | done | rfl | (simp only [List.length_drop, List.length_take]; rfl)) ?_; (with_reducible refine (backhaulref03_Out.calls k a0 _ _ y101 t104 t105 _ ?side1 ?side2 A7.out).mono ?_); (case side1 => repeat (first | exact (Kd.R_reads' HO103.out).2.2 | (with_reducible refine Kd.C_alloc ?_ _) | (with_reducible refine Kd.C_drewN ?_ _) | (with_reducible refine Kd.C_drew ?_))); (case side2 => exact (Kd.R_reads' HO103.out).2.1); rintro e w11 ⟨v106, rfl, ho0, hb⟩; refine ⟨_, rfl, ?_⟩; have n0_ := Aside0.mk (Kd.R_elder' (by (with_reducible repeat (first | apply Kd.R_alloc | apply Kd.R_drewN | apply Kd.R_drew)); exact HO103.out) (Kd.R_base ho0) hb); have n1_ := Aside0.mk (Kd.R_lower (Kd.R_new' ho0 (Kd.R_lt (by (with_reducible repeat (first | apply Kd.R_alloc | apply Kd.R_drewN | apply Kd.R_drew)); exact HO103.out))) (below_size (by repeat (first | (with_reducible first | exact HB.out | apply below_alloc | apply pw_below_drewN | apply below_drew1) | exact HB.out)))); have n2_ := Aside0.mk (below_step (by repeat (first | (with_reducible first | exact HB.out | apply below_alloc | apply pw_below_drewN | apply below_drew1) | exact HB.out)) hb); clear HO103; clear HB; have HO103 := n0_; have HO107 := n1_; have HB := n2_; clear n0_ n1_ n2_; (try clear hb); (try clear hb2); (try clear hk); (try clear hi); (try clear ho0)))
          go_ret2
          exact ⟨_, by first | rfl | (simp [errW_none, errW_some] <;> rfl) | (simp [*, errW_none, errW_some] <;> rfl), by (with_reducible repeat (first | apply Kd.R_alloc | apply Kd.R_drewN | apply Kd.R_drew)); exact Kd.R_mono HO107.out (fun _ hk => trivial), by repeat (first | (with_reducible first | exact HB.out | apply below_alloc | apply pw_below_drewN | apply below_drew1) | exact HB.out)⟩
        · rw [if_neg c6] at H
          exact absurd H (by simp)
      · rw [if_neg c5] at H
        exact absurd H (by simp)
end Go.Proofs.Ytefhljhpcpajgaa.F
namespace Go.Proofs.Ytefhljhpcpajgaa.F
open Go.RowKit Go.Proofs.YtefhljhpcpajgaaX Go.Proofs.YtefhljhpcpajgaaW.PrintWords Go.Proofs.YtefhljhpcpajgaaW.PrintLast Go.Proofs.YtefhljhpcpajgaaW.PrintMore
attribute [local go_sem] max2_int min2_int max_two min_two max_three min_three max_four min_four   
attribute [local go_sem high] str_geq str_leq str_gtr
set_option linter.unusedVariables false
set_option linter.unusedSimpArgs false
def backhaulref03_Place.f (k : Nat) (a0 : Int) (l1 : List Int) (a2 : Int) : Option (Int × Int) := (backhaulref03_Out.f k a0 l1).bind fun bt101 => (if bt101.2 = 0 then (if a2 < 0 then (some (0, 2)) else (if a2 ≥ (bt101.1.length : Int) then (some (0, 2)) else (if 0 ≤ a2 then (if a2 < (bt101.1.length : Int) then (some (rd bt101.1 a2, 0)) else (none)) else (none)))) else (some (0, bt101.2)))
theorem backhaulref03_Place.mono : ∀ a0 a1 a2 k, LeO (backhaulref03_Place.f k a0 a1 a2) (backhaulref03_Place.f (k + 1) a0 a1 a2) := by
  intro a0 a1 a2 k
  unfold backhaulref03_Place.f
  repeat' first
      | (with_reducible exact backhaulref03_Out.mono _ _ _)
      | (with_reducible exact LeO.refl _)
      | (with_reducible exact LeO.none _)
      | (with_reducible refine LeO.ite ?_ ?_)
      | (with_reducible refine LeO.bind ?_ (fun _ => ?_))
      | exact backhaulref03_Out.mono _ _ _
      | exact LeO.none _
      | refine LeO.ite ?_ ?_
      | refine LeO.bind ?_ (fun _ => ?_)
set_option maxHeartbeats 8000000 in
set_option maxRecDepth 100000 in
theorem backhaulref03_Place.calls (k : Nat) (a0 : Int) (A1 : Option Addr) (c1 : Nat) (l1 : List Int) (a2 : Int) (r1 : Int) (r2 : Int) (w : World) (hr1 : Kd.C (Kd.int .i64) w A1 l1.length l1) (hc1 : l1.length ≤ c1) (h : backhaulref03_Place.f k a0 l1 a2 = some (r1, r2)) :
    Calls Try.prog 56 #[.int .i64 a0, .slice A1 l1.length c1, .int .i64 a2] w fun e w' => e = .returned (.tuple #[.int .i64 r1, .int .i64 r2]) ∧ Below w.heap.size w w' := by
  have HR1 := Aside0.mk hr1
  have HC1 := Aside0.mk hc1
  clear hr1 hc1
  have HB := Aside0.mk (Below.refl w.heap.size w)
  have H : ((backhaulref03_Out.f k a0 l1).bind fun bt101 => (if bt101.2 = 0 then (if a2 < 0 then (some (0, 2)) else (if a2 ≥ (bt101.1.length : Int) then (some (0, 2)) else (if 0 ≤ a2 then (if a2 < (bt101.1.length : Int) then (some (rd bt101.1 a2, 0)) else (none)) else (none)))) else (some (0, bt101.2)))) = some (r1, r2) := h
  clear h
  replace H := Option.bind_eq_some_iff.mp H
  obtain ⟨⟨t101, t102⟩, A40, H⟩ := H
  replace H : (if t102 = 0 then (if a2 < 0 then (some (0, 2)) else (if a2 ≥ (t101.length : Int) then (some (0, 2)) else (if 0 ≤ a2 then (if a2 < (t101.length : Int) then (some (rd t101 a2, 0)) else (none)) else (none)))) else (some (0, t102))) = some (r1, r2) := H
  have A4 := Aside0.mk A40
  clear A40
  by_cases c5 : t102 = 0
  · rw [if_pos c5] at H
    have c5b0 : (t102 == 0) = true := beq_iff_eq.mpr c5
    have c5b1 : (t102 != 0) = false := bne_eq_false_iff_eq.mpr c5
    clear c5
    by_cases c6 : a2 < 0
    · rw [if_pos c6] at H
      have c6b0 : decide (a2 < 0) = true := decide_eq_true c6
      clear c6
      simp only [Option.some.injEq, Prod.mk.injEq] at H
      obtain ⟨rfl, rfl⟩ := H
      go_enter Try.func56, Try.ntmps56
      go_wp2_with (first | ((with_reducible refine gate_callee (f := 52) rfl ?_); refine goesL_ (some 13) rfl rfl Try.func52 (by kernel_rfl) rfl #[.int .i64 a0, .slice A1 l1.length c1] rfl (by (try simp only [List.map_toArray, List.map_cons, List.map_nil]); first | done | rfl | (simp only [List.length_drop, List.length_take]; rfl)) ?_; (with_reducible refine (backhaulref03_Out.calls k a0 _ _ l1 t101 t102 _ ?side1 ?side2 A4.out).mono ?_); (case side1 => repeat (first | exact HR1.out | (with_reducible refine Kd.C_alloc ?_ _) | (with_reducible refine Kd.C_drewN ?_ _) | (with_reducible refine Kd.C_drew ?_))); (case side2 => exact HC1.out); rintro e w7 ⟨v103, rfl, ho0, hb⟩; refine ⟨_, rfl, ?_⟩; have n0_ := Aside0.mk (Kd.R_lower ho0 (below_size (by repeat (first | (with_reducible first | exact HB.out | apply below_alloc | apply pw_below_drewN | apply below_drew1) | exact HB.out)))); have n1_ := Aside0.mk (below_step (by repeat (first | (with_reducible first | exact HB.out | apply below_alloc | apply pw_below_drewN | apply below_drew1) | exact HB.out)) hb); clear HB; have HO104 := n0_; have HB := n1_; clear n0_ n1_; (try clear hb); (try clear hb2); (try clear hk); (try clear hi); (try clear ho0)))
      go_ret2
      exact ⟨by first | rfl | (simp [errW_none, errW_some] <;> rfl) | (simp [*, errW_none, errW_some] <;> rfl), by repeat (first | (with_reducible first | exact HB.out | apply below_alloc | apply pw_below_drewN | apply below_drew1) | exact HB.out)⟩
    · rw [if_neg c6] at H
      have c6b0 : decide (a2 < 0) = false := decide_eq_false c6
      clear c6
      by_cases c8 : a2 ≥ (t101.length : Int)
      · rw [if_pos c8] at H
        have c8b0 : decide ((t101.length : Int) ≤ a2) = true := decide_eq_true c8
        clear c8
        simp only [Option.some.injEq, Prod.mk.injEq] at H
        obtain ⟨rfl, rfl⟩ := H
        go_enter Try.func56, Try.ntmps56
        go_wp2_with (first | ((with_reducible refine gate_callee (f := 52) rfl ?_); refine goesL_ (some 13) rfl rfl Try.func52 (by kernel_rfl) rfl #[.int .i64 a0, .slice A1 l1.length c1] rfl (by (try simp only [List.map_toArray, List.map_cons, List.map_nil]); first | done | rfl | (simp only [List.length_drop, List.length_take]; rfl)) ?_; (with_reducible refine (backhaulref03_Out.calls k a0 _ _ l1 t101 t102 _ ?side1 ?side2 A4.out).mono ?_); (case side1 => repeat (first | exact HR1.out | (with_reducible refine Kd.C_alloc ?_ _) | (with_reducible refine Kd.C_drewN ?_ _) | (with_reducible refine Kd.C_drew ?_))); (case side2 => exact HC1.out); rintro e w9 ⟨v103, rfl, ho0, hb⟩; refine ⟨_, rfl, ?_⟩; have n0_ := Aside0.mk (Kd.R_lower ho0 (below_size (by repeat (first | (with_reducible first | exact HB.out | apply below_alloc | apply pw_below_drewN | apply below_drew1) | exact HB.out)))); have n1_ := Aside0.mk (below_step (by repeat (first | (with_reducible first | exact HB.out | apply below_alloc | apply pw_below_drewN | apply below_drew1) | exact HB.out)) hb); clear HB; have HO104 := n0_; have HB := n1_; clear n0_ n1_; (try clear hb); (try clear hb2); (try clear hk); (try clear hi); (try clear ho0); obtain ⟨Ao10, co10, eo10⟩ := Kd.R_slice HO104.out; subst eo10))
        go_ret2
        exact ⟨by first | rfl | (simp [errW_none, errW_some] <;> rfl) | (simp [*, errW_none, errW_some] <;> rfl), by repeat (first | (with_reducible first | exact HB.out | apply below_alloc | apply pw_below_drewN | apply below_drew1) | exact HB.out)⟩
      · rw [if_neg c8] at H
        have c8b0 : decide ((t101.length : Int) ≤ a2) = false := decide_eq_false c8
        clear c8
        by_cases c11 : 0 ≤ a2
        · rw [if_pos c11] at H
          have c11b0 : decide (0 ≤ a2) = true := decide_eq_true c11
          clear c11
          by_cases c12 : a2 < (t101.length : Int)
          · rw [if_pos c12] at H
            have c12b0 : decide (a2 < (t101.length : Int)) = true := decide_eq_true c12
            clear c12
            simp only [Option.some.injEq, Prod.mk.injEq] at H
            obtain ⟨rfl, rfl⟩ := H
            go_enter Try.func56, Try.ntmps56
            go_wp2_with (first | ((with_reducible refine gate_callee (f := 52) rfl ?_); refine goesL_ (some 13) rfl rfl Try.func52 (by kernel_rfl) rfl #[.int .i64 a0, .slice A1 l1.length c1] rfl (by (try simp only [List.map_toArray, List.map_cons, List.map_nil]); first | done | rfl | (simp only [List.length_drop, List.length_take]; rfl)) ?_; (with_reducible refine (backhaulref03_Out.calls k a0 _ _ l1 t101 t102 _ ?side1 ?side2 A4.out).mono ?_); (case side1 => repeat (first | exact HR1.out | (with_reducible refine Kd.C_alloc ?_ _) | (with_reducible refine Kd.C_drewN ?_ _) | (with_reducible refine Kd.C_drew ?_))); (case side2 => exact HC1.out); rintro e w13 ⟨v103, rfl, ho0, hb⟩; refine ⟨_, rfl, ?_⟩; have n0_ := Aside0.mk (Kd.R_lower ho0 (below_size (by repeat (first | (with_reducible first | exact HB.out | apply below_alloc | apply pw_below_drewN | apply below_drew1) | exact HB.out)))); have n1_ := Aside0.mk (below_step (by repeat (first | (with_reducible first | exact HB.out | apply below_alloc | apply pw_below_drewN | apply below_drew1) | exact HB.out)) hb); clear HB; have HO104 := n0_; have HB := n1_; clear n0_ n1_; (try clear hb); (try clear hb2); (try clear hk); (try clear hi); (try clear ho0); obtain ⟨Ao14, co14, eo14⟩ := Kd.R_slice HO104.out; subst eo14; have p105 : 0 ≤ (a2 : Int) := of_decide_eq_true (by first | (with_reducible assumption) | assumption); have q105 : a2 < (t101.length : Int) := of_decide_eq_true (by first | (with_reducible assumption) | assumption); obtain ⟨ad105, e105, hx105_0⟩ := Kd.at_int (Kd.R_reads' HO104.out).2.2 a2 p105 q105; cases e105; replace p105 := eq_true p105; replace q105 := eq_true q105))
            go_ret2
            exact ⟨by first | rfl | (simp [errW_none, errW_some] <;> rfl) | (simp [*, errW_none, errW_some] <;> rfl), by repeat (first | (with_reducible first | exact HB.out | apply below_alloc | apply pw_below_drewN | apply below_drew1) | exact HB.out)⟩
          · rw [if_neg c12] at H
            exact absurd H (by simp)
        · rw [if_neg c11] at H
          exact absurd H (by simp)
  · rw [if_neg c5] at H
    have c5b0 : (t102 == 0) = false := beq_eq_false_iff_ne.mpr c5
    have c5b1 : (t102 != 0) = true := bne_iff_ne.mpr c5
    simp only [Option.some.injEq, Prod.mk.injEq] at H
    obtain ⟨rfl, rfl⟩ := H
    go_enter Try.func56, Try.ntmps56
    go_wp2_with (first | ((with_reducible refine gate_callee (f := 52) rfl ?_); refine goesL_ (some 13) rfl rfl Try.func52 (by kernel_rfl) rfl #[.int .i64 a0, .slice A1 l1.length c1] rfl (by (try simp only [List.map_toArray, List.map_cons, List.map_nil]); first | done | rfl | (simp only [List.length_drop, List.length_take]; rfl)) ?_; (with_reducible refine (backhaulref03_Out.calls k a0 _ _ l1 t101 t102 _ ?side1 ?side2 A4.out).mono ?_); (case side1 => repeat (first | exact HR1.out | (with_reducible refine Kd.C_alloc ?_ _) | (with_reducible refine Kd.C_drewN ?_ _) | (with_reducible refine Kd.C_drew ?_))); (case side2 => exact HC1.out); rintro e w15 ⟨v103, rfl, ho0, hb⟩; refine ⟨_, rfl, ?_⟩; have n0_ := Aside0.mk (Kd.R_lower ho0 (below_size (by repeat (first | (with_reducible first | exact HB.out | apply below_alloc | apply pw_below_drewN | apply below_drew1) | exact HB.out)))); have n1_ := Aside0.mk (below_step (by repeat (first | (with_reducible first | exact HB.out | apply below_alloc | apply pw_below_drewN | apply below_drew1) | exact HB.out)) hb); clear HB; have HO104 := n0_; have HB := n1_; clear n0_ n1_; (try clear hb); (try clear hb2); (try clear hk); (try clear hi); (try clear ho0)))
    go_ret2
    exact ⟨by first | rfl | (simp [errW_none, errW_some] <;> rfl) | (simp [*, errW_none, errW_some] <;> rfl), by repeat (first | (with_reducible first | exact HB.out | apply below_alloc | apply pw_below_drewN | apply below_drew1) | exact HB.out)⟩
end Go.Proofs.Ytefhljhpcpajgaa.F
namespace Go.Proofs.Ytefhljhpcpajgaa.F
open Go.RowKit Go.Proofs.YtefhljhpcpajgaaX Go.Proofs.YtefhljhpcpajgaaW.PrintWords Go.Proofs.YtefhljhpcpajgaaW.PrintLast Go.Proofs.YtefhljhpcpajgaaW.PrintMore
attribute [local go_sem] max2_int min2_int max_two min_two max_three min_three max_four min_four   
attribute [local go_sem high] str_geq str_leq str_gtr
set_option linter.unusedVariables false
set_option linter.unusedSimpArgs false
def backhaullaw03_ShareDeals.f (k : Nat) (a0 : Int) (l1 : List Int) (a2 : Int) : Option (Bool) := if (l1.length : Int) > 300 then ((backhaullaw03_awake.f).bind fun t101 => (if t101 = true then (some true) else (some false))) else ((share_Out.f k a0 l1).bind fun bt102 => ((backhaulref03_Out.f k a0 l1).bind fun bt106 => ((share_Evenly.f k a0 a2).bind fun bt110 => ((backhaulref03_Evenly.f k a0 a2).bind fun bt114 => ((share_Place.f k a0 l1 a2).bind fun bt118 => ((backhaulref03_Place.f k a0 l1 a2).bind fun bt120 => ((share_Whole.f k l1).bind fun bt122 => ((backhaulref03_Whole.f k l1).bind fun bt124 => ((backhaulref02_SameInts.f k bt102.1 bt106.1).bind fun t126 => (if t126 = true then (if bt102.2 = bt106.2 then ((backhaulref02_SameInts.f k bt110.1 bt114.1).bind fun t127 => (if t127 = true then (if bt110.2 = bt114.2 then (if bt118.1 = bt120.1 then (if bt118.2 = bt120.2 then (if bt122.1 = bt124.1 then (if bt122.2 = bt124.2 then ((backhaullaw03_awake.f).bind fun t128 => (if t128 = true then (some true) else (some false))) else (some false)) else (some false)) else (some false)) else (some false)) else (some false)) else (some false))) else (some false)) else (some false)))))))))))
theorem backhaullaw03_ShareDeals.mono : ∀ a0 a1 a2 k, LeO (backhaullaw03_ShareDeals.f k a0 a1 a2) (backhaullaw03_ShareDeals.f (k + 1) a0 a1 a2) := by
  intro a0 a1 a2 k
  unfold backhaullaw03_ShareDeals.f
  repeat' first
      | (with_reducible exact backhaulref02_SameInts.mono _ _ _)
      | (with_reducible exact backhaulref03_Evenly.mono _ _ _)
      | (with_reducible exact backhaulref03_Out.mono _ _ _)
      | (with_reducible exact backhaulref03_Place.mono _ _ _ _)
      | (with_reducible exact backhaulref03_Whole.mono _ _)
      | (with_reducible exact share_Evenly.mono _ _ _)
      | (with_reducible exact share_Out.mono _ _ _)
      | (with_reducible exact share_Place.mono _ _ _ _)
      | (with_reducible exact share_Whole.mono _ _)
      | (with_reducible exact LeO.refl _)
      | (with_reducible exact LeO.none _)
      | (with_reducible refine LeO.ite ?_ ?_)
      | (with_reducible refine LeO.bind ?_ (fun _ => ?_))
      | exact backhaulref02_SameInts.mono _ _ _
      | exact backhaulref03_Evenly.mono _ _ _
      | exact backhaulref03_Out.mono _ _ _
      | exact backhaulref03_Place.mono _ _ _ _
      | exact backhaulref03_Whole.mono _ _
      | exact share_Evenly.mono _ _ _
      | exact share_Out.mono _ _ _
      | exact share_Place.mono _ _ _ _
      | exact share_Whole.mono _ _
      | exact LeO.none _
      | refine LeO.ite ?_ ?_
      | refine LeO.bind ?_ (fun _ => ?_)
set_option maxHeartbeats 8000000 in
set_option maxRecDepth 100000 in
theorem backhaullaw03_ShareDeals.calls (k : Nat) (a0 : Int) (A1 : Option Addr) (c1 : Nat) (l1 : List Int) (a2 : Int) (w : World) (hr1 : Kd.C (Kd.int .i64) w A1 l1.length l1) (hc1 : l1.length ≤ c1) (h : backhaullaw03_ShareDeals.f k a0 l1 a2 = some true) :
    Calls Try.prog 10 #[.int .i64 a0, .slice A1 l1.length c1, .int .i64 a2] w fun e w' => e = .returned (.bool true) ∧ Below w.heap.size w w' := by
  have HR1 := Aside0.mk hr1
  have HC1 := Aside0.mk hc1
  clear hr1 hc1
  have HB := Aside0.mk (Below.refl w.heap.size w)
  have H : (if (l1.length : Int) > 300 then ((backhaullaw03_awake.f).bind fun t101 => (if t101 = true then (some true) else (some false))) else ((share_Out.f k a0 l1).bind fun bt102 => ((backhaulref03_Out.f k a0 l1).bind fun bt106 => ((share_Evenly.f k a0 a2).bind fun bt110 => ((backhaulref03_Evenly.f k a0 a2).bind fun bt114 => ((share_Place.f k a0 l1 a2).bind fun bt118 => ((backhaulref03_Place.f k a0 l1 a2).bind fun bt120 => ((share_Whole.f k l1).bind fun bt122 => ((backhaulref03_Whole.f k l1).bind fun bt124 => ((backhaulref02_SameInts.f k bt102.1 bt106.1).bind fun t126 => (if t126 = true then (if bt102.2 = bt106.2 then ((backhaulref02_SameInts.f k bt110.1 bt114.1).bind fun t127 => (if t127 = true then (if bt110.2 = bt114.2 then (if bt118.1 = bt120.1 then (if bt118.2 = bt120.2 then (if bt122.1 = bt124.1 then (if bt122.2 = bt124.2 then ((backhaullaw03_awake.f).bind fun t128 => (if t128 = true then (some true) else (some false))) else (some false)) else (some false)) else (some false)) else (some false)) else (some false)) else (some false))) else (some false)) else (some false)))))))))))) = some true := h
  clear h
  by_cases c4 : (l1.length : Int) > 300
  · rw [if_pos c4] at H
    have c4b0 : decide (300 < (l1.length : Int)) = true := decide_eq_true c4
    have c4b1 : decide (300 < l1.length) = true := decide_eq_true (by omega)
    clear c4
    replace H := Option.bind_eq_some_iff.mp H
    obtain ⟨t101, A50, H⟩ := H
    replace H : (if t101 = true then (some true) else (some false)) = some true := H
    have A5 := Aside0.mk A50
    clear A50
    by_cases c6 : t101 = true
    · subst c6
      have H1 : (some true) = some true := by first | (rw [if_pos rfl] at H; exact H) | rfl
      clear H
      have H := H1
      clear H1
      clear H
      go_enter Try.func10, Try.ntmps10
      go_wp2_with (first | ((with_reducible refine gate_callee (f := 50) rfl ?_); refine goesL_ (some 26) rfl rfl Try.func50 (by kernel_rfl) rfl #[] rfl (by (try simp only [List.map_toArray, List.map_cons, List.map_nil]); first | done | rfl | (simp only [List.length_drop, List.length_take]; rfl)) ?_; (with_reducible refine (backhaullaw03_awake.calls  true _ A5.out).mono ?_); rintro e w7 ⟨rfl, hb⟩; refine ⟨_, rfl, ?_⟩; have n0_ := Aside0.mk (below_step (by repeat (first | (with_reducible first | exact HB.out | apply below_alloc | apply pw_below_drewN | apply below_drew1) | exact HB.out)) hb); clear HB; have HB := n0_; clear n0_; (try clear hb); (try clear hb2); (try clear hk); (try clear hi)))
      go_ret
      exact ⟨by first | rfl | (simp [errW_none, errW_some] <;> rfl) | (simp [*, errW_none, errW_some] <;> rfl), by repeat (first | (with_reducible first | exact HB.out | apply below_alloc | apply pw_below_drewN | apply below_drew1) | exact HB.out)⟩
    · replace c6 := Bool.eq_false_iff.mpr c6
      subst c6
      have H1 : (some false) = some true := by first | (rw [if_neg (show ¬ (false = true) by decide)] at H; exact H) | rfl
      clear H
      have H := H1
      clear H1
      exact absurd H (by simp)
  · rw [if_neg c4] at H
    have c4b0 : decide (300 < (l1.length : Int)) = false := decide_eq_false c4
    have c4b1 : decide (300 < l1.length) = false := decide_eq_false (by omega)
    clear c4
    replace H := Option.bind_eq_some_iff.mp H
    obtain ⟨⟨t102, t103⟩, A80, H⟩ := H
    replace H : ((backhaulref03_Out.f k a0 l1).bind fun bt106 => ((share_Evenly.f k a0 a2).bind fun bt110 => ((backhaulref03_Evenly.f k a0 a2).bind fun bt114 => ((share_Place.f k a0 l1 a2).bind fun bt118 => ((backhaulref03_Place.f k a0 l1 a2).bind fun bt120 => ((share_Whole.f k l1).bind fun bt122 => ((backhaulref03_Whole.f k l1).bind fun bt124 => ((backhaulref02_SameInts.f k t102 bt106.1).bind fun t126 => (if t126 = true then (if t103 = bt106.2 then ((backhaulref02_SameInts.f k bt110.1 bt114.1).bind fun t127 => (if t127 = true then (if bt110.2 = bt114.2 then (if bt118.1 = bt120.1 then (if bt118.2 = bt120.2 then (if bt122.1 = bt124.1 then (if bt122.2 = bt124.2 then ((backhaullaw03_awake.f).bind fun t128 => (if t128 = true then (some true) else (some false))) else (some false)) else (some false)) else (some false)) else (some false)) else (some false)) else (some false))) else (some false)) else (some false)))))))))) = some true := H
    have A8 := Aside0.mk A80
    clear A80
    replace H := Option.bind_eq_some_iff.mp H
    obtain ⟨⟨t106, t107⟩, A90, H⟩ := H
    replace H : ((share_Evenly.f k a0 a2).bind fun bt110 => ((backhaulref03_Evenly.f k a0 a2).bind fun bt114 => ((share_Place.f k a0 l1 a2).bind fun bt118 => ((backhaulref03_Place.f k a0 l1 a2).bind fun bt120 => ((share_Whole.f k l1).bind fun bt122 => ((backhaulref03_Whole.f k l1).bind fun bt124 => ((backhaulref02_SameInts.f k t102 t106).bind fun t126 => (if t126 = true then (if t103 = t107 then ((backhaulref02_SameInts.f k bt110.1 bt114.1).bind fun t127 => (if t127 = true then (if bt110.2 = bt114.2 then (if bt118.1 = bt120.1 then (if bt118.2 = bt120.2 then (if bt122.1 = bt124.1 then (if bt122.2 = bt124.2 then ((backhaullaw03_awake.f).bind fun t128 => (if t128 = true then (some true) else (some false))) else (some false)) else (some false)) else (some false)) else (some false)) else (some false)) else (some false))) else (some false)) else (some false))))))))) = some true := H
    have A9 := Aside0.mk A90
    clear A90
    replace H := Option.bind_eq_some_iff.mp H
    obtain ⟨⟨t110, t111⟩, A100, H⟩ := H
    replace H : ((backhaulref03_Evenly.f k a0 a2).bind fun bt114 => ((share_Place.f k a0 l1 a2).bind fun bt118 => ((backhaulref03_Place.f k a0 l1 a2).bind fun bt120 => ((share_Whole.f k l1).bind fun bt122 => ((backhaulref03_Whole.f k l1).bind fun bt124 => ((backhaulref02_SameInts.f k t102 t106).bind fun t126 => (if t126 = true then (if t103 = t107 then ((backhaulref02_SameInts.f k t110 bt114.1).bind fun t127 => (if t127 = true then (if t111 = bt114.2 then (if bt118.1 = bt120.1 then (if bt118.2 = bt120.2 then (if bt122.1 = bt124.1 then (if bt122.2 = bt124.2 then ((backhaullaw03_awake.f).bind fun t128 => (if t128 = true then (some true) else (some false))) else (some false)) else (some false)) else (some false)) else (some false)) else (some false)) else (some false))) else (some false)) else (some false)))))))) = some true := H
    have A10 := Aside0.mk A100
    clear A100
    replace H := Option.bind_eq_some_iff.mp H
    obtain ⟨⟨t114, t115⟩, A110, H⟩ := H
    replace H : ((share_Place.f k a0 l1 a2).bind fun bt118 => ((backhaulref03_Place.f k a0 l1 a2).bind fun bt120 => ((share_Whole.f k l1).bind fun bt122 => ((backhaulref03_Whole.f k l1).bind fun bt124 => ((backhaulref02_SameInts.f k t102 t106).bind fun t126 => (if t126 = true then (if t103 = t107 then ((backhaulref02_SameInts.f k t110 t114).bind fun t127 => (if t127 = true then (if t111 = t115 then (if bt118.1 = bt120.1 then (if bt118.2 = bt120.2 then (if bt122.1 = bt124.1 then (if bt122.2 = bt124.2 then ((backhaullaw03_awake.f).bind fun t128 => (if t128 = true then (some true) else (some false))) else (some false)) else (some false)) else (some false)) else (some false)) else (some false)) else (some false))) else (some false)) else (some false))))))) = some true := H
    have A11 := Aside0.mk A110
    clear A110
    replace H := Option.bind_eq_some_iff.mp H
    obtain ⟨⟨t118, t119⟩, A120, H⟩ := H
    replace H : ((backhaulref03_Place.f k a0 l1 a2).bind fun bt120 => ((share_Whole.f k l1).bind fun bt122 => ((backhaulref03_Whole.f k l1).bind fun bt124 => ((backhaulref02_SameInts.f k t102 t106).bind fun t126 => (if t126 = true then (if t103 = t107 then ((backhaulref02_SameInts.f k t110 t114).bind fun t127 => (if t127 = true then (if t111 = t115 then (if t118 = bt120.1 then (if t119 = bt120.2 then (if bt122.1 = bt124.1 then (if bt122.2 = bt124.2 then ((backhaullaw03_awake.f).bind fun t128 => (if t128 = true then (some true) else (some false))) else (some false)) else (some false)) else (some false)) else (some false)) else (some false)) else (some false))) else (some false)) else (some false)))))) = some true := H
    have A12 := Aside0.mk A120
    clear A120
    replace H := Option.bind_eq_some_iff.mp H
    obtain ⟨⟨t120, t121⟩, A130, H⟩ := H
    replace H : ((share_Whole.f k l1).bind fun bt122 => ((backhaulref03_Whole.f k l1).bind fun bt124 => ((backhaulref02_SameInts.f k t102 t106).bind fun t126 => (if t126 = true then (if t103 = t107 then ((backhaulref02_SameInts.f k t110 t114).bind fun t127 => (if t127 = true then (if t111 = t115 then (if t118 = t120 then (if t119 = t121 then (if bt122.1 = bt124.1 then (if bt122.2 = bt124.2 then ((backhaullaw03_awake.f).bind fun t128 => (if t128 = true then (some true) else (some false))) else (some false)) else (some false)) else (some false)) else (some false)) else (some false)) else (some false))) else (some false)) else (some false))))) = some true := H
    have A13 := Aside0.mk A130
    clear A130
    replace H := Option.bind_eq_some_iff.mp H
    obtain ⟨⟨t122, t123⟩, A140, H⟩ := H
    replace H : ((backhaulref03_Whole.f k l1).bind fun bt124 => ((backhaulref02_SameInts.f k t102 t106).bind fun t126 => (if t126 = true then (if t103 = t107 then ((backhaulref02_SameInts.f k t110 t114).bind fun t127 => (if t127 = true then (if t111 = t115 then (if t118 = t120 then (if t119 = t121 then (if t122 = bt124.1 then (if t123 = bt124.2 then ((backhaullaw03_awake.f).bind fun t128 => (if t128 = true then (some true) else (some false))) else (some false)) else (some false)) else (some false)) else (some false)) else (some false)) else (some false))) else (some false)) else (some false)))) = some true := H
    have A14 := Aside0.mk A140
    clear A140
    replace H := Option.bind_eq_some_iff.mp H
    obtain ⟨⟨t124, t125⟩, A150, H⟩ := H
    replace H : ((backhaulref02_SameInts.f k t102 t106).bind fun t126 => (if t126 = true then (if t103 = t107 then ((backhaulref02_SameInts.f k t110 t114).bind fun t127 => (if t127 = true then (if t111 = t115 then (if t118 = t120 then (if t119 = t121 then (if t122 = t124 then (if t123 = t125 then ((backhaullaw03_awake.f).bind fun t128 => (if t128 = true then (some true) else (some false))) else (some false)) else (some false)) else (some false)) else (some false)) else (some false)) else (some false))) else (some false)) else (some false))) = some true := H
    have A15 := Aside0.mk A150
    clear A150
    replace H := Option.bind_eq_some_iff.mp H
    obtain ⟨t126, A160, H⟩ := H
    replace H : (if t126 = true then (if t103 = t107 then ((backhaulref02_SameInts.f k t110 t114).bind fun t127 => (if t127 = true then (if t111 = t115 then (if t118 = t120 then (if t119 = t121 then (if t122 = t124 then (if t123 = t125 then ((backhaullaw03_awake.f).bind fun t128 => (if t128 = true then (some true) else (some false))) else (some false)) else (some false)) else (some false)) else (some false)) else (some false)) else (some false))) else (some false)) else (some false)) = some true := H
    have A16 := Aside0.mk A160
    clear A160
    by_cases c17 : t126 = true
    · subst c17
      have H1 : (if t103 = t107 then ((backhaulref02_SameInts.f k t110 t114).bind fun t127 => (if t127 = true then (if t111 = t115 then (if t118 = t120 then (if t119 = t121 then (if t122 = t124 then (if t123 = t125 then ((backhaullaw03_awake.f).bind fun t128 => (if t128 = true then (some true) else (some false))) else (some false)) else (some false)) else (some false)) else (some false)) else (some false)) else (some false))) else (some false)) = some true := by first | (rw [if_pos rfl] at H; exact H) | rfl
      clear H
      have H := H1
      clear H1
      by_cases c18 : t103 = t107
      · rw [if_pos c18] at H
        have c18b0 : (t103 == t107) = true := beq_iff_eq.mpr c18
        have c18b1 : (t103 != t107) = false := bne_eq_false_iff_eq.mpr c18
        clear c18
        replace H := Option.bind_eq_some_iff.mp H
        obtain ⟨t127, A190, H⟩ := H
        replace H : (if t127 = true then (if t111 = t115 then (if t118 = t120 then (if t119 = t121 then (if t122 = t124 then (if t123 = t125 then ((backhaullaw03_awake.f).bind fun t128 => (if t128 = true then (some true) else (some false))) else (some false)) else (some false)) else (some false)) else (some false)) else (some false)) else (some false)) = some true := H
        have A19 := Aside0.mk A190
        clear A190
        by_cases c20 : t127 = true
        · subst c20
          have H1 : (if t111 = t115 then (if t118 = t120 then (if t119 = t121 then (if t122 = t124 then (if t123 = t125 then ((backhaullaw03_awake.f).bind fun t128 => (if t128 = true then (some true) else (some false))) else (some false)) else (some false)) else (some false)) else (some false)) else (some false)) = some true := by first | (rw [if_pos rfl] at H; exact H) | rfl
          clear H
          have H := H1
          clear H1
          by_cases c21 : t111 = t115
          · rw [if_pos c21] at H
            have c21b0 : (t111 == t115) = true := beq_iff_eq.mpr c21
            have c21b1 : (t111 != t115) = false := bne_eq_false_iff_eq.mpr c21
            clear c21
            by_cases c22 : t118 = t120
            · rw [if_pos c22] at H
              have c22b0 : (t118 == t120) = true := beq_iff_eq.mpr c22
              have c22b1 : (t118 != t120) = false := bne_eq_false_iff_eq.mpr c22
              clear c22
              by_cases c23 : t119 = t121
              · rw [if_pos c23] at H
                have c23b0 : (t119 == t121) = true := beq_iff_eq.mpr c23
                have c23b1 : (t119 != t121) = false := bne_eq_false_iff_eq.mpr c23
                clear c23
                by_cases c24 : t122 = t124
                · rw [if_pos c24] at H
                  have c24b0 : (t122 == t124) = true := beq_iff_eq.mpr c24
                  have c24b1 : (t122 != t124) = false := bne_eq_false_iff_eq.mpr c24
                  clear c24
                  by_cases c25 : t123 = t125
                  · rw [if_pos c25] at H
                    have c25b0 : (t123 == t125) = true := beq_iff_eq.mpr c25
                    have c25b1 : (t123 != t125) = false := bne_eq_false_iff_eq.mpr c25
                    clear c25
                    replace H := Option.bind_eq_some_iff.mp H
                    obtain ⟨t128, A260, H⟩ := H
                    replace H : (if t128 = true then (some true) else (some false)) = some true := H
                    have A26 := Aside0.mk A260
                    clear A260
                    by_cases c27 : t128 = true
                    · subst c27
                      have H1 : (some true) = some true := by first | (rw [if_pos rfl] at H; exact H) | rfl
                      clear H
                      have H := H1
                      clear H1
                      clear H
                      go_enter Try.func10, Try.ntmps10
                      go_wp2_with (first | ((with_reducible refine gate_callee (f := 51) rfl ?_); refine goesL_ (some 30) rfl rfl Try.func51 (by kernel_rfl) rfl #[.int .i64 a0, .slice A1 l1.length c1] rfl (by (try simp only [List.map_toArray, List.map_cons, List.map_nil]); first | done | rfl | (simp only [List.length_drop, List.length_take]; rfl)) ?_; (with_reducible refine (share_Out.calls k a0 _ _ l1 t102 t103 _ ?side1 ?side2 A8.out).mono ?_); (case side1 => repeat (first | exact HR1.out | (with_reducible refine Kd.C_alloc ?_ _) | (with_reducible refine Kd.C_drewN ?_ _) | (with_reducible refine Kd.C_drew ?_))); (case side2 => exact HC1.out); rintro e w28 ⟨v104, rfl, ho0, hb⟩; refine ⟨_, rfl, ?_⟩; have n0_ := Aside0.mk (Kd.R_lower ho0 (below_size (by repeat (first | (with_reducible first | exact HB.out | apply below_alloc | apply pw_below_drewN | apply below_drew1) | exact HB.out)))); have n1_ := Aside0.mk (below_step (by repeat (first | (with_reducible first | exact HB.out | apply below_alloc | apply pw_below_drewN | apply below_drew1) | exact HB.out)) hb); clear HB; have HO105 := n0_; have HB := n1_; clear n0_ n1_; (try clear hb); (try clear hb2); (try clear hk); (try clear hi); (try clear ho0)) | ((with_reducible refine gate_callee (f := 52) rfl ?_); refine goesL_ (some 36) rfl rfl Try.func52 (by kernel_rfl) rfl #[.int .i64 a0, .slice A1 l1.length c1] rfl (by (try simp only [List.map_toArray, List.map_cons, List.map_nil]); first | done | rfl | (simp only [List.length_drop, List.length_take]; rfl)) ?_; (with_reducible refine (backhaulref03_Out.calls k a0 _ _ l1 t106 t107 _ ?side1 ?side2 A9.out).mono ?_); (case side1 => repeat (first | exact (Kd.C_below HR1.out HB.out) | (with_reducible refine Kd.C_alloc ?_ _) | (with_reducible refine Kd.C_drewN ?_ _) | (with_reducible refine Kd.C_drew ?_))); (case side2 => exact HC1.out); rintro e w29 ⟨v108, rfl, ho0, hb⟩; refine ⟨_, rfl, ?_⟩; have n0_ := Aside0.mk (Kd.R_elder' (by (with_reducible repeat (first | apply Kd.R_alloc | apply Kd.R_drewN | apply Kd.R_drew)); exact HO105.out) (Kd.R_base ho0) hb); have n1_ := Aside0.mk (Kd.R_lower (Kd.R_new' ho0 (Kd.R_lt (by (with_reducible repeat (first | apply Kd.R_alloc | apply Kd.R_drewN | apply Kd.R_drew)); exact HO105.out))) (below_size (by repeat (first | (with_reducible first | exact HB.out | apply below_alloc | apply pw_below_drewN | apply below_drew1) | exact HB.out)))); have n2_ := Aside0.mk (below_step (by repeat (first | (with_reducible first | exact HB.out | apply below_alloc | apply pw_below_drewN | apply below_drew1) | exact HB.out)) hb); clear HO105; clear HB; have HO105 := n0_; have HO109 := n1_; have HB := n2_; clear n0_ n1_ n2_; (try clear hb); (try clear hb2); (try clear hk); (try clear hi); (try clear ho0)) | ((with_reducible refine gate_callee (f := 53) rfl ?_); refine goesL_ (some 42) rfl rfl Try.func53 (by kernel_rfl) rfl #[.int .i64 a0, .int .i64 a2] rfl (by (try simp only [List.map_toArray, List.map_cons, List.map_nil]); first | done | rfl | (simp only [List.length_drop, List.length_take]; rfl)) ?_; (with_reducible refine (share_Evenly.calls k a0 a2 t110 t111 _ A10.out).mono ?_); rintro e w30 ⟨v112, rfl, ho0, hb⟩; refine ⟨_, rfl, ?_⟩; have n0_ := Aside0.mk (Kd.R_elder' (by (with_reducible repeat (first | apply Kd.R_alloc | apply Kd.R_drewN | apply Kd.R_drew)); exact HO105.out) (Kd.R_base ho0) hb); have n1_ := Aside0.mk (Kd.R_elder' (by (with_reducible repeat (first | apply Kd.R_alloc | apply Kd.R_drewN | apply Kd.R_drew)); exact HO109.out) (Kd.R_base ho0) hb); have n2_ := Aside0.mk (Kd.R_lower (Kd.R_new' (Kd.R_new' ho0 (Kd.R_lt (by (with_reducible repeat (first | apply Kd.R_alloc | apply Kd.R_drewN | apply Kd.R_drew)); exact HO105.out))) (Kd.R_lt (by (with_reducible repeat (first | apply Kd.R_alloc | apply Kd.R_drewN | apply Kd.R_drew)); exact HO109.out))) (below_size (by repeat (first | (with_reducible first | exact HB.out | apply below_alloc | apply pw_below_drewN | apply below_drew1) | exact HB.out)))); have n3_ := Aside0.mk (below_step (by repeat (first | (with_reducible first | exact HB.out | apply below_alloc | apply pw_below_drewN | apply below_drew1) | exact HB.out)) hb); clear HO105; clear HO109; clear HB; have HO105 := n0_; have HO109 := n1_; have HO113 := n2_; have HB := n3_; clear n0_ n1_ n2_ n3_; (try clear hb); (try clear hb2); (try clear hk); (try clear hi); (try clear ho0)) | ((with_reducible refine gate_callee (f := 54) rfl ?_); refine goesL_ (some 48) rfl rfl Try.func54 (by kernel_rfl) rfl #[.int .i64 a0, .int .i64 a2] rfl (by (try simp only [List.map_toArray, List.map_cons, List.map_nil]); first | done | rfl | (simp only [List.length_drop, List.length_take]; rfl)) ?_; (with_reducible refine (backhaulref03_Evenly.calls k a0 a2 t114 t115 _ A11.out).mono ?_); rintro e w31 ⟨v116, rfl, ho0, hb⟩; refine ⟨_, rfl, ?_⟩; have n0_ := Aside0.mk (Kd.R_elder' (by (with_reducible repeat (first | apply Kd.R_alloc | apply Kd.R_drewN | apply Kd.R_drew)); exact HO105.out) (Kd.R_base ho0) hb); have n1_ := Aside0.mk (Kd.R_elder' (by (with_reducible repeat (first | apply Kd.R_alloc | apply Kd.R_drewN | apply Kd.R_drew)); exact HO109.out) (Kd.R_base ho0) hb); have n2_ := Aside0.mk (Kd.R_elder' (by (with_reducible repeat (first | apply Kd.R_alloc | apply Kd.R_drewN | apply Kd.R_drew)); exact HO113.out) (Kd.R_base ho0) hb); have n3_ := Aside0.mk (Kd.R_lower (Kd.R_new' (Kd.R_new' (Kd.R_new' ho0 (Kd.R_lt (by (with_reducible repeat (first | apply Kd.R_alloc | apply Kd.R_drewN | apply Kd.R_drew)); exact HO105.out))) (Kd.R_lt (by (with_reducible repeat (first | apply Kd.R_alloc | apply Kd.R_drewN | apply Kd.R_drew)); exact HO109.out))) (Kd.R_lt (by (with_reducible repeat (first | apply Kd.R_alloc | apply Kd.R_drewN | apply Kd.R_drew)); exact HO113.out))) (below_size (by repeat (first | (with_reducible first | exact HB.out | apply below_alloc | apply pw_below_drewN | apply below_drew1) | exact HB.out)))); have n4_ := Aside0.mk (below_step (by repeat (first | (with_reducible first | exact HB.out | apply below_alloc | apply pw_below_drewN | apply below_drew1) | exact HB.out)) hb); clear HO105; clear HO109; clear HO113; clear HB; have HO105 := n0_; have HO109 := n1_; have HO113 := n2_; have HO117 := n3_; have HB := n4_; clear n0_ n1_ n2_ n3_ n4_; (try clear hb); (try clear hb2); (try clear hk); (try clear hi); (try clear ho0)) | ((with_reducible refine gate_callee (f := 55) rfl ?_); refine goesL_ (some 55) rfl rfl Try.func55 (by kernel_rfl) rfl #[.int .i64 a0, .slice A1 l1.length c1, .int .i64 a2] rfl (by (try simp only [List.map_toArray, List.map_cons, List.map_nil]); first | done | rfl | (simp only [List.length_drop, List.length_take]; rfl)) ?_; (with_reducible refine (share_Place.calls k a0 _ _ l1 a2 t118 t119 _ ?side1 ?side2 A12.out).mono ?_); (case side1 => repeat (first | exact (Kd.C_below HR1.out HB.out) | (with_reducible refine Kd.C_alloc ?_ _) | (with_reducible refine Kd.C_drewN ?_ _) | (with_reducible refine Kd.C_drew ?_))); (case side2 => exact HC1.out); rintro e w32 ⟨rfl, hb⟩; refine ⟨_, rfl, ?_⟩; have n0_ := Aside0.mk (Kd.R_below (by (with_reducible repeat (first | apply Kd.R_alloc | apply Kd.R_drewN | apply Kd.R_drew)); exact HO105.out) hb); have n1_ := Aside0.mk (Kd.R_below (by (with_reducible repeat (first | apply Kd.R_alloc | apply Kd.R_drewN | apply Kd.R_drew)); exact HO109.out) hb); have n2_ := Aside0.mk (Kd.R_below (by (with_reducible repeat (first | apply Kd.R_alloc | apply Kd.R_drewN | apply Kd.R_drew)); exact HO113.out) hb); have n3_ := Aside0.mk (Kd.R_below (by (with_reducible repeat (first | apply Kd.R_alloc | apply Kd.R_drewN | apply Kd.R_drew)); exact HO117.out) hb); have n4_ := Aside0.mk (below_step (by repeat (first | (with_reducible first | exact HB.out | apply below_alloc | apply pw_below_drewN | apply below_drew1) | exact HB.out)) hb); clear HO105; clear HO109; clear HO113; clear HO117; clear HB; have HO105 := n0_; have HO109 := n1_; have HO113 := n2_; have HO117 := n3_; have HB := n4_; clear n0_ n1_ n2_ n3_ n4_; (try clear hb); (try clear hb2); (try clear hk); (try clear hi)) | ((with_reducible refine gate_callee (f := 56) rfl ?_); refine goesL_ (some 62) rfl rfl Try.func56 (by kernel_rfl) rfl #[.int .i64 a0, .slice A1 l1.length c1, .int .i64 a2] rfl (by (try simp only [List.map_toArray, List.map_cons, List.map_nil]); first | done | rfl | (simp only [List.length_drop, List.length_take]; rfl)) ?_; (with_reducible refine (backhaulref03_Place.calls k a0 _ _ l1 a2 t120 t121 _ ?side1 ?side2 A13.out).mono ?_); (case side1 => repeat (first | exact (Kd.C_below HR1.out HB.out) | (with_reducible refine Kd.C_alloc ?_ _) | (with_reducible refine Kd.C_drewN ?_ _) | (with_reducible refine Kd.C_drew ?_))); (case side2 => exact HC1.out); rintro e w33 ⟨rfl, hb⟩; refine ⟨_, rfl, ?_⟩; have n0_ := Aside0.mk (Kd.R_below (by (with_reducible repeat (first | apply Kd.R_alloc | apply Kd.R_drewN | apply Kd.R_drew)); exact HO105.out) hb); have n1_ := Aside0.mk (Kd.R_below (by (with_reducible repeat (first | apply Kd.R_alloc | apply Kd.R_drewN | apply Kd.R_drew)); exact HO109.out) hb); have n2_ := Aside0.mk (Kd.R_below (by (with_reducible repeat (first | apply Kd.R_alloc | apply Kd.R_drewN | apply Kd.R_drew)); exact HO113.out) hb); have n3_ := Aside0.mk (Kd.R_below (by (with_reducible repeat (first | apply Kd.R_alloc | apply Kd.R_drewN | apply Kd.R_drew)); exact HO117.out) hb); have n4_ := Aside0.mk (below_step (by repeat (first | (with_reducible first | exact HB.out | apply below_alloc | apply pw_below_drewN | apply below_drew1) | exact HB.out)) hb); clear HO105; clear HO109; clear HO113; clear HO117; clear HB; have HO105 := n0_; have HO109 := n1_; have HO113 := n2_; have HO117 := n3_; have HB := n4_; clear n0_ n1_ n2_ n3_ n4_; (try clear hb); (try clear hb2); (try clear hk); (try clear hi)) | ((with_reducible refine gate_callee (f := 57) rfl ?_); refine goesL_ (some 67) rfl rfl Try.func57 (by kernel_rfl) rfl #[.slice A1 l1.length c1] rfl (by (try simp only [List.map_toArray, List.map_cons, List.map_nil]); first | done | rfl | (simp only [List.length_drop, List.length_take]; rfl)) ?_; (with_reducible refine (share_Whole.calls k _ _ l1 t122 t123 _ ?side1 ?side2 A14.out).mono ?_); (case side1 => repeat (first | exact (Kd.C_below HR1.out HB.out) | (with_reducible refine Kd.C_alloc ?_ _) | (with_reducible refine Kd.C_drewN ?_ _) | (with_reducible refine Kd.C_drew ?_))); (case side2 => exact HC1.out); rintro e w' ⟨rfl, ⟨nd, rfl⟩⟩; refine ⟨_, rfl, ?_⟩) | ((with_reducible refine gate_callee (f := 58) rfl ?_); refine goesL_ (some 72) rfl rfl Try.func58 (by kernel_rfl) rfl #[.slice A1 l1.length c1] rfl (by (try simp only [List.map_toArray, List.map_cons, List.map_nil]); first | done | rfl | (simp only [List.length_drop, List.length_take]; rfl)) ?_; (with_reducible refine (backhaulref03_Whole.calls k _ _ l1 t124 t125 _ ?side1 ?side2 A15.out).mono ?_); (case side1 => repeat (first | exact (Kd.C_below HR1.out (by repeat (first | (with_reducible first | exact HB.out | apply below_alloc | apply pw_below_drewN | apply below_drew1) | exact HB.out))) | (with_reducible refine Kd.C_alloc ?_ _) | (with_reducible refine Kd.C_drewN ?_ _) | (with_reducible refine Kd.C_drew ?_))); (case side2 => exact HC1.out); rintro e w' ⟨rfl, ⟨nd, rfl⟩⟩; refine ⟨_, rfl, ?_⟩; obtain ⟨Ao34, co34, eo34⟩ := Kd.R_slice HO105.out; subst eo34; obtain ⟨Ao35, co35, eo35⟩ := Kd.R_slice HO109.out; subst eo35) | ((with_reducible refine gate_callee (f := 59) rfl ?_); refine goesL_ (some 77) rfl rfl Try.func59 (by kernel_rfl) rfl #[.slice Ao34 t102.length co34, .slice Ao35 t106.length co35] rfl (by (try simp only [List.map_toArray, List.map_cons, List.map_nil]); first | done | rfl | (simp only [List.length_drop, List.length_take]; rfl)) ?_; (with_reducible refine (backhaulref02_SameInts.calls k _ _ t102 _ _ t106 true _ ?side1 ?side2 ?side3 ?side4 A16.out).mono ?_); (case side1 => repeat (first | exact (Kd.R_reads' HO105.out).2.2 | (with_reducible refine Kd.C_alloc ?_ _) | (with_reducible refine Kd.C_drewN ?_ _) | (with_reducible refine Kd.C_drew ?_))); (case side2 => exact (Kd.R_reads' HO105.out).2.1); (case side3 => repeat (first | exact (Kd.R_reads' HO109.out).2.2 | (with_reducible refine Kd.C_alloc ?_ _) | (with_reducible refine Kd.C_drewN ?_ _) | (with_reducible refine Kd.C_drew ?_))); (case side4 => exact (Kd.R_reads' HO109.out).2.1); rintro e w' ⟨rfl, ⟨nd, rfl⟩⟩; refine ⟨_, rfl, ?_⟩; obtain ⟨Ao36, co36, eo36⟩ := Kd.R_slice HO113.out; subst eo36; obtain ⟨Ao37, co37, eo37⟩ := Kd.R_slice HO117.out; subst eo37) | (go_at_call 59; (with_reducible refine (backhaulref02_SameInts.calls k _ _ t110 _ _ t114 true _ ?side1 ?side2 ?side3 ?side4 A19.out).mono ?_); (case side1 => repeat (first | exact (Kd.R_reads' HO113.out).2.2 | (with_reducible refine Kd.C_alloc ?_ _) | (with_reducible refine Kd.C_drewN ?_ _) | (with_reducible refine Kd.C_drew ?_))); (case side2 => exact (Kd.R_reads' HO113.out).2.1); (case side3 => repeat (first | exact (Kd.R_reads' HO117.out).2.2 | (with_reducible refine Kd.C_alloc ?_ _) | (with_reducible refine Kd.C_drewN ?_ _) | (with_reducible refine Kd.C_drew ?_))); (case side4 => exact (Kd.R_reads' HO117.out).2.1); rintro e w' ⟨rfl, ⟨nd, rfl⟩⟩) | (go_at_call 50; (with_reducible refine (backhaullaw03_awake.calls  true _ A26.out).mono ?_); rintro e w38 ⟨rfl, hb⟩; have n0_ := Aside0.mk (Kd.R_below (by (with_reducible repeat (first | apply Kd.R_alloc | apply Kd.R_drewN | apply Kd.R_drew)); exact HO105.out) hb); have n1_ := Aside0.mk (Kd.R_below (by (with_reducible repeat (first | apply Kd.R_alloc | apply Kd.R_drewN | apply Kd.R_drew)); exact HO109.out) hb); have n2_ := Aside0.mk (Kd.R_below (by (with_reducible repeat (first | apply Kd.R_alloc | apply Kd.R_drewN | apply Kd.R_drew)); exact HO113.out) hb); have n3_ := Aside0.mk (Kd.R_below (by (with_reducible repeat (first | apply Kd.R_alloc | apply Kd.R_drewN | apply Kd.R_drew)); exact HO117.out) hb); have n4_ := Aside0.mk (below_step (by repeat (first | (with_reducible first | exact HB.out | apply below_alloc | apply pw_below_drewN | apply below_drew1) | exact HB.out)) hb); clear HO105; clear HO109; clear HO113; clear HO117; clear HB; have HO105 := n0_; have HO109 := n1_; have HO113 := n2_; have HO117 := n3_; have HB := n4_; clear n0_ n1_ n2_ n3_ n4_; (try clear hb); (try clear hb2); (try clear hk); (try clear hi)))
                      go_ret
                      exact ⟨by first | rfl | (simp [errW_none, errW_some] <;> rfl) | (simp [*, errW_none, errW_some] <;> rfl), by repeat (first | (with_reducible first | exact HB.out | apply below_alloc | apply pw_below_drewN | apply below_drew1) | exact HB.out)⟩
                    · replace c27 := Bool.eq_false_iff.mpr c27
                      subst c27
                      have H1 : (some false) = some true := by first | (rw [if_neg (show ¬ (false = true) by decide)] at H; exact H) | rfl
                      clear H
                      have H := H1
                      clear H1
                      exact absurd H (by simp)
                  · rw [if_neg c25] at H
                    have c25b0 : (t123 == t125) = false := beq_eq_false_iff_ne.mpr c25
                    have c25b1 : (t123 != t125) = true := bne_iff_ne.mpr c25
                    exact absurd H (by simp)
                · rw [if_neg c24] at H
                  have c24b0 : (t122 == t124) = false := beq_eq_false_iff_ne.mpr c24
                  have c24b1 : (t122 != t124) = true := bne_iff_ne.mpr c24
                  exact absurd H (by simp)
              · rw [if_neg c23] at H
                have c23b0 : (t119 == t121) = false := beq_eq_false_iff_ne.mpr c23
                have c23b1 : (t119 != t121) = true := bne_iff_ne.mpr c23
                exact absurd H (by simp)
            · rw [if_neg c22] at H
              have c22b0 : (t118 == t120) = false := beq_eq_false_iff_ne.mpr c22
              have c22b1 : (t118 != t120) = true := bne_iff_ne.mpr c22
              exact absurd H (by simp)
          · rw [if_neg c21] at H
            have c21b0 : (t111 == t115) = false := beq_eq_false_iff_ne.mpr c21
            have c21b1 : (t111 != t115) = true := bne_iff_ne.mpr c21
            exact absurd H (by simp)
        · replace c20 := Bool.eq_false_iff.mpr c20
          subst c20
          have H1 : (some false) = some true := by first | (rw [if_neg (show ¬ (false = true) by decide)] at H; exact H) | rfl
          clear H
          have H := H1
          clear H1
          exact absurd H (by simp)
      · rw [if_neg c18] at H
        have c18b0 : (t103 == t107) = false := beq_eq_false_iff_ne.mpr c18
        have c18b1 : (t103 != t107) = true := bne_iff_ne.mpr c18
        exact absurd H (by simp)
    · replace c17 := Bool.eq_false_iff.mpr c17
      subst c17
      have H1 : (some false) = some true := by first | (rw [if_neg (show ¬ (false = true) by decide)] at H; exact H) | rfl
      clear H
      have H := H1
      clear H1
      exact absurd H (by simp)
def backhaullaw03_ShareDeals.Pure : Prop := ∀ (a0 : Int) (l1 : List Int) (a2 : Int), (Lit.int .i64 a0).wf = true → (l1.length ≤ maxLen ∧ ∀ x ∈ l1, (Lit.int .i64 x).wf = true) → (Lit.int .i64 a2).wf = true → ∃ k, backhaullaw03_ShareDeals.f k a0 l1 a2 = some true
end Go.Proofs.Ytefhljhpcpajgaa.F
set_option linter.unusedVariables false
namespace Go.Proofs.Ytefhljhpcpajgaa.Q
open Go.RowKit
def sumI (l : List Int) : Int := l.foldr (· + ·) 0
theorem sumI_cons (a : Int) (l : List Int) : sumI (a :: l) = a + sumI l := rfl
theorem sumI_append (a b : List Int) : sumI (a ++ b) = sumI a + sumI b := by
  induction a with
  | nil => simp [sumI]
  | cons x a ih => rw [List.cons_append, sumI_cons, sumI_cons, ih]; omega
theorem sumI_mul (l : List Int) (c : Int) : sumI (l.map (fun x => c * x)) = c * sumI l := by
  induction l with
  | nil => simp [sumI]
  | cons x l ih => rw [List.map_cons, sumI_cons, sumI_cons, ih, Int.mul_add]
theorem sumI_add {α : Type} (l : List α) (f g : α → Int) : sumI (l.map (fun x => f x + g x)) = sumI (l.map f) + sumI (l.map g) := by
  induction l with
  | nil => simp [sumI]
  | cons x l ih => simp only [List.map_cons, sumI_cons, ih]; omega
theorem sumI_nonneg {l : List Int} (h : ∀ x ∈ l, 0 ≤ x) : 0 ≤ sumI l := by
  induction l with
  | nil => simp [sumI]
  | cons x l ih =>
    have := h x List.mem_cons_self
    have := ih (fun y hy => h y (List.mem_cons_of_mem _ hy))
    rw [sumI_cons]; omega
theorem sumI_mem_le {l : List Int} (h : ∀ x ∈ l, 0 ≤ x) {a : Int} (ha : a ∈ l) : a ≤ sumI l := by
  induction l with
  | nil => cases ha
  | cons x l ih =>
    have h0 := h x List.mem_cons_self
    have h1 := sumI_nonneg (fun y hy => h y (List.mem_cons_of_mem _ hy))
    rw [sumI_cons]
    rcases List.mem_cons.1 ha with rfl | ha
    · omega
    · have := ih (fun y hy => h y (List.mem_cons_of_mem _ hy)) ha; omega
def prt (t s w : Int) : Int := t * w / s
def rst (t s w : Int) : Int := t * w % s
def leftI (t s : Int) (l : List Int) : Int := t - sumI (l.map (prt t s))
theorem left_mul {t s : Int} {l : List Int} (hs : sumI l = s) : leftI t s l * s = sumI (l.map (rst t s)) := by
  have e : sumI (l.map (fun w => t * w)) = sumI (l.map (fun w => s * prt t s w)) + sumI (l.map (rst t s)) := by
    rw [← sumI_add]
    congr 1
    refine List.map_congr_left fun w _ => ?_
    unfold prt rst
    rw [Int.add_comm]
    exact (Int.emod_add_mul_ediv (t * w) s).symm
  have e2 : sumI (l.map (fun w => s * prt t s w)) = s * sumI (l.map (prt t s)) := by
    rw [← sumI_mul, List.map_map]; rfl
  rw [sumI_mul, hs] at e
  unfold leftI
  rw [Int.sub_mul, e, e2, Int.mul_comm s]
  omega
theorem sum_rests {t s : Int} (hs : 0 < s) (l : List Int) : 0 ≤ sumI (l.map (rst t s)) ∧ sumI (l.map (rst t s)) ≤ ((l.countP (fun w => decide (0 < rst t s w)) : Nat) : Int) * (s - 1) := by
  induction l with
  | nil => simp [sumI]
  | cons w l ih =>
    have h0 : 0 ≤ rst t s w := Int.emod_nonneg _ (by omega)
    have h1 : rst t s w < s := Int.emod_lt_of_pos _ hs
    rw [List.map_cons, sumI_cons, List.countP_cons]
    refine ⟨by omega, ?_⟩
    by_cases h : 0 < rst t s w
    · rw [if_pos (decide_eq_true h), Int.natCast_add, Int.add_mul]
      omega
    · rw [if_neg (by simpa using h)]
      simp only [Int.natCast_add, Int.natCast_zero, Int.add_zero]
      omega
theorem left_bound {t s : Int} {l : List Int} (hs : sumI l = s) (h0 : 0 < s) : 0 ≤ leftI t s l ∧ leftI t s l ≤ ((l.countP (fun w => decide (0 < rst t s w)) : Nat) : Int) ∧ (leftI t s l = 0 ∨ leftI t s l < ((l.countP (fun w => decide (0 < rst t s w)) : Nat) : Int)) := by
  have e := left_mul (t := t) hs
  obtain ⟨h1, h2⟩ := sum_rests (t := t) h0 l
  rw [← e] at h1 h2
  have p0 : 0 ≤ leftI t s l := Int.nonneg_of_mul_nonneg_left h1 h0
  have hC0 : (0 : Int) ≤ ((l.countP (fun w => decide (0 < rst t s w)) : Nat) : Int) := Int.natCast_nonneg _
  generalize hL : leftI t s l = L at *
  generalize ((l.countP (fun w => decide (0 < rst t s w)) : Nat) : Int) = C at *
  have p1 : L * s ≤ C * s - C := by rw [Int.mul_sub, Int.mul_one] at h2; exact h2
  have p2 : L = 0 ∨ L < C := by
    apply Classical.byContradiction
    intro hn
    have h3 : 0 < L ∧ C ≤ L := by omega
    have h4 : C * s ≤ L * s := Int.mul_le_mul_of_nonneg_right h3.2 (by omega)
    have h5 : 0 < L * s := Int.mul_pos h3.1 h0
    by_cases hC : 0 < C
    · omega
    · have : C * s ≤ 0 := by
        have := Int.mul_le_mul_of_nonneg_right (show C ≤ 0 by omega) (show 0 ≤ s by omega)
        rwa [Int.zero_mul] at this
      have : C * (s - 1) ≤ 0 := by
        have := Int.mul_le_mul_of_nonneg_right (show C ≤ 0 by omega) (show 0 ≤ s - 1 by omega)
        rwa [Int.zero_mul] at this
      omega
  refine ⟨p0, ?_, p2⟩
  rcases p2 with h | h
  · omega
  · omega
def wt (l : List Int) (i : Nat) : Int := l.getD i 0
def outAt (t s : Int) (l : List Int) (i : Nat) : Int := prt t s (wt l i) + if (rank (fun j => rst t s (wt l j)) l.length i : Int) < leftI t s l then 1 else 0
def outL (t s : Int) (l : List Int) : List Int := (List.range l.length).map (outAt t s l)
theorem range_map {α : Type} [Inhabited α] (l : List α) (d : α) : (List.range l.length).map (fun i => l.getD i d) = l := by
  apply List.ext_getElem
  · simp
  · intro i h1 h2
    simp [List.getD_eq_getElem?_getD, h2]
end Go.Proofs.Ytefhljhpcpajgaa.Q
set_option linter.unusedVariables false
namespace Go.Proofs.Ytefhljhpcpajgaa.Q
open Go.RowKit Go.Proofs.Ytefhljhpcpajgaa.F Go.Proofs.YtefhljhpcpajgaaW.PrintWords Go.Proofs.YtefhljhpcpajgaaW.PrintLast Go.Proofs.YtefhljhpcpajgaaW.PrintMore
def amt (n : Int) : Prop := -1000000000000 ≤ n ∧ n ≤ 1000000000000
instance (n : Int) : Decidable (amt n) := by unfold amt; infer_instance
def toldS (n : Int) : Int × Int := if amt n then (n, 0) else (0, 8)
def sumS : Int → List Int → Int × Int
  | n, [] => (n, 0)
  | n, x :: xs => if amt x ∧ amt (n + x) then sumS (n + x) xs else (0, 8)
theorem in_f (n : Int) : cents_In.f n = some (decide (amt n)) := by
  unfold cents_In.f amt
  by_cases h : n ≥ -1000000000000
  · rw [if_pos h]; congr 1; exact decide_eq_decide.2 ⟨fun a => ⟨h, a⟩, fun a => a.2⟩
  · rw [if_neg h]; congr 1; exact (decide_eq_false (fun a => h a.1)).symm
theorem told_f (n : Int) : cents_told.f n = some (toldS n) := by
  unfold cents_told.f toldS
  rw [in_f]
  by_cases h : amt n
  · simp [h]
  · simp [h]
theorem cents_Add_l0 {l : List Int} (hl : l.length < 9223372036854775807) (d : Nat) : ∀ (i : Nat) (n : Int), l.length - i = d → i ≤ l.length → amt n →
    Ev (fun k => cents_Add.l0 k n l (l.length : Int) (i : Int)) (sumS n (l.drop i)) := by
  induction d with
  | zero =>
    intro i n hd hi hn
    refine Ev.step (fun k => by simp only [cents_Add.l0]; rfl) ?_
    refine Ev.neg (by omega) (Ev.ok ?_)
    rw [List.drop_eq_nil_of_le (by omega)]; rfl
  | succ d ih =>
    intro i n hd hi hn
    have h : i < l.length := by omega
    refine Ev.step (fun k => by simp only [cents_Add.l0]; rfl) ?_
    refine Ev.pos (by omega) (Ev.pos (by omega) (Ev.pos (by omega) ?_))
    rw [drop_cons h, rd_nat h]
    refine Q.Ev.bindc (in_f _) ?_
    by_cases h1 : amt l[i]
    · refine Ev.pos (decide_eq_true h1) ?_
      have hw : wrap64 (n + l[i]) = n + l[i] := by unfold amt at hn h1; exact wrap_eq (by omega) (by omega)
      rw [hw]
      refine Q.Ev.bindc (in_f _) ?_
      by_cases h2 : amt (n + l[i])
      · refine Ev.pos (decide_eq_true h2) ?_
        simp only [sumS]
        rw [if_pos ⟨h1, h2⟩, wrap_eq (by omega) (by omega)]
        exact ih (i + 1) _ (by omega) (by omega) h2
      · refine Ev.neg (by simp [h2]) (Ev.ok ?_)
        simp only [sumS]; rw [if_neg (fun a => h2 a.2)]
    · refine Ev.neg (by simp [h1]) (Ev.ok ?_)
      simp only [sumS]; rw [if_neg (fun a => h1 a.1)]
theorem amt0 : amt 0 := by unfold amt; omega
theorem cents_Add_f {l : List Int} (hl : l.length < 9223372036854775807) : Ev (fun k => cents_Add.f k l) (sumS 0 l) := by
  unfold cents_Add.f
  exact cents_Add_l0 hl l.length 0 0 (by omega) (by omega) amt0
theorem and32 {x : Int} (h0 : 0 ≤ x) (h1 : x < 18446744073709551616) : Go.bits .and .u64 x 4294967295 = x % 4294967296 :=
  Go.bits_mask .u64 64 (by decide) (fun n h0 h1 => u64_eq h0 h1) 32 (by decide) x h0 h1
theorem mul64_f {a b : Int} (ha0 : 0 ≤ a) (ha : a < 18446744073709551616) (hb0 : 0 ≤ b) (hb : b < 18446744073709551616) :
    bits_Mul64.f a b = some (a * b / 18446744073709551616, a * b % 18446744073709551616) := by
  unfold bits_Mul64.f
  rw [and32 ha0 ha, and32 hb0 hb]
  obtain ⟨ah, hah⟩ : ∃ x, x = a / 4294967296 := ⟨_, rfl⟩
  obtain ⟨al, hal⟩ : ∃ x, x = a % 4294967296 := ⟨_, rfl⟩
  obtain ⟨bh, hbh⟩ : ∃ x, x = b / 4294967296 := ⟨_, rfl⟩
  obtain ⟨bl, hbl⟩ : ∃ x, x = b % 4294967296 := ⟨_, rfl⟩
  rw [← hah, ← hal, ← hbh, ← hbl]
  have ea : a = ah * 4294967296 + al := by omega
  have eb : b = bh * 4294967296 + bl := by omega
  have bnd : ∀ x y : Int, 0 ≤ x → x ≤ 4294967295 → 0 ≤ y → y ≤ 4294967295 → 0 ≤ x * y ∧ x * y ≤ 18446744065119617025 := by
    intro x y hx0 hx hy0 hy
    refine ⟨Int.mul_nonneg hx0 hy0, ?_⟩
    have := Int.mul_le_mul hx hy hy0 (by omega)
    omega
  obtain ⟨p, hp⟩ : ∃ x, x = ah * bh := ⟨_, rfl⟩
  obtain ⟨q, hq⟩ : ∃ x, x = ah * bl := ⟨_, rfl⟩
  obtain ⟨r, hr⟩ : ∃ x, x = al * bh := ⟨_, rfl⟩
  obtain ⟨s, hs⟩ : ∃ x, x = al * bl := ⟨_, rfl⟩
  have bp := bnd ah bh (by omega) (by omega) (by omega) (by omega)
  have bq := bnd ah bl (by omega) (by omega) (by omega) (by omega)
  have br := bnd al bh (by omega) (by omega) (by omega) (by omega)
  have bs := bnd al bl (by omega) (by omega) (by omega) (by omega)
  have e : a * b = p * 18446744073709551616 + (q + r) * 4294967296 + s := by
    rw [ea, eb, hp, hq, hr, hs]
    simp only [Int.add_mul, Int.mul_add]
    rw [show ah * 4294967296 * (bh * 4294967296) = ah * bh * 18446744073709551616 by rw [Int.mul_assoc, Int.mul_left_comm 4294967296 bh, Int.mul_assoc ah bh]; rfl, show ah * 4294967296 * bl = ah * bl * 4294967296 by rw [Int.mul_right_comm], show al * (bh * 4294967296) = al * bh * 4294967296 by rw [Int.mul_assoc]]
    omega
  rw [← hp] at bp
  rw [← hq] at bq
  rw [← hr] at br
  rw [← hs] at bs
  rw [← hp, ← hq, ← hr, ← hs, e]
  clear e hp hq hr hs ea eb hah hal hbh hbl
  rw [u64_eq (x := p) (by omega) (by omega), u64_eq (x := q) (by omega) (by omega), u64_eq (x := r) (by omega) (by omega), u64_eq (x := s) (by omega) (by omega)]
  rw [u64_eq (x := q + s / 4294967296) (by omega) (by omega)]
  rw [u64_eq (x := p + (q + s / 4294967296) / 4294967296) (by omega) (by omega)]
  rw [and32 (x := q + s / 4294967296) (by omega) (by omega)]
  rw [u64_eq (x := (q + s / 4294967296) % 4294967296 + r) (by omega) (by omega)]
  rw [u64_eq (x := p + (q + s / 4294967296) / 4294967296 + ((q + s / 4294967296) % 4294967296 + r) / 4294967296) (by omega) (by omega)]
  have hw : IntKind.u64.wrap (p * 18446744073709551616 + (q + r) * 4294967296 + s) = (p * 18446744073709551616 + (q + r) * 4294967296 + s) % 18446744073709551616 := by simp [IntKind.wrap, IntKind.signed, IntKind.bits]
  rw [hw]
  congr 2
  omega
theorem product_f {a b : Int} (ha0 : 0 ≤ a) (ha : a < 18446744073709551616) (hb0 : 0 ≤ b) (hb : b < 18446744073709551616) :
    cents_product.f a b = some (a * b / 18446744073709551616, a * b % 18446744073709551616) := by
  unfold cents_product.f
  rw [mul64_f ha0 ha hb0 hb]
  rfl
theorem above_f {x y : Int} (hx0 : 0 ≤ x) (hy0 : 0 ≤ y) : cents_wide_above.f (x / 18446744073709551616) (x % 18446744073709551616) (y / 18446744073709551616) (y % 18446744073709551616) = some (decide (x > y)) := by
  unfold cents_wide_above.f
  split
  · exact congrArg some (decide_eq_true (by omega)).symm
  · split
    · exact congrArg some (decide_eq_decide.2 (by omega))
    · exact congrArg some (decide_eq_false (by omega)).symm
end Go.Proofs.Ytefhljhpcpajgaa.Q
set_option linter.unusedVariables false
set_option maxRecDepth 4000
namespace Go.Proofs.Ytefhljhpcpajgaa.Q
open Go.RowKit Go.Proofs.Ytefhljhpcpajgaa.F Go.Proofs.YtefhljhpcpajgaaW.PrintWords Go.Proofs.YtefhljhpcpajgaaW.PrintLast Go.Proofs.YtefhljhpcpajgaaW.PrintMore
abbrev tab8 : ByteArray := (⟨#[0, 1, 2, 2, 3, 3, 3, 3, 4, 4, 4, 4, 4, 4, 4, 4, 5, 5, 5, 5, 5, 5, 5, 5, 5, 5, 5, 5, 5, 5, 5, 5, 6, 6, 6, 6, 6, 6, 6, 6, 6, 6, 6, 6, 6, 6, 6, 6, 6, 6, 6, 6, 6, 6, 6, 6, 6, 6, 6, 6, 6, 6, 6, 6, 7, 7, 7, 7, 7, 7, 7, 7, 7, 7, 7, 7, 7, 7, 7, 7, 7, 7, 7, 7, 7, 7, 7, 7, 7, 7, 7, 7, 7, 7, 7, 7, 7, 7, 7, 7, 7, 7, 7, 7, 7, 7, 7, 7, 7, 7, 7, 7, 7, 7, 7, 7, 7, 7, 7, 7, 7, 7, 7, 7, 7, 7, 7, 7, 8, 8, 8, 8, 8, 8, 8, 8, 8, 8, 8, 8, 8, 8, 8, 8, 8, 8, 8, 8, 8, 8, 8, 8, 8, 8, 8, 8, 8, 8, 8, 8, 8, 8, 8, 8, 8, 8, 8, 8, 8, 8, 8, 8, 8, 8, 8, 8, 8, 8, 8, 8, 8, 8, 8, 8, 8, 8, 8, 8, 8, 8, 8, 8, 8, 8, 8, 8, 8, 8, 8, 8, 8, 8, 8, 8, 8, 8, 8, 8, 8, 8, 8, 8, 8, 8, 8, 8, 8, 8, 8, 8, 8, 8, 8, 8, 8, 8, 8, 8, 8, 8, 8, 8, 8, 8, 8, 8, 8, 8, 8, 8, 8, 8, 8, 8, 8, 8, 8, 8, 8, 8, 8, 8, 8, 8, 8, 8]⟩ : ByteArray)
def len8ok (x : Nat) : Bool := let t := (bt tab8 (x : Int)).toNat; decide (bt tab8 (x : Int) = (t : Int)) && decide (t ≤ 8) && decide (x < 2 ^ t) && (x == 0 || (decide (1 ≤ t) && decide (2 ^ (t - 1) ≤ x)))
theorem len8_all : (List.range 256).all len8ok = true := by decide +kernel
theorem len8 {x : Int} (h0 : 0 ≤ x) (h1 : x < 256) : ∃ t : Nat, bt tab8 x = (t : Int) ∧ t ≤ 8 ∧ x < (2 : Int) ^ t ∧ (0 < x → 1 ≤ t ∧ (2 : Int) ^ (t - 1) ≤ x) := by
  obtain ⟨n, rfl⟩ := Int.eq_ofNat_of_zero_le h0
  have h := List.all_eq_true.1 len8_all n (List.mem_range.2 (by omega))
  unfold len8ok at h
  simp only [Bool.and_eq_true, decide_eq_true_eq, Bool.or_eq_true, beq_iff_eq] at h
  obtain ⟨⟨⟨ha, hb⟩, hc⟩, hd⟩ := h
  refine ⟨_, ha, hb, by exact_mod_cast hc, fun hp => ?_⟩
  rcases hd with hd | hd
  · omega
  · exact ⟨hd.1, by exact_mod_cast hd.2⟩
theorem up_pow {x : Int} {m t : Nat} (hx : 0 ≤ x) (ht : 1 ≤ t) (h1 : (2 : Int) ^ (t - 1) ≤ x / 2 ^ m) (h2 : x / 2 ^ m < (2 : Int) ^ t) : (2 : Int) ^ (m + t - 1) ≤ x ∧ x < (2 : Int) ^ (m + t) := by
  have hp : (0 : Int) < 2 ^ m := Int.pow_pos (by decide)
  constructor
  · rw [show m + t - 1 = (t - 1) + m by omega, Int.pow_add]
    exact (Int.le_ediv_iff_mul_le hp).1 h1
  · rw [Nat.add_comm, Int.pow_add]
    exact (Int.ediv_lt_iff_lt_mul hp).1 h2
theorem len64_j0 {x c : Int} (hx0 : 0 < x) (hx : x < 4294967296) (hc0 : 0 ≤ c) (hc : c ≤ 32) : ∃ n : Nat, Ev (fun k => bits_Len64.j0 k x c) (c + n) ∧ 1 ≤ n ∧ n ≤ 32 ∧ (2 : Int) ^ (n - 1) ≤ x ∧ x < (2 : Int) ^ n := by
  by_cases h1 : x ≥ 65536
  · by_cases h2 : x / 65536 ≥ 256
    · obtain ⟨t, e, ht, hlt, hpos⟩ := len8 (x := x / 65536 / 256 % 256) (by omega) (by omega)
      obtain ⟨h3, h4⟩ := hpos (by omega)
      have e2 : x / 65536 / 256 % 256 = x / 2 ^ 24 := by rw [show (2 : Int) ^ 24 = 16777216 by decide]; omega
      rw [e2] at hlt h4
      obtain ⟨h5, h6⟩ := up_pow (m := 24) (by omega) h3 h4 hlt
      refine ⟨24 + t, Ev.step (fun k => by simp only [bits_Len64.j0]; rfl) ?_, by omega, by omega, h5, h6⟩
      refine Ev.pos h1 (Ev.pos h2 (Ev.pos (by omega) (Ev.pos (by omega) (Ev.ok ?_))))
      rw [e, wrap_eq (x := c + 16) (by omega) (by omega), wrap_eq (x := (t : Int)) (by omega) (by omega), wrap_eq (x := c + 16 + 8) (by omega) (by omega), wrap_eq (by omega) (by omega)]
      omega
    · obtain ⟨t, e, ht, hlt, hpos⟩ := len8 (x := x / 65536 % 256) (by omega) (by omega)
      obtain ⟨h3, h4⟩ := hpos (by omega)
      have e2 : x / 65536 % 256 = x / 2 ^ 16 := by rw [show (2 : Int) ^ 16 = 65536 by decide]; omega
      rw [e2] at hlt h4
      obtain ⟨h5, h6⟩ := up_pow (m := 16) (by omega) h3 h4 hlt
      refine ⟨16 + t, Ev.step (fun k => by simp only [bits_Len64.j0]; rfl) ?_, by omega, by omega, h5, h6⟩
      refine Ev.pos h1 (Ev.neg h2 (Ev.pos (by omega) (Ev.pos (by omega) (Ev.ok ?_))))
      rw [e, wrap_eq (x := c + 16) (by omega) (by omega), wrap_eq (x := (t : Int)) (by omega) (by omega), wrap_eq (by omega) (by omega)]
      omega
  · by_cases h2 : x ≥ 256
    · obtain ⟨t, e, ht, hlt, hpos⟩ := len8 (x := x / 256 % 256) (by omega) (by omega)
      obtain ⟨h3, h4⟩ := hpos (by omega)
      have e2 : x / 256 % 256 = x / 2 ^ 8 := by rw [show (2 : Int) ^ 8 = 256 by decide]; omega
      rw [e2] at hlt h4
      obtain ⟨h5, h6⟩ := up_pow (m := 8) (by omega) h3 h4 hlt
      refine ⟨8 + t, Ev.step (fun k => by simp only [bits_Len64.j0]; rfl) ?_, by omega, by omega, h5, h6⟩
      refine Ev.neg h1 (Ev.pos h2 (Ev.pos (by omega) (Ev.pos (by omega) (Ev.ok ?_))))
      rw [e, wrap_eq (x := c + 8) (by omega) (by omega), wrap_eq (x := (t : Int)) (by omega) (by omega), wrap_eq (by omega) (by omega)]
      omega
    · obtain ⟨t, e, ht, hlt, hpos⟩ := len8 (x := x % 256) (by omega) (by omega)
      obtain ⟨h3, h4⟩ := hpos (by omega)
      have e2 : x % 256 = x := by omega
      rw [e2] at hlt h4
      refine ⟨t, Ev.step (fun k => by simp only [bits_Len64.j0]; rfl) ?_, by omega, by omega, h4, hlt⟩
      refine Ev.neg h1 (Ev.neg h2 (Ev.pos (by omega) (Ev.pos (by omega) (Ev.ok ?_))))
      rw [e, wrap_eq (x := (t : Int)) (by omega) (by omega), wrap_eq (by omega) (by omega)]
theorem len64_f {x : Int} (hx0 : 0 < x) (hx : x < 18446744073709551616) : ∃ n : Nat, Ev (fun k => bits_Len64.f k x) (n : Int) ∧ 1 ≤ n ∧ n ≤ 64 ∧ (2 : Int) ^ (n - 1) ≤ x ∧ x < (2 : Int) ^ n := by
  by_cases h : x ≥ 4294967296
  · obtain ⟨n, h1, h2, h3, h4, h5⟩ := len64_j0 (x := x / 4294967296) (c := 32) (by omega) (by omega) (by omega) (by omega)
    have e2 : (4294967296 : Int) = 2 ^ 32 := by decide
    obtain ⟨h6, h7⟩ := up_pow (m := 32) (x := x) (by omega) h2 (by rw [← e2]; exact h4) (by rw [← e2]; exact h5)
    refine ⟨32 + n, ?_, by omega, by omega, h6, h7⟩
    unfold bits_Len64.f
    refine Ev.pos h ?_
    have := h1
    rwa [show (32 : Int) + n = ((32 + n : Nat) : Int) by omega] at this
  · obtain ⟨n, h1, h2, h3, h4, h5⟩ := len64_j0 (x := x) (c := 0) (by omega) (by omega) (by omega) (by omega)
    refine ⟨n, ?_, by omega, by omega, h4, h5⟩
    unfold bits_Len64.f
    refine Ev.neg h ?_
    rwa [Int.zero_add] at h1
theorem u64_mod (x : Int) : IntKind.u64.wrap x = x % 18446744073709551616 := by simp [IntKind.wrap, IntKind.signed, IntKind.bits]
theorem digit {Y y1 y0 u d q r U Q : Int} (hY : Y = y1 * 4294967296 + y0) (h1 : 2147483648 ≤ y1) (h0 : 0 ≤ y0) (h0' : y0 < 4294967296) (hu0 : 0 ≤ u) (hu : u < Y) (hd0 : 0 ≤ d) (hd : d < 4294967296)
    (hU : U = u * 4294967296 + d) (hQ : Q = U / Y) (hqr : q * y1 + r = u) (hq0 : 0 ≤ q) (hq : q ≤ 4294967297) (hr0 : 0 ≤ r) (hr : r < 4294967296) (hge : Q ≤ q) :
    ((q ≥ 4294967296 ∨ q < 4294967296 ∧ 4294967296 * r + d < q * y0) ∧ Q ≤ q - 1 ∧ 1 ≤ q ∧ (r + y1 ≥ 4294967296 → q - 1 = Q)) ∨ (q < 4294967296 ∧ ¬ (4294967296 * r + d < q * y0) ∧ q = Q) := by
  have hYp : 0 < Y := by omega
  have eq : q * Y = (u - r) * 4294967296 + q * y0 := by
    rw [hY, Int.mul_add, ← Int.mul_assoc, show q * y1 = u - r by omega]
  have hlt : ∀ z : Int, Q < z ↔ U < z * Y := fun z => by rw [hQ]; exact Int.ediv_lt_iff_lt_mul hYp
  have hQ0 : 0 ≤ Q := by rw [hQ]; exact Int.ediv_nonneg (by omega) (by omega)
  have brk : Q ≤ q - 1 → r + y1 ≥ 4294967296 → q - 1 = Q := by
    intro h2 h3
    have h4 : ¬ (Q < q - 1) := by
      rw [hlt, Int.sub_mul, eq, hY, Int.one_mul]
      have : (q - 1) * y0 ≤ 4294967296 * y0 := Int.mul_le_mul_of_nonneg_right (by omega) h0
      rw [Int.sub_mul, Int.one_mul] at this
      omega
    omega
  by_cases h2 : q ≥ 4294967296
  · have h3 : Q < q := by
      have : Q < 4294967296 := by rw [hlt]; omega
      omega
    exact .inl ⟨.inl h2, by omega, by omega, brk (by omega)⟩
  · by_cases h3 : 4294967296 * r + d < q * y0
    · have h4 : Q < q := by rw [hlt, eq]; omega
      exact .inl ⟨.inr ⟨by omega, h3⟩, by omega, by omega, brk (by omega)⟩
    · have h4 : ¬ Q < q := by rw [hlt, eq]; omega
      exact .inr ⟨by omega, h3, by omega⟩
theorem rest_word {Y u d U Q : Int} (hY : 0 < Y) (hY' : Y < 18446744073709551616) (hU : U = u * 4294967296 + d) (hQ : Q = U / Y) : IntKind.u64.wrap (IntKind.u64.wrap (IntKind.u64.wrap (u * 4294967296) + d) - IntKind.u64.wrap (Q * Y)) = U % Y := by
  simp only [u64_mod]
  have h1 := Int.emod_nonneg U (show Y ≠ 0 by omega)
  have h2 := Int.emod_lt_of_pos U hY
  have h3 : U % Y = U - Q * Y := by rw [Int.emod_def, hQ, Int.mul_comm]
  rw [h3] at h1 h2 ⊢
  omega
structure Div1 (Y y1 y0 : Int) : Prop where
  eq : Y = y1 * 4294967296 + y0
  lo : 2147483648 ≤ y1
  hi : y1 < 4294967296
  z0 : 0 ≤ y0
  z1 : y0 < 4294967296
theorem div_l1 {Y y1 y0 u d s q1 U Q : Int} (D : Div1 Y y1 y0) (hu0 : 0 ≤ u) (hu : u < Y) (hd0 : 0 ≤ d) (hd : d < 4294967296) (hs : 0 ≤ s) (hU : U = u * 4294967296 + d) (hQ : Q = U / Y) (m : Nat) :
    ∀ q r : Int, q * y1 + r = u → 0 ≤ q → q ≤ 4294967297 → 0 ≤ r → r < 4294967296 → Q ≤ q → 4294967296 ≤ r + m * 2147483648 →
    Ev (fun k => bits_Div64.l1 k Y s y1 y0 d q1 r u q) (IntKind.u64.wrap (IntKind.u64.wrap (q1 * 4294967296) + Q), shr .u64 (U % Y) s) := by
  obtain ⟨hY, h1, h1', h0, h0'⟩ := D
  induction m with
  | zero => intro q r _ _ _ _ _ _ hm; omega
  | succ m ih =>
    intro q r hqr hq0 hq hr0 hr hge hm
    have H := digit hY h1 h0 h0' hu0 hu hd0 hd hU hQ hqr hq0 hq hr0 hr hge
    have rw_ := rest_word (show 0 < Y by omega) (by omega) hU hQ
    have yes : ((q ≥ 4294967296 ∨ q < 4294967296 ∧ 4294967296 * r + d < q * y0) ∧ Q ≤ q - 1 ∧ 1 ≤ q ∧ (r + y1 ≥ 4294967296 → q - 1 = Q)) → Ev (fun k => bits_Div64.j4 k Y s y1 y0 d q1 r u q true) (IntKind.u64.wrap (IntKind.u64.wrap (q1 * 4294967296) + Q), shr .u64 (U % Y) s) := by
      rintro ⟨_, h3, h4, h5⟩
      refine Ev.step (fun k => by simp only [bits_Div64.j4]; rfl) ?_
      refine Ev.pos (by first | trivial | rfl) ?_
      rw [u64_eq (x := r + y1) (by omega) (by omega), u64_eq (x := q - 1) (by omega) (by omega)]
      refine Ev.ite (fun h6 => Ev.pos hs (Ev.ok ?_)) (fun h6 => ?_)
      · rw [h5 h6, rw_]
      · exact ih (q - 1) (r + y1) (by rw [Int.sub_mul]; omega) (by omega) (by omega) (by omega) (by omega) h3 (by omega)
    have no : q = Q → Ev (fun k => bits_Div64.j4 k Y s y1 y0 d q1 r u q false) (IntKind.u64.wrap (IntKind.u64.wrap (q1 * 4294967296) + Q), shr .u64 (U % Y) s) := by
      rintro rfl
      refine Ev.step (fun k => by simp only [bits_Div64.j4]; rfl) ?_
      refine Ev.neg (by decide) (Ev.pos hs (Ev.ok ?_))
      rw [rw_]
    refine Ev.step (fun k => by simp only [bits_Div64.l1]; rfl) ?_
    refine Ev.ite (fun h6 => ?_) (fun h6 => ?_)
    · rcases H with H | H
      · exact yes H
      · omega
    · have hb : q * y0 ≤ 4294967295 * 4294967295 := Int.mul_le_mul (by omega) (by omega) h0 (by decide)
      have hb0 : 0 ≤ q * y0 := Int.mul_nonneg hq0 h0
      rw [u64_eq (x := q * y0) hb0 (by omega), u64_eq (x := 4294967296 * r) (by omega) (by omega), u64_eq (x := 4294967296 * r + d) (by omega) (by omega)]
      rcases H with H | H
      · rw [decide_eq_true (by omega)]; exact yes H
      · rw [decide_eq_false (by omega)]; exact no H.2.2
theorem div_l0 {Y y1 y0 u d d0 s U Q : Int} {R : Int × Int} (D : Div1 Y y1 y0) (hu0 : 0 ≤ u) (hu : u < Y) (hd0 : 0 ≤ d) (hd : d < 4294967296) (hU : U = u * 4294967296 + d) (hQ : Q = U / Y)
    (next : Ev (fun k => bits_Div64.j2 k Y s y1 y0 u d d0 Q) R) (m : Nat) :
    ∀ q r : Int, q * y1 + r = u → 0 ≤ q → q ≤ 4294967297 → 0 ≤ r → r < 4294967296 → Q ≤ q → 4294967296 ≤ r + m * 2147483648 →
    Ev (fun k => bits_Div64.l0 k Y s y1 y0 u d d0 q r) R := by
  obtain ⟨hY, h1, h1', h0, h0'⟩ := D
  induction m with
  | zero => intro q r _ _ _ _ _ _ hm; omega
  | succ m ih =>
    intro q r hqr hq0 hq hr0 hr hge hm
    have H := digit hY h1 h0 h0' hu0 hu hd0 hd hU hQ hqr hq0 hq hr0 hr hge
    have yes : ((q ≥ 4294967296 ∨ q < 4294967296 ∧ 4294967296 * r + d < q * y0) ∧ Q ≤ q - 1 ∧ 1 ≤ q ∧ (r + y1 ≥ 4294967296 → q - 1 = Q)) → Ev (fun k => bits_Div64.j1 k Y s y1 y0 u d d0 q r true) R := by
      rintro ⟨_, h3, h4, h5⟩
      refine Ev.step (fun k => by simp only [bits_Div64.j1]; rfl) ?_
      refine Ev.pos (by first | trivial | rfl) ?_
      rw [u64_eq (x := r + y1) (by omega) (by omega), u64_eq (x := q - 1) (by omega) (by omega)]
      refine Ev.ite (fun h6 => ?_) (fun h6 => ?_)
      · rw [h5 h6]; exact next
      · exact ih (q - 1) (r + y1) (by rw [Int.sub_mul]; omega) (by omega) (by omega) (by omega) (by omega) h3 (by omega)
    have no : q = Q → Ev (fun k => bits_Div64.j1 k Y s y1 y0 u d d0 q r false) R := by
      rintro rfl
      refine Ev.step (fun k => by simp only [bits_Div64.j1]; rfl) ?_
      exact Ev.neg (by decide) next
    refine Ev.step (fun k => by simp only [bits_Div64.l0]; rfl) ?_
    refine Ev.ite (fun h6 => ?_) (fun h6 => ?_)
    · rcases H with H | H
      · exact yes H
      · omega
    · have hb : q * y0 ≤ 4294967295 * 4294967295 := Int.mul_le_mul (by omega) (by omega) h0 (by decide)
      have hb0 : 0 ≤ q * y0 := Int.mul_nonneg hq0 h0
      rw [u64_eq (x := q * y0) hb0 (by omega), u64_eq (x := 4294967296 * r) (by omega) (by omega), u64_eq (x := 4294967296 * r + d) (by omega) (by omega)]
      rcases H with H | H
      · rw [decide_eq_true (by omega)]; exact yes H
      · rw [decide_eq_false (by omega)]; exact no H.2.2
theorem guess {Y y1 y0 u d U Q : Int} (D : Div1 Y y1 y0) (hu0 : 0 ≤ u) (hu : u < Y) (hd0 : 0 ≤ d) (hd : d < 4294967296) (hU : U = u * 4294967296 + d) (hQ : Q = U / Y) :
    ∃ q r : Int, IntKind.u64.wrap (Int.tdiv u y1) = q ∧ IntKind.u64.wrap (u - IntKind.u64.wrap (q * y1)) = r ∧ q * y1 + r = u ∧ 0 ≤ q ∧ q ≤ 4294967297 ∧ 0 ≤ r ∧ r < 4294967296 ∧ Q ≤ q := by
  obtain ⟨hY, h1, h1', h0, h0'⟩ := D
  have hq0 : 0 ≤ u / y1 := Int.ediv_nonneg hu0 (by omega)
  have hq : u / y1 < 4294967298 := by rw [Int.ediv_lt_iff_lt_mul (by omega)]; omega
  have hm := Int.emod_def u y1
  have hr0 := Int.emod_nonneg u (show y1 ≠ 0 by omega)
  have hr := Int.emod_lt_of_pos u (show 0 < y1 by omega)
  have hc : u / y1 * y1 = u - u % y1 := by rw [Int.mul_comm]; omega
  have hcp : 0 ≤ u / y1 * y1 := Int.mul_nonneg hq0 (by omega)
  refine ⟨u / y1, u % y1, ?_, ?_, by omega, hq0, by omega, hr0, by omega, ?_⟩
  · rw [Int.tdiv_eq_ediv_of_nonneg hu0, u64_eq hq0 (by omega)]
  · rw [hc, u64_eq (x := u - u % y1) (by omega) (by omega), show u - (u - u % y1) = u % y1 by omega, u64_eq (by omega) (by omega)]
  · have hlt : Q < u / y1 + 1 := by
      rw [hQ, Int.ediv_lt_iff_lt_mul (by omega), hY, Int.mul_add, ← Int.mul_assoc, Int.add_mul, hc, Int.one_mul]
      have : 0 ≤ (u / y1 + 1) * y0 := Int.mul_nonneg (by omega) h0
      omega
    omega
theorem shl_at {x y s : Int} {n : Nat} (hs : s = (n : Int)) (hn : n ≤ 64) (h : x * 2 ^ n = y) (h0 : 0 ≤ y) (h1 : y < 18446744073709551616) : shl .u64 x s = y := by
  unfold shl
  rw [hs, Int.toNat_natCast, Nat.min_eq_left (by simpa [IntKind.bits] using hn), h, u64_eq h0 h1]
theorem and32' {x : Int} (h0 : 0 ≤ x) (h1 : x < 18446744073709551616) : Go.bits .and .u64 x 4294967295 = x % 4294967296 :=
  Go.bits_mask .u64 64 (by decide) (fun n h0 h1 => u64_eq h0 h1) 32 (by decide) x h0 h1
theorem div64_f {a b c : Int} (ha0 : 0 ≤ a) (ha : a < c) (hb0 : 0 ≤ b) (hb : b < 18446744073709551616) (hc : c < 18446744073709551616) :
    Ev (fun k => bits_Div64.f k a b c) ((a * 18446744073709551616 + b) / c, (a * 18446744073709551616 + b) % c) := by
  have hc0 : 0 < c := by omega
  unfold bits_Div64.f
  refine Ev.neg (by omega) (Ev.neg (by omega) ?_)
  by_cases hz : a = 0
  · refine Ev.pos hz (Ev.ok ?_)
    subst hz
    rw [Int.zero_mul, Int.zero_add, Int.tdiv_eq_ediv_of_nonneg hb0, Int.tmod_eq_emod_of_nonneg hb0]
    have h1 := Int.ediv_nonneg hb0 (show 0 ≤ c by omega)
    have h2 := Int.ediv_le_self c hb0
    rw [u64_eq h1 (by omega)]
  refine Ev.neg hz ?_
  obtain ⟨n, hev, hn1, hn2, hlo, hhi⟩ := len64_f hc0 hc
  obtain ⟨s, hs⟩ : ∃ s : Nat, s = 64 - n := ⟨_, rfl⟩
  have hsn : s + n = 64 := by omega
  have hs63 : s ≤ 63 := by omega
  obtain ⟨p, hp⟩ : ∃ p : Int, p = 2 ^ s := ⟨_, rfl⟩
  obtain ⟨r, hr⟩ : ∃ r : Int, r = 2 ^ n := ⟨_, rfl⟩
  have hp0 : 0 < p := by rw [hp]; exact Int.pow_pos (by decide)
  have hr0 : 0 < r := by rw [hr]; exact Int.pow_pos (by decide)
  have hpr : p * r = 18446744073709551616 := by rw [hp, hr, ← Int.pow_add, hsn]; decide
  have hY1 : c * p < 18446744073709551616 := by
    rw [← hpr, Int.mul_comm p r]
    exact Int.mul_lt_mul_of_pos_right (by rw [hr]; exact hhi) hp0
  have hY0 : 9223372036854775808 ≤ c * p := by
    have h1 : (2 : Int) ^ (n - 1) * p ≤ c * p := Int.mul_le_mul_of_nonneg_right hlo (by omega)
    have h2 : (2 : Int) ^ (n - 1) * p = 9223372036854775808 := by
      rw [hp, ← Int.pow_add, show n - 1 + s = 63 by omega]; decide
    omega
  obtain ⟨Y, hY⟩ : ∃ Y, Y = c * p := ⟨_, rfl⟩
  rw [← hY] at hY0 hY1
  have haY : a * p < Y := by rw [hY]; exact Int.mul_lt_mul_of_pos_right ha hp0
  have hap0 : 0 ≤ a * p := Int.mul_nonneg ha0 (by omega)
  have hbr0 : 0 ≤ b / r := Int.ediv_nonneg hb0 (by omega)
  have hbr : b / r < p := by rw [Int.ediv_lt_iff_lt_mul hr0, hpr]; exact hb
  have eY : shl .u64 c (s : Int) = Y := shl_at rfl (by omega) (by rw [hY, hp]) (by omega) hY1
  have ea : shl .u64 a (s : Int) = a * p := shl_at rfl (by omega) (by rw [hp]) hap0 (by omega)
  have eb : shr .u64 b (n : Int) = b / r := by
    unfold shr
    rw [Int.toNat_natCast, Nat.min_eq_left (by simpa [IntKind.bits] using hn2), hr]
  have eb2 : shl .u64 b (s : Int) = (b * p) % 18446744073709551616 := by
    unfold shl
    rw [Int.toNat_natCast, Nat.min_eq_left (by simp [IntKind.bits]; omega), u64_mod, hp]
  have hor : Go.bits .or .u64 (a * p) (b / r) = a * p + b / r := by
    refine Go.bits_join .u64 64 (by decide) (fun n h0 h1 => u64_eq h0 h1) s (a * p) (b / r) hap0 ?_ ?_ hbr0 ?_ ?_
    · rw [hp]; exact Int.mul_emod_left _ _
    · exact Int.lt_trans haY hY1
    · rw [← hp]; exact hbr
    · have : p ≤ 18446744073709551616 := by
        rw [← hpr]
        have := Int.mul_le_mul_of_nonneg_left (show (1 : Int) ≤ r by omega) (show 0 ≤ p by omega)
        omega
      exact Int.lt_of_lt_of_le hbr this
  obtain ⟨u, hu⟩ : ∃ u, u = a * p + b / r := ⟨_, rfl⟩
  rw [← hu] at hor
  have huY : u < Y := by
    have h1 : (a + 1) * p ≤ c * p := Int.mul_le_mul_of_nonneg_right (by omega) (by omega)
    rw [Int.add_mul, Int.one_mul, ← hY] at h1
    omega
  have hu0 : 0 ≤ u := by omega
  obtain ⟨v, hv⟩ : ∃ v, v = (b * p) % 18446744073709551616 := ⟨_, rfl⟩
  rw [← hv] at eb2
  have hv0 : 0 ≤ v := by omega
  have hv1 : v < 18446744073709551616 := by omega
  have hbp : b * p = (b / r) * 18446744073709551616 + v := by
    have h1 : b * p / 18446744073709551616 = b / r := by
      rw [← hpr, Int.mul_comm p r]
      exact Int.mul_ediv_mul_of_pos_left b r hp0
    have h2 := Int.mul_ediv_add_emod (b * p) 18446744073709551616
    rw [h1, ← hv] at h2
    omega
  have hN : (a * 18446744073709551616 + b) * p = u * 18446744073709551616 + v := by
    rw [Int.add_mul, hbp, hu, Int.add_mul, Int.mul_right_comm]
    omega
  have ew : IntKind.u64.wrap (wrap64 (64 - (n : Int))) = (s : Int) := by
    rw [wrap_eq (by omega) (by omega), u64_eq (by omega) (by omega)]; omega
  have ew2 : IntKind.u64.wrap (64 - (s : Int)) = (n : Int) := by rw [u64_eq (by omega) (by omega)]; omega
  have hlz : Ev (fun k => bits_LeadingZeros64.f k c) (wrap64 (64 - (n : Int))) := by
    unfold bits_LeadingZeros64.f
    exact Ev.bind hev (Ev.ok rfl)
  refine Ev.bind hlz ?_
  simp only [ew, ew2, eY, ea, eb, eb2, hor]
  have D : Div1 Y (Y / 4294967296) (Go.bits .and .u64 Y 4294967295) := by
    rw [and32' (by omega) hY1]
    exact ⟨by omega, by omega, by omega, by omega, by omega⟩
  rw [and32' hv0 hv1]
  refine Ev.pos (by omega) (Ev.pos (by omega) (Ev.neg (by have := D.lo; omega) ?_))
  obtain ⟨y1, hy1⟩ : ∃ x, x = Y / 4294967296 := ⟨_, rfl⟩
  obtain ⟨y0, hy0⟩ : ∃ x, x = Go.bits .and .u64 Y 4294967295 := ⟨_, rfl⟩
  rw [← hy1, ← hy0] at D ⊢
  obtain ⟨d1, hd1⟩ : ∃ x, x = v / 4294967296 := ⟨_, rfl⟩
  obtain ⟨d0, hd0⟩ : ∃ x, x = v % 4294967296 := ⟨_, rfl⟩
  rw [← hd1, ← hd0]
  obtain ⟨U1, hU1⟩ : ∃ x, x = u * 4294967296 + d1 := ⟨_, rfl⟩
  obtain ⟨Q1, hQ1⟩ : ∃ x, x = U1 / Y := ⟨_, rfl⟩
  obtain ⟨R1, hR1⟩ : ∃ x, x = U1 % Y := ⟨_, rfl⟩
  obtain ⟨U0, hU0⟩ : ∃ x, x = R1 * 4294967296 + d0 := ⟨_, rfl⟩
  obtain ⟨Q0, hQ0⟩ : ∃ x, x = U0 / Y := ⟨_, rfl⟩
  have hYp : 0 < Y := by omega
  have hR10 : 0 ≤ R1 := by rw [hR1]; exact Int.emod_nonneg _ (by omega)
  have hR1Y : R1 < Y := by rw [hR1]; exact Int.emod_lt_of_pos _ hYp
  have e1 : U1 = Q1 * Y + R1 := by rw [hQ1, hR1, Int.mul_comm]; exact (Int.mul_ediv_add_emod U1 Y).symm
  have hQ1lt : Q1 < 4294967296 := by rw [hQ1, Int.ediv_lt_iff_lt_mul hYp]; omega
  have hQ10 : 0 ≤ Q1 := by rw [hQ1]; exact Int.ediv_nonneg (by omega) (by omega)
  have hQ0lt : Q0 < 4294967296 := by rw [hQ0, Int.ediv_lt_iff_lt_mul hYp]; omega
  have hQ00 : 0 ≤ Q0 := by rw [hQ0]; exact Int.ediv_nonneg (by omega) (by omega)
  have hNU : (a * 18446744073709551616 + b) * p = U0 + (Q1 * 4294967296) * Y := by
    rw [hN, hU0, Int.mul_right_comm]
    have : Q1 * Y = U1 - R1 := by omega
    rw [this]
    omega
  have hq : (a * 18446744073709551616 + b) / c = Q1 * 4294967296 + Q0 := by
    rw [← Int.mul_ediv_mul_of_pos_left _ c hp0, ← hY, hNU, Int.add_mul_ediv_right _ _ (by omega), ← hQ0]
    omega
  have hm : (a * 18446744073709551616 + b) % c = (U0 % Y) / p := by
    have h1 : (a * 18446744073709551616 + b) * p % (c * p) = (a * 18446744073709551616 + b) % c * p := by
      rw [Int.mul_comm _ p, Int.mul_comm c p, Int.mul_emod_mul_of_pos _ _ hp0, Int.mul_comm]
    rw [← hY, hNU, Int.add_mul_emod_self_right] at h1
    rw [h1, Int.mul_ediv_cancel _ (by omega)]
  have last : shr .u64 (U0 % Y) (s : Int) = (a * 18446744073709551616 + b) % c := by
    rw [hm, hp]
    unfold shr
    rw [Int.toNat_natCast, Nat.min_eq_left (by simp [IntKind.bits]; omega)]
  have res : (IntKind.u64.wrap (IntKind.u64.wrap (Q1 * 4294967296) + Q0), shr .u64 (U0 % Y) (s : Int)) = ((a * 18446744073709551616 + b) / c, (a * 18446744073709551616 + b) % c) := by
    rw [last, hq, u64_eq (x := Q1 * 4294967296) (by omega) (by omega), u64_eq (by omega) (by omega)]
  rw [← res]
  obtain ⟨q, rr, g1, g2, g3, g4, g5, g6, g7, g8⟩ := guess D hu0 huY (by omega) (by omega) hU1 hQ1
  rw [g1, g2]
  refine div_l0 D hu0 huY (by omega) (by omega) hU1 hQ1 ?_ 2 q rr g3 g4 g5 g6 g7 g8 (by omega)
  refine Ev.step (fun k => by simp only [bits_Div64.j2]; rfl) ?_
  refine Ev.neg (by have := D.lo; omega) ?_
  rw [rest_word hYp hY1 hU1 hQ1, ← hR1]
  obtain ⟨q', r', g1, g2, g3, g4, g5, g6, g7, g8⟩ := guess D hR10 hR1Y (by omega) (by omega) hU0 hQ0
  rw [g1, g2]
  exact div_l1 D hR10 hR1Y (by omega) (by omega) (by omega) hU0 hQ0 2 q' r' g3 g4 g5 g6 g7 g8 (by omega)
end Go.Proofs.Ytefhljhpcpajgaa.Q
set_option linter.unusedVariables false
namespace Go.Proofs.Ytefhljhpcpajgaa.Q
open Go.RowKit Go.Proofs.Ytefhljhpcpajgaa.F Go.Proofs.YtefhljhpcpajgaaW.PrintWords Go.Proofs.YtefhljhpcpajgaaW.PrintLast Go.Proofs.YtefhljhpcpajgaaW.PrintMore
def may (a b c : Int) : Prop := 0 ≤ a ∧ a ≤ 1000000000000 ∧ 0 ≤ b ∧ b ≤ 1000000000000 ∧ c ≤ 1000000000000
instance (a b c : Int) : Decidable (may a b c) := by unfold may; infer_instance
def divS (a b c : Int) : Int × Int × Int := if c < 1 then (0, 0, 2) else if may a b c then (if a * b > c * 1000000000001 then (0, 0, 8) else (a * b / c, a * b % c, 0)) else (0, 0, 8)
def floorS (a b c : Int) : Int × Int := if c < 1 then (0, 2) else if may a b c then toldS (a * b / c) else (0, 8)
def restS (a b c : Int) : Int × Int := if c < 1 then (0, 2) else if may a b c then (if amt (a * b / c) then (a * b % c, 0) else (0, 8)) else (0, 8)
theorem mul_bound {x y B C : Int} (hx0 : 0 ≤ x) (hx : x ≤ B) (hy0 : 0 ≤ y) (hy : y ≤ C) : 0 ≤ x * y ∧ x * y ≤ B * C :=
  ⟨Int.mul_nonneg hx0 hy0, Int.mul_le_mul hx hy hy0 (by omega)⟩
theorem divided_f (a b c : Int) (hc1 : -9223372036854775808 ≤ c) (hc2 : c ≤ 9223372036854775807) : Ev (fun k => cents_divided.f k a b c) (divS a b c) := by
  unfold cents_divided.f divS
  refine Ev.ite (fun h => Ev.ok (by rw [if_pos h])) (fun h => ?_)
  rw [if_neg h]
  have bad : ¬ may a b c → (if may a b c then (if a * b > c * 1000000000001 then (0, 0, 8) else (a * b / c, a * b % c, 0)) else ((0 : Int), (0 : Int), (8 : Int))) = (0, 0, 8) := fun h => if_neg h
  refine Ev.ite (fun h1 => Ev.ok (bad (by unfold may; omega)).symm) (fun h1 => ?_)
  refine Ev.ite (fun h2 => Ev.ok (bad (by unfold may; omega)).symm) (fun h2 => ?_)
  refine Ev.bindc (in_f _) (Ev.ite (fun h3 => ?_) (fun h3 => Ev.ok (bad (fun hm => h3 (decide_eq_true (by unfold may at hm; unfold amt; omega)))).symm))
  refine Ev.bindc (in_f _) (Ev.ite (fun h4 => ?_) (fun h4 => Ev.ok (bad (fun hm => h4 (decide_eq_true (by unfold may at hm; unfold amt; omega)))).symm))
  refine Ev.bindc (in_f _) (Ev.ite (fun h5 => ?_) (fun h5 => Ev.ok (bad (fun hm => h5 (decide_eq_true (by unfold may at hm; unfold amt; omega)))).symm))
  have hm : may a b c := by
    have := of_decide_eq_true h3; have := of_decide_eq_true h4; have := of_decide_eq_true h5
    unfold amt at *; unfold may; omega
  rw [if_pos hm]
  unfold may at hm
  rw [u64_eq (x := a) (by omega) (by omega), u64_eq (x := b) (by omega) (by omega), u64_eq (x := c) (by omega) (by omega)]
  obtain ⟨m0, m1⟩ := mul_bound (x := a) (y := b) (B := 1000000000000) (C := 1000000000000) (by omega) (by omega) (by omega) (by omega)
  refine Ev.bindc (product_f (by omega) (by omega) (by omega) (by omega)) ?_
  refine Ev.bindc (product_f (by omega) (by omega) (by omega) (by omega)) ?_
  refine Ev.bindc (above_f m0 (by omega)) ?_
  by_cases h6 : a * b > c * 1000000000001
  · rw [if_pos h6]
    exact Ev.pos (decide_eq_true h6) (Ev.ok rfl)
  · rw [if_neg h6]
    refine Ev.neg (by simp; omega) (Ev.neg (by dsimp only; omega) ?_)
    refine Ev.bind (div64_f (a := a * b / 18446744073709551616) (b := a * b % 18446744073709551616) (by omega) (by omega) (by omega) (by omega) (by omega)) ?_
    have e : a * b / 18446744073709551616 * 18446744073709551616 + a * b % 18446744073709551616 = a * b := by omega
    rw [e]
    have d0 : 0 ≤ a * b / c := Int.ediv_nonneg m0 (by omega)
    have d1 : a * b / c < 1000000000002 := by rw [Int.ediv_lt_iff_lt_mul (by omega)]; omega
    have r0 := Int.emod_nonneg (a * b) (show c ≠ 0 by omega)
    have r1 := Int.emod_lt_of_pos (a * b) (show 0 < c by omega)
    refine Ev.ok ?_
    dsimp only
    rw [wrap_eq (by omega) (by omega), wrap_eq (by omega) (by omega)]
theorem divS_cases (a b c : Int) : (c < 1 ∧ divS a b c = (0, 0, 2)) ∨ (1 ≤ c ∧ ¬ may a b c ∧ divS a b c = (0, 0, 8)) ∨ (1 ≤ c ∧ may a b c ∧ a * b / c > 1000000000000 ∧ divS a b c = (0, 0, 8)) ∨ (1 ≤ c ∧ may a b c ∧ 0 ≤ a * b / c ∧ a * b / c ≤ 1000000000001 ∧ 0 ≤ a * b % c ∧ a * b % c < c ∧ divS a b c = (a * b / c, a * b % c, 0)) := by
  unfold divS
  by_cases h : c < 1
  · exact .inl ⟨h, if_pos h⟩
  · rw [if_neg h]
    by_cases h1 : may a b c
    · rw [if_pos h1]
      by_cases h2 : a * b > c * 1000000000001
      · refine .inr (.inr (.inl ⟨by omega, h1, ?_, if_pos h2⟩))
        have : 1000000000001 ≤ a * b / c := by rw [Int.le_ediv_iff_mul_le (by omega)]; omega
        omega
      · have h3 := h1
        unfold may at h3
        refine .inr (.inr (.inr ⟨by omega, h1, Int.ediv_nonneg (Int.mul_nonneg h3.1 h3.2.2.1) (by omega), ?_, Int.emod_nonneg _ (by omega), Int.emod_lt_of_pos _ (by omega), if_neg h2⟩))
        have : a * b / c < 1000000000002 := by rw [Int.ediv_lt_iff_lt_mul (by omega)]; omega
        omega
    · exact .inr (.inl ⟨by omega, h1, if_neg h1⟩)
theorem toldS_big {n : Int} (h : n > 1000000000000) : toldS n = (0, 8) := by unfold toldS; rw [if_neg (show ¬ amt n by unfold amt; omega)]
section
variable {a b c : Int} (hc1 : -9223372036854775808 ≤ c) (hc2 : c ≤ 9223372036854775807)
include hc1 hc2
theorem floor_f : Ev (fun k => cents_Floor.f k a b c) (floorS a b c) := by
  unfold cents_Floor.f
  refine Ev.bind (divided_f a b c hc1 hc2) ?_
  unfold floorS
  rcases divS_cases a b c with ⟨h, e⟩ | ⟨h, h1, e⟩ | ⟨h, h1, h2, e⟩ | ⟨h, h1, h2, h3, h4, h5, e⟩ <;> rw [e]
  · rw [if_pos h]; exact Ev.neg (by decide) (Ev.ok rfl)
  · rw [if_neg (show ¬ c < 1 by omega), if_neg h1]; exact Ev.neg (by decide) (Ev.ok rfl)
  · rw [if_neg (show ¬ c < 1 by omega), if_pos h1, toldS_big h2]; exact Ev.neg (by decide) (Ev.ok rfl)
  · rw [if_neg (show ¬ c < 1 by omega), if_pos h1]; exact Ev.pos (by first | trivial | rfl) (Ev.bindc (told_f _) (Ev.ok rfl))
theorem rest_f : Ev (fun k => cents_Rest.f k a b c) (restS a b c) := by
  unfold cents_Rest.f
  refine Ev.bind (divided_f a b c hc1 hc2) ?_
  unfold restS
  rcases divS_cases a b c with ⟨h, e⟩ | ⟨h, h1, e⟩ | ⟨h, h1, h2, e⟩ | ⟨h, h1, h2, h3, h4, h5, e⟩ <;> rw [e]
  · rw [if_pos h]; exact Ev.neg (by decide) (Ev.ok rfl)
  · rw [if_neg (show ¬ c < 1 by omega), if_neg h1]; exact Ev.neg (by decide) (Ev.ok rfl)
  · rw [if_neg (show ¬ c < 1 by omega), if_pos h1, if_neg (show ¬ amt (a * b / c) by unfold amt; omega)]; exact Ev.neg (by decide) (Ev.ok rfl)
  · rw [if_neg (show ¬ c < 1 by omega), if_pos h1]
    refine Ev.pos (by first | trivial | rfl) (Ev.bindc (told_f _) ?_)
    unfold toldS
    dsimp only
    by_cases h6 : amt (a * b / c)
    · simp only [if_pos h6]; exact Ev.pos (by first | trivial | rfl) (Ev.ok rfl)
    · simp only [if_neg h6]; exact Ev.neg (by decide) (Ev.ok rfl)
end
def divR (a b c : Int) : Int × Int := if a * b / c > 4000000000000 then (-1, 0) else (a * b / c, a * b % c)
theorem ref_l1 {a b c i : Int} {R : Int × Int} (hc : 1 ≤ c) (hc' : c ≤ 1000000000000) (d : Nat) : ∀ n rest : Int, rest.toNat ≤ d → 0 ≤ rest → rest ≤ 10000000000000 → 0 ≤ n → n + rest ≤ 100000000000000 →
    Ev (fun k => if n + rest / c > 4000000000000 then some (-1, 0) else backhaulref02_Div.l0 k a b c (n + rest / c) (rest % c) (wrap64 (i - 1))) R →
    Ev (fun k => backhaulref02_Div.l1 k a b c n rest i) R := by
  induction d with
  | zero =>
    intro n rest hd h0 h1 h2 h3 hR
    obtain rfl : rest = 0 := by omega
    refine Ev.step (fun k => by simp only [backhaulref02_Div.l1]; rfl) ?_
    refine Ev.neg (by omega) ?_
    rwa [Int.zero_ediv, Int.zero_emod, Int.add_zero] at hR
  | succ d ih =>
    intro n rest hd h0 h1 h2 h3 hR
    refine Ev.step (fun k => by simp only [backhaulref02_Div.l1]; rfl) ?_
    refine Ev.ite (fun h => ?_) (fun h => ?_)
    · rw [wrap_eq (x := n + 1) (by omega) (by omega), wrap_eq (x := rest - c) (by omega) (by omega)]
      have e1 : (rest - c) / c = rest / c - 1 := by
        have := Int.add_mul_ediv_right rest (-1) (show c ≠ 0 by omega)
        rw [show rest + -1 * c = rest - c by omega] at this
        omega
      have e2 : (rest - c) % c = rest % c := Int.sub_emod_right _ _
      refine ih (n + 1) (rest - c) (by omega) (by omega) (by omega) (by omega) (by omega) ?_
      rw [e1, e2, show n + 1 + (rest / c - 1) = n + rest / c by omega]
      exact hR
    · rw [Int.ediv_eq_zero_of_lt h0 (by omega), Int.emod_eq_of_lt h0 (by omega), Int.add_zero] at hR
      exact hR
theorem ref_l0 {a b c : Int} (hc : 1 ≤ c) (hc' : c ≤ 1000000000000) (ha : 0 ≤ a) (ha' : a ≤ 1000000000000) (hb : 0 ≤ b) (hb' : b ≤ 1000000000000) (d : Nat) (hd : d ≤ 41) : ∀ n rest : Int, 0 ≤ rest → rest < c → 0 ≤ n → n ≤ 4000000000000 → n * c + rest = a * (b / 2 ^ d) →
    Ev (fun k => backhaulref02_Div.l0 k a b c n rest ((d : Int) - 1)) (divR a b c) := by
  induction d with
  | zero =>
    intro n rest h0 h1 h2 h3 e
    refine Ev.step (fun k => by simp only [backhaulref02_Div.l0]; rfl) ?_
    refine Ev.neg (by omega) (Ev.ok ?_)
    rw [Int.pow_zero, Int.ediv_one] at e
    unfold divR
    have hq : a * b / c = n := by rw [← e, Int.add_comm, Int.add_mul_ediv_right _ _ (by omega), Int.ediv_eq_zero_of_lt h0 h1]; omega
    have hr : a * b % c = rest := by rw [← e, Int.add_comm, Int.add_mul_emod_self_right, Int.emod_eq_of_lt h0 h1]
    rw [hq, hr, if_neg (by omega)]
  | succ d ih =>
    intro n rest h0 h1 h2 h3 e
    rw [show ((d + 1 : Nat) : Int) - 1 = (d : Int) by omega]
    refine Ev.step (fun k => by simp only [backhaulref02_Div.l0]; rfl) ?_
    rw [u64_eq (x := (d : Int)) (by omega) (by omega)]
    refine Ev.pos (by omega) (Ev.pos (by omega) ?_)
    have hp : (0 : Int) < 2 ^ d := Int.pow_pos (by decide)
    have hs : shr .i64 b (d : Int) = b / 2 ^ d := by
      unfold shr
      rw [Int.toNat_natCast, Nat.min_eq_left (by simp [IntKind.bits]; omega)]
    rw [hs]
    obtain ⟨x, hx⟩ : ∃ x, x = b / 2 ^ d := ⟨_, rfl⟩
    rw [← hx]
    have hx0 : 0 ≤ x := by rw [hx]; exact Int.ediv_nonneg hb (by omega)
    have hxb : x ≤ b := by rw [hx]; exact Int.ediv_le_self _ hb
    have hx2 : b / 2 ^ (d + 1) = x / 2 := by rw [hx, Int.pow_succ, Int.ediv_ediv_of_nonneg (by omega)]
    rw [hx2] at e
    have hac0 : 0 ≤ a / c := Int.ediv_nonneg ha (by omega)
    have hac : a / c ≤ a := Int.ediv_le_self _ ha
    have har0 := Int.emod_nonneg a (show c ≠ 0 by omega)
    have har := Int.emod_lt_of_pos a (show 0 < c by omega)
    have go : ∀ n0 rest0 : Int, 0 ≤ rest0 → rest0 ≤ 3000000000000 → 0 ≤ n0 → n0 ≤ 10000000000000 → n0 * c + rest0 = a * x → Ev (fun k => backhaulref02_Div.j1 k a b c n0 rest0 (d : Int)) (divR a b c) := by
      intro n0 rest0 g0 g1 g2 g3 ge
      refine Ev.step (fun k => by simp only [backhaulref02_Div.j1]; rfl) ?_
      refine ref_l1 hc hc' rest0.toNat n0 rest0 (Nat.le_refl _) g0 (by omega) g2 (by omega) ?_
      have hN : n0 + rest0 / c = a * x / c := by rw [← ge, Int.add_comm (n0 * c), Int.add_mul_ediv_right _ _ (by omega)]; omega
      have hR : rest0 % c = a * x % c := by rw [← ge, Int.add_comm (n0 * c), Int.add_mul_emod_self_right]
      have ax0 : 0 ≤ a * x := Int.mul_nonneg ha hx0
      refine Ev.ite (fun h4 => Ev.ok ?_) (fun h4 => ?_)
      · unfold divR
        have : a * x / c ≤ a * b / c := Int.ediv_le_ediv (by omega) (Int.mul_le_mul_of_nonneg_left hxb ha)
        rw [if_pos (by omega)]
      · rw [wrap_eq (x := (d : Int) - 1) (by omega) (by omega)]
        refine ih (by omega) _ _ (Int.emod_nonneg _ (by omega)) (Int.emod_lt_of_pos _ (by omega)) (by rw [hN]; exact Int.ediv_nonneg ax0 (by omega)) (by omega) ?_
        rw [hN, hR, ← hx, Int.mul_comm (a * x / c)]
        exact Int.mul_ediv_add_emod _ _
    have ex : x = 2 * (x / 2) + x % 2 := by omega
    have e2 : a * x = 2 * (a * (x / 2)) + a * (x % 2) := by
      conv => lhs; rw [ex]
      rw [Int.mul_add, Int.mul_left_comm]
    rw [Int.tmod_eq_emod_of_nonneg hx0]
    refine Ev.ite (fun h4 => ?_) (fun h4 => ?_)
    · refine Ev.neg (by omega) ?_
      rw [Int.tdiv_eq_ediv_of_nonneg ha, Int.tmod_eq_emod_of_nonneg ha, wrap_eq (x := 2 * n) (by omega) (by omega), wrap_eq (x := 2 * rest) (by omega) (by omega), wrap_eq (x := a / c) (by omega) (by omega), wrap_eq (x := 2 * n + a / c) (by omega) (by omega), wrap_eq (x := 2 * rest + a % c) (by omega) (by omega)]
      refine go _ _ (by omega) (by omega) (by omega) (by omega) ?_
      rw [e2, ← e, h4, Int.mul_one, Int.add_mul, Int.mul_assoc]
      have := Int.mul_ediv_add_emod a c
      rw [Int.mul_comm] at this
      omega
    · rw [wrap_eq (x := 2 * n) (by omega) (by omega), wrap_eq (x := 2 * rest) (by omega) (by omega)]
      refine go _ _ (by omega) (by omega) (by omega) (by omega) ?_
      rw [e2, ← e, show x % 2 = 0 by omega, Int.mul_zero, Int.mul_assoc]
      omega
theorem ref_div_f {a b c : Int} (hc : 1 ≤ c) (hm : may a b c) : Ev (fun k => backhaulref02_Div.f k a b c) (divR a b c) := by
  unfold may at hm
  unfold backhaulref02_Div.f
  have h2 : (2 : Int) ^ 41 = 2199023255552 := by decide
  exact ref_l0 hc hm.2.2.2.2 hm.1 hm.2.1 hm.2.2.1 hm.2.2.2.1 41 (by omega) 0 0 (by omega) (by omega) (by omega) (by omega) (by rw [h2, Int.ediv_eq_zero_of_lt hm.2.2.1 (by omega)]; omega)
end Go.Proofs.Ytefhljhpcpajgaa.Q
set_option linter.unusedVariables false
set_option linter.unusedSimpArgs false
namespace Go.Proofs.Ytefhljhpcpajgaa.Q
open Go.RowKit Go.Proofs.Ytefhljhpcpajgaa.F Go.Proofs.YtefhljhpcpajgaaW.PrintWords Go.Proofs.YtefhljhpcpajgaaW.PrintLast Go.Proofs.YtefhljhpcpajgaaW.PrintMore
theorem even_l0 {n : Nat} (hn : n ≤ 35184372088832) (d : Nat) : ∀ i : Nat, n - i = d → i ≤ n → Ev (fun k => share_even.l0 k (List.replicate i 1 ++ List.replicate (n - i) 0) (n : Int) (i : Int)) (List.replicate n 1) := by
  induction d with
  | zero =>
    intro i hd hi
    obtain rfl : i = n := by omega
    refine Ev.step (fun k => by simp only [share_even.l0]; rfl) ?_
    exact Ev.neg (by omega) (Ev.ok (by simp))
  | succ d ih =>
    intro i hd hi
    refine Ev.step (fun k => by simp only [share_even.l0]; rfl) ?_
    refine Ev.pos (by omega) (Ev.pos (by omega) (Ev.pos (by simp; omega) ?_))
    have e : (List.replicate i (1 : Int) ++ List.replicate (n - i) 0).set (i : Int).toNat 1 = List.replicate (i + 1) 1 ++ List.replicate (n - (i + 1)) 0 := by
      rw [Int.toNat_natCast]
      apply List.ext_getElem
      · simp; omega
      · intro p h1 h2
        rw [List.getElem_set]
        simp only [List.getElem_append, List.getElem_replicate, List.length_replicate]
        (repeat' split) <;> first | rfl | omega
    rw [e, wrap_eq (by omega) (by omega)]
    exact ih (i + 1) (by omega) (by omega)
theorem even_f {n : Nat} (hn : n ≤ 35184372088832) : Ev (fun k => share_even.f k (n : Int)) (List.replicate n 1) := by
  unfold share_even.f
  refine Ev.pos (by omega) (Ev.pos (by rw [Int.toNat_natCast]; exact hn) ?_)
  refine Q.Ev.bindc rfl ?_
  have := even_l0 hn n 0 (by omega) (by omega)
  simpa using this
def maxS (m : Int) (l : List Int) : Int := l.foldl mx m
theorem max_l0 {l : List Int} (hl : l.length < 9223372036854775807) (d : Nat) : ∀ (i : Nat) (m : Int), l.length - i = d → i ≤ l.length → Ev (fun k => slices_Max_int_int.l0 k l m (i : Int)) (maxS m (l.drop i)) := by
  induction d with
  | zero =>
    intro i m hd hi
    refine Ev.step (fun k => by simp only [slices_Max_int_int.l0]; rfl) ?_
    refine Ev.neg (by omega) (Ev.ok ?_)
    rw [List.drop_eq_nil_of_le (by omega)]; rfl
  | succ d ih =>
    intro i m hd hi
    have h : i < l.length := by omega
    refine Ev.step (fun k => by simp only [slices_Max_int_int.l0]; rfl) ?_
    refine Ev.pos (by omega) (Ev.pos (by omega) ?_)
    rw [drop_cons h, rd_nat h, wrap_eq (by omega) (by omega)]
    exact ih (i + 1) _ (by omega) (by omega)
theorem maxS_zero {l : List Int} : ∀ {m : Int}, 0 ≤ m → (∀ x ∈ l, 0 ≤ x) → (maxS m l = 0 ↔ m = 0 ∧ sumI l = 0) := by
  induction l with
  | nil => intro m h0 hl; simp [maxS, sumI]
  | cons x l ih =>
    intro m h0 hl
    have hx := hl x List.mem_cons_self
    have hs := sumI_nonneg (fun y hy => hl y (List.mem_cons_of_mem _ hy))
    have := ih (m := mx m x) (by unfold mx; split <;> omega) (fun y hy => hl y (List.mem_cons_of_mem _ hy))
    show maxS (mx m x) l = 0 ↔ _
    rw [this, sumI_cons]
    unfold mx
    split <;> omega
theorem max_f {l : List Int} (h1 : 1 ≤ l.length) (hl : l.length < 9223372036854775807) (h0 : ∀ x ∈ l, 0 ≤ x) : ∃ m, Ev (fun k => slices_Max_int_int.f k l) m ∧ (m = 0 ↔ sumI l = 0) := by
  refine ⟨maxS (rd l 0) (l.drop 1), ?_, ?_⟩
  · unfold slices_Max_int_int.f
    refine Ev.neg (by omega) (Ev.pos (by omega) ?_)
    have := max_l0 hl (l.length - 1) 1 (rd l 0) rfl h1
    exact this
  · cases l with
    | nil => simp at h1
    | cons x l =>
      have e : rd (x :: l) 0 = x := rfl
      rw [e, List.drop_succ_cons, List.drop_zero, maxS_zero (h0 x List.mem_cons_self) (fun y hy => h0 y (List.mem_cons_of_mem _ hy)), sumI_cons]
      have := h0 x List.mem_cons_self
      have := sumI_nonneg (fun y hy => h0 y (List.mem_cons_of_mem _ hy))
      omega
def negs (l : List Int) : Bool := l.any fun x => decide (x < 0)
theorem negs_false {l : List Int} : negs l = false ↔ ∀ x ∈ l, 0 ≤ x := by
  unfold negs
  rw [List.any_eq_false]
  exact ⟨fun h x hx => by have := h x hx; simp at this; omega, fun h x hx => by have := h x hx; simp; omega⟩
def wholeS (l : List Int) : Int × Int := if l.length < 1 ∨ 200 < l.length then (0, 2) else if negs l = true then (0, 8) else if 1000000000000 < sumI l then (0, 8) else if sumI l = 0 then ((l.length : Int), 0) else (sumI l, 0)
theorem sumS_nonneg {l : List Int} : ∀ {n : Int}, 0 ≤ n → n ≤ 1000000000000 → (∀ x ∈ l, 0 ≤ x) → sumS n l = if 1000000000000 < n + sumI l then (0, 8) else (n + sumI l, 0) := by
  induction l with
  | nil => intro n h0 h1 _; rw [show sumI ([] : List Int) = 0 from rfl, if_neg (by omega)]; simp [sumS]
  | cons x l ih =>
    intro n h0 h1 h
    have hx := h x List.mem_cons_self
    have hl := fun y hy => h y (List.mem_cons_of_mem _ hy)
    have hs := sumI_nonneg hl
    simp only [sumS]
    rw [sumI_cons]
    by_cases c : amt x ∧ amt (n + x)
    · rw [if_pos c, ih (by omega) (by have := c.2; unfold amt at this; omega) hl]
      rw [show n + x + sumI l = n + (x + sumI l) by omega]
    · rw [if_neg c, if_pos (by unfold amt at c; omega)]
theorem whole_l0 {l : List Int} (hl : l.length ≤ 200) (d : Nat) : ∀ i : Nat, l.length - i = d → i ≤ l.length → (∀ x ∈ l.take i, 0 ≤ x) → Ev (fun k => share_Whole.l0 k l l (l.length : Int) (i : Int)) (if negs l = true then (0, 8) else if 1000000000000 < sumI l then (0, 8) else if sumI l = 0 then ((l.length : Int), 0) else (sumI l, 0)) := by
  induction d with
  | zero =>
    intro i hd hi ht
    refine Ev.step (fun k => by simp only [share_Whole.l0]; rfl) ?_
    refine Ev.neg (by omega) ?_
    rw [List.take_of_length_le (by omega)] at ht
    rw [if_neg (by rw [negs_false.2 ht]; decide)]
    refine Ev.bind (cents_Add_f (l := l) (by omega)) ?_
    rw [sumS_nonneg (by omega) (by omega) ht, show (0 : Int) + sumI l = sumI l by omega]
    by_cases c : 1000000000000 < sumI l
    · rw [if_pos c, if_pos c]
      exact Ev.neg (by decide) (Ev.const rfl)
    · rw [if_neg c, if_neg c]
      refine Ev.pos rfl ?_
      exact Q.Ev.ite (fun h => Ev.ok (by rw [if_pos h])) (fun h => Ev.ok (by rw [if_neg h]))
  | succ d ih =>
    intro i hd hi ht
    have h : i < l.length := by omega
    refine Ev.step (fun k => by simp only [share_Whole.l0]; rfl) ?_
    refine Ev.pos (by omega) (Ev.pos (by omega) (Ev.pos (by omega) ?_))
    rw [rd_nat h]
    by_cases c : l[i] < 0
    · refine Ev.pos c (Ev.ok ?_)
      rw [if_pos]
      unfold negs
      exact List.any_eq_true.2 ⟨l[i], List.getElem_mem h, decide_eq_true c⟩
    · refine Ev.neg c ?_
      rw [wrap_eq (by omega) (by omega)]
      refine ih (i + 1) (by omega) (by omega) (fun x hx => ?_)
      rw [List.take_succ_eq_append_getElem h] at hx
      rcases List.mem_append.1 hx with hx | hx
      · exact ht x hx
      · rw [List.mem_singleton.1 hx]; omega
theorem whole_f {l : List Int} (hl : l.length < 9223372036854775807) : Ev (fun k => share_Whole.f k l) (wholeS l) := by
  unfold share_Whole.f wholeS
  by_cases h1 : l.length < 1
  · refine Ev.pos (by omega) ?_
    refine Ev.step (fun k => by simp only [share_Whole.j0]; rfl) ?_
    exact Ev.pos (by simp) (Ev.ok (by rw [if_pos (.inl h1)]))
  · refine Ev.neg (by omega) ?_
    refine Ev.step (fun k => by simp only [share_Whole.j0]; rfl) ?_
    by_cases h2 : 200 < l.length
    · exact Ev.pos (decide_eq_true (by omega)) (Ev.ok (by rw [if_pos (.inr h2)]))
    · refine Ev.neg (by simp; omega) ?_
      rw [if_neg (by omega)]
      exact whole_l0 (by omega) l.length 0 (by omega) (by omega) (by simp)
theorem rwhole_l1 {l : List Int} (hl : l.length ≤ 200) (h0 : ∀ x ∈ l, 0 ≤ x) (d : Nat) : ∀ (i : Nat) (n : Int), l.length - i = d → i ≤ l.length → 0 ≤ n → n ≤ 1000000000000 → Ev (fun k => backhaulref03_Whole.l1 k l n (i : Int)) (if 1000000000000 < n + sumI (l.drop i) then (0, 8) else if n + sumI (l.drop i) = 0 then ((l.length : Int), 0) else (n + sumI (l.drop i), 0)) := by
  induction d with
  | zero =>
    intro i n hd hi hn hn2
    refine Ev.step (fun k => by simp only [backhaulref03_Whole.l1]; rfl) ?_
    refine Ev.neg (by omega) ?_
    rw [List.drop_eq_nil_of_le (by omega), show n + sumI [] = n by simp [sumI], if_neg (show ¬ 1000000000000 < n by omega)]
    exact Q.Ev.ite (fun h => Ev.ok (by rw [if_pos h])) (fun h => Ev.ok (by rw [if_neg h]))
  | succ d ih =>
    intro i n hd hi hn hn2
    have h : i < l.length := by omega
    have hx := h0 l[i] (List.getElem_mem h)
    have hs := sumI_nonneg (l := l.drop (i + 1)) (fun y hy => h0 y (List.mem_of_mem_drop hy))
    refine Ev.step (fun k => by simp only [backhaulref03_Whole.l1]; rfl) ?_
    refine Ev.pos (by omega) (Ev.pos (by omega) ?_)
    rw [rd_nat h, drop_cons h, sumI_cons]
    by_cases c1 : l[i] > 1000000000000
    · refine Ev.pos c1 (Ev.ok ?_); rw [if_pos (by omega)]
    · refine Ev.neg c1 ?_
      rw [wrap_eq (by omega) (by omega)]
      by_cases c2 : l[i] > 1000000000000 - n
      · refine Ev.pos c2 (Ev.ok ?_); rw [if_pos (by omega)]
      · refine Ev.neg c2 ?_
        rw [wrap_eq (by omega) (by omega), wrap_eq (by omega) (by omega), show n + (l[i] + sumI (l.drop (i + 1))) = n + l[i] + sumI (l.drop (i + 1)) by omega]
        exact ih (i + 1) (n + l[i]) (by omega) (by omega) (by omega) (by omega)
theorem rwhole_l0 {l : List Int} (hl : l.length ≤ 200) (d : Nat) : ∀ i : Nat, l.length - i = d → i ≤ l.length → (∀ x ∈ l.take i, 0 ≤ x) → Ev (fun k => backhaulref03_Whole.l0 k l 0 (i : Int)) (if negs l = true then (0, 8) else if 1000000000000 < sumI l then (0, 8) else if sumI l = 0 then ((l.length : Int), 0) else (sumI l, 0)) := by
  induction d with
  | zero =>
    intro i hd hi ht
    refine Ev.step (fun k => by simp only [backhaulref03_Whole.l0]; rfl) ?_
    refine Ev.neg (by omega) ?_
    rw [List.take_of_length_le (by omega)] at ht
    rw [if_neg (by rw [negs_false.2 ht]; decide)]
    have := rwhole_l1 hl ht l.length 0 0 (by omega) (by omega) (by omega) (by omega)
    rw [List.drop_zero, show (0 : Int) + sumI l = sumI l by omega] at this
    exact this
  | succ d ih =>
    intro i hd hi ht
    have h : i < l.length := by omega
    refine Ev.step (fun k => by simp only [backhaulref03_Whole.l0]; rfl) ?_
    refine Ev.pos (by omega) (Ev.pos (by omega) ?_)
    rw [rd_nat h]
    by_cases c : l[i] < 0
    · refine Ev.pos c (Ev.ok ?_)
      rw [if_pos]
      unfold negs
      exact List.any_eq_true.2 ⟨l[i], List.getElem_mem h, decide_eq_true c⟩
    · refine Ev.neg c ?_
      rw [wrap_eq (by omega) (by omega)]
      refine ih (i + 1) (by omega) (by omega) (fun x hx => ?_)
      rw [List.take_succ_eq_append_getElem h] at hx
      rcases List.mem_append.1 hx with hx | hx
      · exact ht x hx
      · rw [List.mem_singleton.1 hx]; omega
theorem rwhole_f {l : List Int} (hl : l.length < 9223372036854775807) : Ev (fun k => backhaulref03_Whole.f k l) (wholeS l) := by
  unfold backhaulref03_Whole.f wholeS
  by_cases h1 : l.length < 1
  · refine Ev.pos (by omega) ?_
    refine Ev.step (fun k => by simp only [backhaulref03_Whole.j0]; rfl) ?_
    exact Ev.pos (by simp) (Ev.ok (by rw [if_pos (.inl h1)]))
  · refine Ev.neg (by omega) ?_
    refine Ev.step (fun k => by simp only [backhaulref03_Whole.j0]; rfl) ?_
    by_cases h2 : 200 < l.length
    · exact Ev.pos (decide_eq_true (by omega)) (Ev.ok (by rw [if_pos (.inr h2)]))
    · refine Ev.neg (by simp; omega) ?_
      rw [if_neg (by omega)]
      exact rwhole_l0 (by omega) l.length 0 (by omega) (by omega) (by simp)
def eff (l : List Int) : List Int := if sumI l = 0 then List.replicate l.length 1 else l
theorem eff_len (l : List Int) : (eff l).length = l.length := by unfold eff; split <;> simp
theorem sumI_ones (n : Nat) : sumI (List.replicate n 1) = (n : Int) := by
  induction n with
  | zero => simp [sumI]
  | succ n ih => rw [List.replicate_succ, sumI_cons, ih]; omega
theorem whole_ok {l : List Int} (h : (wholeS l).2 = 0) : 1 ≤ l.length ∧ l.length ≤ 200 ∧ (∀ x ∈ l, 0 ≤ x) ∧ sumI l ≤ 1000000000000 ∧ 1 ≤ (wholeS l).1 ∧ (wholeS l).1 ≤ 1000000000000 ∧ sumI (eff l) = (wholeS l).1 ∧ (∀ x ∈ eff l, 0 ≤ x) := by
  unfold wholeS at h ⊢
  by_cases h1 : l.length < 1 ∨ 200 < l.length
  · rw [if_pos h1] at h; simp at h
  · rw [if_neg h1] at h ⊢
    by_cases h2 : negs l = true
    · rw [if_pos h2] at h; simp at h
    · rw [if_neg h2] at h ⊢
      have h0 := negs_false.1 (by simpa using h2)
      have hs := sumI_nonneg h0
      by_cases h3 : 1000000000000 < sumI l
      · rw [if_pos h3] at h; simp at h
      · rw [if_neg h3] at h ⊢
        unfold eff
        by_cases h4 : sumI l = 0
        · rw [if_pos h4, if_pos h4, sumI_ones]
          refine ⟨by omega, by omega, h0, by omega, by dsimp only; omega, by dsimp only; omega, rfl, fun x hx => ?_⟩
          rw [(List.mem_replicate.1 hx).2]; omega
        · rw [if_neg h4, if_neg h4]
          exact ⟨by omega, by omega, h0, by omega, by dsimp only; omega, by dsimp only; omega, rfl, h0⟩
theorem prt_ok {t s w : Int} (ht : 0 ≤ t) (ht2 : t ≤ 1000000000000) (hs : 1 ≤ s) (hw : 0 ≤ w) (hws : w ≤ s) : 0 ≤ prt t s w ∧ prt t s w ≤ t ∧ 0 ≤ rst t s w ∧ rst t s w < s := by
  unfold prt rst
  refine ⟨Int.ediv_nonneg (Int.mul_nonneg ht hw) (by omega), ?_, Int.emod_nonneg _ (by omega), Int.emod_lt_of_pos _ (by omega)⟩
  exact Int.ediv_le_of_le_mul (by omega) (Int.mul_le_mul_of_nonneg_left hws ht)
theorem floor_at {t s w : Int} (ht : 0 ≤ t) (ht2 : t ≤ 1000000000000) (hs : 1 ≤ s) (hs2 : s ≤ 1000000000000) (hw : 0 ≤ w) (hws : w ≤ s) : floorS t w s = (prt t s w, 0) := by
  have h := prt_ok ht ht2 hs hw hws
  unfold floorS
  rw [if_neg (by omega), if_pos (by unfold may; omega)]
  unfold toldS
  rw [if_pos (by unfold amt; unfold prt at h; omega)]
  rfl
theorem rest_at {t s w : Int} (ht : 0 ≤ t) (ht2 : t ≤ 1000000000000) (hs : 1 ≤ s) (hs2 : s ≤ 1000000000000) (hw : 0 ≤ w) (hws : w ≤ s) : restS t w s = (rst t s w, 0) := by
  have h := prt_ok ht ht2 hs hw hws
  unfold restS
  rw [if_neg (by omega), if_pos (by unfold may; omega), if_pos (by unfold amt; unfold prt at h; omega)]
  rfl
theorem parts_l0 {t s : Int} {l : List Int} (hl : l.length ≤ 200) (ht : 0 ≤ t) (ht2 : t ≤ 1000000000000) (hs : 1 ≤ s) (hs2 : s ≤ 1000000000000) (h0 : ∀ x ∈ l, 0 ≤ x ∧ x ≤ s) (d : Nat) : ∀ (i : Nat) (L : Int) (A B : List Int), l.length - i = d → i ≤ l.length → A.length = i → B.length = i → L ≤ 1000000000000 → -((i : Int) * 1000000000000) ≤ L →
    Ev (fun k => share_parts.l0 k t s A B L l (l.length : Int) (i : Int)) (A ++ (l.drop i).map (prt t s), B ++ (l.drop i).map (rst t s), L - sumI ((l.drop i).map (prt t s)), 0) := by
  induction d with
  | zero =>
    intro i L A B hd hi hA hB hL hL2
    refine Ev.step (fun k => by simp only [share_parts.l0]; rfl) ?_
    refine Ev.neg (by omega) (Ev.ok ?_)
    rw [List.drop_eq_nil_of_le (by omega)]; simp [sumI]
  | succ d ih =>
    intro i L A B hd hi hA hB hL hL2
    have h : i < l.length := by omega
    have hx := h0 l[i] (List.getElem_mem h)
    have hp := prt_ok ht ht2 hs hx.1 hx.2
    refine Ev.step (fun k => by simp only [share_parts.l0]; rfl) ?_
    refine Ev.pos (by omega) (Ev.pos (by omega) (Ev.pos (by omega) ?_))
    rw [rd_nat h]
    refine Ev.bind (floor_f (by omega) (by omega)) ?_
    rw [floor_at ht ht2 hs hs2 hx.1 hx.2]
    refine Ev.pos rfl (Ev.bind (rest_f (by omega) (by omega)) ?_)
    rw [rest_at ht ht2 hs hs2 hx.1 hx.2]
    refine Ev.pos rfl (Ev.pos (by omega) (Ev.pos (by omega) ?_))
    dsimp only
    rw [wrap_eq (by omega) (by omega), wrap_eq (by omega) (by omega), drop_cons h]
    have := ih (i + 1) (L - prt t s l[i]) (A ++ [prt t s l[i]]) (B ++ [rst t s l[i]]) (by omega) (by omega) (by simp [hA]) (by simp [hB]) (by omega) (by omega)
    simp only [List.map_cons, sumI_cons, List.append_assoc, List.singleton_append] at this ⊢
    rw [show L - (prt t s l[i] + sumI ((l.drop (i + 1)).map (prt t s))) = L - prt t s l[i] - sumI ((l.drop (i + 1)).map (prt t s)) by omega]
    exact this
theorem parts_f {t s : Int} {l : List Int} (hl : l.length ≤ 200) (ht : 0 ≤ t) (ht2 : t ≤ 1000000000000) (hs : 1 ≤ s) (hs2 : s ≤ 1000000000000) (h0 : ∀ x ∈ l, 0 ≤ x ∧ x ≤ s) : Ev (fun k => share_parts.f k t s l) (l.map (prt t s), l.map (rst t s), leftI t s l, 0) := by
  unfold share_parts.f
  have := parts_l0 hl ht ht2 hs hs2 h0 l.length 0 t [] [] (by omega) (by omega) rfl rfl (by omega) (by omega)
  simpa [leftI] using this
theorem rank_ex {r : Nat → Int} {n p : Nat} (hp : p < n) : ∃ i, i < n ∧ rank r n i = p := by
  apply Classical.byContradiction
  intro hn
  have h1 := rank_count r n p (by omega)
  have h2 := rank_count r n (p + 1) (by omega)
  have : (List.range n).countP (fun i => decide (rank r n i < p + 1)) = (List.range n).countP (fun i => decide (rank r n i < p)) := by
    refine List.countP_congr fun i hi => ?_
    have hi := List.mem_range.1 hi
    rw [decide_eq_true_eq, decide_eq_true_eq]
    have : rank r n i ≠ p := fun e => hn ⟨i, hi, e⟩
    omega
  omega
def atp (r : Nat → Int) (n p : Nat) : Nat := ((List.range n).find? fun i => rank r n i == p).getD 0
theorem atp_spec {r : Nat → Int} {n p : Nat} (hp : p < n) : atp r n p < n ∧ rank r n (atp r n p) = p := by
  obtain ⟨i, hi, e⟩ := rank_ex (r := r) hp
  unfold atp
  cases hf : (List.range n).find? (fun i => rank r n i == p) with
  | none => exact absurd (show (rank r n i == p) = true by rw [e]; exact beq_self_eq_true p) (List.find?_eq_none.1 hf i (List.mem_range.2 hi))
  | some j =>
    have h1 := List.find?_some hf
    exact ⟨List.mem_range.1 (List.mem_of_find?_eq_some hf), by simpa using h1⟩
theorem atp_iff {r : Nat → Int} {n p i : Nat} (hp : p < n) (hi : i < n) : atp r n p = i ↔ rank r n i = p := by
  have h := atp_spec (r := r) hp
  exact ⟨fun e => e ▸ h.2, fun e => rank_inj h.1 hi (h.2.trans e.symm)⟩
theorem count_first {r : Nat → Int} {n i : Nat} (hi : i < n) : ∀ L, L ≤ n → (List.range L).countP (fun p => decide (atp r n p = i)) = if rank r n i < L then 1 else 0 := by
  intro L
  induction L with
  | zero => intro _; simp
  | succ L ih =>
    intro hL
    rw [List.range_succ, List.countP_append, ih (by omega)]
    simp only [List.countP_cons, List.countP_nil, decide_eq_true_eq]
    have := atp_iff (r := r) (n := n) (p := L) (i := i) (by omega) hi
    by_cases c : rank r n i = L
    · rw [if_neg (by omega), if_pos (this.2 c), if_pos (by omega)]
    · rw [if_neg (fun e => c (this.1 e))]
      by_cases c2 : rank r n i < L
      · rw [if_pos c2, if_pos (by omega)]
      · rw [if_neg c2, if_neg (by omega)]
theorem inc_l0 {ys : List Int} (hy : ys.length ≤ 200) (d : Nat) : ∀ (j : Nat) (o : List Int), ys.length - j = d → j ≤ ys.length → o.length ≤ 200 → (∀ y ∈ ys, 0 ≤ y ∧ y < (o.length : Int)) → (∀ x ∈ o, 0 ≤ x ∧ x ≤ 1000000000000 + (j : Int)) →
    Ev (fun k => share_Out.l0 k o ys (ys.length : Int) (j : Int)) ((List.range o.length).map (fun i => o.getD i 0 + (((ys.drop j).countP (fun y => decide (y = (i : Int))) : Nat) : Int)), 0) := by
  induction d with
  | zero =>
    intro j o hd hj ho hr hx
    refine Ev.step (fun k => by simp only [share_Out.l0]; rfl) ?_
    refine Ev.neg (by omega) (Ev.ok ?_)
    rw [List.drop_eq_nil_of_le (by omega)]
    simp only [List.countP_nil, Int.natCast_zero, Int.add_zero]
    rw [range_map]
  | succ d ih =>
    intro j o hd hj ho hr hx
    have h : j < ys.length := by omega
    have hyj := hr ys[j] (List.getElem_mem h)
    obtain ⟨q, hq⟩ := Int.eq_ofNat_of_zero_le hyj.1
    have hqo : q < o.length := by omega
    have hoq := hx o[q] (List.getElem_mem hqo)
    refine Ev.step (fun k => by simp only [share_Out.l0]; rfl) ?_
    refine Ev.pos (by omega) (Ev.pos (by omega) (Ev.pos (by omega) ?_))
    rw [rd_nat h, hq]
    refine Ev.pos (by omega) (Ev.pos (by omega) ?_)
    rw [rd_nat hqo, Int.toNat_natCast, wrap_eq (by omega) (by omega), wrap_eq (by omega) (by omega)]
    have := ih (j + 1) (o.set q (o[q] + 1)) (by omega) (by omega) (by simpa using ho) (by simpa using hr) (fun x hx' => by
      rcases List.mem_or_eq_of_mem_set hx' with hx' | rfl
      · have := hx x hx'; omega
      · omega)
    rw [drop_cons h]
    refine Ev.eq this ?_
    congr 1
    rw [List.length_set]
    refine List.map_congr_left fun i hi => ?_
    have hi := List.mem_range.1 hi
    rw [List.countP_cons, hq]
    by_cases c : q = i
    · subst c
      simp only [decide_true, if_true]
      simp [List.getD_eq_getElem?_getD, hqo]
      omega
    · rw [if_neg (by simp; omega)]
      simp [List.getD_eq_getElem?_getD, c]
theorem getD_map {f : Int → Int} {l : List Int} {i : Nat} (h : i < l.length) : (l.map f).getD i 0 = f (wt l i) := by
  unfold wt; simp [List.getD_eq_getElem?_getD, h]
theorem rank_rests {t s : Int} {l : List Int} {i : Nat} (hi : i < l.length) : rank (fun j => (l.map (rst t s)).getD j 0) l.length i = rank (fun j => rst t s (wt l j)) l.length i := by
  unfold rank
  refine List.countP_congr fun j hj => ?_
  have hj := List.mem_range.1 hj
  rw [bef_iff, bef_iff]
  rw [getD_map hi, getD_map hj]
theorem deal_f {t s : Int} {l : List Int} (h1 : 1 ≤ l.length) (hl : l.length ≤ 200) (ht : 0 ≤ t) (ht2 : t ≤ 1000000000000) (hs : sumI l = s) (hs1 : 1 ≤ s) (hs2 : s ≤ 1000000000000) (h0 : ∀ x ∈ l, 0 ≤ x) :
    Ev (fun k => (share_parts.f k t s l).bind fun b => if b.2.2.2 = 0 then ((share_by_share_Out_1_v22.f (b.1.length : Int) b.2.1).bind fun p => if 0 ≤ b.2.2.1 then (if b.2.2.1 ≤ (p.length : Int) then ((some (p.take (b.2.2.1 : Int).toNat : List Int)).bind fun y => share_Out.l0 k b.1 y (y.length : Int) 0) else none) else none) else some (([] : List Int), b.2.2.2)) (outL t s l, 0) := by
  have hws : ∀ x ∈ l, 0 ≤ x ∧ x ≤ s := fun x hx => ⟨h0 x hx, by rw [← hs]; exact sumI_mem_le h0 hx⟩
  refine Ev.bind (parts_f hl ht ht2 hs1 hs2 hws) (Ev.pos rfl ?_)
  obtain ⟨b0, b1, _⟩ := left_bound (t := t) hs (by omega)
  have hc : l.countP (fun w => decide (0 < rst t s w)) ≤ l.length := List.countP_le_length
  obtain ⟨L, hL⟩ := Int.eq_ofNat_of_zero_le b0
  have hby : share_by_share_Out_1_v22.f ((l.map (prt t s)).length : Int) (l.map (rst t s)) = some ((List.range l.length).map fun p => ((atp (fun j => (l.map (rst t s)).getD j 0) l.length p : Nat) : Int)) := by
    unfold share_by_share_Out_1_v22.f
    rw [if_pos ⟨by simp, by rw [List.length_map]; omega, by rw [List.length_map]; omega⟩]
    unfold byList atp
    rw [List.length_map]
  refine Q.Ev.bindc hby ?_
  dsimp only
  rw [hL]
  refine Ev.pos (by omega) (Ev.pos (by simp; omega) (Q.Ev.bindc rfl ?_))
  rw [Int.toNat_natCast, ← List.map_take, List.take_range, Nat.min_eq_left (by omega)]
  have := inc_l0 (ys := (List.range L).map fun p => ((atp (fun j => (l.map (rst t s)).getD j 0) l.length p : Nat) : Int)) (by simp; omega) L 0 (l.map (prt t s)) (by simp) (by omega) (by simpa using hl) (fun y hy => by
    obtain ⟨p, hp, rfl⟩ := List.mem_map.1 hy
    have := (atp_spec (r := fun j => (l.map (rst t s)).getD j 0) (n := l.length) (p := p) (by have := List.mem_range.1 hp; omega)).1
    refine ⟨by omega, ?_⟩
    rw [List.length_map]; omega) (fun x hx => by
    obtain ⟨w, hw, rfl⟩ := List.mem_map.1 hx
    have := prt_ok ht ht2 hs1 (hws w hw).1 (hws w hw).2
    omega)
  rw [Int.natCast_zero] at this
  refine Ev.eq this ?_
  congr 1
  rw [List.length_map]
  unfold outL
  refine List.map_congr_left fun i hi => ?_
  have hi := List.mem_range.1 hi
  unfold outAt
  rw [getD_map hi, List.drop_zero, List.countP_map]
  congr 1
  have e : (List.range L).countP ((fun y => decide (y = (i : Int))) ∘ fun p => ((atp (fun j => (l.map (rst t s)).getD j 0) l.length p : Nat) : Int)) = (List.range L).countP (fun p => decide (atp (fun j => (l.map (rst t s)).getD j 0) l.length p = i)) := by
    refine List.countP_congr fun p _ => ?_
    simp only [Function.comp, decide_eq_true_eq]
    omega
  rw [e, count_first hi L (by omega), rank_rests hi, hL]
  by_cases c : rank (fun j => rst t s (wt l j)) l.length i < L
  · rw [if_pos c, if_pos (by omega)]; rfl
  · rw [if_neg c, if_neg (by omega)]; rfl
def outS (t : Int) (l : List Int) : List Int × Int := if (wholeS l).2 = 0 then (if t < 0 ∨ 1000000000000 < t then ([], 8) else (outL t (wholeS l).1 (eff l), 0)) else ([], (wholeS l).2)
theorem out_f {t : Int} {l : List Int} (hl : l.length < 9223372036854775807) : Ev (fun k => share_Out.f k t l) (outS t l) := by
  unfold share_Out.f outS
  refine Ev.bind (whole_f hl) ?_
  by_cases hw : (wholeS l).2 = 0
  · rw [if_pos hw]
    refine Ev.pos hw ?_
    obtain ⟨h1, h2, h0, h3, h4, h5, h6, h7⟩ := whole_ok hw
    by_cases ht : t < 0
    · rw [if_pos (.inl ht)]; exact Ev.pos ht (Ev.const rfl)
    · refine Ev.neg ht (Q.Ev.bindc (in_f t) ?_)
      by_cases ht2 : 1000000000000 < t
      · rw [if_pos (.inr ht2)]
        exact Ev.neg (by rw [decide_eq_true_eq]; unfold amt; omega) (Ev.const rfl)
      · rw [if_neg (by omega)]
        refine Ev.pos (decide_eq_true (by unfold amt; omega)) ?_
        obtain ⟨m, hm, hm0⟩ := max_f h1 hl h0
        refine Ev.bind hm ?_
        by_cases c : sumI l = 0
        · refine Ev.pos (hm0.2 c) (Ev.bind (even_f (by omega)) ?_)
          have e : eff l = List.replicate l.length 1 := by unfold eff; rw [if_pos c]
          rw [e] at h6 h7 ⊢
          exact deal_f (by simpa using h1) (by simpa using h2) (by omega) (by omega) h6 h4 h5 h7
        · refine Ev.neg (fun e => c (hm0.1 e)) ?_
          have e : eff l = l := by unfold eff; rw [if_neg c]
          rw [e] at h6 h7 ⊢
          exact deal_f h1 h2 (by omega) (by omega) h6 h4 h5 h7
  · rw [if_neg hw]
    exact Ev.neg hw (Ev.ok rfl)
end Go.Proofs.Ytefhljhpcpajgaa.Q
