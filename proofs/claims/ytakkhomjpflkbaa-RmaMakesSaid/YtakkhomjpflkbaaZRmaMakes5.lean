-- merged and pruned by prune.py (the session's own program); its words go back to the kit's print
import Derived.Test.YtakkhomjpflkbaaProg
import Derived.Below
import Derived.Deep.Draws
import Derived.Deep.AppendLies
import Derived.Maps.AppendAt
import Derived.OwnWalk
import Derived.Laws.BytesArg
import Derived.Laws.MakeOwn
import Derived.Laws.OwnMore
import Derived.Deep.OwnRows
import Derived.Tactics
import Derived.Lib.ConvBytes
import Derived.Laws.Slices
import Derived.WalkKit
import Derived.KernelRfl
import Derived.RowKit3
import Derived.Deep.LoopGhost
import Derived.Deep.QuietTactic
import Derived.BigQuiet
import Derived.WideLaws
import Derived.Deep.DeepCutAuto
import Derived.Deep.CutBlock
import Derived.Deep.RegionHeld3
import Derived.Laws.Rows
import Derived.Lib.AppendStr
import Derived.ArgAppend
import Derived.Laws.IdiomCopy
import Derived.OrdersHeld
import Derived.Laws.BitsLemmas
import Derived.RowKit
import Derived.Laws.StructEq
import Derived.Deep.RegionLawGrows
import Derived.Lib.SliceRun
import Derived.Test.YtakkhomjpflkbaaZRmaMakes4
namespace Go.Proofs.Ytakkhomjpflkbaa.F
open Go.RowKit Go.Proofs.YtakkhomjpflkbaaX Go.Proofs.YtakkhomjpflkbaaW.PrintWords Go.Proofs.YtakkhomjpflkbaaW.PrintLast Go.Proofs.YtakkhomjpflkbaaW.PrintMore
attribute [local go_sem] max2_int min2_int max_two min_two max_three min_three max_four min_four   
attribute [local go_sem high] str_geq str_leq str_gtr
set_option linter.unusedVariables false
set_option linter.unusedSimpArgs false
mutual
def backhaulref27_Check.j0 : Nat → Bool → Int → Int → Int → Int → List (S97) → Option (Int)
  | 0, _, _, _, _, _, _ => none
  | k + 1, x44, x102000, x102001, x102002, x102003, x102004 => if x44 = true then (some 40) else (backhaulref27_Check.l0 k 0 x102000 x102001 x102002 x102003 x102004)
def backhaulref27_Check.l0 : Nat → Int → Int → Int → Int → Int → List (S97) → Option (Int)
  | 0, _, _, _, _, _, _ => none
  | k + 1, x3, x102000, x102001, x102002, x102003, x102004 => if x3 < (x102004.length : Int) then (if 0 ≤ x3 then (if ((rd_T97 x102004 x3).f0) < 0 then (some 40) else (if ((rd_T97 x102004 x3).f0) > 7 then (some 40) else (if ((rd_T97 x102004 x3).f1) < 1 then (some 40) else (if ((rd_T97 x102004 x3).f1) > 20 then (some 40) else (if ((rd_T97 x102004 x3).f2) < 0 then (some 40) else (if ((rd_T97 x102004 x3).f2) > ((rd_T97 x102004 x3).f1) then (some 40) else (if x3 > 0 then (if 0 ≤ (wrap64 (x3 - 1)) then (if (wrap64 (x3 - 1)) < (x102004.length : Int) then (if ((rd_T97 x102004 x3).f0) ≤ ((rd_T97 x102004 (wrap64 (x3 - 1))).f0) then (some 40) else (backhaulref27_Check.l0 k (wrap64 (x3 + 1)) x102000 x102001 x102002 x102003 x102004)) else (none)) else (none)) else (backhaulref27_Check.l0 k (wrap64 (x3 + 1)) x102000 x102001 x102002 x102003 x102004)))))))) else (none)) else (if x102003 = 1 then ((backhaulref27_all.f k x102004).bind fun t105 => (if t105 = true then (some 40) else (some 0))) else (if x102003 = 2 then ((backhaulref27_all.f k x102004).bind fun t106 => (if t106 = true then (some 0) else (some 40))) else (if x102003 = 3 then (some 0) else (some 40))))
end
def backhaulref27_Check.f (k : Nat) (a0_0 : Int) (a0_1 : Int) (a0_2 : Int) (a0_3 : Int) (l0_4 : List (S97)) : Option (Int) := if a0_0 < 1 then (backhaulref27_Check.j0 k true a0_0 a0_1 a0_2 a0_3 l0_4) else (if a0_0 > 999999 then (backhaulref27_Check.j0 k true a0_0 a0_1 a0_2 a0_3 l0_4) else (if a0_1 < 1 then (backhaulref27_Check.j0 k true a0_0 a0_1 a0_2 a0_3 l0_4) else (if a0_1 > 999999 then (backhaulref27_Check.j0 k true a0_0 a0_1 a0_2 a0_3 l0_4) else (if a0_2 < 0 then (backhaulref27_Check.j0 k true a0_0 a0_1 a0_2 a0_3 l0_4) else (if a0_2 > 1000000 then (backhaulref27_Check.j0 k true a0_0 a0_1 a0_2 a0_3 l0_4) else (if (l0_4.length : Int) = 0 then (backhaulref27_Check.j0 k true a0_0 a0_1 a0_2 a0_3 l0_4) else (backhaulref27_Check.j0 k (decide ((l0_4.length : Int) > 8)) a0_0 a0_1 a0_2 a0_3 l0_4)))))))
theorem backhaulref27_Check.mono_l : ∀ k, (∀ y0 y1 y2 y3 y4 y5, LeO (backhaulref27_Check.j0 k y0 y1 y2 y3 y4 y5) (backhaulref27_Check.j0 (k + 1) y0 y1 y2 y3 y4 y5)) ∧ (∀ y0 y1 y2 y3 y4 y5, LeO (backhaulref27_Check.l0 k y0 y1 y2 y3 y4 y5) (backhaulref27_Check.l0 (k + 1) y0 y1 y2 y3 y4 y5))
  | 0 => ⟨fun _ _ _ _ _ _ r h => by simp [backhaulref27_Check.j0] at h, fun _ _ _ _ _ _ r h => by simp [backhaulref27_Check.l0] at h⟩
  | k + 1 => by
    obtain ⟨ih0, ih1⟩ := backhaulref27_Check.mono_l k
    refine ⟨?_, ?_⟩
    · intro y0 y1 y2 y3 y4 y5
      unfold backhaulref27_Check.j0
      repeat' first
      | (with_reducible exact ih0 _ _ _ _ _ _)
      | (with_reducible exact ih1 _ _ _ _ _ _)
      | (with_reducible exact backhaulref27_all.mono _ _)
      | (with_reducible exact LeO.refl _)
      | (with_reducible exact LeO.none _)
      | (with_reducible refine LeO.ite ?_ ?_)
      | (with_reducible refine LeO.bind ?_ (fun _ => ?_))
      | exact ih0 _ _ _ _ _ _
      | exact ih1 _ _ _ _ _ _
      | exact backhaulref27_all.mono _ _
      | exact LeO.none _
      | refine LeO.ite ?_ ?_
      | refine LeO.bind ?_ (fun _ => ?_)
    intro y0 y1 y2 y3 y4 y5
    unfold backhaulref27_Check.l0
    repeat' first
    | (with_reducible exact ih0 _ _ _ _ _ _)
    | (with_reducible exact ih1 _ _ _ _ _ _)
    | (with_reducible exact backhaulref27_all.mono _ _)
    | (with_reducible exact LeO.refl _)
    | (with_reducible exact LeO.none _)
    | (with_reducible refine LeO.ite ?_ ?_)
    | (with_reducible refine LeO.bind ?_ (fun _ => ?_))
    | exact ih0 _ _ _ _ _ _
    | exact ih1 _ _ _ _ _ _
    | exact backhaulref27_all.mono _ _
    | exact LeO.none _
    | refine LeO.ite ?_ ?_
    | refine LeO.bind ?_ (fun _ => ?_)
theorem backhaulref27_Check.mono : ∀ a0 a1 a2 a3 a4 k, LeO (backhaulref27_Check.f k a0 a1 a2 a3 a4) (backhaulref27_Check.f (k + 1) a0 a1 a2 a3 a4) := by
  intro a0 a1 a2 a3 a4 k
  obtain ⟨ih0, ih1⟩ := backhaulref27_Check.mono_l k
  unfold backhaulref27_Check.f
  repeat' first
      | (with_reducible exact ih0 _ _ _ _ _ _)
      | (with_reducible exact ih1 _ _ _ _ _ _)
      | (with_reducible exact backhaulref27_all.mono _ _)
      | (with_reducible exact LeO.refl _)
      | (with_reducible exact LeO.none _)
      | (with_reducible refine LeO.ite ?_ ?_)
      | (with_reducible refine LeO.bind ?_ (fun _ => ?_))
      | exact ih0 _ _ _ _ _ _
      | exact ih1 _ _ _ _ _ _
      | exact backhaulref27_all.mono _ _
      | exact LeO.none _
      | refine LeO.ite ?_ ?_
      | refine LeO.bind ?_ (fun _ => ?_)
set_option maxHeartbeats 8000000 in
set_option maxRecDepth 100000 in
theorem backhaulref27_Check.calls (k : Nat) (a0_0 : Int) (a0_1 : Int) (a0_2 : Int) (a0_3 : Int) (A0_4 : Option Addr) (c0_4 : Nat) (l0_4 : List (S97)) (r : Int) (w : World) (hr0_4 : Kd.C k97 w A0_4 l0_4.length l0_4) (hc0_4 : l0_4.length ≤ c0_4) (h : backhaulref27_Check.f k a0_0 a0_1 a0_2 a0_3 l0_4 = some r) :
    Calls Try.prog 53 #[.agg #[.int .i64 a0_0, .int .i64 a0_1, .int .i64 a0_2, .int .i64 a0_3, .slice A0_4 l0_4.length c0_4]] w fun e w' => e = .returned (.int .i64 r) ∧ Below w.heap.size w w' := by
  have hu70 := Try.underlying70
  have hu97 := Try.underlying97
  have HR0_4 := zA hr0_4
  have HC0_4 := zA hc0_4
  clear hr0_4 hc0_4
  have HB := zA (Below.refl w.heap.size w)
  have H : (if a0_0 < 1 then (backhaulref27_Check.j0 k true a0_0 a0_1 a0_2 a0_3 l0_4) else (if a0_0 > 999999 then (backhaulref27_Check.j0 k true a0_0 a0_1 a0_2 a0_3 l0_4) else (if a0_1 < 1 then (backhaulref27_Check.j0 k true a0_0 a0_1 a0_2 a0_3 l0_4) else (if a0_1 > 999999 then (backhaulref27_Check.j0 k true a0_0 a0_1 a0_2 a0_3 l0_4) else (if a0_2 < 0 then (backhaulref27_Check.j0 k true a0_0 a0_1 a0_2 a0_3 l0_4) else (if a0_2 > 1000000 then (backhaulref27_Check.j0 k true a0_0 a0_1 a0_2 a0_3 l0_4) else (if (l0_4.length : Int) = 0 then (backhaulref27_Check.j0 k true a0_0 a0_1 a0_2 a0_3 l0_4) else (backhaulref27_Check.j0 k (decide ((l0_4.length : Int) > 8)) a0_0 a0_1 a0_2 a0_3 l0_4)))))))) = some r := h
  clear h
  have HC2 := zA H
  clear H
  go_enter Try.func53, Try.ntmps53
  go_upto_region 1 with (first | ((with_reducible refine gate_dst (N := 1) rfl ?_); (try (refine gate_guard (by rfl) ?_; dsimp only)); refine box_event qr (N := 1) qr (cs := #[.int .i64 a0_0, .int .i64 a0_1, .int .i64 a0_2, .int .i64 a0_3, .slice A0_4 l0_4.length c0_4]) (t := 70) qg ?_; intro gb101 hg w3 hbox hb; have n0_ := zA (zV qB hb); have n1_ := zA (hbox); have n2_ := zA ((qS : w.heap.size ≤ gb101)); have n3_ := zA ((qS : w.heap.size ≤ gb101)); clear HB; have HB := n0_; have BK101 := n1_; have GW101 := n2_; have GE101 := n3_; clear n0_ n1_ n2_ n3_ hb hbox hg))
  repeat (go_quiet (first | ((with_reducible refine gate_dst (N := 1) rfl ?_); (try (refine gate_guard (by rfl) ?_; dsimp only)); refine box_event qr (N := 1) qr (cs := #[.int .i64 a0_0, .int .i64 a0_1, .int .i64 a0_2, .int .i64 a0_3, .slice A0_4 l0_4.length c0_4]) (t := 70) qg ?_; intro gb101 hg w3 hbox hb; have n0_ := zA (zV qB hb); have n1_ := zA (hbox); have n2_ := zA ((qS : w.heap.size ≤ gb101)); have n3_ := zA ((qS : w.heap.size ≤ gb101)); clear HB; have HB := n0_; have BK101 := n1_; have GW101 := n2_; have GE101 := n3_; clear n0_ n1_ n2_ n3_ hb hbox hg)); go_upto_region 1 with (first | ((with_reducible refine gate_dst (N := 1) rfl ?_); (try (refine gate_guard (by rfl) ?_; dsimp only)); refine box_event qr (N := 1) qr (cs := #[.int .i64 a0_0, .int .i64 a0_1, .int .i64 a0_2, .int .i64 a0_3, .slice A0_4 l0_4.length c0_4]) (t := 70) qg ?_; intro gb101 hg w3 hbox hb; have n0_ := zA (zV qB hb); have n1_ := zA (hbox); have n2_ := zA ((qS : w.heap.size ≤ gb101)); have n3_ := zA ((qS : w.heap.size ≤ gb101)); clear HB; have HB := n0_; have BK101 := n1_; have GW101 := n2_; have GE101 := n3_; clear n0_ n1_ n2_ n3_ hb hbox hg)))
  (try simp only [Act.put, zH, zI, zJ])
  go_cut [44] (fun v44 wc => ∃ (kq : Nat) (x44_1 : Bool), v44 = .bool x44_1 ∧ Aside0 (backhaulref27_Check.j0 kq x44_1 a0_0 a0_1 a0_2 a0_3 l0_4 = some r) ∧ Aside0 (kq ≤ k) ∧ Aside0 (wc.heap[gb101]? = some (.cells #[.int .i64 a0_0, .int .i64 a0_1, .int .i64 a0_2, .int .i64 a0_3, (.slice A0_4 l0_4.length c0_4)] 70 (0, 0))) ∧ Aside0 (Below w.heap.size w wc))
  case first =>
    have H := HC2.out; clear HC2; by_cases c4 : a0_0 < 1
    · rw [if_pos c4] at H
      have c4b0 : decide (a0_0 < 1) = true := zFq c4; clear c4; (first | rw [c4b0] | (simp only [i64_w, i32_w]; rw [c4b0]) | skip)
      have H' := zA H; clear H; obtain ⟨_, _, _, _, _, _, _, _, _, _⟩ := qc5f BK101.out; go_wp2; repeat (go_quiet (fail); try go_wp2)
      go_meet
      case rel => exact ⟨_, (true), (by first | rfl | (simp; done) | (simp [*]; done)), H', ⟨by first | omega | exact Nat.le_refl _⟩, ⟨by exact BK101.out⟩, ⟨qB⟩⟩
    rw [if_neg c4] at H; have c4b0 : decide (a0_0 < 1) = false := zGq c4; clear c4; (first | rw [c4b0] | (simp only [i64_w, i32_w]; rw [c4b0]) | skip)
    by_cases c6 : a0_0 > 999999
    · rw [if_pos c6] at H
      have c6b0 : decide (999999 < a0_0) = true := zFq c6; clear c6; have H' := zA H; clear H; obtain ⟨_, _, _, _, _, _, _, _, _, _⟩ := qc5f BK101.out; go_wp2; repeat (go_quiet (fail); try go_wp2)
      go_meet
      case rel => exact ⟨_, (true), (by first | rfl | (simp; done) | (simp [*]; done)), H', ⟨by first | omega | exact Nat.le_refl _⟩, ⟨by exact BK101.out⟩, ⟨qB⟩⟩
    rw [if_neg c6] at H; have c6b0 : decide (999999 < a0_0) = false := zGq c6; clear c6; by_cases c8 : a0_1 < 1
    · rw [if_pos c8] at H
      have c8b0 : decide (a0_1 < 1) = true := zFq c8; clear c8; have H' := zA H; clear H; obtain ⟨_, _, _, _, _, _, _, _, _, _⟩ := qc5f BK101.out; go_wp2; repeat (go_quiet (fail); try go_wp2)
      go_meet
      case rel => exact ⟨_, (true), (by first | rfl | (simp; done) | (simp [*]; done)), H', ⟨by first | omega | exact Nat.le_refl _⟩, ⟨by exact BK101.out⟩, ⟨qB⟩⟩
    rw [if_neg c8] at H; have c8b0 : decide (a0_1 < 1) = false := zGq c8; clear c8; by_cases c10 : a0_1 > 999999
    · rw [if_pos c10] at H
      have c10b0 : decide (999999 < a0_1) = true := zFq c10; clear c10; have H' := zA H; clear H; obtain ⟨_, _, _, _, _, _, _, _, _, _⟩ := qc5f BK101.out; go_wp2; repeat (go_quiet (fail); try go_wp2)
      go_meet
      case rel => exact ⟨_, (true), (by first | rfl | (simp; done) | (simp [*]; done)), H', ⟨by first | omega | exact Nat.le_refl _⟩, ⟨by exact BK101.out⟩, ⟨qB⟩⟩
    rw [if_neg c10] at H; have c10b0 : decide (999999 < a0_1) = false := zGq c10; clear c10; by_cases c12 : a0_2 < 0
    · rw [if_pos c12] at H
      have c12b0 : decide (a0_2 < 0) = true := zFq c12; clear c12; have H' := zA H; clear H; obtain ⟨_, _, _, _, _, _, _, _, _, _⟩ := qc5f BK101.out; go_wp2; repeat (go_quiet (fail); try go_wp2)
      go_meet
      case rel => exact ⟨_, (true), (by first | rfl | (simp; done) | (simp [*]; done)), H', ⟨by first | omega | exact Nat.le_refl _⟩, ⟨by exact BK101.out⟩, ⟨qB⟩⟩
    rw [if_neg c12] at H; have c12b0 : decide (a0_2 < 0) = false := zGq c12; clear c12; by_cases c14 : a0_2 > 1000000
    · rw [if_pos c14] at H
      have c14b0 : decide (1000000 < a0_2) = true := zFq c14; clear c14; have H' := zA H; clear H; obtain ⟨_, _, _, _, _, _, _, _, _, _⟩ := qc5f BK101.out; go_wp2; repeat (go_quiet (fail); try go_wp2)
      go_meet
      case rel => exact ⟨_, (true), (by first | rfl | (simp; done) | (simp [*]; done)), H', ⟨by first | omega | exact Nat.le_refl _⟩, ⟨by exact BK101.out⟩, ⟨qB⟩⟩
    rw [if_neg c14] at H; have c14b0 : decide (1000000 < a0_2) = false := zGq c14; clear c14; by_cases c16 : (l0_4.length : Int) = 0
    · rw [if_pos c16] at H
      have c16b0 : ((l0_4.length : Int) == 0) = true := beq_iff_eq.mpr c16; have c16b1 : ((l0_4.length : Int) != 0) = false := bne_eq_false_iff_eq.mpr c16; clear c16; have H' := zA H; clear H; obtain ⟨_, _, _, _, _, _, _, _, _, _⟩ := qc5f BK101.out; go_wp2; repeat (go_quiet (fail); try go_wp2)
      go_meet
      case rel => exact ⟨_, (true), (by first | rfl | (simp; done) | (simp [*]; done)), H', ⟨by first | omega | exact Nat.le_refl _⟩, ⟨by exact BK101.out⟩, ⟨qB⟩⟩
    rw [if_neg c16] at H; have c16b0 : ((l0_4.length : Int) == 0) = false := beq_eq_false_iff_ne.mpr c16; have c16b1 : ((l0_4.length : Int) != 0) = true := bne_iff_ne.mpr c16; have c16b2 : ¬ (l0_4 = []) := fun h_ => c16 (by rw [h_]; rfl)
    have H' := zA H; clear H; obtain ⟨_, _, _, _, _, _, _, _, _, _⟩ := qc5f BK101.out; go_wp2; repeat (go_quiet (fail); try go_wp2)
    go_meet
    case rel => exact ⟨_, (decide ((l0_4.length : Int) > 8)), (by first | rfl | (simp; done) | (simp [*]; done)), H', ⟨by first | omega | exact Nat.le_refl _⟩, ⟨by exact BK101.out⟩, ⟨qB⟩⟩
  case rest =>
    clear HC2; try clear c1
    try clear p2
    try clear c4
    try clear c4b0
    try clear c5
    try clear c6
    try clear c6b0
    try clear c8
    try clear c8b0
    try clear c10
    try clear c10b0
    try clear c12
    try clear c12b0
    try clear c14
    try clear c14b0
    try clear c16
    try clear c16b0
    try clear c16b1
    try clear c16b2
    obtain ⟨kq, x44_1, rfl, HA, HJ1, BK101, HB⟩ := hcut; cases kq with
    | zero => exact absurd HA.out (by simp [backhaulref27_Check.j0])
    | succ kj1 =>
      have H := HA.out; clear HA; simp only [backhaulref27_Check.j0] at H; by_cases c19 : x44_1 = true
      · subst c19
        have H1 : (some 40) = some r := by first | (rw [if_pos rfl] at H; exact H) | rfl
        clear H; have H := H1; clear H1; obtain rfl := zKq H; go_wp2; repeat (go_quiet (fail); try go_wp2)
        go_ret; exact ⟨qE, qB⟩
      replace c19 := Bool.eq_false_iff.mpr c19; subst c19; have H1 : (backhaulref27_Check.l0 kj1 0 a0_0 a0_1 a0_2 a0_3 l0_4) = some r := by first | (rw [if_neg (show ¬ (false = true) by decide)] at H; exact H) | rfl
      clear H; have H := H1; clear H1; have H' := zA H; clear H; go_wp2; repeat (go_quiet (fail); try go_wp2)
      go_loopg [3] kj1 (fun kq v3 w' => ∃ (x3_2 : Int), v3 = .int .i64 x3_2 ∧ Aside0 (backhaulref27_Check.l0 kq x3_2 a0_0 a0_1 a0_2 a0_3 l0_4 = some r) ∧ Aside0 (kq ≤ kj1) ∧ Aside0 (w'.heap[gb101]? = some (.cells #[.int .i64 a0_0, .int .i64 a0_1, .int .i64 a0_2, .int .i64 a0_3, (.slice A0_4 l0_4.length c0_4)] 70 (0, 0))) ∧ Aside0 (Below w.heap.size w w'))
      case atStart => exact ⟨(0), (by first | rfl | (simp; done) | (simp [*]; done)), H', ⟨Nat.le_refl _⟩, ⟨by exact BK101.out⟩, ⟨qB⟩⟩
      case round =>
        clear H'; try clear c1
        try clear p2
        try clear c4
        try clear c4b0
        try clear c5
        try clear c6
        try clear c6b0
        try clear c8
        try clear c8b0
        try clear c10
        try clear c10b0
        try clear c12
        try clear c12b0
        try clear c14
        try clear c14b0
        try clear c16
        try clear c16b0
        try clear c16b1
        try clear c16b2
        try clear c19
        try clear p2
        obtain ⟨x3_2, rfl, HA, HK2, BK101, HB⟩ := hrel; cases gk with
        | zero => exact absurd HA.out (by simp [backhaulref27_Check.l0])
        | succ k2 =>
          have H := HA.out; clear HA; simp only [backhaulref27_Check.l0] at H; by_cases c20 : x3_2 < (l0_4.length : Int)
          · rw [if_pos c20] at H
            have c20b0 : decide (x3_2 < (l0_4.length : Int)) = true := zFq c20; clear c20; by_cases c21 : 0 ≤ x3_2
            · rw [if_pos c21] at H
              have c21b0 : decide (0 ≤ x3_2) = true := zFq c21; clear c21; by_cases c22 : ((rd_T97 l0_4 x3_2).f0) < 0
              · rw [if_pos c22] at H
                have c22b0 : decide (((rd_T97 l0_4 x3_2).f0) < 0) = true := zFq c22; clear c22; obtain rfl := zKq H; obtain ⟨_, _, _, _, _, _, _, _, _, _⟩ := qc5f BK101.out; have p102 : 0 ≤ (x3_2 : Int) := of_decide_eq_true qA; have q102 : x3_2 < (l0_4.length : Int) := of_decide_eq_true qA; obtain ⟨ad102, e102, hx102_0, hx102_1, hx102_2⟩ := at_T97 HR0_4.out x3_2 p102 q102; cases e102
                replace hx102_0 := (HB.out.cell (zCq w _ hx102_0)).trans hx102_0; replace hx102_1 := (HB.out.cell (zCq w _ hx102_1)).trans hx102_1; replace hx102_2 := (HB.out.cell (zCq w _ hx102_2)).trans hx102_2; replace p102 := eq_true p102; replace q102 := eq_true q102; go_wp2_with (first | ((with_reducible refine gate_dst (N := 4) rfl ?_); (try (refine gate_guard (by rfl) ?_; dsimp only)); refine box_event qr (N := 4) qr (cs := #[.int .i64 0, .int .i64 0, .int .i64 0]) (t := 97) qg ?_; intro gb103 hg w24 hbox hb; have n0_ := zA (qX BK101.out hb); have n1_ := zA (zV qB hb); have n2_ := zA (hbox); have n3_ := zA ((qS : w.heap.size ≤ gb103)); have n4_ := zA ((qS : w.heap.size ≤ gb103)); have n5_ := zA ((by rw [hg]; exact zLq (qL BK101.out) : gb101 ≠ gb103)); have n6_ := zA ((by rw [hg]; exact zMq (qL BK101.out) : gb103 ≠ gb101)); clear BK101 HB; have BK101 := n0_; have HB := n1_; have BK103 := n2_; have GW103 := n3_; have GE103 := n4_; have NB101_103 := n5_; have NB103_101 := n6_; clear n0_ n1_ n2_ n3_ n4_ n5_ n6_ hb hbox hg; have hnb25 := NB103_101.out; have hnc25 := NB101_103.out; obtain ⟨hcz26_0, hcz26_1, hcz26_2, hfz26_0, hfz26_1, hfz26_2⟩ := qc3f BK103.out)); repeat (go_quiet (first | ((with_reducible refine gate_dst (N := 4) rfl ?_); (try (refine gate_guard (by rfl) ?_; dsimp only)); refine box_event qr (N := 4) qr (cs := #[.int .i64 0, .int .i64 0, .int .i64 0]) (t := 97) qg ?_; intro gb103 hg w24 hbox hb; have n0_ := zA (qX BK101.out hb); have n1_ := zA (zV qB hb); have n2_ := zA (hbox); have n3_ := zA ((qS : w.heap.size ≤ gb103)); have n4_ := zA ((qS : w.heap.size ≤ gb103)); have n5_ := zA ((by rw [hg]; exact zLq (qL BK101.out) : gb101 ≠ gb103)); have n6_ := zA ((by rw [hg]; exact zMq (qL BK101.out) : gb103 ≠ gb101)); clear BK101 HB; have BK101 := n0_; have HB := n1_; have BK103 := n2_; have GW103 := n3_; have GE103 := n4_; have NB101_103 := n5_; have NB103_101 := n6_; clear n0_ n1_ n2_ n3_ n4_ n5_ n6_ hb hbox hg; have hnb25 := NB103_101.out; have hnc25 := NB101_103.out; obtain ⟨hcz26_0, hcz26_1, hcz26_2, hfz26_0, hfz26_1, hfz26_2⟩ := qc3f BK103.out)); try go_wp2_with (first | ((with_reducible refine gate_dst (N := 4) rfl ?_); (try (refine gate_guard (by rfl) ?_; dsimp only)); refine box_event qr (N := 4) qr (cs := #[.int .i64 0, .int .i64 0, .int .i64 0]) (t := 97) qg ?_; intro gb103 hg w24 hbox hb; have n0_ := zA (qX BK101.out hb); have n1_ := zA (zV qB hb); have n2_ := zA (hbox); have n3_ := zA ((qS : w.heap.size ≤ gb103)); have n4_ := zA ((qS : w.heap.size ≤ gb103)); have n5_ := zA ((by rw [hg]; exact zLq (qL BK101.out) : gb101 ≠ gb103)); have n6_ := zA ((by rw [hg]; exact zMq (qL BK101.out) : gb103 ≠ gb101)); clear BK101 HB; have BK101 := n0_; have HB := n1_; have BK103 := n2_; have GW103 := n3_; have GE103 := n4_; have NB101_103 := n5_; have NB103_101 := n6_; clear n0_ n1_ n2_ n3_ n4_ n5_ n6_ hb hbox hg; have hnb25 := NB103_101.out; have hnc25 := NB101_103.out; obtain ⟨hcz26_0, hcz26_1, hcz26_2, hfz26_0, hfz26_1, hfz26_2⟩ := qc3f BK103.out)))
                go_ret; exact ⟨qE, qB⟩
              rw [if_neg c22] at H; have c22b0 : decide (((rd_T97 l0_4 x3_2).f0) < 0) = false := zGq c22; clear c22; by_cases c27 : ((rd_T97 l0_4 x3_2).f0) > 7
              · rw [if_pos c27] at H
                have c27b0 : decide (7 < ((rd_T97 l0_4 x3_2).f0)) = true := zFq c27; clear c27; obtain rfl := zKq H; obtain ⟨_, _, _, _, _, _, _, _, _, _⟩ := qc5f BK101.out; have p102 : 0 ≤ (x3_2 : Int) := of_decide_eq_true qA; have q102 : x3_2 < (l0_4.length : Int) := of_decide_eq_true qA; obtain ⟨ad102, e102, hx102_0, hx102_1, hx102_2⟩ := at_T97 HR0_4.out x3_2 p102 q102; cases e102
                replace hx102_0 := (HB.out.cell (zCq w _ hx102_0)).trans hx102_0; replace hx102_1 := (HB.out.cell (zCq w _ hx102_1)).trans hx102_1; replace hx102_2 := (HB.out.cell (zCq w _ hx102_2)).trans hx102_2; replace p102 := eq_true p102; replace q102 := eq_true q102; go_wp2_with (first | ((with_reducible refine gate_dst (N := 4) rfl ?_); (try (refine gate_guard (by rfl) ?_; dsimp only)); refine box_event qr (N := 4) qr (cs := #[.int .i64 0, .int .i64 0, .int .i64 0]) (t := 97) qg ?_; intro gb103 hg w29 hbox hb; have n0_ := zA (qX BK101.out hb); have n1_ := zA (zV qB hb); have n2_ := zA (hbox); have n3_ := zA ((qS : w.heap.size ≤ gb103)); have n4_ := zA ((qS : w.heap.size ≤ gb103)); have n5_ := zA ((by rw [hg]; exact zLq (qL BK101.out) : gb101 ≠ gb103)); have n6_ := zA ((by rw [hg]; exact zMq (qL BK101.out) : gb103 ≠ gb101)); clear BK101 HB; have BK101 := n0_; have HB := n1_; have BK103 := n2_; have GW103 := n3_; have GE103 := n4_; have NB101_103 := n5_; have NB103_101 := n6_; clear n0_ n1_ n2_ n3_ n4_ n5_ n6_ hb hbox hg; have hnb30 := NB103_101.out; have hnc30 := NB101_103.out; obtain ⟨hcz31_0, hcz31_1, hcz31_2, hfz31_0, hfz31_1, hfz31_2⟩ := qc3f BK103.out)); repeat (go_quiet (first | ((with_reducible refine gate_dst (N := 4) rfl ?_); (try (refine gate_guard (by rfl) ?_; dsimp only)); refine box_event qr (N := 4) qr (cs := #[.int .i64 0, .int .i64 0, .int .i64 0]) (t := 97) qg ?_; intro gb103 hg w29 hbox hb; have n0_ := zA (qX BK101.out hb); have n1_ := zA (zV qB hb); have n2_ := zA (hbox); have n3_ := zA ((qS : w.heap.size ≤ gb103)); have n4_ := zA ((qS : w.heap.size ≤ gb103)); have n5_ := zA ((by rw [hg]; exact zLq (qL BK101.out) : gb101 ≠ gb103)); have n6_ := zA ((by rw [hg]; exact zMq (qL BK101.out) : gb103 ≠ gb101)); clear BK101 HB; have BK101 := n0_; have HB := n1_; have BK103 := n2_; have GW103 := n3_; have GE103 := n4_; have NB101_103 := n5_; have NB103_101 := n6_; clear n0_ n1_ n2_ n3_ n4_ n5_ n6_ hb hbox hg; have hnb30 := NB103_101.out; have hnc30 := NB101_103.out; obtain ⟨hcz31_0, hcz31_1, hcz31_2, hfz31_0, hfz31_1, hfz31_2⟩ := qc3f BK103.out)); try go_wp2_with (first | ((with_reducible refine gate_dst (N := 4) rfl ?_); (try (refine gate_guard (by rfl) ?_; dsimp only)); refine box_event qr (N := 4) qr (cs := #[.int .i64 0, .int .i64 0, .int .i64 0]) (t := 97) qg ?_; intro gb103 hg w29 hbox hb; have n0_ := zA (qX BK101.out hb); have n1_ := zA (zV qB hb); have n2_ := zA (hbox); have n3_ := zA ((qS : w.heap.size ≤ gb103)); have n4_ := zA ((qS : w.heap.size ≤ gb103)); have n5_ := zA ((by rw [hg]; exact zLq (qL BK101.out) : gb101 ≠ gb103)); have n6_ := zA ((by rw [hg]; exact zMq (qL BK101.out) : gb103 ≠ gb101)); clear BK101 HB; have BK101 := n0_; have HB := n1_; have BK103 := n2_; have GW103 := n3_; have GE103 := n4_; have NB101_103 := n5_; have NB103_101 := n6_; clear n0_ n1_ n2_ n3_ n4_ n5_ n6_ hb hbox hg; have hnb30 := NB103_101.out; have hnc30 := NB101_103.out; obtain ⟨hcz31_0, hcz31_1, hcz31_2, hfz31_0, hfz31_1, hfz31_2⟩ := qc3f BK103.out)))
                go_ret; exact ⟨qE, qB⟩
              rw [if_neg c27] at H; have c27b0 : decide (7 < ((rd_T97 l0_4 x3_2).f0)) = false := zGq c27; clear c27; by_cases c32 : ((rd_T97 l0_4 x3_2).f1) < 1
              · rw [if_pos c32] at H
                have c32b0 : decide (((rd_T97 l0_4 x3_2).f1) < 1) = true := zFq c32; clear c32; obtain rfl := zKq H; obtain ⟨_, _, _, _, _, _, _, _, _, _⟩ := qc5f BK101.out; have p102 : 0 ≤ (x3_2 : Int) := of_decide_eq_true qA; have q102 : x3_2 < (l0_4.length : Int) := of_decide_eq_true qA; obtain ⟨ad102, e102, hx102_0, hx102_1, hx102_2⟩ := at_T97 HR0_4.out x3_2 p102 q102; cases e102
                replace hx102_0 := (HB.out.cell (zCq w _ hx102_0)).trans hx102_0; replace hx102_1 := (HB.out.cell (zCq w _ hx102_1)).trans hx102_1; replace hx102_2 := (HB.out.cell (zCq w _ hx102_2)).trans hx102_2; replace p102 := eq_true p102; replace q102 := eq_true q102; go_wp2_with (first | ((with_reducible refine gate_dst (N := 4) rfl ?_); (try (refine gate_guard (by rfl) ?_; dsimp only)); refine box_event qr (N := 4) qr (cs := #[.int .i64 0, .int .i64 0, .int .i64 0]) (t := 97) qg ?_; intro gb103 hg w34 hbox hb; have n0_ := zA (qX BK101.out hb); have n1_ := zA (zV qB hb); have n2_ := zA (hbox); have n3_ := zA ((qS : w.heap.size ≤ gb103)); have n4_ := zA ((qS : w.heap.size ≤ gb103)); have n5_ := zA ((by rw [hg]; exact zLq (qL BK101.out) : gb101 ≠ gb103)); have n6_ := zA ((by rw [hg]; exact zMq (qL BK101.out) : gb103 ≠ gb101)); clear BK101 HB; have BK101 := n0_; have HB := n1_; have BK103 := n2_; have GW103 := n3_; have GE103 := n4_; have NB101_103 := n5_; have NB103_101 := n6_; clear n0_ n1_ n2_ n3_ n4_ n5_ n6_ hb hbox hg; have hnb35 := NB103_101.out; have hnc35 := NB101_103.out; obtain ⟨hcz36_0, hcz36_1, hcz36_2, hfz36_0, hfz36_1, hfz36_2⟩ := qc3f BK103.out)); repeat (go_quiet (first | ((with_reducible refine gate_dst (N := 4) rfl ?_); (try (refine gate_guard (by rfl) ?_; dsimp only)); refine box_event qr (N := 4) qr (cs := #[.int .i64 0, .int .i64 0, .int .i64 0]) (t := 97) qg ?_; intro gb103 hg w34 hbox hb; have n0_ := zA (qX BK101.out hb); have n1_ := zA (zV qB hb); have n2_ := zA (hbox); have n3_ := zA ((qS : w.heap.size ≤ gb103)); have n4_ := zA ((qS : w.heap.size ≤ gb103)); have n5_ := zA ((by rw [hg]; exact zLq (qL BK101.out) : gb101 ≠ gb103)); have n6_ := zA ((by rw [hg]; exact zMq (qL BK101.out) : gb103 ≠ gb101)); clear BK101 HB; have BK101 := n0_; have HB := n1_; have BK103 := n2_; have GW103 := n3_; have GE103 := n4_; have NB101_103 := n5_; have NB103_101 := n6_; clear n0_ n1_ n2_ n3_ n4_ n5_ n6_ hb hbox hg; have hnb35 := NB103_101.out; have hnc35 := NB101_103.out; obtain ⟨hcz36_0, hcz36_1, hcz36_2, hfz36_0, hfz36_1, hfz36_2⟩ := qc3f BK103.out)); try go_wp2_with (first | ((with_reducible refine gate_dst (N := 4) rfl ?_); (try (refine gate_guard (by rfl) ?_; dsimp only)); refine box_event qr (N := 4) qr (cs := #[.int .i64 0, .int .i64 0, .int .i64 0]) (t := 97) qg ?_; intro gb103 hg w34 hbox hb; have n0_ := zA (qX BK101.out hb); have n1_ := zA (zV qB hb); have n2_ := zA (hbox); have n3_ := zA ((qS : w.heap.size ≤ gb103)); have n4_ := zA ((qS : w.heap.size ≤ gb103)); have n5_ := zA ((by rw [hg]; exact zLq (qL BK101.out) : gb101 ≠ gb103)); have n6_ := zA ((by rw [hg]; exact zMq (qL BK101.out) : gb103 ≠ gb101)); clear BK101 HB; have BK101 := n0_; have HB := n1_; have BK103 := n2_; have GW103 := n3_; have GE103 := n4_; have NB101_103 := n5_; have NB103_101 := n6_; clear n0_ n1_ n2_ n3_ n4_ n5_ n6_ hb hbox hg; have hnb35 := NB103_101.out; have hnc35 := NB101_103.out; obtain ⟨hcz36_0, hcz36_1, hcz36_2, hfz36_0, hfz36_1, hfz36_2⟩ := qc3f BK103.out)))
                go_ret; exact ⟨qE, qB⟩
              rw [if_neg c32] at H; have c32b0 : decide (((rd_T97 l0_4 x3_2).f1) < 1) = false := zGq c32; clear c32; by_cases c37 : ((rd_T97 l0_4 x3_2).f1) > 20
              · rw [if_pos c37] at H
                have c37b0 : decide (20 < ((rd_T97 l0_4 x3_2).f1)) = true := zFq c37; clear c37; obtain rfl := zKq H; obtain ⟨_, _, _, _, _, _, _, _, _, _⟩ := qc5f BK101.out; have p102 : 0 ≤ (x3_2 : Int) := of_decide_eq_true qA; have q102 : x3_2 < (l0_4.length : Int) := of_decide_eq_true qA; obtain ⟨ad102, e102, hx102_0, hx102_1, hx102_2⟩ := at_T97 HR0_4.out x3_2 p102 q102; cases e102
                replace hx102_0 := (HB.out.cell (zCq w _ hx102_0)).trans hx102_0; replace hx102_1 := (HB.out.cell (zCq w _ hx102_1)).trans hx102_1; replace hx102_2 := (HB.out.cell (zCq w _ hx102_2)).trans hx102_2; replace p102 := eq_true p102; replace q102 := eq_true q102; go_wp2_with (first | ((with_reducible refine gate_dst (N := 4) rfl ?_); (try (refine gate_guard (by rfl) ?_; dsimp only)); refine box_event qr (N := 4) qr (cs := #[.int .i64 0, .int .i64 0, .int .i64 0]) (t := 97) qg ?_; intro gb103 hg w39 hbox hb; have n0_ := zA (qX BK101.out hb); have n1_ := zA (zV qB hb); have n2_ := zA (hbox); have n3_ := zA ((qS : w.heap.size ≤ gb103)); have n4_ := zA ((qS : w.heap.size ≤ gb103)); have n5_ := zA ((by rw [hg]; exact zLq (qL BK101.out) : gb101 ≠ gb103)); have n6_ := zA ((by rw [hg]; exact zMq (qL BK101.out) : gb103 ≠ gb101)); clear BK101 HB; have BK101 := n0_; have HB := n1_; have BK103 := n2_; have GW103 := n3_; have GE103 := n4_; have NB101_103 := n5_; have NB103_101 := n6_; clear n0_ n1_ n2_ n3_ n4_ n5_ n6_ hb hbox hg; have hnb40 := NB103_101.out; have hnc40 := NB101_103.out; obtain ⟨hcz41_0, hcz41_1, hcz41_2, hfz41_0, hfz41_1, hfz41_2⟩ := qc3f BK103.out)); repeat (go_quiet (first | ((with_reducible refine gate_dst (N := 4) rfl ?_); (try (refine gate_guard (by rfl) ?_; dsimp only)); refine box_event qr (N := 4) qr (cs := #[.int .i64 0, .int .i64 0, .int .i64 0]) (t := 97) qg ?_; intro gb103 hg w39 hbox hb; have n0_ := zA (qX BK101.out hb); have n1_ := zA (zV qB hb); have n2_ := zA (hbox); have n3_ := zA ((qS : w.heap.size ≤ gb103)); have n4_ := zA ((qS : w.heap.size ≤ gb103)); have n5_ := zA ((by rw [hg]; exact zLq (qL BK101.out) : gb101 ≠ gb103)); have n6_ := zA ((by rw [hg]; exact zMq (qL BK101.out) : gb103 ≠ gb101)); clear BK101 HB; have BK101 := n0_; have HB := n1_; have BK103 := n2_; have GW103 := n3_; have GE103 := n4_; have NB101_103 := n5_; have NB103_101 := n6_; clear n0_ n1_ n2_ n3_ n4_ n5_ n6_ hb hbox hg; have hnb40 := NB103_101.out; have hnc40 := NB101_103.out; obtain ⟨hcz41_0, hcz41_1, hcz41_2, hfz41_0, hfz41_1, hfz41_2⟩ := qc3f BK103.out)); try go_wp2_with (first | ((with_reducible refine gate_dst (N := 4) rfl ?_); (try (refine gate_guard (by rfl) ?_; dsimp only)); refine box_event qr (N := 4) qr (cs := #[.int .i64 0, .int .i64 0, .int .i64 0]) (t := 97) qg ?_; intro gb103 hg w39 hbox hb; have n0_ := zA (qX BK101.out hb); have n1_ := zA (zV qB hb); have n2_ := zA (hbox); have n3_ := zA ((qS : w.heap.size ≤ gb103)); have n4_ := zA ((qS : w.heap.size ≤ gb103)); have n5_ := zA ((by rw [hg]; exact zLq (qL BK101.out) : gb101 ≠ gb103)); have n6_ := zA ((by rw [hg]; exact zMq (qL BK101.out) : gb103 ≠ gb101)); clear BK101 HB; have BK101 := n0_; have HB := n1_; have BK103 := n2_; have GW103 := n3_; have GE103 := n4_; have NB101_103 := n5_; have NB103_101 := n6_; clear n0_ n1_ n2_ n3_ n4_ n5_ n6_ hb hbox hg; have hnb40 := NB103_101.out; have hnc40 := NB101_103.out; obtain ⟨hcz41_0, hcz41_1, hcz41_2, hfz41_0, hfz41_1, hfz41_2⟩ := qc3f BK103.out)))
                go_ret; exact ⟨qE, qB⟩
              rw [if_neg c37] at H; have c37b0 : decide (20 < ((rd_T97 l0_4 x3_2).f1)) = false := zGq c37; clear c37; by_cases c42 : ((rd_T97 l0_4 x3_2).f2) < 0
              · rw [if_pos c42] at H
                have c42b0 : decide (((rd_T97 l0_4 x3_2).f2) < 0) = true := zFq c42; clear c42; obtain rfl := zKq H; obtain ⟨_, _, _, _, _, _, _, _, _, _⟩ := qc5f BK101.out; have p102 : 0 ≤ (x3_2 : Int) := of_decide_eq_true qA; have q102 : x3_2 < (l0_4.length : Int) := of_decide_eq_true qA; obtain ⟨ad102, e102, hx102_0, hx102_1, hx102_2⟩ := at_T97 HR0_4.out x3_2 p102 q102; cases e102
                replace hx102_0 := (HB.out.cell (zCq w _ hx102_0)).trans hx102_0; replace hx102_1 := (HB.out.cell (zCq w _ hx102_1)).trans hx102_1; replace hx102_2 := (HB.out.cell (zCq w _ hx102_2)).trans hx102_2; replace p102 := eq_true p102; replace q102 := eq_true q102; go_wp2_with (first | ((with_reducible refine gate_dst (N := 4) rfl ?_); (try (refine gate_guard (by rfl) ?_; dsimp only)); refine box_event qr (N := 4) qr (cs := #[.int .i64 0, .int .i64 0, .int .i64 0]) (t := 97) qg ?_; intro gb103 hg w44 hbox hb; have n0_ := zA (qX BK101.out hb); have n1_ := zA (zV qB hb); have n2_ := zA (hbox); have n3_ := zA ((qS : w.heap.size ≤ gb103)); have n4_ := zA ((qS : w.heap.size ≤ gb103)); have n5_ := zA ((by rw [hg]; exact zLq (qL BK101.out) : gb101 ≠ gb103)); have n6_ := zA ((by rw [hg]; exact zMq (qL BK101.out) : gb103 ≠ gb101)); clear BK101 HB; have BK101 := n0_; have HB := n1_; have BK103 := n2_; have GW103 := n3_; have GE103 := n4_; have NB101_103 := n5_; have NB103_101 := n6_; clear n0_ n1_ n2_ n3_ n4_ n5_ n6_ hb hbox hg; have hnb45 := NB103_101.out; have hnc45 := NB101_103.out; obtain ⟨hcz46_0, hcz46_1, hcz46_2, hfz46_0, hfz46_1, hfz46_2⟩ := qc3f BK103.out)); repeat (go_quiet (first | ((with_reducible refine gate_dst (N := 4) rfl ?_); (try (refine gate_guard (by rfl) ?_; dsimp only)); refine box_event qr (N := 4) qr (cs := #[.int .i64 0, .int .i64 0, .int .i64 0]) (t := 97) qg ?_; intro gb103 hg w44 hbox hb; have n0_ := zA (qX BK101.out hb); have n1_ := zA (zV qB hb); have n2_ := zA (hbox); have n3_ := zA ((qS : w.heap.size ≤ gb103)); have n4_ := zA ((qS : w.heap.size ≤ gb103)); have n5_ := zA ((by rw [hg]; exact zLq (qL BK101.out) : gb101 ≠ gb103)); have n6_ := zA ((by rw [hg]; exact zMq (qL BK101.out) : gb103 ≠ gb101)); clear BK101 HB; have BK101 := n0_; have HB := n1_; have BK103 := n2_; have GW103 := n3_; have GE103 := n4_; have NB101_103 := n5_; have NB103_101 := n6_; clear n0_ n1_ n2_ n3_ n4_ n5_ n6_ hb hbox hg; have hnb45 := NB103_101.out; have hnc45 := NB101_103.out; obtain ⟨hcz46_0, hcz46_1, hcz46_2, hfz46_0, hfz46_1, hfz46_2⟩ := qc3f BK103.out)); try go_wp2_with (first | ((with_reducible refine gate_dst (N := 4) rfl ?_); (try (refine gate_guard (by rfl) ?_; dsimp only)); refine box_event qr (N := 4) qr (cs := #[.int .i64 0, .int .i64 0, .int .i64 0]) (t := 97) qg ?_; intro gb103 hg w44 hbox hb; have n0_ := zA (qX BK101.out hb); have n1_ := zA (zV qB hb); have n2_ := zA (hbox); have n3_ := zA ((qS : w.heap.size ≤ gb103)); have n4_ := zA ((qS : w.heap.size ≤ gb103)); have n5_ := zA ((by rw [hg]; exact zLq (qL BK101.out) : gb101 ≠ gb103)); have n6_ := zA ((by rw [hg]; exact zMq (qL BK101.out) : gb103 ≠ gb101)); clear BK101 HB; have BK101 := n0_; have HB := n1_; have BK103 := n2_; have GW103 := n3_; have GE103 := n4_; have NB101_103 := n5_; have NB103_101 := n6_; clear n0_ n1_ n2_ n3_ n4_ n5_ n6_ hb hbox hg; have hnb45 := NB103_101.out; have hnc45 := NB101_103.out; obtain ⟨hcz46_0, hcz46_1, hcz46_2, hfz46_0, hfz46_1, hfz46_2⟩ := qc3f BK103.out)))
                go_ret; exact ⟨qE, qB⟩
              rw [if_neg c42] at H; have c42b0 : decide (((rd_T97 l0_4 x3_2).f2) < 0) = false := zGq c42; clear c42; by_cases c47 : ((rd_T97 l0_4 x3_2).f2) > ((rd_T97 l0_4 x3_2).f1)
              · rw [if_pos c47] at H
                have c47b0 : decide (((rd_T97 l0_4 x3_2).f1) < ((rd_T97 l0_4 x3_2).f2)) = true := zFq c47; clear c47; obtain rfl := zKq H; obtain ⟨_, _, _, _, _, _, _, _, _, _⟩ := qc5f BK101.out; have p102 : 0 ≤ (x3_2 : Int) := of_decide_eq_true qA; have q102 : x3_2 < (l0_4.length : Int) := of_decide_eq_true qA; obtain ⟨ad102, e102, hx102_0, hx102_1, hx102_2⟩ := at_T97 HR0_4.out x3_2 p102 q102; cases e102
                replace hx102_0 := (HB.out.cell (zCq w _ hx102_0)).trans hx102_0; replace hx102_1 := (HB.out.cell (zCq w _ hx102_1)).trans hx102_1; replace hx102_2 := (HB.out.cell (zCq w _ hx102_2)).trans hx102_2; replace p102 := eq_true p102; replace q102 := eq_true q102; go_wp2_with (first | ((with_reducible refine gate_dst (N := 4) rfl ?_); (try (refine gate_guard (by rfl) ?_; dsimp only)); refine box_event qr (N := 4) qr (cs := #[.int .i64 0, .int .i64 0, .int .i64 0]) (t := 97) qg ?_; intro gb103 hg w49 hbox hb; have n0_ := zA (qX BK101.out hb); have n1_ := zA (zV qB hb); have n2_ := zA (hbox); have n3_ := zA ((qS : w.heap.size ≤ gb103)); have n4_ := zA ((qS : w.heap.size ≤ gb103)); have n5_ := zA ((by rw [hg]; exact zLq (qL BK101.out) : gb101 ≠ gb103)); have n6_ := zA ((by rw [hg]; exact zMq (qL BK101.out) : gb103 ≠ gb101)); clear BK101 HB; have BK101 := n0_; have HB := n1_; have BK103 := n2_; have GW103 := n3_; have GE103 := n4_; have NB101_103 := n5_; have NB103_101 := n6_; clear n0_ n1_ n2_ n3_ n4_ n5_ n6_ hb hbox hg; have hnb50 := NB103_101.out; have hnc50 := NB101_103.out; obtain ⟨hcz51_0, hcz51_1, hcz51_2, hfz51_0, hfz51_1, hfz51_2⟩ := qc3f BK103.out)); repeat (go_quiet (first | ((with_reducible refine gate_dst (N := 4) rfl ?_); (try (refine gate_guard (by rfl) ?_; dsimp only)); refine box_event qr (N := 4) qr (cs := #[.int .i64 0, .int .i64 0, .int .i64 0]) (t := 97) qg ?_; intro gb103 hg w49 hbox hb; have n0_ := zA (qX BK101.out hb); have n1_ := zA (zV qB hb); have n2_ := zA (hbox); have n3_ := zA ((qS : w.heap.size ≤ gb103)); have n4_ := zA ((qS : w.heap.size ≤ gb103)); have n5_ := zA ((by rw [hg]; exact zLq (qL BK101.out) : gb101 ≠ gb103)); have n6_ := zA ((by rw [hg]; exact zMq (qL BK101.out) : gb103 ≠ gb101)); clear BK101 HB; have BK101 := n0_; have HB := n1_; have BK103 := n2_; have GW103 := n3_; have GE103 := n4_; have NB101_103 := n5_; have NB103_101 := n6_; clear n0_ n1_ n2_ n3_ n4_ n5_ n6_ hb hbox hg; have hnb50 := NB103_101.out; have hnc50 := NB101_103.out; obtain ⟨hcz51_0, hcz51_1, hcz51_2, hfz51_0, hfz51_1, hfz51_2⟩ := qc3f BK103.out)); try go_wp2_with (first | ((with_reducible refine gate_dst (N := 4) rfl ?_); (try (refine gate_guard (by rfl) ?_; dsimp only)); refine box_event qr (N := 4) qr (cs := #[.int .i64 0, .int .i64 0, .int .i64 0]) (t := 97) qg ?_; intro gb103 hg w49 hbox hb; have n0_ := zA (qX BK101.out hb); have n1_ := zA (zV qB hb); have n2_ := zA (hbox); have n3_ := zA ((qS : w.heap.size ≤ gb103)); have n4_ := zA ((qS : w.heap.size ≤ gb103)); have n5_ := zA ((by rw [hg]; exact zLq (qL BK101.out) : gb101 ≠ gb103)); have n6_ := zA ((by rw [hg]; exact zMq (qL BK101.out) : gb103 ≠ gb101)); clear BK101 HB; have BK101 := n0_; have HB := n1_; have BK103 := n2_; have GW103 := n3_; have GE103 := n4_; have NB101_103 := n5_; have NB103_101 := n6_; clear n0_ n1_ n2_ n3_ n4_ n5_ n6_ hb hbox hg; have hnb50 := NB103_101.out; have hnc50 := NB101_103.out; obtain ⟨hcz51_0, hcz51_1, hcz51_2, hfz51_0, hfz51_1, hfz51_2⟩ := qc3f BK103.out)))
                go_ret; exact ⟨qE, qB⟩
              rw [if_neg c47] at H; have c47b0 : decide (((rd_T97 l0_4 x3_2).f1) < ((rd_T97 l0_4 x3_2).f2)) = false := zGq c47; clear c47; by_cases c52 : x3_2 > 0
              · rw [if_pos c52] at H
                have c52b0 : decide (0 < x3_2) = true := zFq c52; clear c52; obtain ⟨ji53, hji53⟩ : ∃ j_ : Int, (wrap64 (x3_2 - 1)) = j_ := ⟨_, rfl⟩
                replace H : (if 0 ≤ (ji53) then (if (ji53) < (l0_4.length : Int) then (if ((rd_T97 l0_4 x3_2).f0) ≤ ((rd_T97 l0_4 (ji53)).f0) then (some 40) else (backhaulref27_Check.l0 k2 (wrap64 (x3_2 + 1)) a0_0 a0_1 a0_2 a0_3 l0_4)) else (none)) else (none)) = some r := by first | (rw [hji53] at H; exact H) | (simp only [hji53] at H ⊢; exact H)
                have hji53w : (IntKind.i64.wrap (x3_2 - 1)) = ji53 := (i64_w _).trans hji53; by_cases c54 : 0 ≤ (ji53)
                · rw [if_pos c54] at H
                  have c54b0 : decide (0 ≤ (ji53)) = true := zFq c54; clear c54; by_cases c55 : (ji53) < (l0_4.length : Int)
                  · rw [if_pos c55] at H
                    have c55b0 : decide ((ji53) < (l0_4.length : Int)) = true := zFq c55; clear c55; by_cases c56 : ((rd_T97 l0_4 x3_2).f0) ≤ ((rd_T97 l0_4 (ji53)).f0)
                    · rw [if_pos c56] at H
                      have c56b0 : decide (((rd_T97 l0_4 x3_2).f0) ≤ ((rd_T97 l0_4 (ji53)).f0)) = true := zFq c56; clear c56; obtain rfl := zKq H; obtain ⟨_, _, _, _, _, _, _, _, _, _⟩ := qc5f BK101.out; have p102 : 0 ≤ (x3_2 : Int) := of_decide_eq_true qA; have q102 : x3_2 < (l0_4.length : Int) := of_decide_eq_true qA; obtain ⟨ad102, e102, hx102_0, hx102_1, hx102_2⟩ := at_T97 HR0_4.out x3_2 p102 q102; cases e102
                      replace hx102_0 := (HB.out.cell (zCq w _ hx102_0)).trans hx102_0; replace hx102_1 := (HB.out.cell (zCq w _ hx102_1)).trans hx102_1; replace hx102_2 := (HB.out.cell (zCq w _ hx102_2)).trans hx102_2; replace p102 := eq_true p102; replace q102 := eq_true q102; go_wp2_with (first | ((with_reducible refine gate_dst (N := 4) rfl ?_); (try (refine gate_guard (by rfl) ?_; dsimp only)); refine box_event qr (N := 4) qr (cs := #[.int .i64 0, .int .i64 0, .int .i64 0]) (t := 97) qg ?_; intro gb103 hg w58 hbox hb; have n0_ := zA (qX BK101.out hb); have n1_ := zA (zV qB hb); have n2_ := zA (hbox); have n3_ := zA ((qS : w.heap.size ≤ gb103)); have n4_ := zA ((qS : w.heap.size ≤ gb103)); have n5_ := zA ((by rw [hg]; exact zLq (qL BK101.out) : gb101 ≠ gb103)); have n6_ := zA ((by rw [hg]; exact zMq (qL BK101.out) : gb103 ≠ gb101)); clear BK101 HB; have BK101 := n0_; have HB := n1_; have BK103 := n2_; have GW103 := n3_; have GE103 := n4_; have NB101_103 := n5_; have NB103_101 := n6_; clear n0_ n1_ n2_ n3_ n4_ n5_ n6_ hb hbox hg; have hnb59 := NB103_101.out; have hnc59 := NB101_103.out; obtain ⟨hcz60_0, hcz60_1, hcz60_2, hfz60_0, hfz60_1, hfz60_2⟩ := qc3f BK103.out; obtain ⟨hcz61_0, hcz61_1, hcz61_2, hcz61_3, hcz61_4, hfz61_0, hfz61_1, hfz61_2, hfz61_3, hfz61_4⟩ := qc5f BK101.out; have p104 : 0 ≤ ((ji53) : Int) := of_decide_eq_true qA; have q104 : (ji53) < (l0_4.length : Int) := of_decide_eq_true qA; obtain ⟨ad104, e104, hx104_0, hx104_1, hx104_2⟩ := at_T97 HR0_4.out (ji53) p104 q104; obtain rfl : ad102 = ad104 := (by injection e104); have hn104_0 : ad102.block ≠ gb103 := zLq (Nat.lt_of_lt_of_le (by have := zCq _ _ hx104_0; first | rwa [add_block] at this | exact this) GW103.out); have hn104_1 : ad102.block ≠ gb103 := zLq (Nat.lt_of_lt_of_le (by have := zCq _ _ hx104_0; first | rwa [add_block] at this | exact this) GW103.out); have hn104_2 : ad102.block ≠ gb103 := zLq (Nat.lt_of_lt_of_le (by have := zCq _ _ hx104_0; first | rwa [add_block] at this | exact this) GW103.out); replace hx104_0 := (HB.out.cell (zCq w _ hx104_0)).trans hx104_0; replace hx104_1 := (HB.out.cell (zCq w _ hx104_1)).trans hx104_1; replace hx104_2 := (HB.out.cell (zCq w _ hx104_2)).trans hx104_2; replace hx104_0 := (cell_far (p := ⟨gb103, 0, none⟩) (by first | (rw [add_block]; exact hn104_0) | (show (Addr.add _ _).block ≠ _; rw [add_block]; exact hn104_0) | exact hn104_0) (.int .i64 ((rd_T97 l0_4 x3_2).f0))).trans hx104_0; replace hx104_1 := (cell_far (p := ⟨gb103, 0, none⟩) (by first | (rw [add_block]; exact hn104_0) | (show (Addr.add _ _).block ≠ _; rw [add_block]; exact hn104_0) | exact hn104_0) (.int .i64 ((rd_T97 l0_4 x3_2).f0))).trans hx104_1; replace hx104_2 := (cell_far (p := ⟨gb103, 0, none⟩) (by first | (rw [add_block]; exact hn104_0) | (show (Addr.add _ _).block ≠ _; rw [add_block]; exact hn104_0) | exact hn104_0) (.int .i64 ((rd_T97 l0_4 x3_2).f0))).trans hx104_2; replace hx104_0 := (cell_far (p := ⟨gb103, 1, none⟩) (by first | (rw [add_block]; exact hn104_1) | (show (Addr.add _ _).block ≠ _; rw [add_block]; exact hn104_1) | exact hn104_1) (.int .i64 ((rd_T97 l0_4 x3_2).f1))).trans hx104_0; replace hx104_1 := (cell_far (p := ⟨gb103, 1, none⟩) (by first | (rw [add_block]; exact hn104_1) | (show (Addr.add _ _).block ≠ _; rw [add_block]; exact hn104_1) | exact hn104_1) (.int .i64 ((rd_T97 l0_4 x3_2).f1))).trans hx104_1; replace hx104_2 := (cell_far (p := ⟨gb103, 1, none⟩) (by first | (rw [add_block]; exact hn104_1) | (show (Addr.add _ _).block ≠ _; rw [add_block]; exact hn104_1) | exact hn104_1) (.int .i64 ((rd_T97 l0_4 x3_2).f1))).trans hx104_2; replace hx104_0 := (cell_far (p := ⟨gb103, 2, none⟩) (by first | (rw [add_block]; exact hn104_2) | (show (Addr.add _ _).block ≠ _; rw [add_block]; exact hn104_2) | exact hn104_2) (.int .i64 ((rd_T97 l0_4 x3_2).f2))).trans hx104_0; replace hx104_1 := (cell_far (p := ⟨gb103, 2, none⟩) (by first | (rw [add_block]; exact hn104_2) | (show (Addr.add _ _).block ≠ _; rw [add_block]; exact hn104_2) | exact hn104_2) (.int .i64 ((rd_T97 l0_4 x3_2).f2))).trans hx104_1; replace hx104_2 := (cell_far (p := ⟨gb103, 2, none⟩) (by first | (rw [add_block]; exact hn104_2) | (show (Addr.add _ _).block ≠ _; rw [add_block]; exact hn104_2) | exact hn104_2) (.int .i64 ((rd_T97 l0_4 x3_2).f2))).trans hx104_2; (try have hy104_0 := fun (n_ : Nat) => (show (((((w58.drewN n_).setCell ⟨gb103, 0, none⟩ (.int .i64 ((rd_T97 l0_4 x3_2).f0))).setCell ⟨gb103, 1, none⟩ (.int .i64 ((rd_T97 l0_4 x3_2).f1))).setCell ⟨gb103, 2, none⟩ (.int .i64 ((rd_T97 l0_4 x3_2).f2)))).cell? _ = some _ from hx104_0)); (try have hy104_1 := fun (n_ : Nat) => (show (((((w58.drewN n_).setCell ⟨gb103, 0, none⟩ (.int .i64 ((rd_T97 l0_4 x3_2).f0))).setCell ⟨gb103, 1, none⟩ (.int .i64 ((rd_T97 l0_4 x3_2).f1))).setCell ⟨gb103, 2, none⟩ (.int .i64 ((rd_T97 l0_4 x3_2).f2)))).cell? _ = some _ from hx104_1)); (try have hy104_2 := fun (n_ : Nat) => (show (((((w58.drewN n_).setCell ⟨gb103, 0, none⟩ (.int .i64 ((rd_T97 l0_4 x3_2).f0))).setCell ⟨gb103, 1, none⟩ (.int .i64 ((rd_T97 l0_4 x3_2).f1))).setCell ⟨gb103, 2, none⟩ (.int .i64 ((rd_T97 l0_4 x3_2).f2)))).cell? _ = some _ from hx104_2)); clear hn104_0 hn104_1 hn104_2; replace p104 := eq_true p104; replace q104 := eq_true q104))
                      repeat (go_quiet (first | ((with_reducible refine gate_dst (N := 4) rfl ?_); (try (refine gate_guard (by rfl) ?_; dsimp only)); refine box_event qr (N := 4) qr (cs := #[.int .i64 0, .int .i64 0, .int .i64 0]) (t := 97) qg ?_; intro gb103 hg w58 hbox hb; have n0_ := zA (qX BK101.out hb); have n1_ := zA (zV qB hb); have n2_ := zA (hbox); have n3_ := zA ((qS : w.heap.size ≤ gb103)); have n4_ := zA ((qS : w.heap.size ≤ gb103)); have n5_ := zA ((by rw [hg]; exact zLq (qL BK101.out) : gb101 ≠ gb103)); have n6_ := zA ((by rw [hg]; exact zMq (qL BK101.out) : gb103 ≠ gb101)); clear BK101 HB; have BK101 := n0_; have HB := n1_; have BK103 := n2_; have GW103 := n3_; have GE103 := n4_; have NB101_103 := n5_; have NB103_101 := n6_; clear n0_ n1_ n2_ n3_ n4_ n5_ n6_ hb hbox hg; have hnb59 := NB103_101.out; have hnc59 := NB101_103.out; obtain ⟨hcz60_0, hcz60_1, hcz60_2, hfz60_0, hfz60_1, hfz60_2⟩ := qc3f BK103.out; obtain ⟨hcz61_0, hcz61_1, hcz61_2, hcz61_3, hcz61_4, hfz61_0, hfz61_1, hfz61_2, hfz61_3, hfz61_4⟩ := qc5f BK101.out; have p104 : 0 ≤ ((ji53) : Int) := of_decide_eq_true qA; have q104 : (ji53) < (l0_4.length : Int) := of_decide_eq_true qA; obtain ⟨ad104, e104, hx104_0, hx104_1, hx104_2⟩ := at_T97 HR0_4.out (ji53) p104 q104; obtain rfl : ad102 = ad104 := (by injection e104); have hn104_0 : ad102.block ≠ gb103 := zLq (Nat.lt_of_lt_of_le (by have := zCq _ _ hx104_0; first | rwa [add_block] at this | exact this) GW103.out); have hn104_1 : ad102.block ≠ gb103 := zLq (Nat.lt_of_lt_of_le (by have := zCq _ _ hx104_0; first | rwa [add_block] at this | exact this) GW103.out); have hn104_2 : ad102.block ≠ gb103 := zLq (Nat.lt_of_lt_of_le (by have := zCq _ _ hx104_0; first | rwa [add_block] at this | exact this) GW103.out); replace hx104_0 := (HB.out.cell (zCq w _ hx104_0)).trans hx104_0; replace hx104_1 := (HB.out.cell (zCq w _ hx104_1)).trans hx104_1; replace hx104_2 := (HB.out.cell (zCq w _ hx104_2)).trans hx104_2; replace hx104_0 := (cell_far (p := ⟨gb103, 0, none⟩) (by first | (rw [add_block]; exact hn104_0) | (show (Addr.add _ _).block ≠ _; rw [add_block]; exact hn104_0) | exact hn104_0) (.int .i64 ((rd_T97 l0_4 x3_2).f0))).trans hx104_0; replace hx104_1 := (cell_far (p := ⟨gb103, 0, none⟩) (by first | (rw [add_block]; exact hn104_0) | (show (Addr.add _ _).block ≠ _; rw [add_block]; exact hn104_0) | exact hn104_0) (.int .i64 ((rd_T97 l0_4 x3_2).f0))).trans hx104_1; replace hx104_2 := (cell_far (p := ⟨gb103, 0, none⟩) (by first | (rw [add_block]; exact hn104_0) | (show (Addr.add _ _).block ≠ _; rw [add_block]; exact hn104_0) | exact hn104_0) (.int .i64 ((rd_T97 l0_4 x3_2).f0))).trans hx104_2; replace hx104_0 := (cell_far (p := ⟨gb103, 1, none⟩) (by first | (rw [add_block]; exact hn104_1) | (show (Addr.add _ _).block ≠ _; rw [add_block]; exact hn104_1) | exact hn104_1) (.int .i64 ((rd_T97 l0_4 x3_2).f1))).trans hx104_0; replace hx104_1 := (cell_far (p := ⟨gb103, 1, none⟩) (by first | (rw [add_block]; exact hn104_1) | (show (Addr.add _ _).block ≠ _; rw [add_block]; exact hn104_1) | exact hn104_1) (.int .i64 ((rd_T97 l0_4 x3_2).f1))).trans hx104_1; replace hx104_2 := (cell_far (p := ⟨gb103, 1, none⟩) (by first | (rw [add_block]; exact hn104_1) | (show (Addr.add _ _).block ≠ _; rw [add_block]; exact hn104_1) | exact hn104_1) (.int .i64 ((rd_T97 l0_4 x3_2).f1))).trans hx104_2; replace hx104_0 := (cell_far (p := ⟨gb103, 2, none⟩) (by first | (rw [add_block]; exact hn104_2) | (show (Addr.add _ _).block ≠ _; rw [add_block]; exact hn104_2) | exact hn104_2) (.int .i64 ((rd_T97 l0_4 x3_2).f2))).trans hx104_0; replace hx104_1 := (cell_far (p := ⟨gb103, 2, none⟩) (by first | (rw [add_block]; exact hn104_2) | (show (Addr.add _ _).block ≠ _; rw [add_block]; exact hn104_2) | exact hn104_2) (.int .i64 ((rd_T97 l0_4 x3_2).f2))).trans hx104_1; replace hx104_2 := (cell_far (p := ⟨gb103, 2, none⟩) (by first | (rw [add_block]; exact hn104_2) | (show (Addr.add _ _).block ≠ _; rw [add_block]; exact hn104_2) | exact hn104_2) (.int .i64 ((rd_T97 l0_4 x3_2).f2))).trans hx104_2; (try have hy104_0 := fun (n_ : Nat) => (show (((((w58.drewN n_).setCell ⟨gb103, 0, none⟩ (.int .i64 ((rd_T97 l0_4 x3_2).f0))).setCell ⟨gb103, 1, none⟩ (.int .i64 ((rd_T97 l0_4 x3_2).f1))).setCell ⟨gb103, 2, none⟩ (.int .i64 ((rd_T97 l0_4 x3_2).f2)))).cell? _ = some _ from hx104_0)); (try have hy104_1 := fun (n_ : Nat) => (show (((((w58.drewN n_).setCell ⟨gb103, 0, none⟩ (.int .i64 ((rd_T97 l0_4 x3_2).f0))).setCell ⟨gb103, 1, none⟩ (.int .i64 ((rd_T97 l0_4 x3_2).f1))).setCell ⟨gb103, 2, none⟩ (.int .i64 ((rd_T97 l0_4 x3_2).f2)))).cell? _ = some _ from hx104_1)); (try have hy104_2 := fun (n_ : Nat) => (show (((((w58.drewN n_).setCell ⟨gb103, 0, none⟩ (.int .i64 ((rd_T97 l0_4 x3_2).f0))).setCell ⟨gb103, 1, none⟩ (.int .i64 ((rd_T97 l0_4 x3_2).f1))).setCell ⟨gb103, 2, none⟩ (.int .i64 ((rd_T97 l0_4 x3_2).f2)))).cell? _ = some _ from hx104_2)); clear hn104_0 hn104_1 hn104_2; replace p104 := eq_true p104; replace q104 := eq_true q104)); try go_wp2_with (first | ((with_reducible refine gate_dst (N := 4) rfl ?_); (try (refine gate_guard (by rfl) ?_; dsimp only)); refine box_event qr (N := 4) qr (cs := #[.int .i64 0, .int .i64 0, .int .i64 0]) (t := 97) qg ?_; intro gb103 hg w58 hbox hb; have n0_ := zA (qX BK101.out hb); have n1_ := zA (zV qB hb); have n2_ := zA (hbox); have n3_ := zA ((qS : w.heap.size ≤ gb103)); have n4_ := zA ((qS : w.heap.size ≤ gb103)); have n5_ := zA ((by rw [hg]; exact zLq (qL BK101.out) : gb101 ≠ gb103)); have n6_ := zA ((by rw [hg]; exact zMq (qL BK101.out) : gb103 ≠ gb101)); clear BK101 HB; have BK101 := n0_; have HB := n1_; have BK103 := n2_; have GW103 := n3_; have GE103 := n4_; have NB101_103 := n5_; have NB103_101 := n6_; clear n0_ n1_ n2_ n3_ n4_ n5_ n6_ hb hbox hg; have hnb59 := NB103_101.out; have hnc59 := NB101_103.out; obtain ⟨hcz60_0, hcz60_1, hcz60_2, hfz60_0, hfz60_1, hfz60_2⟩ := qc3f BK103.out; obtain ⟨hcz61_0, hcz61_1, hcz61_2, hcz61_3, hcz61_4, hfz61_0, hfz61_1, hfz61_2, hfz61_3, hfz61_4⟩ := qc5f BK101.out; have p104 : 0 ≤ ((ji53) : Int) := of_decide_eq_true qA; have q104 : (ji53) < (l0_4.length : Int) := of_decide_eq_true qA; obtain ⟨ad104, e104, hx104_0, hx104_1, hx104_2⟩ := at_T97 HR0_4.out (ji53) p104 q104; obtain rfl : ad102 = ad104 := (by injection e104); have hn104_0 : ad102.block ≠ gb103 := zLq (Nat.lt_of_lt_of_le (by have := zCq _ _ hx104_0; first | rwa [add_block] at this | exact this) GW103.out); have hn104_1 : ad102.block ≠ gb103 := zLq (Nat.lt_of_lt_of_le (by have := zCq _ _ hx104_0; first | rwa [add_block] at this | exact this) GW103.out); have hn104_2 : ad102.block ≠ gb103 := zLq (Nat.lt_of_lt_of_le (by have := zCq _ _ hx104_0; first | rwa [add_block] at this | exact this) GW103.out); replace hx104_0 := (HB.out.cell (zCq w _ hx104_0)).trans hx104_0; replace hx104_1 := (HB.out.cell (zCq w _ hx104_1)).trans hx104_1; replace hx104_2 := (HB.out.cell (zCq w _ hx104_2)).trans hx104_2; replace hx104_0 := (cell_far (p := ⟨gb103, 0, none⟩) (by first | (rw [add_block]; exact hn104_0) | (show (Addr.add _ _).block ≠ _; rw [add_block]; exact hn104_0) | exact hn104_0) (.int .i64 ((rd_T97 l0_4 x3_2).f0))).trans hx104_0; replace hx104_1 := (cell_far (p := ⟨gb103, 0, none⟩) (by first | (rw [add_block]; exact hn104_0) | (show (Addr.add _ _).block ≠ _; rw [add_block]; exact hn104_0) | exact hn104_0) (.int .i64 ((rd_T97 l0_4 x3_2).f0))).trans hx104_1; replace hx104_2 := (cell_far (p := ⟨gb103, 0, none⟩) (by first | (rw [add_block]; exact hn104_0) | (show (Addr.add _ _).block ≠ _; rw [add_block]; exact hn104_0) | exact hn104_0) (.int .i64 ((rd_T97 l0_4 x3_2).f0))).trans hx104_2; replace hx104_0 := (cell_far (p := ⟨gb103, 1, none⟩) (by first | (rw [add_block]; exact hn104_1) | (show (Addr.add _ _).block ≠ _; rw [add_block]; exact hn104_1) | exact hn104_1) (.int .i64 ((rd_T97 l0_4 x3_2).f1))).trans hx104_0; replace hx104_1 := (cell_far (p := ⟨gb103, 1, none⟩) (by first | (rw [add_block]; exact hn104_1) | (show (Addr.add _ _).block ≠ _; rw [add_block]; exact hn104_1) | exact hn104_1) (.int .i64 ((rd_T97 l0_4 x3_2).f1))).trans hx104_1; replace hx104_2 := (cell_far (p := ⟨gb103, 1, none⟩) (by first | (rw [add_block]; exact hn104_1) | (show (Addr.add _ _).block ≠ _; rw [add_block]; exact hn104_1) | exact hn104_1) (.int .i64 ((rd_T97 l0_4 x3_2).f1))).trans hx104_2; replace hx104_0 := (cell_far (p := ⟨gb103, 2, none⟩) (by first | (rw [add_block]; exact hn104_2) | (show (Addr.add _ _).block ≠ _; rw [add_block]; exact hn104_2) | exact hn104_2) (.int .i64 ((rd_T97 l0_4 x3_2).f2))).trans hx104_0; replace hx104_1 := (cell_far (p := ⟨gb103, 2, none⟩) (by first | (rw [add_block]; exact hn104_2) | (show (Addr.add _ _).block ≠ _; rw [add_block]; exact hn104_2) | exact hn104_2) (.int .i64 ((rd_T97 l0_4 x3_2).f2))).trans hx104_1; replace hx104_2 := (cell_far (p := ⟨gb103, 2, none⟩) (by first | (rw [add_block]; exact hn104_2) | (show (Addr.add _ _).block ≠ _; rw [add_block]; exact hn104_2) | exact hn104_2) (.int .i64 ((rd_T97 l0_4 x3_2).f2))).trans hx104_2; (try have hy104_0 := fun (n_ : Nat) => (show (((((w58.drewN n_).setCell ⟨gb103, 0, none⟩ (.int .i64 ((rd_T97 l0_4 x3_2).f0))).setCell ⟨gb103, 1, none⟩ (.int .i64 ((rd_T97 l0_4 x3_2).f1))).setCell ⟨gb103, 2, none⟩ (.int .i64 ((rd_T97 l0_4 x3_2).f2)))).cell? _ = some _ from hx104_0)); (try have hy104_1 := fun (n_ : Nat) => (show (((((w58.drewN n_).setCell ⟨gb103, 0, none⟩ (.int .i64 ((rd_T97 l0_4 x3_2).f0))).setCell ⟨gb103, 1, none⟩ (.int .i64 ((rd_T97 l0_4 x3_2).f1))).setCell ⟨gb103, 2, none⟩ (.int .i64 ((rd_T97 l0_4 x3_2).f2)))).cell? _ = some _ from hx104_1)); (try have hy104_2 := fun (n_ : Nat) => (show (((((w58.drewN n_).setCell ⟨gb103, 0, none⟩ (.int .i64 ((rd_T97 l0_4 x3_2).f0))).setCell ⟨gb103, 1, none⟩ (.int .i64 ((rd_T97 l0_4 x3_2).f1))).setCell ⟨gb103, 2, none⟩ (.int .i64 ((rd_T97 l0_4 x3_2).f2)))).cell? _ = some _ from hx104_2)); clear hn104_0 hn104_1 hn104_2; replace p104 := eq_true p104; replace q104 := eq_true q104)))
                      go_ret; exact ⟨by first | rfl | (simp [errW_none, errW_some] <;> rfl) | (simp only [← hji53]; first | rfl | (simp [errW_none, errW_some] <;> rfl)) | (simp [*, errW_none, errW_some] <;> rfl), qB⟩
                    rw [if_neg c56] at H; have c56b0 : decide (((rd_T97 l0_4 x3_2).f0) ≤ ((rd_T97 l0_4 (ji53)).f0)) = false := zGq c56; clear c56; have H' := zA H; clear H; obtain ⟨_, _, _, _, _, _, _, _, _, _⟩ := qc5f BK101.out; have p102 : 0 ≤ (x3_2 : Int) := of_decide_eq_true qA; have q102 : x3_2 < (l0_4.length : Int) := of_decide_eq_true qA; obtain ⟨ad102, e102, hx102_0, hx102_1, hx102_2⟩ := at_T97 HR0_4.out x3_2 p102 q102; cases e102
                    replace hx102_0 := (HB.out.cell (zCq w _ hx102_0)).trans hx102_0; replace hx102_1 := (HB.out.cell (zCq w _ hx102_1)).trans hx102_1; replace hx102_2 := (HB.out.cell (zCq w _ hx102_2)).trans hx102_2; replace p102 := eq_true p102; replace q102 := eq_true q102; go_wp2_with (first | ((with_reducible refine gate_dst (N := 4) rfl ?_); (try (refine gate_guard (by rfl) ?_; dsimp only)); refine box_event qr (N := 4) qr (cs := #[.int .i64 0, .int .i64 0, .int .i64 0]) (t := 97) qg ?_; intro gb103 hg w63 hbox hb; have n0_ := zA (qX BK101.out hb); have n1_ := zA (zV qB hb); have n2_ := zA (hbox); have n3_ := zA ((qS : w.heap.size ≤ gb103)); have n4_ := zA ((qS : w.heap.size ≤ gb103)); have n5_ := zA ((by rw [hg]; exact zLq (qL BK101.out) : gb101 ≠ gb103)); have n6_ := zA ((by rw [hg]; exact zMq (qL BK101.out) : gb103 ≠ gb101)); clear BK101 HB; have BK101 := n0_; have HB := n1_; have BK103 := n2_; have GW103 := n3_; have GE103 := n4_; have NB101_103 := n5_; have NB103_101 := n6_; clear n0_ n1_ n2_ n3_ n4_ n5_ n6_ hb hbox hg; have hnb64 := NB103_101.out; have hnc64 := NB101_103.out; obtain ⟨hcz65_0, hcz65_1, hcz65_2, hfz65_0, hfz65_1, hfz65_2⟩ := qc3f BK103.out; obtain ⟨hcz66_0, hcz66_1, hcz66_2, hcz66_3, hcz66_4, hfz66_0, hfz66_1, hfz66_2, hfz66_3, hfz66_4⟩ := qc5f BK101.out; have p104 : 0 ≤ ((ji53) : Int) := of_decide_eq_true qA; have q104 : (ji53) < (l0_4.length : Int) := of_decide_eq_true qA; obtain ⟨ad104, e104, hx104_0, hx104_1, hx104_2⟩ := at_T97 HR0_4.out (ji53) p104 q104; obtain rfl : ad102 = ad104 := (by injection e104); have hn104_0 : ad102.block ≠ gb103 := zLq (Nat.lt_of_lt_of_le (by have := zCq _ _ hx104_0; first | rwa [add_block] at this | exact this) GW103.out); have hn104_1 : ad102.block ≠ gb103 := zLq (Nat.lt_of_lt_of_le (by have := zCq _ _ hx104_0; first | rwa [add_block] at this | exact this) GW103.out); have hn104_2 : ad102.block ≠ gb103 := zLq (Nat.lt_of_lt_of_le (by have := zCq _ _ hx104_0; first | rwa [add_block] at this | exact this) GW103.out); replace hx104_0 := (HB.out.cell (zCq w _ hx104_0)).trans hx104_0; replace hx104_1 := (HB.out.cell (zCq w _ hx104_1)).trans hx104_1; replace hx104_2 := (HB.out.cell (zCq w _ hx104_2)).trans hx104_2; replace hx104_0 := (cell_far (p := ⟨gb103, 0, none⟩) (by first | (rw [add_block]; exact hn104_0) | (show (Addr.add _ _).block ≠ _; rw [add_block]; exact hn104_0) | exact hn104_0) (.int .i64 ((rd_T97 l0_4 x3_2).f0))).trans hx104_0; replace hx104_1 := (cell_far (p := ⟨gb103, 0, none⟩) (by first | (rw [add_block]; exact hn104_0) | (show (Addr.add _ _).block ≠ _; rw [add_block]; exact hn104_0) | exact hn104_0) (.int .i64 ((rd_T97 l0_4 x3_2).f0))).trans hx104_1; replace hx104_2 := (cell_far (p := ⟨gb103, 0, none⟩) (by first | (rw [add_block]; exact hn104_0) | (show (Addr.add _ _).block ≠ _; rw [add_block]; exact hn104_0) | exact hn104_0) (.int .i64 ((rd_T97 l0_4 x3_2).f0))).trans hx104_2; replace hx104_0 := (cell_far (p := ⟨gb103, 1, none⟩) (by first | (rw [add_block]; exact hn104_1) | (show (Addr.add _ _).block ≠ _; rw [add_block]; exact hn104_1) | exact hn104_1) (.int .i64 ((rd_T97 l0_4 x3_2).f1))).trans hx104_0; replace hx104_1 := (cell_far (p := ⟨gb103, 1, none⟩) (by first | (rw [add_block]; exact hn104_1) | (show (Addr.add _ _).block ≠ _; rw [add_block]; exact hn104_1) | exact hn104_1) (.int .i64 ((rd_T97 l0_4 x3_2).f1))).trans hx104_1; replace hx104_2 := (cell_far (p := ⟨gb103, 1, none⟩) (by first | (rw [add_block]; exact hn104_1) | (show (Addr.add _ _).block ≠ _; rw [add_block]; exact hn104_1) | exact hn104_1) (.int .i64 ((rd_T97 l0_4 x3_2).f1))).trans hx104_2; replace hx104_0 := (cell_far (p := ⟨gb103, 2, none⟩) (by first | (rw [add_block]; exact hn104_2) | (show (Addr.add _ _).block ≠ _; rw [add_block]; exact hn104_2) | exact hn104_2) (.int .i64 ((rd_T97 l0_4 x3_2).f2))).trans hx104_0; replace hx104_1 := (cell_far (p := ⟨gb103, 2, none⟩) (by first | (rw [add_block]; exact hn104_2) | (show (Addr.add _ _).block ≠ _; rw [add_block]; exact hn104_2) | exact hn104_2) (.int .i64 ((rd_T97 l0_4 x3_2).f2))).trans hx104_1; replace hx104_2 := (cell_far (p := ⟨gb103, 2, none⟩) (by first | (rw [add_block]; exact hn104_2) | (show (Addr.add _ _).block ≠ _; rw [add_block]; exact hn104_2) | exact hn104_2) (.int .i64 ((rd_T97 l0_4 x3_2).f2))).trans hx104_2; (try have hy104_0 := fun (n_ : Nat) => (show (((((w63.drewN n_).setCell ⟨gb103, 0, none⟩ (.int .i64 ((rd_T97 l0_4 x3_2).f0))).setCell ⟨gb103, 1, none⟩ (.int .i64 ((rd_T97 l0_4 x3_2).f1))).setCell ⟨gb103, 2, none⟩ (.int .i64 ((rd_T97 l0_4 x3_2).f2)))).cell? _ = some _ from hx104_0)); (try have hy104_1 := fun (n_ : Nat) => (show (((((w63.drewN n_).setCell ⟨gb103, 0, none⟩ (.int .i64 ((rd_T97 l0_4 x3_2).f0))).setCell ⟨gb103, 1, none⟩ (.int .i64 ((rd_T97 l0_4 x3_2).f1))).setCell ⟨gb103, 2, none⟩ (.int .i64 ((rd_T97 l0_4 x3_2).f2)))).cell? _ = some _ from hx104_1)); (try have hy104_2 := fun (n_ : Nat) => (show (((((w63.drewN n_).setCell ⟨gb103, 0, none⟩ (.int .i64 ((rd_T97 l0_4 x3_2).f0))).setCell ⟨gb103, 1, none⟩ (.int .i64 ((rd_T97 l0_4 x3_2).f1))).setCell ⟨gb103, 2, none⟩ (.int .i64 ((rd_T97 l0_4 x3_2).f2)))).cell? _ = some _ from hx104_2)); clear hn104_0 hn104_1 hn104_2; replace p104 := eq_true p104; replace q104 := eq_true q104))
                    repeat (go_quiet (first | ((with_reducible refine gate_dst (N := 4) rfl ?_); (try (refine gate_guard (by rfl) ?_; dsimp only)); refine box_event qr (N := 4) qr (cs := #[.int .i64 0, .int .i64 0, .int .i64 0]) (t := 97) qg ?_; intro gb103 hg w63 hbox hb; have n0_ := zA (qX BK101.out hb); have n1_ := zA (zV qB hb); have n2_ := zA (hbox); have n3_ := zA ((qS : w.heap.size ≤ gb103)); have n4_ := zA ((qS : w.heap.size ≤ gb103)); have n5_ := zA ((by rw [hg]; exact zLq (qL BK101.out) : gb101 ≠ gb103)); have n6_ := zA ((by rw [hg]; exact zMq (qL BK101.out) : gb103 ≠ gb101)); clear BK101 HB; have BK101 := n0_; have HB := n1_; have BK103 := n2_; have GW103 := n3_; have GE103 := n4_; have NB101_103 := n5_; have NB103_101 := n6_; clear n0_ n1_ n2_ n3_ n4_ n5_ n6_ hb hbox hg; have hnb64 := NB103_101.out; have hnc64 := NB101_103.out; obtain ⟨hcz65_0, hcz65_1, hcz65_2, hfz65_0, hfz65_1, hfz65_2⟩ := qc3f BK103.out; obtain ⟨hcz66_0, hcz66_1, hcz66_2, hcz66_3, hcz66_4, hfz66_0, hfz66_1, hfz66_2, hfz66_3, hfz66_4⟩ := qc5f BK101.out; have p104 : 0 ≤ ((ji53) : Int) := of_decide_eq_true qA; have q104 : (ji53) < (l0_4.length : Int) := of_decide_eq_true qA; obtain ⟨ad104, e104, hx104_0, hx104_1, hx104_2⟩ := at_T97 HR0_4.out (ji53) p104 q104; obtain rfl : ad102 = ad104 := (by injection e104); have hn104_0 : ad102.block ≠ gb103 := zLq (Nat.lt_of_lt_of_le (by have := zCq _ _ hx104_0; first | rwa [add_block] at this | exact this) GW103.out); have hn104_1 : ad102.block ≠ gb103 := zLq (Nat.lt_of_lt_of_le (by have := zCq _ _ hx104_0; first | rwa [add_block] at this | exact this) GW103.out); have hn104_2 : ad102.block ≠ gb103 := zLq (Nat.lt_of_lt_of_le (by have := zCq _ _ hx104_0; first | rwa [add_block] at this | exact this) GW103.out); replace hx104_0 := (HB.out.cell (zCq w _ hx104_0)).trans hx104_0; replace hx104_1 := (HB.out.cell (zCq w _ hx104_1)).trans hx104_1; replace hx104_2 := (HB.out.cell (zCq w _ hx104_2)).trans hx104_2; replace hx104_0 := (cell_far (p := ⟨gb103, 0, none⟩) (by first | (rw [add_block]; exact hn104_0) | (show (Addr.add _ _).block ≠ _; rw [add_block]; exact hn104_0) | exact hn104_0) (.int .i64 ((rd_T97 l0_4 x3_2).f0))).trans hx104_0; replace hx104_1 := (cell_far (p := ⟨gb103, 0, none⟩) (by first | (rw [add_block]; exact hn104_0) | (show (Addr.add _ _).block ≠ _; rw [add_block]; exact hn104_0) | exact hn104_0) (.int .i64 ((rd_T97 l0_4 x3_2).f0))).trans hx104_1; replace hx104_2 := (cell_far (p := ⟨gb103, 0, none⟩) (by first | (rw [add_block]; exact hn104_0) | (show (Addr.add _ _).block ≠ _; rw [add_block]; exact hn104_0) | exact hn104_0) (.int .i64 ((rd_T97 l0_4 x3_2).f0))).trans hx104_2; replace hx104_0 := (cell_far (p := ⟨gb103, 1, none⟩) (by first | (rw [add_block]; exact hn104_1) | (show (Addr.add _ _).block ≠ _; rw [add_block]; exact hn104_1) | exact hn104_1) (.int .i64 ((rd_T97 l0_4 x3_2).f1))).trans hx104_0; replace hx104_1 := (cell_far (p := ⟨gb103, 1, none⟩) (by first | (rw [add_block]; exact hn104_1) | (show (Addr.add _ _).block ≠ _; rw [add_block]; exact hn104_1) | exact hn104_1) (.int .i64 ((rd_T97 l0_4 x3_2).f1))).trans hx104_1; replace hx104_2 := (cell_far (p := ⟨gb103, 1, none⟩) (by first | (rw [add_block]; exact hn104_1) | (show (Addr.add _ _).block ≠ _; rw [add_block]; exact hn104_1) | exact hn104_1) (.int .i64 ((rd_T97 l0_4 x3_2).f1))).trans hx104_2; replace hx104_0 := (cell_far (p := ⟨gb103, 2, none⟩) (by first | (rw [add_block]; exact hn104_2) | (show (Addr.add _ _).block ≠ _; rw [add_block]; exact hn104_2) | exact hn104_2) (.int .i64 ((rd_T97 l0_4 x3_2).f2))).trans hx104_0; replace hx104_1 := (cell_far (p := ⟨gb103, 2, none⟩) (by first | (rw [add_block]; exact hn104_2) | (show (Addr.add _ _).block ≠ _; rw [add_block]; exact hn104_2) | exact hn104_2) (.int .i64 ((rd_T97 l0_4 x3_2).f2))).trans hx104_1; replace hx104_2 := (cell_far (p := ⟨gb103, 2, none⟩) (by first | (rw [add_block]; exact hn104_2) | (show (Addr.add _ _).block ≠ _; rw [add_block]; exact hn104_2) | exact hn104_2) (.int .i64 ((rd_T97 l0_4 x3_2).f2))).trans hx104_2; (try have hy104_0 := fun (n_ : Nat) => (show (((((w63.drewN n_).setCell ⟨gb103, 0, none⟩ (.int .i64 ((rd_T97 l0_4 x3_2).f0))).setCell ⟨gb103, 1, none⟩ (.int .i64 ((rd_T97 l0_4 x3_2).f1))).setCell ⟨gb103, 2, none⟩ (.int .i64 ((rd_T97 l0_4 x3_2).f2)))).cell? _ = some _ from hx104_0)); (try have hy104_1 := fun (n_ : Nat) => (show (((((w63.drewN n_).setCell ⟨gb103, 0, none⟩ (.int .i64 ((rd_T97 l0_4 x3_2).f0))).setCell ⟨gb103, 1, none⟩ (.int .i64 ((rd_T97 l0_4 x3_2).f1))).setCell ⟨gb103, 2, none⟩ (.int .i64 ((rd_T97 l0_4 x3_2).f2)))).cell? _ = some _ from hx104_1)); (try have hy104_2 := fun (n_ : Nat) => (show (((((w63.drewN n_).setCell ⟨gb103, 0, none⟩ (.int .i64 ((rd_T97 l0_4 x3_2).f0))).setCell ⟨gb103, 1, none⟩ (.int .i64 ((rd_T97 l0_4 x3_2).f1))).setCell ⟨gb103, 2, none⟩ (.int .i64 ((rd_T97 l0_4 x3_2).f2)))).cell? _ = some _ from hx104_2)); clear hn104_0 hn104_1 hn104_2; replace p104 := eq_true p104; replace q104 := eq_true q104)); try go_wp2_with (first | ((with_reducible refine gate_dst (N := 4) rfl ?_); (try (refine gate_guard (by rfl) ?_; dsimp only)); refine box_event qr (N := 4) qr (cs := #[.int .i64 0, .int .i64 0, .int .i64 0]) (t := 97) qg ?_; intro gb103 hg w63 hbox hb; have n0_ := zA (qX BK101.out hb); have n1_ := zA (zV qB hb); have n2_ := zA (hbox); have n3_ := zA ((qS : w.heap.size ≤ gb103)); have n4_ := zA ((qS : w.heap.size ≤ gb103)); have n5_ := zA ((by rw [hg]; exact zLq (qL BK101.out) : gb101 ≠ gb103)); have n6_ := zA ((by rw [hg]; exact zMq (qL BK101.out) : gb103 ≠ gb101)); clear BK101 HB; have BK101 := n0_; have HB := n1_; have BK103 := n2_; have GW103 := n3_; have GE103 := n4_; have NB101_103 := n5_; have NB103_101 := n6_; clear n0_ n1_ n2_ n3_ n4_ n5_ n6_ hb hbox hg; have hnb64 := NB103_101.out; have hnc64 := NB101_103.out; obtain ⟨hcz65_0, hcz65_1, hcz65_2, hfz65_0, hfz65_1, hfz65_2⟩ := qc3f BK103.out; obtain ⟨hcz66_0, hcz66_1, hcz66_2, hcz66_3, hcz66_4, hfz66_0, hfz66_1, hfz66_2, hfz66_3, hfz66_4⟩ := qc5f BK101.out; have p104 : 0 ≤ ((ji53) : Int) := of_decide_eq_true qA; have q104 : (ji53) < (l0_4.length : Int) := of_decide_eq_true qA; obtain ⟨ad104, e104, hx104_0, hx104_1, hx104_2⟩ := at_T97 HR0_4.out (ji53) p104 q104; obtain rfl : ad102 = ad104 := (by injection e104); have hn104_0 : ad102.block ≠ gb103 := zLq (Nat.lt_of_lt_of_le (by have := zCq _ _ hx104_0; first | rwa [add_block] at this | exact this) GW103.out); have hn104_1 : ad102.block ≠ gb103 := zLq (Nat.lt_of_lt_of_le (by have := zCq _ _ hx104_0; first | rwa [add_block] at this | exact this) GW103.out); have hn104_2 : ad102.block ≠ gb103 := zLq (Nat.lt_of_lt_of_le (by have := zCq _ _ hx104_0; first | rwa [add_block] at this | exact this) GW103.out); replace hx104_0 := (HB.out.cell (zCq w _ hx104_0)).trans hx104_0; replace hx104_1 := (HB.out.cell (zCq w _ hx104_1)).trans hx104_1; replace hx104_2 := (HB.out.cell (zCq w _ hx104_2)).trans hx104_2; replace hx104_0 := (cell_far (p := ⟨gb103, 0, none⟩) (by first | (rw [add_block]; exact hn104_0) | (show (Addr.add _ _).block ≠ _; rw [add_block]; exact hn104_0) | exact hn104_0) (.int .i64 ((rd_T97 l0_4 x3_2).f0))).trans hx104_0; replace hx104_1 := (cell_far (p := ⟨gb103, 0, none⟩) (by first | (rw [add_block]; exact hn104_0) | (show (Addr.add _ _).block ≠ _; rw [add_block]; exact hn104_0) | exact hn104_0) (.int .i64 ((rd_T97 l0_4 x3_2).f0))).trans hx104_1; replace hx104_2 := (cell_far (p := ⟨gb103, 0, none⟩) (by first | (rw [add_block]; exact hn104_0) | (show (Addr.add _ _).block ≠ _; rw [add_block]; exact hn104_0) | exact hn104_0) (.int .i64 ((rd_T97 l0_4 x3_2).f0))).trans hx104_2; replace hx104_0 := (cell_far (p := ⟨gb103, 1, none⟩) (by first | (rw [add_block]; exact hn104_1) | (show (Addr.add _ _).block ≠ _; rw [add_block]; exact hn104_1) | exact hn104_1) (.int .i64 ((rd_T97 l0_4 x3_2).f1))).trans hx104_0; replace hx104_1 := (cell_far (p := ⟨gb103, 1, none⟩) (by first | (rw [add_block]; exact hn104_1) | (show (Addr.add _ _).block ≠ _; rw [add_block]; exact hn104_1) | exact hn104_1) (.int .i64 ((rd_T97 l0_4 x3_2).f1))).trans hx104_1; replace hx104_2 := (cell_far (p := ⟨gb103, 1, none⟩) (by first | (rw [add_block]; exact hn104_1) | (show (Addr.add _ _).block ≠ _; rw [add_block]; exact hn104_1) | exact hn104_1) (.int .i64 ((rd_T97 l0_4 x3_2).f1))).trans hx104_2; replace hx104_0 := (cell_far (p := ⟨gb103, 2, none⟩) (by first | (rw [add_block]; exact hn104_2) | (show (Addr.add _ _).block ≠ _; rw [add_block]; exact hn104_2) | exact hn104_2) (.int .i64 ((rd_T97 l0_4 x3_2).f2))).trans hx104_0; replace hx104_1 := (cell_far (p := ⟨gb103, 2, none⟩) (by first | (rw [add_block]; exact hn104_2) | (show (Addr.add _ _).block ≠ _; rw [add_block]; exact hn104_2) | exact hn104_2) (.int .i64 ((rd_T97 l0_4 x3_2).f2))).trans hx104_1; replace hx104_2 := (cell_far (p := ⟨gb103, 2, none⟩) (by first | (rw [add_block]; exact hn104_2) | (show (Addr.add _ _).block ≠ _; rw [add_block]; exact hn104_2) | exact hn104_2) (.int .i64 ((rd_T97 l0_4 x3_2).f2))).trans hx104_2; (try have hy104_0 := fun (n_ : Nat) => (show (((((w63.drewN n_).setCell ⟨gb103, 0, none⟩ (.int .i64 ((rd_T97 l0_4 x3_2).f0))).setCell ⟨gb103, 1, none⟩ (.int .i64 ((rd_T97 l0_4 x3_2).f1))).setCell ⟨gb103, 2, none⟩ (.int .i64 ((rd_T97 l0_4 x3_2).f2)))).cell? _ = some _ from hx104_0)); (try have hy104_1 := fun (n_ : Nat) => (show (((((w63.drewN n_).setCell ⟨gb103, 0, none⟩ (.int .i64 ((rd_T97 l0_4 x3_2).f0))).setCell ⟨gb103, 1, none⟩ (.int .i64 ((rd_T97 l0_4 x3_2).f1))).setCell ⟨gb103, 2, none⟩ (.int .i64 ((rd_T97 l0_4 x3_2).f2)))).cell? _ = some _ from hx104_1)); (try have hy104_2 := fun (n_ : Nat) => (show (((((w63.drewN n_).setCell ⟨gb103, 0, none⟩ (.int .i64 ((rd_T97 l0_4 x3_2).f0))).setCell ⟨gb103, 1, none⟩ (.int .i64 ((rd_T97 l0_4 x3_2).f1))).setCell ⟨gb103, 2, none⟩ (.int .i64 ((rd_T97 l0_4 x3_2).f2)))).cell? _ = some _ from hx104_2)); clear hn104_0 hn104_1 hn104_2; replace p104 := eq_true p104; replace q104 := eq_true q104)))
                    go_roundg k2
                    case measure => have := HJ1.out; have := HK2.out; omega
                    case rel => exact ⟨(wrap64 (x3_2 + 1)), (by first | rfl | (simp; done) | (simp [*]; done)), H', ⟨by have := HJ1.out; have := HK2.out; omega⟩, ⟨by (with_reducible repeat (first | refine zY ?_ _ | refine zAq ?_ | refine zZ ?_ _)); refine blk_far ?_ NB101_103.out _; (with_reducible repeat (first | refine zY ?_ _ | refine zAq ?_ | refine zZ ?_ _)); refine blk_far ?_ NB101_103.out _; (with_reducible repeat (first | refine zY ?_ _ | refine zAq ?_ | refine zZ ?_ _)); refine blk_far ?_ NB101_103.out _; exact BK101.out⟩, ⟨qB⟩⟩
                  rw [if_neg c55] at H; exact absurd H (by simp)
                rw [if_neg c54] at H; exact absurd H (by simp)
              rw [if_neg c52] at H; have c52b0 : decide (0 < x3_2) = false := zGq c52; clear c52; have H' := zA H; clear H; obtain ⟨_, _, _, _, _, _, _, _, _, _⟩ := qc5f BK101.out; have p102 : 0 ≤ (x3_2 : Int) := of_decide_eq_true qA; have q102 : x3_2 < (l0_4.length : Int) := of_decide_eq_true qA; obtain ⟨ad102, e102, hx102_0, hx102_1, hx102_2⟩ := at_T97 HR0_4.out x3_2 p102 q102; cases e102
              replace hx102_0 := (HB.out.cell (zCq w _ hx102_0)).trans hx102_0; replace hx102_1 := (HB.out.cell (zCq w _ hx102_1)).trans hx102_1; replace hx102_2 := (HB.out.cell (zCq w _ hx102_2)).trans hx102_2; replace p102 := eq_true p102; replace q102 := eq_true q102; go_wp2_with (first | ((with_reducible refine gate_dst (N := 4) rfl ?_); (try (refine gate_guard (by rfl) ?_; dsimp only)); refine box_event qr (N := 4) qr (cs := #[.int .i64 0, .int .i64 0, .int .i64 0]) (t := 97) qg ?_; intro gb103 hg w68 hbox hb; have n0_ := zA (qX BK101.out hb); have n1_ := zA (zV qB hb); have n2_ := zA (hbox); have n3_ := zA ((qS : w.heap.size ≤ gb103)); have n4_ := zA ((qS : w.heap.size ≤ gb103)); have n5_ := zA ((by rw [hg]; exact zLq (qL BK101.out) : gb101 ≠ gb103)); have n6_ := zA ((by rw [hg]; exact zMq (qL BK101.out) : gb103 ≠ gb101)); clear BK101 HB; have BK101 := n0_; have HB := n1_; have BK103 := n2_; have GW103 := n3_; have GE103 := n4_; have NB101_103 := n5_; have NB103_101 := n6_; clear n0_ n1_ n2_ n3_ n4_ n5_ n6_ hb hbox hg; have hnb69 := NB103_101.out; have hnc69 := NB101_103.out; obtain ⟨hcz70_0, hcz70_1, hcz70_2, hfz70_0, hfz70_1, hfz70_2⟩ := qc3f BK103.out)); repeat (go_quiet (first | ((with_reducible refine gate_dst (N := 4) rfl ?_); (try (refine gate_guard (by rfl) ?_; dsimp only)); refine box_event qr (N := 4) qr (cs := #[.int .i64 0, .int .i64 0, .int .i64 0]) (t := 97) qg ?_; intro gb103 hg w68 hbox hb; have n0_ := zA (qX BK101.out hb); have n1_ := zA (zV qB hb); have n2_ := zA (hbox); have n3_ := zA ((qS : w.heap.size ≤ gb103)); have n4_ := zA ((qS : w.heap.size ≤ gb103)); have n5_ := zA ((by rw [hg]; exact zLq (qL BK101.out) : gb101 ≠ gb103)); have n6_ := zA ((by rw [hg]; exact zMq (qL BK101.out) : gb103 ≠ gb101)); clear BK101 HB; have BK101 := n0_; have HB := n1_; have BK103 := n2_; have GW103 := n3_; have GE103 := n4_; have NB101_103 := n5_; have NB103_101 := n6_; clear n0_ n1_ n2_ n3_ n4_ n5_ n6_ hb hbox hg; have hnb69 := NB103_101.out; have hnc69 := NB101_103.out; obtain ⟨hcz70_0, hcz70_1, hcz70_2, hfz70_0, hfz70_1, hfz70_2⟩ := qc3f BK103.out)); try go_wp2_with (first | ((with_reducible refine gate_dst (N := 4) rfl ?_); (try (refine gate_guard (by rfl) ?_; dsimp only)); refine box_event qr (N := 4) qr (cs := #[.int .i64 0, .int .i64 0, .int .i64 0]) (t := 97) qg ?_; intro gb103 hg w68 hbox hb; have n0_ := zA (qX BK101.out hb); have n1_ := zA (zV qB hb); have n2_ := zA (hbox); have n3_ := zA ((qS : w.heap.size ≤ gb103)); have n4_ := zA ((qS : w.heap.size ≤ gb103)); have n5_ := zA ((by rw [hg]; exact zLq (qL BK101.out) : gb101 ≠ gb103)); have n6_ := zA ((by rw [hg]; exact zMq (qL BK101.out) : gb103 ≠ gb101)); clear BK101 HB; have BK101 := n0_; have HB := n1_; have BK103 := n2_; have GW103 := n3_; have GE103 := n4_; have NB101_103 := n5_; have NB103_101 := n6_; clear n0_ n1_ n2_ n3_ n4_ n5_ n6_ hb hbox hg; have hnb69 := NB103_101.out; have hnc69 := NB101_103.out; obtain ⟨hcz70_0, hcz70_1, hcz70_2, hfz70_0, hfz70_1, hfz70_2⟩ := qc3f BK103.out)))
              go_roundg k2
              case measure => have := HJ1.out; have := HK2.out; omega
              case rel => exact ⟨(wrap64 (x3_2 + 1)), (by first | rfl | (simp; done) | (simp [*]; done)), H', ⟨by have := HJ1.out; have := HK2.out; omega⟩, ⟨by (with_reducible repeat (first | refine zY ?_ _ | refine zAq ?_ | refine zZ ?_ _)); refine blk_far ?_ NB101_103.out _; (with_reducible repeat (first | refine zY ?_ _ | refine zAq ?_ | refine zZ ?_ _)); refine blk_far ?_ NB101_103.out _; (with_reducible repeat (first | refine zY ?_ _ | refine zAq ?_ | refine zZ ?_ _)); refine blk_far ?_ NB101_103.out _; exact BK101.out⟩, ⟨qB⟩⟩
            rw [if_neg c21] at H; exact absurd H (by simp)
          rw [if_neg c20] at H; have c20b0 : decide (x3_2 < (l0_4.length : Int)) = false := zGq c20; clear c20; by_cases c71 : a0_3 = 1
          · rw [if_pos c71] at H
            subst c71; have H1 : ((backhaulref27_all.f k2 l0_4).bind fun t105 => (if t105 = true then (some 40) else (some 0))) = some r := H; clear H; have H := H1; clear H1; replace H := Option.bind_eq_some_iff.mp H; obtain ⟨t105, A720, H⟩ := H; replace H : (if t105 = true then (some 40) else (some 0)) = some r := H; have A72 := zA A720; clear A720; by_cases c73 : t105 = true
            · subst c73
              have H1 : (some 40) = some r := by first | (rw [if_pos rfl] at H; exact H) | rfl
              clear H; have H := H1; clear H1; obtain rfl := zKq H; obtain ⟨_, _, _, _, _, _, _, _, _, _⟩ := qc5f BK101.out; go_wp2_with (first | (go_at_call 146; (with_reducible refine (backhaulref27_all.calls k2 _ _ l0_4 true _ ?side1 ?side2 A72.out).mono ?_); (case side1 => exact qC (Kd.C_below HR0_4.out HB.out)); (case side2 => exact HC0_4.out); rintro e w' ⟨rfl, ⟨nd, rfl⟩⟩; (try first | exact ⟨rfl, _, World.drewN_drewN _ _ _⟩ | exact ⟨rfl, _, Eq.trans (World.drewN_drewN _ _ _) (congrArg (World.drewN _) (Nat.add_assoc _ _ _))⟩))); repeat (go_quiet (first | (go_at_call 146; (with_reducible refine (backhaulref27_all.calls k2 _ _ l0_4 true _ ?side1 ?side2 A72.out).mono ?_); (case side1 => exact qC (Kd.C_below HR0_4.out HB.out)); (case side2 => exact HC0_4.out); rintro e w' ⟨rfl, ⟨nd, rfl⟩⟩; (try first | exact ⟨rfl, _, World.drewN_drewN _ _ _⟩ | exact ⟨rfl, _, Eq.trans (World.drewN_drewN _ _ _) (congrArg (World.drewN _) (Nat.add_assoc _ _ _))⟩))); try go_wp2_with (first | (go_at_call 146; (with_reducible refine (backhaulref27_all.calls k2 _ _ l0_4 true _ ?side1 ?side2 A72.out).mono ?_); (case side1 => exact qC (Kd.C_below HR0_4.out HB.out)); (case side2 => exact HC0_4.out); rintro e w' ⟨rfl, ⟨nd, rfl⟩⟩; (try first | exact ⟨rfl, _, World.drewN_drewN _ _ _⟩ | exact ⟨rfl, _, Eq.trans (World.drewN_drewN _ _ _) (congrArg (World.drewN _) (Nat.add_assoc _ _ _))⟩))))
              go_ret; exact ⟨qE, qB⟩
            replace c73 := Bool.eq_false_iff.mpr c73; subst c73; have H1 : (some 0) = some r := by first | (rw [if_neg (show ¬ (false = true) by decide)] at H; exact H) | rfl
            clear H; have H := H1; clear H1; obtain rfl := zKq H; obtain ⟨_, _, _, _, _, _, _, _, _, _⟩ := qc5f BK101.out; go_wp2_with (first | (go_at_call 146; (with_reducible refine (backhaulref27_all.calls k2 _ _ l0_4 false _ ?side1 ?side2 A72.out).mono ?_); (case side1 => exact qC (Kd.C_below HR0_4.out HB.out)); (case side2 => exact HC0_4.out); rintro e w' ⟨rfl, ⟨nd, rfl⟩⟩; (try first | exact ⟨rfl, _, World.drewN_drewN _ _ _⟩ | exact ⟨rfl, _, Eq.trans (World.drewN_drewN _ _ _) (congrArg (World.drewN _) (Nat.add_assoc _ _ _))⟩))); repeat (go_quiet (first | (go_at_call 146; (with_reducible refine (backhaulref27_all.calls k2 _ _ l0_4 false _ ?side1 ?side2 A72.out).mono ?_); (case side1 => exact qC (Kd.C_below HR0_4.out HB.out)); (case side2 => exact HC0_4.out); rintro e w' ⟨rfl, ⟨nd, rfl⟩⟩; (try first | exact ⟨rfl, _, World.drewN_drewN _ _ _⟩ | exact ⟨rfl, _, Eq.trans (World.drewN_drewN _ _ _) (congrArg (World.drewN _) (Nat.add_assoc _ _ _))⟩))); try go_wp2_with (first | (go_at_call 146; (with_reducible refine (backhaulref27_all.calls k2 _ _ l0_4 false _ ?side1 ?side2 A72.out).mono ?_); (case side1 => exact qC (Kd.C_below HR0_4.out HB.out)); (case side2 => exact HC0_4.out); rintro e w' ⟨rfl, ⟨nd, rfl⟩⟩; (try first | exact ⟨rfl, _, World.drewN_drewN _ _ _⟩ | exact ⟨rfl, _, Eq.trans (World.drewN_drewN _ _ _) (congrArg (World.drewN _) (Nat.add_assoc _ _ _))⟩))))
            go_ret; exact ⟨qE, qB⟩
          rw [if_neg c71] at H; have c71b0 : (a0_3 == 1) = false := beq_eq_false_iff_ne.mpr c71; have c71b1 : (a0_3 != 1) = true := bne_iff_ne.mpr c71; clear c71; by_cases c76 : a0_3 = 2
          · rw [if_pos c76] at H
            subst c76; have H1 : ((backhaulref27_all.f k2 l0_4).bind fun t106 => (if t106 = true then (some 0) else (some 40))) = some r := H; clear H; have H := H1; clear H1; replace H := Option.bind_eq_some_iff.mp H; obtain ⟨t106, A770, H⟩ := H; replace H : (if t106 = true then (some 0) else (some 40)) = some r := H; have A77 := zA A770; clear A770; by_cases c78 : t106 = true
            · subst c78
              have H1 : (some 0) = some r := by first | (rw [if_pos rfl] at H; exact H) | rfl
              clear H; have H := H1; clear H1; obtain rfl := zKq H; obtain ⟨_, _, _, _, _, _, _, _, _, _⟩ := qc5f BK101.out; go_wp2_with (first | (go_at_call 146; (with_reducible refine (backhaulref27_all.calls k2 _ _ l0_4 true _ ?side1 ?side2 A77.out).mono ?_); (case side1 => exact qC (Kd.C_below HR0_4.out HB.out)); (case side2 => exact HC0_4.out); rintro e w' ⟨rfl, ⟨nd, rfl⟩⟩; (try first | exact ⟨rfl, _, World.drewN_drewN _ _ _⟩ | exact ⟨rfl, _, Eq.trans (World.drewN_drewN _ _ _) (congrArg (World.drewN _) (Nat.add_assoc _ _ _))⟩))); repeat (go_quiet (first | (go_at_call 146; (with_reducible refine (backhaulref27_all.calls k2 _ _ l0_4 true _ ?side1 ?side2 A77.out).mono ?_); (case side1 => exact qC (Kd.C_below HR0_4.out HB.out)); (case side2 => exact HC0_4.out); rintro e w' ⟨rfl, ⟨nd, rfl⟩⟩; (try first | exact ⟨rfl, _, World.drewN_drewN _ _ _⟩ | exact ⟨rfl, _, Eq.trans (World.drewN_drewN _ _ _) (congrArg (World.drewN _) (Nat.add_assoc _ _ _))⟩))); try go_wp2_with (first | (go_at_call 146; (with_reducible refine (backhaulref27_all.calls k2 _ _ l0_4 true _ ?side1 ?side2 A77.out).mono ?_); (case side1 => exact qC (Kd.C_below HR0_4.out HB.out)); (case side2 => exact HC0_4.out); rintro e w' ⟨rfl, ⟨nd, rfl⟩⟩; (try first | exact ⟨rfl, _, World.drewN_drewN _ _ _⟩ | exact ⟨rfl, _, Eq.trans (World.drewN_drewN _ _ _) (congrArg (World.drewN _) (Nat.add_assoc _ _ _))⟩))))
              go_ret; exact ⟨qE, qB⟩
            replace c78 := Bool.eq_false_iff.mpr c78; subst c78; have H1 : (some 40) = some r := by first | (rw [if_neg (show ¬ (false = true) by decide)] at H; exact H) | rfl
            clear H; have H := H1; clear H1; obtain rfl := zKq H; obtain ⟨_, _, _, _, _, _, _, _, _, _⟩ := qc5f BK101.out; go_wp2_with (first | (go_at_call 146; (with_reducible refine (backhaulref27_all.calls k2 _ _ l0_4 false _ ?side1 ?side2 A77.out).mono ?_); (case side1 => exact qC (Kd.C_below HR0_4.out HB.out)); (case side2 => exact HC0_4.out); rintro e w' ⟨rfl, ⟨nd, rfl⟩⟩; (try first | exact ⟨rfl, _, World.drewN_drewN _ _ _⟩ | exact ⟨rfl, _, Eq.trans (World.drewN_drewN _ _ _) (congrArg (World.drewN _) (Nat.add_assoc _ _ _))⟩))); repeat (go_quiet (first | (go_at_call 146; (with_reducible refine (backhaulref27_all.calls k2 _ _ l0_4 false _ ?side1 ?side2 A77.out).mono ?_); (case side1 => exact qC (Kd.C_below HR0_4.out HB.out)); (case side2 => exact HC0_4.out); rintro e w' ⟨rfl, ⟨nd, rfl⟩⟩; (try first | exact ⟨rfl, _, World.drewN_drewN _ _ _⟩ | exact ⟨rfl, _, Eq.trans (World.drewN_drewN _ _ _) (congrArg (World.drewN _) (Nat.add_assoc _ _ _))⟩))); try go_wp2_with (first | (go_at_call 146; (with_reducible refine (backhaulref27_all.calls k2 _ _ l0_4 false _ ?side1 ?side2 A77.out).mono ?_); (case side1 => exact qC (Kd.C_below HR0_4.out HB.out)); (case side2 => exact HC0_4.out); rintro e w' ⟨rfl, ⟨nd, rfl⟩⟩; (try first | exact ⟨rfl, _, World.drewN_drewN _ _ _⟩ | exact ⟨rfl, _, Eq.trans (World.drewN_drewN _ _ _) (congrArg (World.drewN _) (Nat.add_assoc _ _ _))⟩))))
            go_ret; exact ⟨qE, qB⟩
          rw [if_neg c76] at H; have c76b0 : (a0_3 == 2) = false := beq_eq_false_iff_ne.mpr c76; have c76b1 : (a0_3 != 2) = true := bne_iff_ne.mpr c76; clear c76; by_cases c81 : a0_3 = 3
          · rw [if_pos c81] at H
            subst c81; have H1 : (some 0) = some r := H; clear H; have H := H1; clear H1; obtain rfl := zKq H; obtain ⟨_, _, _, _, _, _, _, _, _, _⟩ := qc5f BK101.out; go_wp2; repeat (go_quiet (fail); try go_wp2)
            go_ret; exact ⟨qE, qB⟩
          rw [if_neg c81] at H; have c81b0 : (a0_3 == 3) = false := beq_eq_false_iff_ne.mpr c81; have c81b1 : (a0_3 != 3) = true := bne_iff_ne.mpr c81; clear c81; obtain rfl := zKq H; obtain ⟨_, _, _, _, _, _, _, _, _, _⟩ := qc5f BK101.out; go_wp2; repeat (go_quiet (fail); try go_wp2)
          go_ret; exact ⟨qE, qB⟩
mutual
def backhaulref01_Class.j0 : Nat → Int → Bool → Option (Int)
  | 0, _, _ => none
  | k + 1, x0, x16 => if x16 = true then (some 1) else (if x0 ≥ 48 then (backhaulref01_Class.j1 k x0 (decide (x0 ≤ 57))) else (backhaulref01_Class.j1 k x0 false))
def backhaulref01_Class.j1 : Nat → Int → Bool → Option (Int)
  | 0, _, _ => none
  | k + 1, x0, x22 => if x22 = true then (some 2) else (if x0 = 45 then (some 3) else (some 0))
end
def backhaulref01_Class.f (k : Nat) (a0 : Int) : Option (Int) := if a0 ≥ 65 then (if a0 ≤ 90 then (backhaulref01_Class.j0 k a0 true) else (if a0 ≥ 97 then (backhaulref01_Class.j0 k a0 (decide (a0 ≤ 122))) else (backhaulref01_Class.j0 k a0 false))) else (if a0 ≥ 97 then (backhaulref01_Class.j0 k a0 (decide (a0 ≤ 122))) else (backhaulref01_Class.j0 k a0 false))
theorem backhaulref01_Class.mono_l : ∀ k, (∀ y0 y1, LeO (backhaulref01_Class.j0 k y0 y1) (backhaulref01_Class.j0 (k + 1) y0 y1)) ∧ (∀ y0 y1, LeO (backhaulref01_Class.j1 k y0 y1) (backhaulref01_Class.j1 (k + 1) y0 y1))
  | 0 => ⟨fun _ _ r h => by simp [backhaulref01_Class.j0] at h, fun _ _ r h => by simp [backhaulref01_Class.j1] at h⟩
  | k + 1 => by
    obtain ⟨ih0, ih1⟩ := backhaulref01_Class.mono_l k
    refine ⟨?_, ?_⟩
    · intro y0 y1
      unfold backhaulref01_Class.j0
      repeat' first
      | (with_reducible exact ih0 _ _)
      | (with_reducible exact ih1 _ _)
      | (with_reducible exact LeO.refl _)
      | (with_reducible exact LeO.none _)
      | (with_reducible refine LeO.ite ?_ ?_)
      | (with_reducible refine LeO.bind ?_ (fun _ => ?_))
      | exact ih0 _ _
      | exact ih1 _ _
      | exact LeO.none _
      | refine LeO.ite ?_ ?_
      | refine LeO.bind ?_ (fun _ => ?_)
    intro y0 y1
    unfold backhaulref01_Class.j1
    repeat' first
    | (with_reducible exact ih0 _ _)
    | (with_reducible exact ih1 _ _)
    | (with_reducible exact LeO.refl _)
    | (with_reducible exact LeO.none _)
    | (with_reducible refine LeO.ite ?_ ?_)
    | (with_reducible refine LeO.bind ?_ (fun _ => ?_))
    | exact ih0 _ _
    | exact ih1 _ _
    | exact LeO.none _
    | refine LeO.ite ?_ ?_
    | refine LeO.bind ?_ (fun _ => ?_)
theorem backhaulref01_Class.mono : ∀ a0 k, LeO (backhaulref01_Class.f k a0) (backhaulref01_Class.f (k + 1) a0) := by
  intro a0 k
  obtain ⟨ih0, ih1⟩ := backhaulref01_Class.mono_l k
  unfold backhaulref01_Class.f
  repeat' first
      | (with_reducible exact ih0 _ _)
      | (with_reducible exact ih1 _ _)
      | (with_reducible exact LeO.refl _)
      | (with_reducible exact LeO.none _)
      | (with_reducible refine LeO.ite ?_ ?_)
      | (with_reducible refine LeO.bind ?_ (fun _ => ?_))
      | exact ih0 _ _
      | exact ih1 _ _
      | exact LeO.none _
      | refine LeO.ite ?_ ?_
      | refine LeO.bind ?_ (fun _ => ?_)
set_option maxHeartbeats 8000000 in
set_option maxRecDepth 100000 in
theorem backhaulref01_Class.calls (k : Nat) (a0 : Int) (r : Int) (w : World) (h : backhaulref01_Class.f k a0 = some r) :
    Calls Try.prog 270 #[.int .i32 a0] w fun e w' => e = .returned (.int .i64 r) ∧ Drawn0 w w' := by
  have H : (if a0 ≥ 65 then (if a0 ≤ 90 then (backhaulref01_Class.j0 k a0 true) else (if a0 ≥ 97 then (backhaulref01_Class.j0 k a0 (decide (a0 ≤ 122))) else (backhaulref01_Class.j0 k a0 false))) else (if a0 ≥ 97 then (backhaulref01_Class.j0 k a0 (decide (a0 ≤ 122))) else (backhaulref01_Class.j0 k a0 false))) = some r := h
  clear h
  have HC2 := zA H
  clear H
  go_enter Try.func270, Try.ntmps270
  go_upto_region 1 with (fail)
  go_cut [16] (fun v16 wc => ∃ (kq : Nat) (x16_1 : Bool), v16 = .bool x16_1 ∧ Aside0 (backhaulref01_Class.j0 kq a0 x16_1 = some r) ∧ Aside0 (kq ≤ k) ∧ Drawn0 w wc)
  case first =>
    have H := HC2.out; clear HC2; by_cases c3 : a0 ≥ 65
    · rw [if_pos c3] at H
      have c3b0 : decide (65 ≤ a0) = true := zFq c3; clear c3; (first | rw [c3b0] | (simp only [i64_w, i32_w]; rw [c3b0]) | skip)
      by_cases c4 : a0 ≤ 90
      · rw [if_pos c4] at H
        have c4b0 : decide (a0 ≤ 90) = true := zFq c4; clear c4; have H' := zA H; clear H; go_wp2; go_meet
        case rel => exact ⟨_, (true), (by first | rfl | (simp; done) | (simp [*]; done)), H', ⟨by first | omega | exact Nat.le_refl _⟩, by repeat (first | exact Drawn0.refl _ | apply Drawn0.step)⟩
      rw [if_neg c4] at H; have c4b0 : decide (a0 ≤ 90) = false := zGq c4; clear c4; by_cases c5 : a0 ≥ 97
      · rw [if_pos c5] at H
        have c5b0 : decide (97 ≤ a0) = true := zFq c5; clear c5; have H' := zA H; clear H; go_wp2; go_meet
        case rel => exact ⟨_, (decide (a0 ≤ 122)), (by first | rfl | (simp; done) | (simp [*]; done)), H', ⟨by first | omega | exact Nat.le_refl _⟩, by repeat (first | exact Drawn0.refl _ | apply Drawn0.step)⟩
      rw [if_neg c5] at H; have c5b0 : decide (97 ≤ a0) = false := zGq c5; clear c5; have H' := zA H; clear H; go_wp2; go_meet
      case rel => exact ⟨_, (false), (by first | rfl | (simp; done) | (simp [*]; done)), H', ⟨by first | omega | exact Nat.le_refl _⟩, by repeat (first | exact Drawn0.refl _ | apply Drawn0.step)⟩
    rw [if_neg c3] at H; have c3b0 : decide (65 ≤ a0) = false := zGq c3; clear c3; (first | rw [c3b0] | (simp only [i64_w, i32_w]; rw [c3b0]) | skip)
    by_cases c6 : a0 ≥ 97
    · rw [if_pos c6] at H
      have c6b0 : decide (97 ≤ a0) = true := zFq c6; clear c6; have H' := zA H; clear H; go_wp2; go_meet
      case rel => exact ⟨_, (decide (a0 ≤ 122)), (by first | rfl | (simp; done) | (simp [*]; done)), H', ⟨by first | omega | exact Nat.le_refl _⟩, by repeat (first | exact Drawn0.refl _ | apply Drawn0.step)⟩
    rw [if_neg c6] at H; have c6b0 : decide (97 ≤ a0) = false := zGq c6; clear c6; have H' := zA H; clear H; go_wp2; go_meet
    case rel => exact ⟨_, (false), (by first | rfl | (simp; done) | (simp [*]; done)), H', ⟨by first | omega | exact Nat.le_refl _⟩, by repeat (first | exact Drawn0.refl _ | apply Drawn0.step)⟩
  case rest =>
    clear HC2; try clear c2
    try clear p2
    try clear c3
    try clear c3b0
    try clear c4
    try clear c4b0
    try clear c5
    try clear c5b0
    try clear c6
    try clear c6b0
    obtain ⟨kq, x16_1, rfl, HA, HJ1, ⟨mc1, rfl⟩⟩ := hcut; cases kq with
    | zero => exact absurd HA.out (by simp [backhaulref01_Class.j0])
    | succ kj1 =>
      have H := HA.out; clear HA; simp only [backhaulref01_Class.j0] at H; by_cases c7 : x16_1 = true
      · subst c7
        have H1 : (some 1) = some r := by first | (rw [if_pos rfl] at H; exact H) | rfl
        clear H; have H := H1; clear H1; obtain rfl := zKq H; go_wp2; go_ret; exact ⟨by first | rfl | (simp; done) | (simp [*]; done), by repeat (first | exact Drawn0.refl _ | apply Drawn0.step)⟩
      replace c7 := Bool.eq_false_iff.mpr c7; subst c7; have H1 : (if a0 ≥ 48 then (backhaulref01_Class.j1 kj1 a0 (decide (a0 ≤ 57))) else (backhaulref01_Class.j1 kj1 a0 false)) = some r := by first | (rw [if_neg (show ¬ (false = true) by decide)] at H; exact H) | rfl
      clear H; have H := H1; clear H1; have HC8 := zA H; clear H; go_upto_region 3 with (fail)
      go_cut [22] (fun v22 wc => ∃ (kq : Nat) (x22_7 : Bool), v22 = .bool x22_7 ∧ Aside0 (backhaulref01_Class.j1 kq a0 x22_7 = some r) ∧ Aside0 (kq ≤ kj1) ∧ Drawn0 w wc)
      case first =>
        have H := HC8.out; clear HC8; by_cases c9 : a0 ≥ 48
        · rw [if_pos c9] at H
          have c9b0 : decide (48 ≤ a0) = true := zFq c9; clear c9; (first | rw [c9b0] | (simp only [i64_w, i32_w]; rw [c9b0]) | skip)
          have H' := zA H; clear H; go_wp2; go_meet
          case rel => exact ⟨_, (decide (a0 ≤ 57)), (by first | rfl | (simp; done) | (simp [*]; done)), H', ⟨by have := HJ1.out; first | omega | exact Nat.le_refl _⟩, by repeat (first | exact Drawn0.refl _ | apply Drawn0.step)⟩
        rw [if_neg c9] at H; have c9b0 : decide (48 ≤ a0) = false := zGq c9; clear c9; (first | rw [c9b0] | (simp only [i64_w, i32_w]; rw [c9b0]) | skip)
        have H' := zA H; clear H; go_wp2; go_meet
        case rel => exact ⟨_, (false), (by first | rfl | (simp; done) | (simp [*]; done)), H', ⟨by have := HJ1.out; first | omega | exact Nat.le_refl _⟩, by repeat (first | exact Drawn0.refl _ | apply Drawn0.step)⟩
      case rest =>
        clear HC8; try clear c1
        try clear c2
        try clear p2
        try clear c3
        try clear c3b0
        try clear c4
        try clear c4b0
        try clear c5
        try clear c5b0
        try clear c6
        try clear c6b0
        try clear c7
        try clear c9
        try clear c9b0
        try clear p2
        obtain ⟨kq, x22_7, rfl, HA, HJ7, ⟨mc7, rfl⟩⟩ := hcut; cases kq with
        | zero => exact absurd HA.out (by simp [backhaulref01_Class.j1])
        | succ kj7 =>
          have H := HA.out; clear HA; simp only [backhaulref01_Class.j1] at H; by_cases c10 : x22_7 = true
          · subst c10
            have H1 : (some 2) = some r := by first | (rw [if_pos rfl] at H; exact H) | rfl
            clear H; have H := H1; clear H1; obtain rfl := zKq H; go_wp2; go_ret; exact ⟨by first | rfl | (simp; done) | (simp [*]; done), by repeat (first | exact Drawn0.refl _ | apply Drawn0.step)⟩
          replace c10 := Bool.eq_false_iff.mpr c10; subst c10; have H1 : (if a0 = 45 then (some 3) else (some 0)) = some r := by first | (rw [if_neg (show ¬ (false = true) by decide)] at H; exact H) | rfl
          clear H; have H := H1; clear H1; by_cases c11 : a0 = 45
          · rw [if_pos c11] at H
            have c11b0 : (a0 == 45) = true := beq_iff_eq.mpr c11; have c11b1 : (a0 != 45) = false := bne_eq_false_iff_eq.mpr c11; clear c11; obtain rfl := zKq H; go_wp2; go_ret; exact ⟨by first | rfl | (simp; done) | (simp [*]; done), by repeat (first | exact Drawn0.refl _ | apply Drawn0.step)⟩
          rw [if_neg c11] at H; have c11b0 : (a0 == 45) = false := beq_eq_false_iff_ne.mpr c11; have c11b1 : (a0 != 45) = true := bne_iff_ne.mpr c11; obtain rfl := zKq H; go_wp2; go_ret; exact ⟨by first | rfl | (simp; done) | (simp [*]; done), by repeat (first | exact Drawn0.refl _ | apply Drawn0.step)⟩
mutual
def backhaulref01_Fold.j0 : Nat → ByteArray → Bool → Option (ByteArray × Int)
  | 0, _, _ => none
  | k + 1, x0, x27 => if x27 = true then (some ((⟨#[]⟩ : ByteArray), 9)) else (backhaulref01_Fold.l0 k x0 ([] : List Int) 0)
def backhaulref01_Fold.l0 : Nat → ByteArray → List Int → Int → Option (ByteArray × Int)
  | 0, _, _, _ => none
  | k + 1, x0, x4, x5 => if x5 < (x0.size : Int) then (if 0 ≤ x5 then ((backhaulref01_Class.f k (wrap32 (bt x0 x5))).bind fun t101 => (if t101 = 0 then (backhaulref01_Fold.j2 k x0 x4 x5 (bt x0 x5) true) else (if (bt x0 x5) = 45 then (if 0 ≤ (wrap64 (x5 - 1)) then (if (wrap64 (x5 - 1)) < (x0.size : Int) then (backhaulref01_Fold.j2 k x0 x4 x5 (bt x0 x5) ((bt x0 (wrap64 (x5 - 1))) == 45)) else (none)) else (none)) else (backhaulref01_Fold.j2 k x0 x4 x5 (bt x0 x5) false)))) else (none)) else (some (strOfNums x4, 0))
def backhaulref01_Fold.j2 : Nat → ByteArray → List Int → Int → Int → Bool → Option (ByteArray × Int)
  | 0, _, _, _, _, _ => none
  | k + 1, x0, x4, x5, x6, x51 => if x51 = true then (some ((⟨#[]⟩ : ByteArray), 9)) else (if x6 ≥ 97 then (if x6 ≤ 122 then (if x4.length < 140737488355328 then (backhaulref01_Fold.l0 k x0 (x4 ++ [(x6 - 32) % 256]) (wrap64 (x5 + 1))) else (none)) else (if x4.length < 140737488355328 then (backhaulref01_Fold.l0 k x0 (x4 ++ [x6]) (wrap64 (x5 + 1))) else (none))) else (if x4.length < 140737488355328 then (backhaulref01_Fold.l0 k x0 (x4 ++ [x6]) (wrap64 (x5 + 1))) else (none)))
end
def backhaulref01_Fold.f (k : Nat) (a0 : ByteArray) : Option (ByteArray × Int) := if (a0.size : Int) = 0 then (backhaulref01_Fold.j0 k a0 true) else (if (a0.size : Int) > 16 then (backhaulref01_Fold.j0 k a0 true) else (if 0 < (a0.size : Int) then (if (bt a0 0) = 45 then (backhaulref01_Fold.j0 k a0 true) else (if 0 ≤ (wrap64 ((a0.size : Int) - 1)) then (if (wrap64 ((a0.size : Int) - 1)) < (a0.size : Int) then (backhaulref01_Fold.j0 k a0 ((bt a0 (wrap64 ((a0.size : Int) - 1))) == 45)) else (none)) else (none))) else (none)))
theorem backhaulref01_Fold.mono_l : ∀ k, (∀ y0 y1, LeO (backhaulref01_Fold.j0 k y0 y1) (backhaulref01_Fold.j0 (k + 1) y0 y1)) ∧ (∀ y0 y1 y2, LeO (backhaulref01_Fold.l0 k y0 y1 y2) (backhaulref01_Fold.l0 (k + 1) y0 y1 y2)) ∧ (∀ y0 y1 y2 y3 y4, LeO (backhaulref01_Fold.j2 k y0 y1 y2 y3 y4) (backhaulref01_Fold.j2 (k + 1) y0 y1 y2 y3 y4))
  | 0 => ⟨fun _ _ r h => by simp [backhaulref01_Fold.j0] at h, fun _ _ _ r h => by simp [backhaulref01_Fold.l0] at h, fun _ _ _ _ _ r h => by simp [backhaulref01_Fold.j2] at h⟩
  | k + 1 => by
    obtain ⟨ih0, ih1, ih2⟩ := backhaulref01_Fold.mono_l k
    refine ⟨?_, ?_, ?_⟩
    · intro y0 y1
      unfold backhaulref01_Fold.j0
      repeat' first
      | (with_reducible exact ih0 _ _)
      | (with_reducible exact ih1 _ _ _)
      | (with_reducible exact ih2 _ _ _ _ _)
      | (with_reducible exact backhaulref01_Class.mono _ _)
      | (with_reducible exact LeO.refl _)
      | (with_reducible exact LeO.none _)
      | (with_reducible refine LeO.ite ?_ ?_)
      | (with_reducible refine LeO.bind ?_ (fun _ => ?_))
      | exact ih0 _ _
      | exact ih1 _ _ _
      | exact ih2 _ _ _ _ _
      | exact backhaulref01_Class.mono _ _
      | exact LeO.none _
      | refine LeO.ite ?_ ?_
      | refine LeO.bind ?_ (fun _ => ?_)
    · intro y0 y1 y2
      unfold backhaulref01_Fold.l0
      repeat' first
      | (with_reducible exact ih0 _ _)
      | (with_reducible exact ih1 _ _ _)
      | (with_reducible exact ih2 _ _ _ _ _)
      | (with_reducible exact backhaulref01_Class.mono _ _)
      | (with_reducible exact LeO.refl _)
      | (with_reducible exact LeO.none _)
      | (with_reducible refine LeO.ite ?_ ?_)
      | (with_reducible refine LeO.bind ?_ (fun _ => ?_))
      | exact ih0 _ _
      | exact ih1 _ _ _
      | exact ih2 _ _ _ _ _
      | exact backhaulref01_Class.mono _ _
      | exact LeO.none _
      | refine LeO.ite ?_ ?_
      | refine LeO.bind ?_ (fun _ => ?_)
    intro y0 y1 y2 y3 y4
    unfold backhaulref01_Fold.j2
    repeat' first
    | (with_reducible exact ih0 _ _)
    | (with_reducible exact ih1 _ _ _)
    | (with_reducible exact ih2 _ _ _ _ _)
    | (with_reducible exact backhaulref01_Class.mono _ _)
    | (with_reducible exact LeO.refl _)
    | (with_reducible exact LeO.none _)
    | (with_reducible refine LeO.ite ?_ ?_)
    | (with_reducible refine LeO.bind ?_ (fun _ => ?_))
    | exact ih0 _ _
    | exact ih1 _ _ _
    | exact ih2 _ _ _ _ _
    | exact backhaulref01_Class.mono _ _
    | exact LeO.none _
    | refine LeO.ite ?_ ?_
    | refine LeO.bind ?_ (fun _ => ?_)
theorem backhaulref01_Fold.mono : ∀ a0 k, LeO (backhaulref01_Fold.f k a0) (backhaulref01_Fold.f (k + 1) a0) := by
  intro a0 k
  obtain ⟨ih0, ih1, ih2⟩ := backhaulref01_Fold.mono_l k
  unfold backhaulref01_Fold.f
  repeat' first
      | (with_reducible exact ih0 _ _)
      | (with_reducible exact ih1 _ _ _)
      | (with_reducible exact ih2 _ _ _ _ _)
      | (with_reducible exact backhaulref01_Class.mono _ _)
      | (with_reducible exact LeO.refl _)
      | (with_reducible exact LeO.none _)
      | (with_reducible refine LeO.ite ?_ ?_)
      | (with_reducible refine LeO.bind ?_ (fun _ => ?_))
      | exact ih0 _ _
      | exact ih1 _ _ _
      | exact ih2 _ _ _ _ _
      | exact backhaulref01_Class.mono _ _
      | exact LeO.none _
      | refine LeO.ite ?_ ?_
      | refine LeO.bind ?_ (fun _ => ?_)
set_option maxHeartbeats 8000000 in
set_option maxRecDepth 100000 in
theorem backhaulref01_Fold.calls (k : Nat) (a0 : ByteArray) (r1 : ByteArray) (r2 : Int) (w : World) (h : backhaulref01_Fold.f k a0 = some (r1, r2)) :
    Calls Try.prog 241 #[.string a0] w fun e w' => e = .returned (.tuple #[.string r1, .int .i64 r2]) ∧ Below w.heap.size w w' := by
  have HB := zA (Below.refl w.heap.size w)
  have H : (if (a0.size : Int) = 0 then (backhaulref01_Fold.j0 k a0 true) else (if (a0.size : Int) > 16 then (backhaulref01_Fold.j0 k a0 true) else (if 0 < (a0.size : Int) then (if (bt a0 0) = 45 then (backhaulref01_Fold.j0 k a0 true) else (if 0 ≤ (wrap64 ((a0.size : Int) - 1)) then (if (wrap64 ((a0.size : Int) - 1)) < (a0.size : Int) then (backhaulref01_Fold.j0 k a0 ((bt a0 (wrap64 ((a0.size : Int) - 1))) == 45)) else (none)) else (none))) else (none)))) = some (r1, r2) := h
  clear h
  have HC2 := zA H
  clear H
  go_enter Try.func241, Try.ntmps241
  go_upto_region 1 with (fail)
  go_cut [27] (fun v27 wc => ∃ (kq : Nat) (x27_1 : Bool), v27 = .bool x27_1 ∧ Aside0 (backhaulref01_Fold.j0 kq a0 x27_1 = some (r1, r2)) ∧ Aside0 (kq ≤ k) ∧ Aside0 (Below w.heap.size w wc))
  case first =>
    have H := HC2.out; clear HC2; by_cases c3 : (a0.size : Int) = 0
    · rw [if_pos c3] at H
      have c3b0 : ((a0.size : Int) == 0) = true := beq_iff_eq.mpr c3; have c3b1 : ((a0.size : Int) != 0) = false := bne_eq_false_iff_eq.mpr c3; clear c3; (first | rw [c3b0] | (simp only [i64_w, i32_w]; rw [c3b0]) | skip)
      have H' := zA H; clear H; go_wp2; go_meet
      case rel => exact ⟨_, (true), (by first | rfl | (simp; done) | (simp [*]; done)), H', ⟨by first | omega | exact Nat.le_refl _⟩, ⟨qB⟩⟩
    rw [if_neg c3] at H; have c3b0 : ((a0.size : Int) == 0) = false := beq_eq_false_iff_ne.mpr c3; have c3b1 : ((a0.size : Int) != 0) = true := bne_iff_ne.mpr c3; (first | rw [c3b0] | (simp only [i64_w, i32_w]; rw [c3b0]) | skip)
    by_cases c4 : (a0.size : Int) > 16
    · rw [if_pos c4] at H
      have c4b0 : decide (16 < (a0.size : Int)) = true := zFq c4; have c4b1 : decide (16 < a0.size) = true := zFq (by omega); clear c4; have H' := zA H; clear H; go_wp2; go_meet
      case rel => exact ⟨_, (true), (by first | rfl | (simp; done) | (simp [*]; done)), H', ⟨by first | omega | exact Nat.le_refl _⟩, ⟨qB⟩⟩
    rw [if_neg c4] at H; have c4b0 : decide (16 < (a0.size : Int)) = false := zGq c4; have c4b1 : decide (16 < a0.size) = false := zGq (by omega); clear c4; by_cases c5 : 0 < (a0.size : Int)
    · rw [if_pos c5] at H
      have c5b0 : decide (0 < (a0.size : Int)) = true := zFq c5; have c5b1 : decide (0 < a0.size) = true := zFq (by omega); clear c5; by_cases c7 : (bt a0 0) = 45
      · rw [if_pos c7] at H
        have c7b0 : ((bt a0 0) == 45) = true := beq_iff_eq.mpr c7; have c7b1 : ((bt a0 0) != 45) = false := bne_eq_false_iff_eq.mpr c7; clear c7; have H' := zA H; clear H; have p6 : 0 ≤ (0 : Int) := (by omega)
        have q6 : 0 < a0.size := (by have : (0 : Int) < (a0.size : Int) := of_decide_eq_true qA; omega)
        have hx6 : ∀ h : 0 < a0.size, ((a0[0]'h).toNat : Int) = bt a0 0 := bt_at a0 0; clear p6; have qi6 : (0 < (a0.size : Int)) = True := eq_true (of_decide_eq_true qA); replace q6 := eq_true q6; go_wp2; go_meet
        case rel => exact ⟨_, (true), (by first | rfl | (simp; done) | (simp [*]; done)), H', ⟨by first | omega | exact Nat.le_refl _⟩, ⟨qB⟩⟩
      rw [if_neg c7] at H; have c7b0 : ((bt a0 0) == 45) = false := beq_eq_false_iff_ne.mpr c7; have c7b1 : ((bt a0 0) != 45) = true := bne_iff_ne.mpr c7; obtain ⟨ji8, hji8⟩ : ∃ j_ : Int, (wrap64 ((a0.size : Int) - 1)) = j_ := ⟨_, rfl⟩
      replace H : (if 0 ≤ (ji8) then (if (ji8) < (a0.size : Int) then (backhaulref01_Fold.j0 k a0 ((bt a0 (ji8)) == 45)) else (none)) else (none)) = some (r1, r2) := by first | (rw [hji8] at H; exact H) | (simp only [hji8] at H ⊢; exact H)
      have hji8w : (IntKind.i64.wrap ((a0.size : Int) - 1)) = ji8 := (i64_w _).trans hji8; by_cases c9 : 0 ≤ (ji8)
      · rw [if_pos c9] at H
        have c9b0 : decide (0 ≤ (ji8)) = true := zFq c9; clear c9; by_cases c10 : (ji8) < (a0.size : Int)
        · rw [if_pos c10] at H
          have c10b0 : decide ((ji8) < (a0.size : Int)) = true := zFq c10; clear c10; have H' := zA H; clear H; have p6 : 0 ≤ (0 : Int) := (by omega)
          have q6 : 0 < a0.size := (by have : (0 : Int) < (a0.size : Int) := of_decide_eq_true qA; omega)
          have hx6 : ∀ h : 0 < a0.size, ((a0[0]'h).toNat : Int) = bt a0 0 := bt_at a0 0; clear p6; have qi6 : (0 < (a0.size : Int)) = True := eq_true (of_decide_eq_true qA); replace q6 := eq_true q6; have p11 : 0 ≤ ((ji8) : Int) := of_decide_eq_true qA; have q11 : (ji8) < (a0.size : Int) := of_decide_eq_true qA; have hx11 := bt_at a0 (ji8); replace p11 := eq_true p11; replace q11 := eq_true q11; go_wp2; go_meet
          case rel => exact ⟨_, (((bt a0 (ji8)) == 45)), (by first | rfl | (simp; done) | (simp only [← hji8] <;> (first | rfl | simp)) | (simp [*]; done)), H', ⟨by first | omega | exact Nat.le_refl _⟩, ⟨qB⟩⟩
        rw [if_neg c10] at H; exact absurd H (by simp)
      rw [if_neg c9] at H; exact absurd H (by simp)
    rw [if_neg c5] at H; exact absurd H (by simp)
  case rest =>
    clear HC2; try clear c1
    try clear p1
    try clear q1
    try clear hx1
    try clear c2
    try clear p2
    try clear c3
    try clear c3b0
    try clear c3b1
    try clear c4
    try clear c4b0
    try clear c4b1
    try clear c5
    try clear c5b0
    try clear c5b1
    try clear p6
    try clear q6
    try clear hx6
    try clear qi6
    try clear c7
    try clear c7b0
    try clear c7b1
    try clear c9
    try clear c9b0
    try clear c10
    try clear c10b0
    try clear p11
    try clear q11
    try clear hx11
    try clear p11
    try clear p6
    try clear q11
    try clear q6
    obtain ⟨kq, x27_1, rfl, HA, HJ1, HB⟩ := hcut; cases kq with
    | zero => exact absurd HA.out (by simp [backhaulref01_Fold.j0])
    | succ kj1 =>
      have H := HA.out; clear HA; simp only [backhaulref01_Fold.j0] at H; by_cases c12 : x27_1 = true
      · subst c12
        have H1 : (some ((⟨#[]⟩ : ByteArray), 9)) = some (r1, r2) := by first | (rw [if_pos rfl] at H; exact H) | rfl
        clear H; have H := H1; clear H1; simp only [zNq, zOq] at H; obtain ⟨rfl, rfl⟩ := H; go_wp2; go_ret2; exact ⟨qE, qB⟩
      replace c12 := Bool.eq_false_iff.mpr c12; subst c12; have H1 : (backhaulref01_Fold.l0 kj1 a0 ([] : List Int) 0) = some (r1, r2) := by first | (rw [if_neg (show ¬ (false = true) by decide)] at H; exact H) | rfl
      clear H; have H := H1; clear H1; have H' := zA H; clear H; go_wp2; go_loopg [4, 5] kj1 (fun kq v4 v5 w' => ∃ (x4_2 : List Int) (x5_2 : Int), v5 = .int .i64 x5_2 ∧ Aside0 (backhaulref01_Fold.l0 kq a0 x4_2 x5_2 = some (r1, r2)) ∧ Aside0 (kq ≤ kj1) ∧ Aside0 (Kd.R (Kd.int .u8) 5 w' w.heap.size (fun _ => True) v4 x4_2) ∧ Aside0 (Below w.heap.size w w'))
      case atStart => exact ⟨(([] : List Int)), (0), (by first | rfl | (simp; done) | (simp [*]; done)), H', ⟨Nat.le_refl _⟩, ⟨qN⟩, ⟨qB⟩⟩
      case round =>
        clear H'; try clear c1
        try clear p1
        try clear q1
        try clear hx1
        try clear c2
        try clear p2
        try clear c3
        try clear c3b0
        try clear c3b1
        try clear c4
        try clear c4b0
        try clear c4b1
        try clear c5
        try clear c5b0
        try clear c5b1
        try clear p6
        try clear q6
        try clear hx6
        try clear qi6
        try clear c7
        try clear c7b0
        try clear c7b1
        try clear c9
        try clear c9b0
        try clear c10
        try clear c10b0
        try clear p11
        try clear q11
        try clear hx11
        try clear c12
        try clear p1
        try clear p11
        try clear p2
        try clear p6
        try clear q1
        try clear q11
        try clear q6
        obtain ⟨x4_2, x5_2, rfl, HA, HK2, HO_4, HB⟩ := hrel; cases gk with
        | zero => exact absurd HA.out (by simp [backhaulref01_Fold.l0])
        | succ k2 =>
          have H := HA.out; clear HA; simp only [backhaulref01_Fold.l0] at H; by_cases c13 : x5_2 < (a0.size : Int)
          · rw [if_pos c13] at H
            have c13b0 : decide (x5_2 < (a0.size : Int)) = true := zFq c13; clear c13; by_cases c14 : 0 ≤ x5_2
            · rw [if_pos c14] at H
              have c14b0 : decide (0 ≤ x5_2) = true := zFq c14; clear c14; have HC16 := zA H; clear H; have p15 : 0 ≤ (x5_2 : Int) := of_decide_eq_true qA; have q15 : x5_2 < (a0.size : Int) := of_decide_eq_true qA; have hx15 := bt_at a0 x5_2; replace p15 := eq_true p15; replace q15 := eq_true q15; go_upto_region 8 with (fail)
              go_cut [51] (fun v51 wc => ∃ (kq : Nat) (x51_15 : Bool), v51 = .bool x51_15 ∧ Aside0 (backhaulref01_Fold.j2 kq a0 x4_2 x5_2 (bt a0 x5_2) x51_15 = some (r1, r2)) ∧ Aside0 (kq ≤ k2) ∧ Aside0 (Kd.R (Kd.int .u8) 5 wc w.heap.size (fun _ => True) u4 x4_2) ∧ Aside0 (Below w.heap.size w wc))
              case first =>
                have H := HC16.out; clear HC16; replace H := Option.bind_eq_some_iff.mp H; obtain ⟨t101, A170, H⟩ := H; replace H : (if t101 = 0 then (backhaulref01_Fold.j2 k2 a0 x4_2 x5_2 (bt a0 x5_2) true) else (if (bt a0 x5_2) = 45 then (if 0 ≤ (wrap64 (x5_2 - 1)) then (if (wrap64 (x5_2 - 1)) < (a0.size : Int) then (backhaulref01_Fold.j2 k2 a0 x4_2 x5_2 (bt a0 x5_2) ((bt a0 (wrap64 (x5_2 - 1))) == 45)) else (none)) else (none)) else (backhaulref01_Fold.j2 k2 a0 x4_2 x5_2 (bt a0 x5_2) false))) = some (r1, r2) := H; have A17 := zA A170; clear A170; by_cases c18 : t101 = 0
                · rw [if_pos c18] at H
                  have c18b0 : (t101 == 0) = true := beq_iff_eq.mpr c18; have c18b1 : (t101 != 0) = false := bne_eq_false_iff_eq.mpr c18; clear c18; (first | rw [c18b0] | (simp only [i64_w, i32_w]; rw [c18b0]) | skip)
                  have H' := zA H; clear H; go_wp2_with (first | ((with_reducible refine zJq (f := 270) rfl ?_); refine goesL_ (some 39) rfl rfl Try.func270 (by kernel_rfl) rfl #[.int .i32 (wrap32 (bt a0 x5_2))] rfl (by (try simp only [zR, zS, zT]); first | done | rfl | (simp only [zP, zQ]; rfl)) ?_; (with_reducible refine (backhaulref01_Class.calls k2 (wrap32 (bt a0 x5_2)) t101 _ A17.out).mono ?_); rintro e w' ⟨rfl, ⟨nd, rfl⟩⟩; refine ⟨_, rfl, ?_⟩)); go_meet
                  case rel => exact ⟨_, (true), (by first | rfl | (simp; done) | (simp [*]; done)), H', ⟨by have := HJ1.out; have := HK2.out; first | omega | exact Nat.le_refl _⟩, ⟨by (with_reducible repeat (first | apply Kd.R_alloc | apply Kd.R_drewN | apply Kd.R_drew)); exact HO_4.out⟩, ⟨qB⟩⟩
                rw [if_neg c18] at H; have c18b0 : (t101 == 0) = false := beq_eq_false_iff_ne.mpr c18; have c18b1 : (t101 != 0) = true := bne_iff_ne.mpr c18; (first | rw [c18b0] | (simp only [i64_w, i32_w]; rw [c18b0]) | skip)
                by_cases c19 : (bt a0 x5_2) = 45
                · rw [if_pos c19] at H
                  have c19b0 : ((bt a0 x5_2) == 45) = true := beq_iff_eq.mpr c19; have c19b1 : ((bt a0 x5_2) != 45) = false := bne_eq_false_iff_eq.mpr c19; clear c19; obtain ⟨ji20, hji20⟩ : ∃ j_ : Int, (wrap64 (x5_2 - 1)) = j_ := ⟨_, rfl⟩
                  replace H : (if 0 ≤ (ji20) then (if (ji20) < (a0.size : Int) then (backhaulref01_Fold.j2 k2 a0 x4_2 x5_2 (bt a0 x5_2) ((bt a0 (ji20)) == 45)) else (none)) else (none)) = some (r1, r2) := by first | (rw [hji20] at H; exact H) | (simp only [hji20] at H ⊢; exact H)
                  (try rw [hji20] at A17)
                  have hji20w : (IntKind.i64.wrap (x5_2 - 1)) = ji20 := (i64_w _).trans hji20; by_cases c21 : 0 ≤ (ji20)
                  · rw [if_pos c21] at H
                    have c21b0 : decide (0 ≤ (ji20)) = true := zFq c21; clear c21; by_cases c22 : (ji20) < (a0.size : Int)
                    · rw [if_pos c22] at H
                      have c22b0 : decide ((ji20) < (a0.size : Int)) = true := zFq c22; clear c22; have H' := zA H; clear H; go_wp2_with (first | ((with_reducible refine zJq (f := 270) rfl ?_); refine goesL_ (some 39) rfl rfl Try.func270 (by kernel_rfl) rfl #[.int .i32 (wrap32 (bt a0 x5_2))] rfl (by (try simp only [zR, zS, zT]); first | done | rfl | (simp only [zP, zQ]; rfl)) ?_; (with_reducible refine (backhaulref01_Class.calls k2 (wrap32 (bt a0 x5_2)) t101 _ A17.out).mono ?_); rintro e w' ⟨rfl, ⟨nd, rfl⟩⟩; refine ⟨_, rfl, ?_⟩; have p23 : 0 ≤ ((ji20) : Int) := of_decide_eq_true qA; have q23 : (ji20) < (a0.size : Int) := of_decide_eq_true qA; have hx23 := bt_at a0 (ji20); replace p23 := eq_true p23; replace q23 := eq_true q23)); go_meet
                      case rel => exact ⟨_, (((bt a0 (ji20)) == 45)), (by first | rfl | (simp; done) | (simp only [← hji20] <;> (first | rfl | simp)) | (simp [*]; done)), H', ⟨by have := HJ1.out; have := HK2.out; first | omega | exact Nat.le_refl _⟩, ⟨by (with_reducible repeat (first | apply Kd.R_alloc | apply Kd.R_drewN | apply Kd.R_drew)); exact HO_4.out⟩, ⟨qB⟩⟩
                    rw [if_neg c22] at H; exact absurd H (by simp)
                  rw [if_neg c21] at H; exact absurd H (by simp)
                rw [if_neg c19] at H; have c19b0 : ((bt a0 x5_2) == 45) = false := beq_eq_false_iff_ne.mpr c19; have c19b1 : ((bt a0 x5_2) != 45) = true := bne_iff_ne.mpr c19; have H' := zA H; clear H; go_wp2_with (first | ((with_reducible refine zJq (f := 270) rfl ?_); refine goesL_ (some 39) rfl rfl Try.func270 (by kernel_rfl) rfl #[.int .i32 (wrap32 (bt a0 x5_2))] rfl (by (try simp only [zR, zS, zT]); first | done | rfl | (simp only [zP, zQ]; rfl)) ?_; (with_reducible refine (backhaulref01_Class.calls k2 (wrap32 (bt a0 x5_2)) t101 _ A17.out).mono ?_); rintro e w' ⟨rfl, ⟨nd, rfl⟩⟩; refine ⟨_, rfl, ?_⟩)); go_meet
                case rel => exact ⟨_, (false), (by first | rfl | (simp; done) | (simp [*]; done)), H', ⟨by have := HJ1.out; have := HK2.out; first | omega | exact Nat.le_refl _⟩, ⟨by (with_reducible repeat (first | apply Kd.R_alloc | apply Kd.R_drewN | apply Kd.R_drew)); exact HO_4.out⟩, ⟨qB⟩⟩
              case rest =>
                clear HC16; try clear c1
                try clear p1
                try clear q1
                try clear hx1
                try clear c2
                try clear p2
                try clear q2
                try clear hx2
                try clear c3
                try clear c3b0
                try clear c3b1
                try clear p3
                try clear c4
                try clear c4b0
                try clear c4b1
                try clear c5
                try clear c5b0
                try clear c5b1
                try clear p6
                try clear q6
                try clear hx6
                try clear qi6
                try clear c7
                try clear c7b0
                try clear c7b1
                try clear c9
                try clear c9b0
                try clear c10
                try clear c10b0
                try clear p11
                try clear q11
                try clear hx11
                try clear c12
                try clear c13
                try clear c13b0
                try clear c14
                try clear c14b0
                try clear p15
                try clear q15
                try clear hx15
                try clear c18
                try clear c18b0
                try clear c18b1
                try clear c19
                try clear c19b0
                try clear c19b1
                try clear c21
                try clear c21b0
                try clear c22
                try clear c22b0
                try clear p23
                try clear q23
                try clear hx23
                try clear p1
                try clear p11
                try clear p15
                try clear p2
                try clear p23
                try clear p6
                try clear q1
                try clear q11
                try clear q15
                try clear q23
                try clear q6
                obtain ⟨kq, x51_15, rfl, HA, HJ15, HO_4, HB⟩ := hcut; cases kq with
                | zero => exact absurd HA.out (by simp [backhaulref01_Fold.j2])
                | succ kj15 =>
                  have H := HA.out; clear HA; simp only [backhaulref01_Fold.j2] at H; by_cases c24 : x51_15 = true
                  · subst c24
                    have H1 : (some ((⟨#[]⟩ : ByteArray), 9)) = some (r1, r2) := by first | (rw [if_pos rfl] at H; exact H) | rfl
                    clear H; have H := H1; clear H1; simp only [zNq, zOq] at H; obtain ⟨rfl, rfl⟩ := H; go_wp2; go_ret2; exact ⟨qE, qB⟩
                  replace c24 := Bool.eq_false_iff.mpr c24; subst c24; have H1 : (if (bt a0 x5_2) ≥ 97 then (if (bt a0 x5_2) ≤ 122 then (if x4_2.length < 140737488355328 then (backhaulref01_Fold.l0 kj15 a0 (x4_2 ++ [((bt a0 x5_2) - 32) % 256]) (wrap64 (x5_2 + 1))) else (none)) else (if x4_2.length < 140737488355328 then (backhaulref01_Fold.l0 kj15 a0 (x4_2 ++ [(bt a0 x5_2)]) (wrap64 (x5_2 + 1))) else (none))) else (if x4_2.length < 140737488355328 then (backhaulref01_Fold.l0 kj15 a0 (x4_2 ++ [(bt a0 x5_2)]) (wrap64 (x5_2 + 1))) else (none))) = some (r1, r2) := by first | (rw [if_neg (show ¬ (false = true) by decide)] at H; exact H) | rfl
                  clear H; have H := H1; clear H1; by_cases c25 : (bt a0 x5_2) ≥ 97
                  · rw [if_pos c25] at H
                    have c25b0 : decide (97 ≤ (bt a0 x5_2)) = true := zFq c25; clear c25; by_cases c26 : (bt a0 x5_2) ≤ 122
                    · rw [if_pos c26] at H
                      have c26b0 : decide ((bt a0 x5_2) ≤ 122) = true := zFq c26; clear c26; by_cases c27 : x4_2.length < 140737488355328
                      · rw [if_pos c27] at H
                        have LMc27 := zA c27; clear c27; obtain ⟨y102, hy102⟩ : ∃ y_ : List Int, y_ = (x4_2 ++ [((bt a0 x5_2) - 32) % 256]) := ⟨_, rfl⟩
                        replace H : (backhaulref01_Fold.l0 kj15 a0 y102 (wrap64 (x5_2 + 1))) = some (r1, r2) := by first | (rw [hy102]; with_reducible exact H) | (have H2_ := (Option.bind_some _ _).symm.trans H; rw [hy102]; with_reducible exact H2_) | (have H2_ := (Option.bind_some _ _).symm.trans H; with_reducible exact H2_) | with_reducible exact H | (rw [hy102]; exact H) | exact H
                        have Ny102 := zA hy102; clear hy102; have H' := zA H; clear H; go_wp2_with (first | ((with_reducible refine gate_builtin (b := .append) (xs := #[.tmp 60, .tmp 62]) rfl ?_); (try (refine gate_guard (by rfl) ?_; dsimp only)); at_builtin; refine Kd.R_append (Kd.int .u8) (w0 := w) w.heap.size rfl (.tmp 60) (.tmp 62) 180 5 (.int .u8 0) 1 rfl Try.underlying180 info5 rfl (by decide) (by omega) u4 x4_2 (((bt a0 x5_2) - 32) % 256) [.int .u8 (((bt a0 x5_2) - 32) % 256)] (fun _ => True) (fun _ => False) rfl rfl ?aP (fun _ hk => hk.elim) ?aF ?aO ?aB ?aS ?aL ?_; (case aP => exact rfl); (case aB => exact qB); (case aF => exact (fun _ _ => trivial)); (case aO => exact (by (with_reducible repeat (first | apply Kd.R_alloc | apply Kd.R_drewN | apply Kd.R_drew)); exact HO_4.out)); (case aS => exact (zW qB)); (case aL => have := LMc27.out; omega); intro v103 w28 ho hb hg hat; rw [← Ny102.out] at ho; have n0_ := zA (hb); have n1_ := zA (ho); clear HB HO_4; have HB := n0_; have HO104 := n1_; clear n0_ n1_ ho hb hg hat)); go_roundg kj15
                        case measure => have := HJ1.out; have := HK2.out; have := HJ15.out; omega
                        case rel => exact ⟨(y102), (wrap64 (x5_2 + 1)), (by first | rfl | (simp; done) | (simp [*]; done)), H', ⟨by have := HJ1.out; have := HK2.out; have := HJ15.out; omega⟩, ⟨by (with_reducible repeat (first | apply Kd.R_alloc | apply Kd.R_drewN | apply Kd.R_drew)); exact HO104.out⟩, ⟨qB⟩⟩
                      rw [if_neg c27] at H; exact absurd H (by simp)
                    rw [if_neg c26] at H; have c26b0 : decide ((bt a0 x5_2) ≤ 122) = false := zGq c26; clear c26; by_cases c29 : x4_2.length < 140737488355328
                    · rw [if_pos c29] at H
                      have LMc29 := zA c29; clear c29; obtain ⟨y105, hy105⟩ : ∃ y_ : List Int, y_ = (x4_2 ++ [(bt a0 x5_2)]) := ⟨_, rfl⟩
                      replace H : (backhaulref01_Fold.l0 kj15 a0 y105 (wrap64 (x5_2 + 1))) = some (r1, r2) := by first | (rw [hy105]; with_reducible exact H) | (have H2_ := (Option.bind_some _ _).symm.trans H; rw [hy105]; with_reducible exact H2_) | (have H2_ := (Option.bind_some _ _).symm.trans H; with_reducible exact H2_) | with_reducible exact H | (rw [hy105]; exact H) | exact H
                      have Ny105 := zA hy105; clear hy105; have H' := zA H; clear H; go_wp2_with (first | ((with_reducible refine gate_builtin (b := .append) (xs := #[.tmp 60, .tmp 62]) rfl ?_); (try (refine gate_guard (by rfl) ?_; dsimp only)); at_builtin; refine Kd.R_append (Kd.int .u8) (w0 := w) w.heap.size rfl (.tmp 60) (.tmp 62) 180 5 (.int .u8 0) 1 rfl Try.underlying180 info5 rfl (by decide) (by omega) u4 x4_2 (bt a0 x5_2) [.int .u8 (bt a0 x5_2)] (fun _ => True) (fun _ => False) rfl rfl ?aP (fun _ hk => hk.elim) ?aF ?aO ?aB ?aS ?aL ?_; (case aP => exact rfl); (case aB => exact qB); (case aF => exact (fun _ _ => trivial)); (case aO => exact (by (with_reducible repeat (first | apply Kd.R_alloc | apply Kd.R_drewN | apply Kd.R_drew)); exact HO_4.out)); (case aS => exact (zW qB)); (case aL => have := LMc29.out; omega); intro v106 w30 ho hb hg hat; rw [← Ny105.out] at ho; have n0_ := zA (hb); have n1_ := zA (ho); clear HB HO_4; have HB := n0_; have HO107 := n1_; clear n0_ n1_ ho hb hg hat)); go_roundg kj15
                      case measure => have := HJ1.out; have := HK2.out; have := HJ15.out; omega
                      case rel => exact ⟨(y105), (wrap64 (x5_2 + 1)), (by first | rfl | (simp; done) | (simp [*]; done)), H', ⟨by have := HJ1.out; have := HK2.out; have := HJ15.out; omega⟩, ⟨by (with_reducible repeat (first | apply Kd.R_alloc | apply Kd.R_drewN | apply Kd.R_drew)); exact HO107.out⟩, ⟨qB⟩⟩
                    rw [if_neg c29] at H; exact absurd H (by simp)
                  rw [if_neg c25] at H; have c25b0 : decide (97 ≤ (bt a0 x5_2)) = false := zGq c25; clear c25; by_cases c31 : x4_2.length < 140737488355328
                  · rw [if_pos c31] at H
                    have LMc31 := zA c31; clear c31; obtain ⟨y108, hy108⟩ : ∃ y_ : List Int, y_ = (x4_2 ++ [(bt a0 x5_2)]) := ⟨_, rfl⟩
                    replace H : (backhaulref01_Fold.l0 kj15 a0 y108 (wrap64 (x5_2 + 1))) = some (r1, r2) := by first | (rw [hy108]; with_reducible exact H) | (have H2_ := (Option.bind_some _ _).symm.trans H; rw [hy108]; with_reducible exact H2_) | (have H2_ := (Option.bind_some _ _).symm.trans H; with_reducible exact H2_) | with_reducible exact H | (rw [hy108]; exact H) | exact H
                    have Ny108 := zA hy108; clear hy108; have H' := zA H; clear H; go_wp2_with (first | ((with_reducible refine gate_builtin (b := .append) (xs := #[.tmp 60, .tmp 62]) rfl ?_); (try (refine gate_guard (by rfl) ?_; dsimp only)); at_builtin; refine Kd.R_append (Kd.int .u8) (w0 := w) w.heap.size rfl (.tmp 60) (.tmp 62) 180 5 (.int .u8 0) 1 rfl Try.underlying180 info5 rfl (by decide) (by omega) u4 x4_2 (bt a0 x5_2) [.int .u8 (bt a0 x5_2)] (fun _ => True) (fun _ => False) rfl rfl ?aP (fun _ hk => hk.elim) ?aF ?aO ?aB ?aS ?aL ?_; (case aP => exact rfl); (case aB => exact qB); (case aF => exact (fun _ _ => trivial)); (case aO => exact (by (with_reducible repeat (first | apply Kd.R_alloc | apply Kd.R_drewN | apply Kd.R_drew)); exact HO_4.out)); (case aS => exact (zW qB)); (case aL => have := LMc31.out; omega); intro v109 w32 ho hb hg hat; rw [← Ny108.out] at ho; have n0_ := zA (hb); have n1_ := zA (ho); clear HB HO_4; have HB := n0_; have HO110 := n1_; clear n0_ n1_ ho hb hg hat)); go_roundg kj15
                    case measure => have := HJ1.out; have := HK2.out; have := HJ15.out; omega
                    case rel => exact ⟨(y108), (wrap64 (x5_2 + 1)), (by first | rfl | (simp; done) | (simp [*]; done)), H', ⟨by have := HJ1.out; have := HK2.out; have := HJ15.out; omega⟩, ⟨by (with_reducible repeat (first | apply Kd.R_alloc | apply Kd.R_drewN | apply Kd.R_drew)); exact HO110.out⟩, ⟨qB⟩⟩
                  rw [if_neg c31] at H; exact absurd H (by simp)
            rw [if_neg c14] at H; exact absurd H (by simp)
          rw [if_neg c13] at H; have c13b0 : decide (x5_2 < (a0.size : Int)) = false := zGq c13; clear c13; simp only [zNq, zOq] at H; obtain ⟨rfl, rfl⟩ := H; have hcv33 := own_string (P := Try.prog) Try.underlying180 Try.underlying5 Try.underlying9 (Kd.own_of_R HO_4.out); go_wp2; go_ret2; exact ⟨qE, qB⟩
def backhaulref01_Check.f (k : Nat) (a0 : ByteArray) : Option (Int) := (backhaulref01_Fold.f k a0).bind fun bt101 => (if bt101.2 = 0 then (if bt101.1.toList = a0.toList then (some 0) else (some 9)) else (some 9))
theorem backhaulref01_Check.mono : ∀ a0 k, LeO (backhaulref01_Check.f k a0) (backhaulref01_Check.f (k + 1) a0) := by
  intro a0 k
  unfold backhaulref01_Check.f
  repeat' first
      | (with_reducible exact backhaulref01_Fold.mono _ _)
      | (with_reducible exact LeO.refl _)
      | (with_reducible exact LeO.none _)
      | (with_reducible refine LeO.ite ?_ ?_)
      | (with_reducible refine LeO.bind ?_ (fun _ => ?_))
      | exact backhaulref01_Fold.mono _ _
      | exact LeO.none _
      | refine LeO.ite ?_ ?_
      | refine LeO.bind ?_ (fun _ => ?_)
set_option maxHeartbeats 8000000 in
set_option maxRecDepth 100000 in
theorem backhaulref01_Check.calls (k : Nat) (a0 : ByteArray) (r : Int) (w : World) (h : backhaulref01_Check.f k a0 = some r) :
    Calls Try.prog 171 #[.string a0] w fun e w' => e = .returned (.int .i64 r) ∧ Below w.heap.size w w' := by
  have HB := zA (Below.refl w.heap.size w)
  have H : ((backhaulref01_Fold.f k a0).bind fun bt101 => (if bt101.2 = 0 then (if bt101.1.toList = a0.toList then (some 0) else (some 9)) else (some 9))) = some r := h
  clear h
  replace H := Option.bind_eq_some_iff.mp H
  obtain ⟨⟨t101, t102⟩, A20, H⟩ := H
  replace H : (if t102 = 0 then (if t101.toList = a0.toList then (some 0) else (some 9)) else (some 9)) = some r := H
  have A2 := zA A20
  clear A20
  by_cases c3 : t102 = 0
  · rw [if_pos c3] at H
    have c3b0 : (t102 == 0) = true := beq_iff_eq.mpr c3; have c3b1 : (t102 != 0) = false := bne_eq_false_iff_eq.mpr c3; clear c3; by_cases c4 : t101.toList = a0.toList
    · rw [if_pos c4] at H
      have c4b0 : (t101.toList == a0.toList) = true := beq_iff_eq.mpr c4; have c4b1 : (t101.toList != a0.toList) = false := bne_eq_false_iff_eq.mpr c4; clear c4; obtain rfl := zKq H; go_enter Try.func171, Try.ntmps171; go_wp2_with (first | ((with_reducible refine zJq (f := 241) rfl ?_); refine goesL_ (some 7) rfl rfl Try.func241 (by kernel_rfl) rfl #[.string a0] rfl (by (try simp only [zR, zS, zT]); first | done | rfl | (simp only [zP, zQ]; rfl)) ?_; (with_reducible refine (backhaulref01_Fold.calls k a0 t101 t102 _ A2.out).mono ?_); rintro e w5 ⟨rfl, hb⟩; refine ⟨_, rfl, ?_⟩; have n0_ := zA (zV qB hb); clear HB; have HB := n0_; clear n0_; (try clear hb); (try clear hb2); (try clear hk); (try clear hi))); go_ret; exact ⟨qE, qB⟩
    rw [if_neg c4] at H; have c4b0 : (t101.toList == a0.toList) = false := beq_eq_false_iff_ne.mpr c4; have c4b1 : (t101.toList != a0.toList) = true := bne_iff_ne.mpr c4; obtain rfl := zKq H; go_enter Try.func171, Try.ntmps171; go_wp2_with (first | ((with_reducible refine zJq (f := 241) rfl ?_); refine goesL_ (some 7) rfl rfl Try.func241 (by kernel_rfl) rfl #[.string a0] rfl (by (try simp only [zR, zS, zT]); first | done | rfl | (simp only [zP, zQ]; rfl)) ?_; (with_reducible refine (backhaulref01_Fold.calls k a0 t101 t102 _ A2.out).mono ?_); rintro e w6 ⟨rfl, hb⟩; refine ⟨_, rfl, ?_⟩; have n0_ := zA (zV qB hb); clear HB; have HB := n0_; clear n0_; (try clear hb); (try clear hb2); (try clear hk); (try clear hi))); go_ret; exact ⟨qE, qB⟩
  rw [if_neg c3] at H
  have c3b0 : (t102 == 0) = false := beq_eq_false_iff_ne.mpr c3
  have c3b1 : (t102 != 0) = true := bne_iff_ne.mpr c3
  obtain rfl := zKq H
  go_enter Try.func171, Try.ntmps171
  go_wp2_with (first | ((with_reducible refine zJq (f := 241) rfl ?_); refine goesL_ (some 7) rfl rfl Try.func241 (by kernel_rfl) rfl #[.string a0] rfl (by (try simp only [zR, zS, zT]); first | done | rfl | (simp only [zP, zQ]; rfl)) ?_; (with_reducible refine (backhaulref01_Fold.calls k a0 t101 t102 _ A2.out).mono ?_); rintro e w7 ⟨rfl, hb⟩; refine ⟨_, rfl, ?_⟩; have n0_ := zA (zV qB hb); clear HB; have HB := n0_; clear n0_; (try clear hb); (try clear hb2); (try clear hk); (try clear hi)))
  go_ret
  exact ⟨qE, qB⟩
def backhaulref01_Row.l0 : Nat → List ByteArray → Int → Option (Int)
  | 0, _, _ => none
  | k + 1, x0, x3 => if x3 < (x0.length : Int) then (if 0 ≤ x3 then ((backhaulref01_Check.f k (rdOf ByteArray.empty x0 x3)).bind fun t102 => (if t102 = 0 then (if x3 > 0 then (if 0 ≤ (wrap64 (x3 - 1)) then (if (wrap64 (x3 - 1)) < (x0.length : Int) then (if ((Op.bytesLess ((rdOf ByteArray.empty x0 (wrap64 (x3 - 1))).toList) ((rdOf ByteArray.empty x0 x3).toList)) = true) then (backhaulref01_Row.l0 k x0 (wrap64 (x3 + 1))) else (some 32)) else (none)) else (none)) else (backhaulref01_Row.l0 k x0 (wrap64 (x3 + 1)))) else (some 9))) else (none)) else (some 0)
def backhaulref01_Row.f (k : Nat) (l0 : List ByteArray) : Option (Int) := backhaulref01_Row.l0 k l0 0
theorem backhaulref01_Row.mono_l : ∀ k, (∀ y0 y1, LeO (backhaulref01_Row.l0 k y0 y1) (backhaulref01_Row.l0 (k + 1) y0 y1))
  | 0 => fun _ _ r h => by simp [backhaulref01_Row.l0] at h
  | k + 1 => by
    have ih0 := backhaulref01_Row.mono_l k
    intro y0 y1
    unfold backhaulref01_Row.l0
    repeat' first
    | (with_reducible exact ih0 _ _)
    | (with_reducible exact backhaulref01_Check.mono _ _)
    | (with_reducible exact LeO.refl _)
    | (with_reducible exact LeO.none _)
    | (with_reducible refine LeO.ite ?_ ?_)
    | (with_reducible refine LeO.bind ?_ (fun _ => ?_))
    | exact ih0 _ _
    | exact backhaulref01_Check.mono _ _
    | exact LeO.none _
    | refine LeO.ite ?_ ?_
    | refine LeO.bind ?_ (fun _ => ?_)
theorem backhaulref01_Row.mono : ∀ a0 k, LeO (backhaulref01_Row.f k a0) (backhaulref01_Row.f (k + 1) a0) := by
  intro a0 k
  have ih0 := backhaulref01_Row.mono_l k
  unfold backhaulref01_Row.f
  repeat' first
      | (with_reducible exact ih0 _ _)
      | (with_reducible exact backhaulref01_Check.mono _ _)
      | (with_reducible exact LeO.refl _)
      | (with_reducible exact LeO.none _)
      | (with_reducible refine LeO.ite ?_ ?_)
      | (with_reducible refine LeO.bind ?_ (fun _ => ?_))
      | exact ih0 _ _
      | exact backhaulref01_Check.mono _ _
      | exact LeO.none _
      | refine LeO.ite ?_ ?_
      | refine LeO.bind ?_ (fun _ => ?_)
set_option maxHeartbeats 8000000 in
set_option maxRecDepth 100000 in
theorem backhaulref01_Row.calls (k : Nat) (A0 : Option Addr) (c0 : Nat) (l0 : List ByteArray) (r : Int) (w : World) (hr0 : Kd.C Kd.string w A0 l0.length l0) (hc0 : l0.length ≤ c0) (h : backhaulref01_Row.f k l0 = some r) :
    Calls Try.prog 159 #[.slice A0 l0.length c0] w fun e w' => e = .returned (.int .i64 r) ∧ Below w.heap.size w w' := by
  have HR0 := zA hr0
  have HC0 := zA hc0
  clear hr0 hc0
  have HB := zA (Below.refl w.heap.size w)
  have H : (backhaulref01_Row.l0 k l0 0) = some r := h
  clear h
  have H' := zA H
  clear H
  go_enter Try.func159, Try.ntmps159
  go_wp2
  repeat (go_quiet (fail); try go_wp2)
  go_loopg [3] k (fun kq v3 w' => ∃ (x3_1 : Int), v3 = .int .i64 x3_1 ∧ Aside0 (backhaulref01_Row.l0 kq l0 x3_1 = some r) ∧ Aside0 (kq ≤ k) ∧ Aside0 (Below w.heap.size w w'))
  case atStart => exact ⟨(0), (by first | rfl | (simp; done) | (simp [*]; done)), H', ⟨Nat.le_refl _⟩, ⟨qB⟩⟩
  case round =>
    clear H'; try clear c1
    obtain ⟨x3_1, rfl, HA, HK1, HB⟩ := hrel; cases gk with
    | zero => exact absurd HA.out (by simp [backhaulref01_Row.l0])
    | succ k1 =>
      have H := HA.out; clear HA; simp only [backhaulref01_Row.l0] at H; by_cases c2 : x3_1 < (l0.length : Int)
      · rw [if_pos c2] at H
        have c2b0 : decide (x3_1 < (l0.length : Int)) = true := zFq c2; clear c2; by_cases c3 : 0 ≤ x3_1
        · rw [if_pos c3] at H
          have c3b0 : decide (0 ≤ x3_1) = true := zFq c3; clear c3; replace H := Option.bind_eq_some_iff.mp H; obtain ⟨t102, A40, H⟩ := H; replace H : (if t102 = 0 then (if x3_1 > 0 then (if 0 ≤ (wrap64 (x3_1 - 1)) then (if (wrap64 (x3_1 - 1)) < (l0.length : Int) then (if ((Op.bytesLess ((rdOf ByteArray.empty l0 (wrap64 (x3_1 - 1))).toList) ((rdOf ByteArray.empty l0 x3_1).toList)) = true) then (backhaulref01_Row.l0 k1 l0 (wrap64 (x3_1 + 1))) else (some 32)) else (none)) else (none)) else (backhaulref01_Row.l0 k1 l0 (wrap64 (x3_1 + 1)))) else (some 9)) = some r := H; have A4 := zA A40; clear A40; by_cases c5 : t102 = 0
          · rw [if_pos c5] at H
            have c5b0 : (t102 == 0) = true := beq_iff_eq.mpr c5; have c5b1 : (t102 != 0) = false := bne_eq_false_iff_eq.mpr c5; clear c5; by_cases c6 : x3_1 > 0
            · rw [if_pos c6] at H
              have c6b0 : decide (0 < x3_1) = true := zFq c6; clear c6; obtain ⟨ji7, hji7⟩ : ∃ j_ : Int, (wrap64 (x3_1 - 1)) = j_ := ⟨_, rfl⟩
              replace H : (if 0 ≤ (ji7) then (if (ji7) < (l0.length : Int) then (if ((Op.bytesLess ((rdOf ByteArray.empty l0 (ji7)).toList) ((rdOf ByteArray.empty l0 x3_1).toList)) = true) then (backhaulref01_Row.l0 k1 l0 (wrap64 (x3_1 + 1))) else (some 32)) else (none)) else (none)) = some r := by first | (rw [hji7] at H; exact H) | (simp only [hji7] at H ⊢; exact H)
              (try rw [hji7] at A4)
              have hji7w : (IntKind.i64.wrap (x3_1 - 1)) = ji7 := (i64_w _).trans hji7; by_cases c8 : 0 ≤ (ji7)
              · rw [if_pos c8] at H
                have c8b0 : decide (0 ≤ (ji7)) = true := zFq c8; clear c8; by_cases c9 : (ji7) < (l0.length : Int)
                · rw [if_pos c9] at H
                  have c9b0 : decide ((ji7) < (l0.length : Int)) = true := zFq c9; clear c9; by_cases c10 : ((Op.bytesLess ((rdOf ByteArray.empty l0 (ji7)).toList) ((rdOf ByteArray.empty l0 x3_1).toList)) = true)
                  · rw [if_pos c10] at H
                    have c10b0 : (Op.bytesLess ((rdOf ByteArray.empty l0 (ji7)).toList) ((rdOf ByteArray.empty l0 x3_1).toList)) = true := c10; clear c10; have H' := zA H; clear H; have p101 : 0 ≤ (x3_1 : Int) := of_decide_eq_true qA; have q101 : x3_1 < (l0.length : Int) := of_decide_eq_true qA; obtain ⟨ad101, e101, hx101_0⟩ := Kd.at_string HR0.out x3_1 p101 q101; cases e101
                    replace hx101_0 := (HB.out.cell (zCq w _ hx101_0)).trans hx101_0; replace p101 := eq_true p101; replace q101 := eq_true q101; go_wp2_with (first | (go_at_call 171; (with_reducible refine (backhaulref01_Check.calls k1 (rdOf ByteArray.empty l0 x3_1) t102 _ A4.out).mono ?_); rintro e w11 ⟨rfl, hb⟩; have n0_ := zA (zV qB hb); clear HB; have HB := n0_; clear n0_; (try clear hb); (try clear hb2); (try clear hk); (try clear hi); have p103 : 0 ≤ (x3_1 : Int) := of_decide_eq_true qA; have q103 : x3_1 < (l0.length : Int) := of_decide_eq_true qA; obtain ⟨ad103, e103, hx103_0⟩ := Kd.at_string HR0.out x3_1 p103 q103; obtain rfl : ad101 = ad103 := (by injection e103); replace hx103_0 := (HB.out.cell (zCq w _ hx103_0)).trans hx103_0; replace p103 := eq_true p103; replace q103 := eq_true q103; have p104 : 0 ≤ ((ji7) : Int) := of_decide_eq_true qA; have q104 : (ji7) < (l0.length : Int) := of_decide_eq_true qA; obtain ⟨ad104, e104, hx104_0⟩ := Kd.at_string HR0.out (ji7) p104 q104; obtain rfl : ad101 = ad104 := (by injection e104); replace hx104_0 := (HB.out.cell (zCq w _ hx104_0)).trans hx104_0; replace p104 := eq_true p104; replace q104 := eq_true q104)); repeat (go_quiet (first | (go_at_call 171; (with_reducible refine (backhaulref01_Check.calls k1 (rdOf ByteArray.empty l0 x3_1) t102 _ A4.out).mono ?_); rintro e w11 ⟨rfl, hb⟩; have n0_ := zA (zV qB hb); clear HB; have HB := n0_; clear n0_; (try clear hb); (try clear hb2); (try clear hk); (try clear hi); have p103 : 0 ≤ (x3_1 : Int) := of_decide_eq_true qA; have q103 : x3_1 < (l0.length : Int) := of_decide_eq_true qA; obtain ⟨ad103, e103, hx103_0⟩ := Kd.at_string HR0.out x3_1 p103 q103; obtain rfl : ad101 = ad103 := (by injection e103); replace hx103_0 := (HB.out.cell (zCq w _ hx103_0)).trans hx103_0; replace p103 := eq_true p103; replace q103 := eq_true q103; have p104 : 0 ≤ ((ji7) : Int) := of_decide_eq_true qA; have q104 : (ji7) < (l0.length : Int) := of_decide_eq_true qA; obtain ⟨ad104, e104, hx104_0⟩ := Kd.at_string HR0.out (ji7) p104 q104; obtain rfl : ad101 = ad104 := (by injection e104); replace hx104_0 := (HB.out.cell (zCq w _ hx104_0)).trans hx104_0; replace p104 := eq_true p104; replace q104 := eq_true q104)); try go_wp2_with (first | (go_at_call 171; (with_reducible refine (backhaulref01_Check.calls k1 (rdOf ByteArray.empty l0 x3_1) t102 _ A4.out).mono ?_); rintro e w11 ⟨rfl, hb⟩; have n0_ := zA (zV qB hb); clear HB; have HB := n0_; clear n0_; (try clear hb); (try clear hb2); (try clear hk); (try clear hi); have p103 : 0 ≤ (x3_1 : Int) := of_decide_eq_true qA; have q103 : x3_1 < (l0.length : Int) := of_decide_eq_true qA; obtain ⟨ad103, e103, hx103_0⟩ := Kd.at_string HR0.out x3_1 p103 q103; obtain rfl : ad101 = ad103 := (by injection e103); replace hx103_0 := (HB.out.cell (zCq w _ hx103_0)).trans hx103_0; replace p103 := eq_true p103; replace q103 := eq_true q103; have p104 : 0 ≤ ((ji7) : Int) := of_decide_eq_true qA; have q104 : (ji7) < (l0.length : Int) := of_decide_eq_true qA; obtain ⟨ad104, e104, hx104_0⟩ := Kd.at_string HR0.out (ji7) p104 q104; obtain rfl : ad101 = ad104 := (by injection e104); replace hx104_0 := (HB.out.cell (zCq w _ hx104_0)).trans hx104_0; replace p104 := eq_true p104; replace q104 := eq_true q104)))
                    go_roundg k1
                    case measure => have := HK1.out; omega
                    case rel => exact ⟨(wrap64 (x3_1 + 1)), (by first | rfl | (simp; done) | (simp [*]; done)), H', ⟨by have := HK1.out; omega⟩, ⟨qB⟩⟩
                  rw [if_neg c10] at H; have c10b0 : (Op.bytesLess ((rdOf ByteArray.empty l0 (ji7)).toList) ((rdOf ByteArray.empty l0 x3_1).toList)) = false := by simpa using c10
                  clear c10; obtain rfl := zKq H; have p101 : 0 ≤ (x3_1 : Int) := of_decide_eq_true qA; have q101 : x3_1 < (l0.length : Int) := of_decide_eq_true qA; obtain ⟨ad101, e101, hx101_0⟩ := Kd.at_string HR0.out x3_1 p101 q101; cases e101
                  replace hx101_0 := (HB.out.cell (zCq w _ hx101_0)).trans hx101_0; replace p101 := eq_true p101; replace q101 := eq_true q101; go_wp2_with (first | (go_at_call 171; (with_reducible refine (backhaulref01_Check.calls k1 (rdOf ByteArray.empty l0 x3_1) t102 _ A4.out).mono ?_); rintro e w12 ⟨rfl, hb⟩; have n0_ := zA (zV qB hb); clear HB; have HB := n0_; clear n0_; (try clear hb); (try clear hb2); (try clear hk); (try clear hi); have p103 : 0 ≤ (x3_1 : Int) := of_decide_eq_true qA; have q103 : x3_1 < (l0.length : Int) := of_decide_eq_true qA; obtain ⟨ad103, e103, hx103_0⟩ := Kd.at_string HR0.out x3_1 p103 q103; obtain rfl : ad101 = ad103 := (by injection e103); replace hx103_0 := (HB.out.cell (zCq w _ hx103_0)).trans hx103_0; replace p103 := eq_true p103; replace q103 := eq_true q103; have p104 : 0 ≤ ((ji7) : Int) := of_decide_eq_true qA; have q104 : (ji7) < (l0.length : Int) := of_decide_eq_true qA; obtain ⟨ad104, e104, hx104_0⟩ := Kd.at_string HR0.out (ji7) p104 q104; obtain rfl : ad101 = ad104 := (by injection e104); replace hx104_0 := (HB.out.cell (zCq w _ hx104_0)).trans hx104_0; replace p104 := eq_true p104; replace q104 := eq_true q104)); repeat (go_quiet (first | (go_at_call 171; (with_reducible refine (backhaulref01_Check.calls k1 (rdOf ByteArray.empty l0 x3_1) t102 _ A4.out).mono ?_); rintro e w12 ⟨rfl, hb⟩; have n0_ := zA (zV qB hb); clear HB; have HB := n0_; clear n0_; (try clear hb); (try clear hb2); (try clear hk); (try clear hi); have p103 : 0 ≤ (x3_1 : Int) := of_decide_eq_true qA; have q103 : x3_1 < (l0.length : Int) := of_decide_eq_true qA; obtain ⟨ad103, e103, hx103_0⟩ := Kd.at_string HR0.out x3_1 p103 q103; obtain rfl : ad101 = ad103 := (by injection e103); replace hx103_0 := (HB.out.cell (zCq w _ hx103_0)).trans hx103_0; replace p103 := eq_true p103; replace q103 := eq_true q103; have p104 : 0 ≤ ((ji7) : Int) := of_decide_eq_true qA; have q104 : (ji7) < (l0.length : Int) := of_decide_eq_true qA; obtain ⟨ad104, e104, hx104_0⟩ := Kd.at_string HR0.out (ji7) p104 q104; obtain rfl : ad101 = ad104 := (by injection e104); replace hx104_0 := (HB.out.cell (zCq w _ hx104_0)).trans hx104_0; replace p104 := eq_true p104; replace q104 := eq_true q104)); try go_wp2_with (first | (go_at_call 171; (with_reducible refine (backhaulref01_Check.calls k1 (rdOf ByteArray.empty l0 x3_1) t102 _ A4.out).mono ?_); rintro e w12 ⟨rfl, hb⟩; have n0_ := zA (zV qB hb); clear HB; have HB := n0_; clear n0_; (try clear hb); (try clear hb2); (try clear hk); (try clear hi); have p103 : 0 ≤ (x3_1 : Int) := of_decide_eq_true qA; have q103 : x3_1 < (l0.length : Int) := of_decide_eq_true qA; obtain ⟨ad103, e103, hx103_0⟩ := Kd.at_string HR0.out x3_1 p103 q103; obtain rfl : ad101 = ad103 := (by injection e103); replace hx103_0 := (HB.out.cell (zCq w _ hx103_0)).trans hx103_0; replace p103 := eq_true p103; replace q103 := eq_true q103; have p104 : 0 ≤ ((ji7) : Int) := of_decide_eq_true qA; have q104 : (ji7) < (l0.length : Int) := of_decide_eq_true qA; obtain ⟨ad104, e104, hx104_0⟩ := Kd.at_string HR0.out (ji7) p104 q104; obtain rfl : ad101 = ad104 := (by injection e104); replace hx104_0 := (HB.out.cell (zCq w _ hx104_0)).trans hx104_0; replace p104 := eq_true p104; replace q104 := eq_true q104)))
                  go_ret; exact ⟨by first | rfl | (simp [errW_none, errW_some] <;> rfl) | (simp only [← hji7]; first | rfl | (simp [errW_none, errW_some] <;> rfl)) | (simp [*, errW_none, errW_some] <;> rfl), qB⟩
                rw [if_neg c9] at H; exact absurd H (by simp)
              rw [if_neg c8] at H; exact absurd H (by simp)
            rw [if_neg c6] at H; have c6b0 : decide (0 < x3_1) = false := zGq c6; clear c6; have H' := zA H; clear H; have p101 : 0 ≤ (x3_1 : Int) := of_decide_eq_true qA; have q101 : x3_1 < (l0.length : Int) := of_decide_eq_true qA; obtain ⟨ad101, e101, hx101_0⟩ := Kd.at_string HR0.out x3_1 p101 q101; cases e101
            replace hx101_0 := (HB.out.cell (zCq w _ hx101_0)).trans hx101_0; replace p101 := eq_true p101; replace q101 := eq_true q101; go_wp2_with (first | (go_at_call 171; (with_reducible refine (backhaulref01_Check.calls k1 (rdOf ByteArray.empty l0 x3_1) t102 _ A4.out).mono ?_); rintro e w13 ⟨rfl, hb⟩; have n0_ := zA (zV qB hb); clear HB; have HB := n0_; clear n0_; (try clear hb); (try clear hb2); (try clear hk); (try clear hi))); repeat (go_quiet (first | (go_at_call 171; (with_reducible refine (backhaulref01_Check.calls k1 (rdOf ByteArray.empty l0 x3_1) t102 _ A4.out).mono ?_); rintro e w13 ⟨rfl, hb⟩; have n0_ := zA (zV qB hb); clear HB; have HB := n0_; clear n0_; (try clear hb); (try clear hb2); (try clear hk); (try clear hi))); try go_wp2_with (first | (go_at_call 171; (with_reducible refine (backhaulref01_Check.calls k1 (rdOf ByteArray.empty l0 x3_1) t102 _ A4.out).mono ?_); rintro e w13 ⟨rfl, hb⟩; have n0_ := zA (zV qB hb); clear HB; have HB := n0_; clear n0_; (try clear hb); (try clear hb2); (try clear hk); (try clear hi))))
            go_roundg k1
            case measure => have := HK1.out; omega
            case rel => exact ⟨(wrap64 (x3_1 + 1)), (by first | rfl | (simp; done) | (simp [*]; done)), H', ⟨by have := HK1.out; omega⟩, ⟨qB⟩⟩
          rw [if_neg c5] at H; have c5b0 : (t102 == 0) = false := beq_eq_false_iff_ne.mpr c5; have c5b1 : (t102 != 0) = true := bne_iff_ne.mpr c5; obtain rfl := zKq H; have p101 : 0 ≤ (x3_1 : Int) := of_decide_eq_true qA; have q101 : x3_1 < (l0.length : Int) := of_decide_eq_true qA; obtain ⟨ad101, e101, hx101_0⟩ := Kd.at_string HR0.out x3_1 p101 q101; cases e101
          replace hx101_0 := (HB.out.cell (zCq w _ hx101_0)).trans hx101_0; replace p101 := eq_true p101; replace q101 := eq_true q101; go_wp2_with (first | (go_at_call 171; (with_reducible refine (backhaulref01_Check.calls k1 (rdOf ByteArray.empty l0 x3_1) t102 _ A4.out).mono ?_); rintro e w14 ⟨rfl, hb⟩; have n0_ := zA (zV qB hb); clear HB; have HB := n0_; clear n0_; (try clear hb); (try clear hb2); (try clear hk); (try clear hi))); repeat (go_quiet (first | (go_at_call 171; (with_reducible refine (backhaulref01_Check.calls k1 (rdOf ByteArray.empty l0 x3_1) t102 _ A4.out).mono ?_); rintro e w14 ⟨rfl, hb⟩; have n0_ := zA (zV qB hb); clear HB; have HB := n0_; clear n0_; (try clear hb); (try clear hb2); (try clear hk); (try clear hi))); try go_wp2_with (first | (go_at_call 171; (with_reducible refine (backhaulref01_Check.calls k1 (rdOf ByteArray.empty l0 x3_1) t102 _ A4.out).mono ?_); rintro e w14 ⟨rfl, hb⟩; have n0_ := zA (zV qB hb); clear HB; have HB := n0_; clear n0_; (try clear hb); (try clear hb2); (try clear hk); (try clear hi))))
          go_ret; exact ⟨qE, qB⟩
        rw [if_neg c3] at H; exact absurd H (by simp)
      rw [if_neg c2] at H; have c2b0 : decide (x3_1 < (l0.length : Int)) = false := zGq c2; clear c2; obtain rfl := zKq H; go_wp2; repeat (go_quiet (fail); try go_wp2)
      go_ret; exact ⟨qE, qB⟩
mutual
def backhaulref21_Check.j0 : Nat → Bool → Int → Int → Int → Int → List ByteArray → Option (Int)
  | 0, _, _, _, _, _, _ => none
  | k + 1, x10, x102000, x102001, x102002, x102003, x102004 => if x10 = true then (some 2) else (if x102001 < 0 then (backhaulref21_Check.j1 k true x102000 x102001 x102002 x102003 x102004) else (if x102001 > 1000000000000 then (backhaulref21_Check.j1 k true x102000 x102001 x102002 x102003 x102004) else (if x102002 < 0 then (backhaulref21_Check.j1 k true x102000 x102001 x102002 x102003 x102004) else (if x102002 > x102001 then (backhaulref21_Check.j1 k true x102000 x102001 x102002 x102003 x102004) else (if x102003 < 0 then (backhaulref21_Check.j1 k true x102000 x102001 x102002 x102003 x102004) else (if x102003 > 1000000000000 then (backhaulref21_Check.j1 k true x102000 x102001 x102002 x102003 x102004) else (backhaulref21_Check.j1 k (decide ((wrap64 (x102002 + x102003)) > 1000000000000)) x102000 x102001 x102002 x102003 x102004)))))))
def backhaulref21_Check.j1 : Nat → Bool → Int → Int → Int → Int → List ByteArray → Option (Int)
  | 0, _, _, _, _, _, _ => none
  | k + 1, x48, x102000, x102001, x102002, x102003, x102004 => if x48 = true then (some 8) else (if (x102004.length : Int) < 1 then (some 9) else (if (x102004.length : Int) > 20 then (some 9) else ((backhaulref01_Row.f k x102004).bind fun t102 => (if t102 = 0 then (some 0) else (some 9)))))
end
def backhaulref21_Check.f (k : Nat) (a0_0 : Int) (a0_1 : Int) (a0_2 : Int) (a0_3 : Int) (l0_4 : List ByteArray) : Option (Int) := if a0_0 < 1 then (backhaulref21_Check.j0 k true a0_0 a0_1 a0_2 a0_3 l0_4) else (backhaulref21_Check.j0 k (decide (a0_0 > 999999)) a0_0 a0_1 a0_2 a0_3 l0_4)
theorem backhaulref21_Check.mono_l : ∀ k, (∀ y0 y1 y2 y3 y4 y5, LeO (backhaulref21_Check.j0 k y0 y1 y2 y3 y4 y5) (backhaulref21_Check.j0 (k + 1) y0 y1 y2 y3 y4 y5)) ∧ (∀ y0 y1 y2 y3 y4 y5, LeO (backhaulref21_Check.j1 k y0 y1 y2 y3 y4 y5) (backhaulref21_Check.j1 (k + 1) y0 y1 y2 y3 y4 y5))
  | 0 => ⟨fun _ _ _ _ _ _ r h => by simp [backhaulref21_Check.j0] at h, fun _ _ _ _ _ _ r h => by simp [backhaulref21_Check.j1] at h⟩
  | k + 1 => by
    obtain ⟨ih0, ih1⟩ := backhaulref21_Check.mono_l k
    refine ⟨?_, ?_⟩
    · intro y0 y1 y2 y3 y4 y5
      unfold backhaulref21_Check.j0
      repeat' first
      | (with_reducible exact ih0 _ _ _ _ _ _)
      | (with_reducible exact ih1 _ _ _ _ _ _)
      | (with_reducible exact backhaulref01_Row.mono _ _)
      | (with_reducible exact LeO.refl _)
      | (with_reducible exact LeO.none _)
      | (with_reducible refine LeO.ite ?_ ?_)
      | (with_reducible refine LeO.bind ?_ (fun _ => ?_))
      | exact ih0 _ _ _ _ _ _
      | exact ih1 _ _ _ _ _ _
      | exact backhaulref01_Row.mono _ _
      | exact LeO.none _
      | refine LeO.ite ?_ ?_
      | refine LeO.bind ?_ (fun _ => ?_)
    intro y0 y1 y2 y3 y4 y5
    unfold backhaulref21_Check.j1
    repeat' first
    | (with_reducible exact ih0 _ _ _ _ _ _)
    | (with_reducible exact ih1 _ _ _ _ _ _)
    | (with_reducible exact backhaulref01_Row.mono _ _)
    | (with_reducible exact LeO.refl _)
    | (with_reducible exact LeO.none _)
    | (with_reducible refine LeO.ite ?_ ?_)
    | (with_reducible refine LeO.bind ?_ (fun _ => ?_))
    | exact ih0 _ _ _ _ _ _
    | exact ih1 _ _ _ _ _ _
    | exact backhaulref01_Row.mono _ _
    | exact LeO.none _
    | refine LeO.ite ?_ ?_
    | refine LeO.bind ?_ (fun _ => ?_)
theorem backhaulref21_Check.mono : ∀ a0 a1 a2 a3 a4 k, LeO (backhaulref21_Check.f k a0 a1 a2 a3 a4) (backhaulref21_Check.f (k + 1) a0 a1 a2 a3 a4) := by
  intro a0 a1 a2 a3 a4 k
  obtain ⟨ih0, ih1⟩ := backhaulref21_Check.mono_l k
  unfold backhaulref21_Check.f
  repeat' first
      | (with_reducible exact ih0 _ _ _ _ _ _)
      | (with_reducible exact ih1 _ _ _ _ _ _)
      | (with_reducible exact backhaulref01_Row.mono _ _)
      | (with_reducible exact LeO.refl _)
      | (with_reducible exact LeO.none _)
      | (with_reducible refine LeO.ite ?_ ?_)
      | (with_reducible refine LeO.bind ?_ (fun _ => ?_))
      | exact ih0 _ _ _ _ _ _
      | exact ih1 _ _ _ _ _ _
      | exact backhaulref01_Row.mono _ _
      | exact LeO.none _
      | refine LeO.ite ?_ ?_
      | refine LeO.bind ?_ (fun _ => ?_)
set_option maxHeartbeats 8000000 in
set_option maxRecDepth 100000 in
theorem backhaulref21_Check.calls (k : Nat) (a0_0 : Int) (a0_1 : Int) (a0_2 : Int) (a0_3 : Int) (A0_4 : Option Addr) (c0_4 : Nat) (l0_4 : List ByteArray) (r : Int) (w : World) (hr0_4 : Kd.C Kd.string w A0_4 l0_4.length l0_4) (hc0_4 : l0_4.length ≤ c0_4) (h : backhaulref21_Check.f k a0_0 a0_1 a0_2 a0_3 l0_4 = some r) :
    Calls Try.prog 223 #[.agg #[.int .i64 a0_0, .int .i64 a0_1, .int .i64 a0_2, .int .i64 a0_3, .slice A0_4 l0_4.length c0_4]] w fun e w' => e = .returned (.int .i64 r) ∧ Below w.heap.size w w' := by
  have hu216 := Try.underlying216
  have HR0_4 := zA hr0_4
  have HC0_4 := zA hc0_4
  clear hr0_4 hc0_4
  have HB := zA (Below.refl w.heap.size w)
  have H : (if a0_0 < 1 then (backhaulref21_Check.j0 k true a0_0 a0_1 a0_2 a0_3 l0_4) else (backhaulref21_Check.j0 k (decide (a0_0 > 999999)) a0_0 a0_1 a0_2 a0_3 l0_4)) = some r := h
  clear h
  have HC2 := zA H
  clear H
  go_enter Try.func223, Try.ntmps223
  go_upto_region 1 with (first | ((with_reducible refine gate_dst (N := 1) rfl ?_); (try (refine gate_guard (by rfl) ?_; dsimp only)); refine box_event qr (N := 1) qr (cs := #[.int .i64 a0_0, .int .i64 a0_1, .int .i64 a0_2, .int .i64 a0_3, .slice A0_4 l0_4.length c0_4]) (t := 216) qg ?_; intro gb101 hg w3 hbox hb; have n0_ := zA (zV qB hb); have n1_ := zA (hbox); have n2_ := zA ((qS : w.heap.size ≤ gb101)); have n3_ := zA ((qS : w.heap.size ≤ gb101)); clear HB; have HB := n0_; have BK101 := n1_; have GW101 := n2_; have GE101 := n3_; clear n0_ n1_ n2_ n3_ hb hbox hg))
  (try simp only [Act.put, zH, zI, zJ])
  go_cut [10] (fun v10 wc => ∃ (kq : Nat) (x10_1 : Bool), v10 = .bool x10_1 ∧ Aside0 (backhaulref21_Check.j0 kq x10_1 a0_0 a0_1 a0_2 a0_3 l0_4 = some r) ∧ Aside0 (kq ≤ k) ∧ Aside0 (wc.heap[gb101]? = some (.cells #[.int .i64 a0_0, .int .i64 a0_1, .int .i64 a0_2, .int .i64 a0_3, (.slice A0_4 l0_4.length c0_4)] 216 (0, 0))) ∧ Aside0 (Below w.heap.size w wc))
  case first =>
    have H := HC2.out; clear HC2; by_cases c4 : a0_0 < 1
    · rw [if_pos c4] at H
      have c4b0 : decide (a0_0 < 1) = true := zFq c4; clear c4; (first | rw [c4b0] | (simp only [i64_w, i32_w]; rw [c4b0]) | skip)
      have H' := zA H; clear H; obtain ⟨_, _, _, _, _, _, _, _, _, _⟩ := qc5f BK101.out; go_wp2; go_meet
      case rel => exact ⟨_, (true), (by first | rfl | (simp; done) | (simp [*]; done)), H', ⟨by first | omega | exact Nat.le_refl _⟩, ⟨by exact BK101.out⟩, ⟨qB⟩⟩
    rw [if_neg c4] at H; have c4b0 : decide (a0_0 < 1) = false := zGq c4; clear c4; (first | rw [c4b0] | (simp only [i64_w, i32_w]; rw [c4b0]) | skip)
    have H' := zA H; clear H; obtain ⟨_, _, _, _, _, _, _, _, _, _⟩ := qc5f BK101.out; go_wp2; go_meet
    case rel => exact ⟨_, (decide (a0_0 > 999999)), (by first | rfl | (simp; done) | (simp [*]; done)), H', ⟨by first | omega | exact Nat.le_refl _⟩, ⟨by exact BK101.out⟩, ⟨qB⟩⟩
  case rest =>
    clear HC2; try clear c2
    try clear p2
    try clear c4
    try clear c4b0
    obtain ⟨kq, x10_1, rfl, HA, HJ1, BK101, HB⟩ := hcut; cases kq with
    | zero => exact absurd HA.out (by simp [backhaulref21_Check.j0])
    | succ kj1 =>
      have H := HA.out; clear HA; simp only [backhaulref21_Check.j0] at H; by_cases c7 : x10_1 = true
      · subst c7
        have H1 : (some 2) = some r := by first | (rw [if_pos rfl] at H; exact H) | rfl
        clear H; have H := H1; clear H1; obtain rfl := zKq H; go_wp2; go_ret; exact ⟨qE, qB⟩
      replace c7 := Bool.eq_false_iff.mpr c7; subst c7; have H1 : (if a0_1 < 0 then (backhaulref21_Check.j1 kj1 true a0_0 a0_1 a0_2 a0_3 l0_4) else (if a0_1 > 1000000000000 then (backhaulref21_Check.j1 kj1 true a0_0 a0_1 a0_2 a0_3 l0_4) else (if a0_2 < 0 then (backhaulref21_Check.j1 kj1 true a0_0 a0_1 a0_2 a0_3 l0_4) else (if a0_2 > a0_1 then (backhaulref21_Check.j1 kj1 true a0_0 a0_1 a0_2 a0_3 l0_4) else (if a0_3 < 0 then (backhaulref21_Check.j1 kj1 true a0_0 a0_1 a0_2 a0_3 l0_4) else (if a0_3 > 1000000000000 then (backhaulref21_Check.j1 kj1 true a0_0 a0_1 a0_2 a0_3 l0_4) else (backhaulref21_Check.j1 kj1 (decide ((wrap64 (a0_2 + a0_3)) > 1000000000000)) a0_0 a0_1 a0_2 a0_3 l0_4))))))) = some r := by first | (rw [if_neg (show ¬ (false = true) by decide)] at H; exact H) | rfl
      clear H; have H := H1; clear H1; have HC8 := zA H; clear H; go_upto_region 3 with (fail)
      go_cut [48] (fun v48 wc => ∃ (kq : Nat) (x48_7 : Bool), v48 = .bool x48_7 ∧ Aside0 (backhaulref21_Check.j1 kq x48_7 a0_0 a0_1 a0_2 a0_3 l0_4 = some r) ∧ Aside0 (kq ≤ kj1) ∧ Aside0 (wc.heap[gb101]? = some (.cells #[.int .i64 a0_0, .int .i64 a0_1, .int .i64 a0_2, .int .i64 a0_3, (.slice A0_4 l0_4.length c0_4)] 216 (0, 0))) ∧ Aside0 (Below w.heap.size w wc))
      case first =>
        have H := HC8.out; clear HC8; by_cases c9 : a0_1 < 0
        · rw [if_pos c9] at H
          have c9b0 : decide (a0_1 < 0) = true := zFq c9; clear c9; (first | rw [c9b0] | (simp only [i64_w, i32_w]; rw [c9b0]) | skip)
          have H' := zA H; clear H; obtain ⟨_, _, _, _, _, _, _, _, _, _⟩ := qc5f BK101.out; go_wp2; go_meet
          case rel => exact ⟨_, (true), (by first | rfl | (simp; done) | (simp [*]; done)), H', ⟨by have := HJ1.out; first | omega | exact Nat.le_refl _⟩, ⟨by exact BK101.out⟩, ⟨qB⟩⟩
        rw [if_neg c9] at H; have c9b0 : decide (a0_1 < 0) = false := zGq c9; clear c9; (first | rw [c9b0] | (simp only [i64_w, i32_w]; rw [c9b0]) | skip)
        by_cases c11 : a0_1 > 1000000000000
        · rw [if_pos c11] at H
          have c11b0 : decide (1000000000000 < a0_1) = true := zFq c11; clear c11; have H' := zA H; clear H; obtain ⟨_, _, _, _, _, _, _, _, _, _⟩ := qc5f BK101.out; go_wp2; go_meet
          case rel => exact ⟨_, (true), (by first | rfl | (simp; done) | (simp [*]; done)), H', ⟨by have := HJ1.out; first | omega | exact Nat.le_refl _⟩, ⟨by exact BK101.out⟩, ⟨qB⟩⟩
        rw [if_neg c11] at H; have c11b0 : decide (1000000000000 < a0_1) = false := zGq c11; clear c11; by_cases c13 : a0_2 < 0
        · rw [if_pos c13] at H
          have c13b0 : decide (a0_2 < 0) = true := zFq c13; clear c13; have H' := zA H; clear H; obtain ⟨_, _, _, _, _, _, _, _, _, _⟩ := qc5f BK101.out; go_wp2; go_meet
          case rel => exact ⟨_, (true), (by first | rfl | (simp; done) | (simp [*]; done)), H', ⟨by have := HJ1.out; first | omega | exact Nat.le_refl _⟩, ⟨by exact BK101.out⟩, ⟨qB⟩⟩
        rw [if_neg c13] at H; have c13b0 : decide (a0_2 < 0) = false := zGq c13; clear c13; by_cases c15 : a0_2 > a0_1
        · rw [if_pos c15] at H
          have c15b0 : decide (a0_1 < a0_2) = true := zFq c15; clear c15; have H' := zA H; clear H; obtain ⟨_, _, _, _, _, _, _, _, _, _⟩ := qc5f BK101.out; go_wp2; go_meet
          case rel => exact ⟨_, (true), (by first | rfl | (simp; done) | (simp [*]; done)), H', ⟨by have := HJ1.out; first | omega | exact Nat.le_refl _⟩, ⟨by exact BK101.out⟩, ⟨qB⟩⟩
        rw [if_neg c15] at H; have c15b0 : decide (a0_1 < a0_2) = false := zGq c15; clear c15; by_cases c17 : a0_3 < 0
        · rw [if_pos c17] at H
          have c17b0 : decide (a0_3 < 0) = true := zFq c17; clear c17; have H' := zA H; clear H; obtain ⟨_, _, _, _, _, _, _, _, _, _⟩ := qc5f BK101.out; go_wp2; go_meet
          case rel => exact ⟨_, (true), (by first | rfl | (simp; done) | (simp [*]; done)), H', ⟨by have := HJ1.out; first | omega | exact Nat.le_refl _⟩, ⟨by exact BK101.out⟩, ⟨qB⟩⟩
        rw [if_neg c17] at H; have c17b0 : decide (a0_3 < 0) = false := zGq c17; clear c17; by_cases c19 : a0_3 > 1000000000000
        · rw [if_pos c19] at H
          have c19b0 : decide (1000000000000 < a0_3) = true := zFq c19; clear c19; have H' := zA H; clear H; obtain ⟨_, _, _, _, _, _, _, _, _, _⟩ := qc5f BK101.out; go_wp2; go_meet
          case rel => exact ⟨_, (true), (by first | rfl | (simp; done) | (simp [*]; done)), H', ⟨by have := HJ1.out; first | omega | exact Nat.le_refl _⟩, ⟨by exact BK101.out⟩, ⟨qB⟩⟩
        rw [if_neg c19] at H; have c19b0 : decide (1000000000000 < a0_3) = false := zGq c19; clear c19; have H' := zA H; clear H; obtain ⟨_, _, _, _, _, _, _, _, _, _⟩ := qc5f BK101.out; go_wp2; go_meet
        case rel => exact ⟨_, (decide ((wrap64 (a0_2 + a0_3)) > 1000000000000)), (by first | rfl | (simp; done) | (simp [*]; done)), H', ⟨by have := HJ1.out; first | omega | exact Nat.le_refl _⟩, ⟨by exact BK101.out⟩, ⟨qB⟩⟩
      case rest =>
        clear HC8; try clear c1
        try clear c2
        try clear p2
        try clear c4
        try clear c4b0
        try clear p6
        try clear c7
        try clear c9
        try clear c9b0
        try clear c11
        try clear c11b0
        try clear c13
        try clear c13b0
        try clear c15
        try clear c15b0
        try clear c17
        try clear c17b0
        try clear c19
        try clear c19b0
        try clear p2
        obtain ⟨kq, x48_7, rfl, HA, HJ7, BK101, HB⟩ := hcut; cases kq with
        | zero => exact absurd HA.out (by simp [backhaulref21_Check.j1])
        | succ kj7 =>
          have H := HA.out; clear HA; simp only [backhaulref21_Check.j1] at H; by_cases c22 : x48_7 = true
          · subst c22
            have H1 : (some 8) = some r := by first | (rw [if_pos rfl] at H; exact H) | rfl
            clear H; have H := H1; clear H1; obtain rfl := zKq H; go_wp2; go_ret; exact ⟨qE, qB⟩
          replace c22 := Bool.eq_false_iff.mpr c22; subst c22; have H1 : (if (l0_4.length : Int) < 1 then (some 9) else (if (l0_4.length : Int) > 20 then (some 9) else ((backhaulref01_Row.f kj7 l0_4).bind fun t102 => (if t102 = 0 then (some 0) else (some 9))))) = some r := by first | (rw [if_neg (show ¬ (false = true) by decide)] at H; exact H) | rfl
          clear H; have H := H1; clear H1; by_cases c23 : (l0_4.length : Int) < 1
          · rw [if_pos c23] at H
            have c23b0 : decide ((l0_4.length : Int) < 1) = true := zFq c23; have c23b1 : decide (l0_4.length < 1) = true := zFq (by omega); clear c23; obtain rfl := zKq H; obtain ⟨_, _, _, _, _, _, _, _, _, _⟩ := qc5f BK101.out; go_wp2; go_ret; exact ⟨qE, qB⟩
          rw [if_neg c23] at H; have c23b0 : decide ((l0_4.length : Int) < 1) = false := zGq c23; have c23b1 : decide (l0_4.length < 1) = false := zGq (by omega); clear c23; by_cases c25 : (l0_4.length : Int) > 20
          · rw [if_pos c25] at H
            have c25b0 : decide (20 < (l0_4.length : Int)) = true := zFq c25; have c25b1 : decide (20 < l0_4.length) = true := zFq (by omega); clear c25; obtain rfl := zKq H; obtain ⟨_, _, _, _, _, _, _, _, _, _⟩ := qc5f BK101.out; go_wp2; go_ret; exact ⟨qE, qB⟩
          rw [if_neg c25] at H; have c25b0 : decide (20 < (l0_4.length : Int)) = false := zGq c25; have c25b1 : decide (20 < l0_4.length) = false := zGq (by omega); clear c25; replace H := Option.bind_eq_some_iff.mp H; obtain ⟨t102, A270, H⟩ := H; replace H : (if t102 = 0 then (some 0) else (some 9)) = some r := H; have A27 := zA A270; clear A270; by_cases c28 : t102 = 0
          · rw [if_pos c28] at H
            have c28b0 : (t102 == 0) = true := beq_iff_eq.mpr c28; have c28b1 : (t102 != 0) = false := bne_eq_false_iff_eq.mpr c28; clear c28; obtain rfl := zKq H; obtain ⟨_, _, _, _, _, _, _, _, _, _⟩ := qc5f BK101.out; go_wp2_with (first | (go_at_call 159; (with_reducible refine (backhaulref01_Row.calls kj7 _ _ l0_4 t102 _ ?side1 ?side2 A27.out).mono ?_); (case side1 => exact qC (Kd.C_below HR0_4.out HB.out)); (case side2 => exact HC0_4.out); rintro e w30 ⟨rfl, hb⟩; have n0_ := zA (qX BK101.out hb); have n1_ := zA (zV qB hb); clear BK101 HB; have BK101 := n0_; have HB := n1_; clear n0_ n1_; (try clear hb); (try clear hb2); (try clear hk); (try clear hi))); go_ret; exact ⟨qE, qB⟩
          rw [if_neg c28] at H; have c28b0 : (t102 == 0) = false := beq_eq_false_iff_ne.mpr c28; have c28b1 : (t102 != 0) = true := bne_iff_ne.mpr c28; obtain rfl := zKq H; obtain ⟨_, _, _, _, _, _, _, _, _, _⟩ := qc5f BK101.out; go_wp2_with (first | (go_at_call 159; (with_reducible refine (backhaulref01_Row.calls kj7 _ _ l0_4 t102 _ ?side1 ?side2 A27.out).mono ?_); (case side1 => exact qC (Kd.C_below HR0_4.out HB.out)); (case side2 => exact HC0_4.out); rintro e w32 ⟨rfl, hb⟩; have n0_ := zA (qX BK101.out hb); have n1_ := zA (zV qB hb); clear BK101 HB; have BK101 := n0_; have HB := n1_; clear n0_ n1_; (try clear hb); (try clear hb2); (try clear hk); (try clear hi))); go_ret; exact ⟨qE, qB⟩
def backhaulref26_cost.l0 : Nat → List (S216) → Int → Int → Option (Int)
  | 0, _, _, _ => none
  | k + 1, x0, x3, x4 => if x4 < (x0.length : Int) then (if 0 ≤ x4 then (if (wrap64 ((wrap64 (x3 + ((rd_T216 x0 x4).f2))) + ((rd_T216 x0 x4).f3))) > 1000000000000 then (some (-1)) else (backhaulref26_cost.l0 k x0 (wrap64 ((wrap64 (x3 + ((rd_T216 x0 x4).f2))) + ((rd_T216 x0 x4).f3))) (wrap64 (x4 + 1)))) else (none)) else (some x3)
def backhaulref26_cost.f (k : Nat) (l0 : List (S216)) : Option (Int) := backhaulref26_cost.l0 k l0 0 0
theorem backhaulref26_cost.mono_l : ∀ k, (∀ y0 y1 y2, LeO (backhaulref26_cost.l0 k y0 y1 y2) (backhaulref26_cost.l0 (k + 1) y0 y1 y2))
  | 0 => fun _ _ _ r h => by simp [backhaulref26_cost.l0] at h
  | k + 1 => by
    have ih0 := backhaulref26_cost.mono_l k
    intro y0 y1 y2
    unfold backhaulref26_cost.l0
    repeat' first
    | (with_reducible exact ih0 _ _ _)
    | (with_reducible exact LeO.refl _)
    | (with_reducible exact LeO.none _)
    | (with_reducible refine LeO.ite ?_ ?_)
    | (with_reducible refine LeO.bind ?_ (fun _ => ?_))
    | exact ih0 _ _ _
    | exact LeO.none _
    | refine LeO.ite ?_ ?_
    | refine LeO.bind ?_ (fun _ => ?_)
theorem backhaulref26_cost.mono : ∀ a0 k, LeO (backhaulref26_cost.f k a0) (backhaulref26_cost.f (k + 1) a0) := by
  intro a0 k
  have ih0 := backhaulref26_cost.mono_l k
  unfold backhaulref26_cost.f
  repeat' first
      | (with_reducible exact ih0 _ _ _)
      | (with_reducible exact LeO.refl _)
      | (with_reducible exact LeO.none _)
      | (with_reducible refine LeO.ite ?_ ?_)
      | (with_reducible refine LeO.bind ?_ (fun _ => ?_))
      | exact ih0 _ _ _
      | exact LeO.none _
      | refine LeO.ite ?_ ?_
      | refine LeO.bind ?_ (fun _ => ?_)
set_option maxHeartbeats 8000000 in
set_option maxRecDepth 100000 in
theorem backhaulref26_cost.calls (k : Nat) (A0 : Option Addr) (c0 : Nat) (l0 : List (S216)) (r : Int) (w : World) (hr0 : Kd.C k216 w A0 l0.length l0) (hc0 : l0.length ≤ c0) (h : backhaulref26_cost.f k l0 = some r) :
    Calls Try.prog 224 #[.slice A0 l0.length c0] w fun e w' => e = .returned (.int .i64 r) ∧ Drawn0 w w' := by
  have HR0 := zA hr0
  have HC0 := zA hc0
  clear hr0 hc0
  have H : (backhaulref26_cost.l0 k l0 0 0) = some r := h
  clear h
  have H' := zA H
  clear H
  go_enter Try.func224, Try.ntmps224
  go_wp2
  repeat (go_quiet (fail); try go_wp2)
  go_loopg [3, 4] k (fun kq v3 v4 w' => ∃ (x3_1 : Int) (x4_1 : Int), v3 = .int .i64 x3_1 ∧ v4 = .int .i64 x4_1 ∧ Aside0 (backhaulref26_cost.l0 kq l0 x3_1 x4_1 = some r) ∧ Aside0 (kq ≤ k) ∧ Drawn0 w w')
  case atStart => exact ⟨(0), (0), (by first | rfl | (simp; done) | (simp [*]; done)), (by first | rfl | (simp; done) | (simp [*]; done)), H', ⟨Nat.le_refl _⟩, by repeat (first | exact Drawn0.refl _ | apply Drawn0.step)⟩
  case round =>
    clear H'; obtain ⟨x3_1, x4_1, rfl, rfl, HA, HK1, ⟨m1, rfl⟩⟩ := hrel; cases gk with
    | zero => exact absurd HA.out (by simp [backhaulref26_cost.l0])
    | succ k1 =>
      have H := HA.out; clear HA; simp only [backhaulref26_cost.l0] at H; by_cases c2 : x4_1 < (l0.length : Int)
      · rw [if_pos c2] at H
        have c2b0 : decide (x4_1 < (l0.length : Int)) = true := zFq c2; clear c2; by_cases c3 : 0 ≤ x4_1
        · rw [if_pos c3] at H
          have c3b0 : decide (0 ≤ x4_1) = true := zFq c3; clear c3; by_cases c4 : (wrap64 ((wrap64 (x3_1 + ((rd_T216 l0 x4_1).f2))) + ((rd_T216 l0 x4_1).f3))) > 1000000000000
          · rw [if_pos c4] at H
            have c4b0 : decide (1000000000000 < (wrap64 ((wrap64 (x3_1 + ((rd_T216 l0 x4_1).f2))) + ((rd_T216 l0 x4_1).f3)))) = true := zFq c4; clear c4; obtain rfl := zKq H; have p101 : 0 ≤ (x4_1 : Int) := of_decide_eq_true qA; have q101 : x4_1 < (l0.length : Int) := of_decide_eq_true qA; obtain ⟨ad101, A101_4, c101_4, e101, hx101_0, hx101_1, hx101_2, hx101_3, hx101_4, hl101_4, hi101_4⟩ := at_T216 HR0.out x4_1 p101 q101; cases e101
            have HR101_4 := zA hi101_4; have HC101_4 := zA hl101_4; clear hi101_4 hl101_4; replace p101 := eq_true p101; replace q101 := eq_true q101; have p102 : 0 ≤ (x4_1 : Int) := of_decide_eq_true qA; have q102 : x4_1 < (l0.length : Int) := of_decide_eq_true qA; obtain ⟨ad102, A102_4, c102_4, e102, hx102_0, hx102_1, hx102_2, hx102_3, hx102_4, hl102_4, hi102_4⟩ := at_T216 HR0.out x4_1 p102 q102; obtain rfl : ad101 = ad102 := (by injection e102)
            have HR102_4 := zA hi102_4; have HC102_4 := zA hl102_4; clear hi102_4 hl102_4; replace p102 := eq_true p102; replace q102 := eq_true q102; have ea_ := zKq (hx101_4.symm.trans hx102_4); injection ea_ with ea_ en_ ec_
            subst ea_; subst ec_; clear en_; go_wp2; repeat (go_quiet (fail); try go_wp2)
            go_ret; exact ⟨by first | rfl | (simp; done) | (simp [*]; done), by repeat (first | exact Drawn0.refl _ | apply Drawn0.step)⟩
          rw [if_neg c4] at H; have c4b0 : decide (1000000000000 < (wrap64 ((wrap64 (x3_1 + ((rd_T216 l0 x4_1).f2))) + ((rd_T216 l0 x4_1).f3)))) = false := zGq c4; clear c4; have H' := zA H; clear H; have p101 : 0 ≤ (x4_1 : Int) := of_decide_eq_true qA; have q101 : x4_1 < (l0.length : Int) := of_decide_eq_true qA; obtain ⟨ad101, A101_4, c101_4, e101, hx101_0, hx101_1, hx101_2, hx101_3, hx101_4, hl101_4, hi101_4⟩ := at_T216 HR0.out x4_1 p101 q101; cases e101
          have HR101_4 := zA hi101_4; have HC101_4 := zA hl101_4; clear hi101_4 hl101_4; replace p101 := eq_true p101; replace q101 := eq_true q101; have p102 : 0 ≤ (x4_1 : Int) := of_decide_eq_true qA; have q102 : x4_1 < (l0.length : Int) := of_decide_eq_true qA; obtain ⟨ad102, A102_4, c102_4, e102, hx102_0, hx102_1, hx102_2, hx102_3, hx102_4, hl102_4, hi102_4⟩ := at_T216 HR0.out x4_1 p102 q102; obtain rfl : ad101 = ad102 := (by injection e102)
          have HR102_4 := zA hi102_4; have HC102_4 := zA hl102_4; clear hi102_4 hl102_4; replace p102 := eq_true p102; replace q102 := eq_true q102; have ea_ := zKq (hx101_4.symm.trans hx102_4); injection ea_ with ea_ en_ ec_
          subst ea_; subst ec_; clear en_; go_wp2; repeat (go_quiet (fail); try go_wp2)
          go_roundg k1
          case measure => have := HK1.out; omega
          case rel => exact ⟨(wrap64 ((wrap64 (x3_1 + ((rd_T216 l0 x4_1).f2))) + ((rd_T216 l0 x4_1).f3))), (wrap64 (x4_1 + 1)), (by first | rfl | (simp; done) | (simp [*]; done)), (by first | rfl | (simp; done) | (simp [*]; done)), H', ⟨by have := HK1.out; omega⟩, by repeat (first | exact Drawn0.refl _ | apply Drawn0.step)⟩
        rw [if_neg c3] at H; exact absurd H (by simp)
      rw [if_neg c2] at H; have c2b0 : decide (x4_1 < (l0.length : Int)) = false := zGq c2; clear c2; obtain rfl := zKq H; go_wp2; repeat (go_quiet (fail); try go_wp2)
      go_ret; exact ⟨by first | rfl | (simp; done) | (simp [*]; done), by repeat (first | exact Drawn0.refl _ | apply Drawn0.step)⟩
mutual
def backhaulref26_twice.l0 : Nat → List ByteArray → Int → Option (Bool)
  | 0, _, _ => none
  | k + 1, x0, x3 => if x3 < (x0.length : Int) then (backhaulref26_twice.l1 k x0 x3 0) else (some false)
def backhaulref26_twice.l1 : Nat → List ByteArray → Int → Int → Option (Bool)
  | 0, _, _, _ => none
  | k + 1, x0, x3, x4 => if x4 < x3 then (if 0 ≤ x3 then (if x3 < (x0.length : Int) then (if 0 ≤ x4 then (if x4 < (x0.length : Int) then (if (rdOf ByteArray.empty x0 x3).toList = (rdOf ByteArray.empty x0 x4).toList then (some true) else (backhaulref26_twice.l1 k x0 x3 (wrap64 (x4 + 1)))) else (none)) else (none)) else (none)) else (none)) else (backhaulref26_twice.l0 k x0 (wrap64 (x3 + 1)))
end
def backhaulref26_twice.f (k : Nat) (l0 : List ByteArray) : Option (Bool) := backhaulref26_twice.l0 k l0 0
theorem backhaulref26_twice.mono_l : ∀ k, (∀ y0 y1, LeO (backhaulref26_twice.l0 k y0 y1) (backhaulref26_twice.l0 (k + 1) y0 y1)) ∧ (∀ y0 y1 y2, LeO (backhaulref26_twice.l1 k y0 y1 y2) (backhaulref26_twice.l1 (k + 1) y0 y1 y2))
  | 0 => ⟨fun _ _ r h => by simp [backhaulref26_twice.l0] at h, fun _ _ _ r h => by simp [backhaulref26_twice.l1] at h⟩
  | k + 1 => by
    obtain ⟨ih0, ih1⟩ := backhaulref26_twice.mono_l k
    refine ⟨?_, ?_⟩
    · intro y0 y1
      unfold backhaulref26_twice.l0
      repeat' first
      | (with_reducible exact ih0 _ _)
      | (with_reducible exact ih1 _ _ _)
      | (with_reducible exact LeO.refl _)
      | (with_reducible exact LeO.none _)
      | (with_reducible refine LeO.ite ?_ ?_)
      | (with_reducible refine LeO.bind ?_ (fun _ => ?_))
      | exact ih0 _ _
      | exact ih1 _ _ _
      | exact LeO.none _
      | refine LeO.ite ?_ ?_
      | refine LeO.bind ?_ (fun _ => ?_)
    intro y0 y1 y2
    unfold backhaulref26_twice.l1
    repeat' first
    | (with_reducible exact ih0 _ _)
    | (with_reducible exact ih1 _ _ _)
    | (with_reducible exact LeO.refl _)
    | (with_reducible exact LeO.none _)
    | (with_reducible refine LeO.ite ?_ ?_)
    | (with_reducible refine LeO.bind ?_ (fun _ => ?_))
    | exact ih0 _ _
    | exact ih1 _ _ _
    | exact LeO.none _
    | refine LeO.ite ?_ ?_
    | refine LeO.bind ?_ (fun _ => ?_)
theorem backhaulref26_twice.mono : ∀ a0 k, LeO (backhaulref26_twice.f k a0) (backhaulref26_twice.f (k + 1) a0) := by
  intro a0 k
  obtain ⟨ih0, ih1⟩ := backhaulref26_twice.mono_l k
  unfold backhaulref26_twice.f
  repeat' first
      | (with_reducible exact ih0 _ _)
      | (with_reducible exact ih1 _ _ _)
      | (with_reducible exact LeO.refl _)
      | (with_reducible exact LeO.none _)
      | (with_reducible refine LeO.ite ?_ ?_)
      | (with_reducible refine LeO.bind ?_ (fun _ => ?_))
      | exact ih0 _ _
      | exact ih1 _ _ _
      | exact LeO.none _
      | refine LeO.ite ?_ ?_
      | refine LeO.bind ?_ (fun _ => ?_)
set_option maxHeartbeats 8000000 in
set_option maxRecDepth 100000 in
theorem backhaulref26_twice.calls (k : Nat) (A0 : Option Addr) (c0 : Nat) (l0 : List ByteArray) (r : Bool) (w : World) (hr0 : Kd.C Kd.string w A0 l0.length l0) (hc0 : l0.length ≤ c0) (h : backhaulref26_twice.f k l0 = some r) :
    Calls Try.prog 225 #[.slice A0 l0.length c0] w fun e w' => e = .returned (.bool r) ∧ Drawn0 w w' := by
  have HR0 := zA hr0
  have HC0 := zA hc0
  clear hr0 hc0
  have H : (backhaulref26_twice.l0 k l0 0) = some r := h
  clear h
  have H' := zA H
  clear H
  go_enter Try.func225, Try.ntmps225
  go_wp2
  repeat (go_quiet (fail); try go_wp2)
  go_loopg [3] k (fun kq v3 w' => ∃ (x3_1 : Int), v3 = .int .i64 x3_1 ∧ Aside0 (backhaulref26_twice.l0 kq l0 x3_1 = some r) ∧ Aside0 (kq ≤ k) ∧ Drawn0 w w')
  case atStart => exact ⟨(0), (by first | rfl | (simp; done) | (simp [*]; done)), H', ⟨Nat.le_refl _⟩, by repeat (first | exact Drawn0.refl _ | apply Drawn0.step)⟩
  case round =>
    clear H'; obtain ⟨x3_1, rfl, HA, HK1, ⟨m1, rfl⟩⟩ := hrel; cases gk with
    | zero => exact absurd HA.out (by simp [backhaulref26_twice.l0])
    | succ k1 =>
      have H := HA.out; clear HA; simp only [backhaulref26_twice.l0] at H; by_cases c2 : x3_1 < (l0.length : Int)
      · rw [if_pos c2] at H
        have c2b0 : decide (x3_1 < (l0.length : Int)) = true := zFq c2; clear c2; have H' := zA H; clear H; go_wp2; repeat (go_quiet (fail); try go_wp2)
        go_loopg [4] k1 (fun kq v4 w' => ∃ (x4_2 : Int), v4 = .int .i64 x4_2 ∧ Aside0 (backhaulref26_twice.l1 kq l0 x3_1 x4_2 = some r) ∧ Aside0 (kq ≤ k1) ∧ Drawn0 w w')
        case atStart => exact ⟨(0), (by first | rfl | (simp; done) | (simp [*]; done)), H', ⟨Nat.le_refl _⟩, by repeat (first | exact Drawn0.refl _ | apply Drawn0.step)⟩
        case round =>
          clear H'; try clear c2
          try clear c2b0
          try clear p2
          obtain ⟨x4_2, rfl, HA, HK2, ⟨m2, rfl⟩⟩ := hrel; cases gk with
          | zero => exact absurd HA.out (by simp [backhaulref26_twice.l1])
          | succ k2 =>
            have H := HA.out; clear HA; simp only [backhaulref26_twice.l1] at H; by_cases c3 : x4_2 < x3_1
            · rw [if_pos c3] at H
              have c3b0 : decide (x4_2 < x3_1) = true := zFq c3; clear c3; by_cases c4 : 0 ≤ x3_1
              · rw [if_pos c4] at H
                have c4b0 : decide (0 ≤ x3_1) = true := zFq c4; clear c4; by_cases c5 : x3_1 < (l0.length : Int)
                · rw [if_pos c5] at H
                  have c5b0 : decide (x3_1 < (l0.length : Int)) = true := zFq c5; clear c5; by_cases c6 : 0 ≤ x4_2
                  · rw [if_pos c6] at H
                    have c6b0 : decide (0 ≤ x4_2) = true := zFq c6; clear c6; by_cases c7 : x4_2 < (l0.length : Int)
                    · rw [if_pos c7] at H
                      have c7b0 : decide (x4_2 < (l0.length : Int)) = true := zFq c7; clear c7; by_cases c8 : (rdOf ByteArray.empty l0 x3_1).toList = (rdOf ByteArray.empty l0 x4_2).toList
                      · rw [if_pos c8] at H
                        have c8b0 : ((rdOf ByteArray.empty l0 x3_1).toList == (rdOf ByteArray.empty l0 x4_2).toList) = true := beq_iff_eq.mpr c8; have c8b1 : ((rdOf ByteArray.empty l0 x3_1).toList != (rdOf ByteArray.empty l0 x4_2).toList) = false := bne_eq_false_iff_eq.mpr c8; clear c8; obtain rfl := zKq H; have p101 : 0 ≤ (x3_1 : Int) := of_decide_eq_true qA; have q101 : x3_1 < (l0.length : Int) := of_decide_eq_true qA; obtain ⟨ad101, e101, hx101_0⟩ := Kd.at_string HR0.out x3_1 p101 q101; cases e101
                        replace p101 := eq_true p101; replace q101 := eq_true q101; have p102 : 0 ≤ (x4_2 : Int) := of_decide_eq_true qA; have q102 : x4_2 < (l0.length : Int) := of_decide_eq_true qA; obtain ⟨ad102, e102, hx102_0⟩ := Kd.at_string HR0.out x4_2 p102 q102; obtain rfl : ad101 = ad102 := (by injection e102)
                        replace p102 := eq_true p102; replace q102 := eq_true q102; go_wp2; repeat (go_quiet (fail); try go_wp2)
                        go_ret; exact ⟨by first | rfl | (simp; done) | (simp [*]; done), by repeat (first | exact Drawn0.refl _ | apply Drawn0.step)⟩
                      rw [if_neg c8] at H; have c8b0 : ((rdOf ByteArray.empty l0 x3_1).toList == (rdOf ByteArray.empty l0 x4_2).toList) = false := beq_eq_false_iff_ne.mpr c8; have c8b1 : ((rdOf ByteArray.empty l0 x3_1).toList != (rdOf ByteArray.empty l0 x4_2).toList) = true := bne_iff_ne.mpr c8; have H' := zA H; clear H; have p101 : 0 ≤ (x3_1 : Int) := of_decide_eq_true qA; have q101 : x3_1 < (l0.length : Int) := of_decide_eq_true qA; obtain ⟨ad101, e101, hx101_0⟩ := Kd.at_string HR0.out x3_1 p101 q101; cases e101
                      replace p101 := eq_true p101; replace q101 := eq_true q101; have p102 : 0 ≤ (x4_2 : Int) := of_decide_eq_true qA; have q102 : x4_2 < (l0.length : Int) := of_decide_eq_true qA; obtain ⟨ad102, e102, hx102_0⟩ := Kd.at_string HR0.out x4_2 p102 q102; obtain rfl : ad101 = ad102 := (by injection e102)
                      replace p102 := eq_true p102; replace q102 := eq_true q102; go_wp2; repeat (go_quiet (fail); try go_wp2)
                      go_roundg k2
                      case measure => have := HK1.out; have := HK2.out; omega
                      case rel => exact ⟨(wrap64 (x4_2 + 1)), (by first | rfl | (simp; done) | (simp [*]; done)), H', ⟨by have := HK1.out; have := HK2.out; omega⟩, by repeat (first | exact Drawn0.refl _ | apply Drawn0.step)⟩
                    rw [if_neg c7] at H; exact absurd H (by simp)
                  rw [if_neg c6] at H; exact absurd H (by simp)
                rw [if_neg c5] at H; exact absurd H (by simp)
              rw [if_neg c4] at H; exact absurd H (by simp)
            rw [if_neg c3] at H; have c3b0 : decide (x4_2 < x3_1) = false := zGq c3; clear c3; have H' := zA H; clear H; go_wp2; repeat (go_quiet (fail); try go_wp2)
            go_roundg k2
            case measure => have := HK1.out; have := HK2.out; omega
            case rel => exact ⟨(wrap64 (x3_1 + 1)), (by first | rfl | (simp; done) | (simp [*]; done)), H', ⟨by have := HK1.out; have := HK2.out; omega⟩, by repeat (first | exact Drawn0.refl _ | apply Drawn0.step)⟩
      rw [if_neg c2] at H; have c2b0 : decide (x3_1 < (l0.length : Int)) = false := zGq c2; clear c2; obtain rfl := zKq H; go_wp2; repeat (go_quiet (fail); try go_wp2)
      go_ret; exact ⟨by first | rfl | (simp; done) | (simp [*]; done), by repeat (first | exact Drawn0.refl _ | apply Drawn0.step)⟩
def backhaulref26_all.l0 : Nat → List (S216) → List ByteArray → Int → Option (List ByteArray)
  | 0, _, _, _ => none
  | k + 1, x0, x3, x4 => if x4 < (x0.length : Int) then (if 0 ≤ x4 then (if x3.length + ((rd_T216 x0 x4).f4).length < 8796093022208 then (backhaulref26_all.l0 k x0 (x3 ++ ((rd_T216 x0 x4).f4)) (wrap64 (x4 + 1))) else (none)) else (none)) else (some x3)
def backhaulref26_all.f (k : Nat) (l0 : List (S216)) : Option (List ByteArray) := backhaulref26_all.l0 k l0 ([] : List ByteArray) 0
theorem backhaulref26_all.mono_l : ∀ k, (∀ y0 y1 y2, LeO (backhaulref26_all.l0 k y0 y1 y2) (backhaulref26_all.l0 (k + 1) y0 y1 y2))
  | 0 => fun _ _ _ r h => by simp [backhaulref26_all.l0] at h
  | k + 1 => by
    have ih0 := backhaulref26_all.mono_l k
    intro y0 y1 y2
    unfold backhaulref26_all.l0
    repeat' first
    | (with_reducible exact ih0 _ _ _)
    | (with_reducible exact LeO.refl _)
    | (with_reducible exact LeO.none _)
    | (with_reducible refine LeO.ite ?_ ?_)
    | (with_reducible refine LeO.bind ?_ (fun _ => ?_))
    | exact ih0 _ _ _
    | exact LeO.none _
    | refine LeO.ite ?_ ?_
    | refine LeO.bind ?_ (fun _ => ?_)
theorem backhaulref26_all.mono : ∀ a0 k, LeO (backhaulref26_all.f k a0) (backhaulref26_all.f (k + 1) a0) := by
  intro a0 k
  have ih0 := backhaulref26_all.mono_l k
  unfold backhaulref26_all.f
  repeat' first
      | (with_reducible exact ih0 _ _ _)
      | (with_reducible exact LeO.refl _)
      | (with_reducible exact LeO.none _)
      | (with_reducible refine LeO.ite ?_ ?_)
      | (with_reducible refine LeO.bind ?_ (fun _ => ?_))
      | exact ih0 _ _ _
      | exact LeO.none _
      | refine LeO.ite ?_ ?_
      | refine LeO.bind ?_ (fun _ => ?_)
set_option maxHeartbeats 8000000 in
set_option maxRecDepth 100000 in
theorem backhaulref26_all.calls (k : Nat) (A0 : Option Addr) (c0 : Nat) (l0 : List (S216)) (r : List ByteArray) (w : World) (hr0 : Kd.C k216 w A0 l0.length l0) (hc0 : l0.length ≤ c0) (h : backhaulref26_all.f k l0 = some r) :
    Calls Try.prog 226 #[.slice A0 l0.length c0] w fun e w' => ∃ v0_ : Value, e = .returned (v0_) ∧ Kd.R Kd.string 9 w' w.heap.size (fun _ => True) v0_ r ∧ Below w.heap.size w w' := by
  have HR0 := zA hr0
  have HC0 := zA hc0
  clear hr0 hc0
  have HB := zA (Below.refl w.heap.size w)
  have H : (backhaulref26_all.l0 k l0 ([] : List ByteArray) 0) = some r := h
  clear h
  have H' := zA H
  clear H
  go_enter Try.func226, Try.ntmps226
  go_wp2
  go_loopg [3, 4] k (fun kq v3 v4 w' => ∃ (x3_1 : List ByteArray) (x4_1 : Int), v4 = .int .i64 x4_1 ∧ Aside0 (backhaulref26_all.l0 kq l0 x3_1 x4_1 = some r) ∧ Aside0 (kq ≤ k) ∧ Aside0 (Kd.R Kd.string 9 w' w.heap.size (fun _ => True) v3 x3_1) ∧ Aside0 (Below w.heap.size w w'))
  case atStart => exact ⟨(([] : List ByteArray)), (0), (by first | rfl | (simp; done) | (simp [*]; done)), H', ⟨Nat.le_refl _⟩, ⟨qN⟩, ⟨qB⟩⟩
  case round =>
    clear H'; obtain ⟨x3_1, x4_1, rfl, HA, HK1, HO_3, HB⟩ := hrel; cases gk with
    | zero => exact absurd HA.out (by simp [backhaulref26_all.l0])
    | succ k1 =>
      have H := HA.out; clear HA; simp only [backhaulref26_all.l0] at H; by_cases c2 : x4_1 < (l0.length : Int)
      · rw [if_pos c2] at H
        have c2b0 : decide (x4_1 < (l0.length : Int)) = true := zFq c2; clear c2; by_cases c3 : 0 ≤ x4_1
        · rw [if_pos c3] at H
          have c3b0 : decide (0 ≤ x4_1) = true := zFq c3; clear c3; by_cases c4 : x3_1.length + ((rd_T216 l0 x4_1).f4).length < 8796093022208
          · rw [if_pos c4] at H
            have LMc4 := zA c4; clear c4; obtain ⟨y102, hy102⟩ : ∃ y_ : List ByteArray, y_ = (x3_1 ++ ((rd_T216 l0 x4_1).f4)) := ⟨_, rfl⟩
            replace H : (backhaulref26_all.l0 k1 l0 y102 (wrap64 (x4_1 + 1))) = some r := by first | (rw [hy102]; with_reducible exact H) | (have H2_ := (Option.bind_some _ _).symm.trans H; rw [hy102]; with_reducible exact H2_) | (have H2_ := (Option.bind_some _ _).symm.trans H; with_reducible exact H2_) | with_reducible exact H | (rw [hy102]; exact H) | exact H
            have Ny102 := zA hy102; clear hy102; have H' := zA H; clear H; have p101 : 0 ≤ (x4_1 : Int) := of_decide_eq_true qA; have q101 : x4_1 < (l0.length : Int) := of_decide_eq_true qA; obtain ⟨ad101, A101_4, c101_4, e101, hx101_0, hx101_1, hx101_2, hx101_3, hx101_4, hl101_4, hi101_4⟩ := at_T216 HR0.out x4_1 p101 q101; cases e101
            replace hx101_0 := (HB.out.cell (zCq w _ hx101_0)).trans hx101_0; replace hx101_1 := (HB.out.cell (zCq w _ hx101_1)).trans hx101_1; replace hx101_2 := (HB.out.cell (zCq w _ hx101_2)).trans hx101_2; replace hx101_3 := (HB.out.cell (zCq w _ hx101_3)).trans hx101_3; replace hx101_4 := (HB.out.cell (zCq w _ hx101_4)).trans hx101_4; have HR101_4 := zA hi101_4; have HC101_4 := zA hl101_4; clear hi101_4 hl101_4; replace p101 := eq_true p101; replace q101 := eq_true q101; go_wp2_with (first | ((with_reducible refine gate_builtin (b := .append) (xs := #[.tmp 11, .tmp 16]) rfl ?_); at_builtin; refine Kd.R_append_rows Kd.string (w0 := w) w.heap.size rfl (.tmp 11) (.tmp 16) 65 9 (.string ⟨#[]⟩) 16 rfl Try.underlying65 info9 rfl (by decide) (by omega) u3 x3_1 ((rd_T216 l0 x4_1).f4) _ _ _ (fun _ => True) (fun _ => False) rfl rfl ?aO ?aR (fun _ _ h => h) (fun _ h => h.elim) ?aF ?aB ?aS ?aL ?_; (case aR => exact qC (Kd.C_below HR101_4.out HB.out)); (case aB => exact qB); (case aF => exact (fun _ _ => trivial)); (case aO => exact (by (with_reducible repeat (first | apply Kd.R_alloc | apply Kd.R_drewN | apply Kd.R_drew)); exact HO_3.out)); (case aS => exact (zW qB)); (case aL => have := LMc4.out; omega); intro v103 w5 ho hb hg hat; rw [← Ny102.out] at ho; have n0_ := zA (hb); have n1_ := zA (ho); clear HB HO_3; have HB := n0_; have HO104 := n1_; clear n0_ n1_ ho hb hg hat)); go_roundg k1
            case measure => have := HK1.out; omega
            case rel => exact ⟨(y102), (wrap64 (x4_1 + 1)), (by first | rfl | (simp; done) | (simp [*]; done)), H', ⟨by have := HK1.out; omega⟩, ⟨by (with_reducible repeat (first | apply Kd.R_alloc | apply Kd.R_drewN | apply Kd.R_drew)); exact HO104.out⟩, ⟨qB⟩⟩
          rw [if_neg c4] at H; exact absurd H (by simp)
        rw [if_neg c3] at H; exact absurd H (by simp)
      rw [if_neg c2] at H; have c2b0 : decide (x4_1 < (l0.length : Int)) = false := zGq c2; clear c2; obtain rfl := zKq H; go_wp2; go_ret; exact ⟨_, qE, by (with_reducible repeat (first | apply Kd.R_alloc | apply Kd.R_drewN | apply Kd.R_drew)); exact HO_3.out, qB⟩
mutual
def backhaulref26_Check.j0 : Nat → Bool → Int → Int → List (S216) → Option (Int)
  | 0, _, _, _, _ => none
  | k + 1, x33, x102000, x102001, x102002 => if x33 = true then (some 40) else (backhaulref26_Check.l0 k 0 x102000 x102001 x102002)
def backhaulref26_Check.l0 : Nat → Int → Int → Int → List (S216) → Option (Int)
  | 0, _, _, _, _ => none
  | k + 1, x3, x102000, x102001, x102002 => if x3 < (x102002.length : Int) then (if 0 ≤ x3 then ((backhaulref21_Check.f k ((rd_T216 x102002 x3).f0) ((rd_T216 x102002 x3).f1) ((rd_T216 x102002 x3).f2) ((rd_T216 x102002 x3).f3) ((rd_T216 x102002 x3).f4)).bind fun t103 => (if t103 = 0 then (backhaulref26_Check.l0 k (wrap64 (x3 + 1)) x102000 x102001 x102002) else (some 40))) else (none)) else ((backhaulref26_cost.f k x102002).bind fun t104 => (if t104 < 0 then (some 40) else ((backhaulref26_all.f k x102002).bind fun t105 => ((backhaulref26_twice.f k t105).bind fun t108 => (if t108 = true then (some 40) else (some 0))))))
end
def backhaulref26_Check.f (k : Nat) (a0_0 : Int) (a0_1 : Int) (l0_2 : List (S216)) : Option (Int) := if a0_0 < 1 then (backhaulref26_Check.j0 k true a0_0 a0_1 l0_2) else (if a0_0 > 999999 then (backhaulref26_Check.j0 k true a0_0 a0_1 l0_2) else (if a0_1 < 0 then (backhaulref26_Check.j0 k true a0_0 a0_1 l0_2) else (if a0_1 > 1000000 then (backhaulref26_Check.j0 k true a0_0 a0_1 l0_2) else (if (l0_2.length : Int) = 0 then (backhaulref26_Check.j0 k true a0_0 a0_1 l0_2) else (backhaulref26_Check.j0 k (decide ((l0_2.length : Int) > 8)) a0_0 a0_1 l0_2)))))
theorem backhaulref26_Check.mono_l : ∀ k, (∀ y0 y1 y2 y3, LeO (backhaulref26_Check.j0 k y0 y1 y2 y3) (backhaulref26_Check.j0 (k + 1) y0 y1 y2 y3)) ∧ (∀ y0 y1 y2 y3, LeO (backhaulref26_Check.l0 k y0 y1 y2 y3) (backhaulref26_Check.l0 (k + 1) y0 y1 y2 y3))
  | 0 => ⟨fun _ _ _ _ r h => by simp [backhaulref26_Check.j0] at h, fun _ _ _ _ r h => by simp [backhaulref26_Check.l0] at h⟩
  | k + 1 => by
    obtain ⟨ih0, ih1⟩ := backhaulref26_Check.mono_l k
    refine ⟨?_, ?_⟩
    · intro y0 y1 y2 y3
      unfold backhaulref26_Check.j0
      repeat' first
      | (with_reducible exact ih0 _ _ _ _)
      | (with_reducible exact ih1 _ _ _ _)
      | (with_reducible exact backhaulref21_Check.mono _ _ _ _ _ _)
      | (with_reducible exact backhaulref26_all.mono _ _)
      | (with_reducible exact backhaulref26_cost.mono _ _)
      | (with_reducible exact backhaulref26_twice.mono _ _)
      | (with_reducible exact LeO.refl _)
      | (with_reducible exact LeO.none _)
      | (with_reducible refine LeO.ite ?_ ?_)
      | (with_reducible refine LeO.bind ?_ (fun _ => ?_))
      | exact ih0 _ _ _ _
      | exact ih1 _ _ _ _
      | exact backhaulref21_Check.mono _ _ _ _ _ _
      | exact backhaulref26_all.mono _ _
      | exact backhaulref26_cost.mono _ _
      | exact backhaulref26_twice.mono _ _
      | exact LeO.none _
      | refine LeO.ite ?_ ?_
      | refine LeO.bind ?_ (fun _ => ?_)
    intro y0 y1 y2 y3
    unfold backhaulref26_Check.l0
    repeat' first
    | (with_reducible exact ih0 _ _ _ _)
    | (with_reducible exact ih1 _ _ _ _)
    | (with_reducible exact backhaulref21_Check.mono _ _ _ _ _ _)
    | (with_reducible exact backhaulref26_all.mono _ _)
    | (with_reducible exact backhaulref26_cost.mono _ _)
    | (with_reducible exact backhaulref26_twice.mono _ _)
    | (with_reducible exact LeO.refl _)
    | (with_reducible exact LeO.none _)
    | (with_reducible refine LeO.ite ?_ ?_)
    | (with_reducible refine LeO.bind ?_ (fun _ => ?_))
    | exact ih0 _ _ _ _
    | exact ih1 _ _ _ _
    | exact backhaulref21_Check.mono _ _ _ _ _ _
    | exact backhaulref26_all.mono _ _
    | exact backhaulref26_cost.mono _ _
    | exact backhaulref26_twice.mono _ _
    | exact LeO.none _
    | refine LeO.ite ?_ ?_
    | refine LeO.bind ?_ (fun _ => ?_)
theorem backhaulref26_Check.mono : ∀ a0 a1 a2 k, LeO (backhaulref26_Check.f k a0 a1 a2) (backhaulref26_Check.f (k + 1) a0 a1 a2) := by
  intro a0 a1 a2 k
  obtain ⟨ih0, ih1⟩ := backhaulref26_Check.mono_l k
  unfold backhaulref26_Check.f
  repeat' first
      | (with_reducible exact ih0 _ _ _ _)
      | (with_reducible exact ih1 _ _ _ _)
      | (with_reducible exact backhaulref21_Check.mono _ _ _ _ _ _)
      | (with_reducible exact backhaulref26_all.mono _ _)
      | (with_reducible exact backhaulref26_cost.mono _ _)
      | (with_reducible exact backhaulref26_twice.mono _ _)
      | (with_reducible exact LeO.refl _)
      | (with_reducible exact LeO.none _)
      | (with_reducible refine LeO.ite ?_ ?_)
      | (with_reducible refine LeO.bind ?_ (fun _ => ?_))
      | exact ih0 _ _ _ _
      | exact ih1 _ _ _ _
      | exact backhaulref21_Check.mono _ _ _ _ _ _
      | exact backhaulref26_all.mono _ _
      | exact backhaulref26_cost.mono _ _
      | exact backhaulref26_twice.mono _ _
      | exact LeO.none _
      | refine LeO.ite ?_ ?_
      | refine LeO.bind ?_ (fun _ => ?_)
set_option maxHeartbeats 8000000 in
set_option maxRecDepth 100000 in
theorem backhaulref26_Check.calls (k : Nat) (a0_0 : Int) (a0_1 : Int) (A0_2 : Option Addr) (c0_2 : Nat) (l0_2 : List (S216)) (r : Int) (w : World) (hr0_2 : Kd.C k216 w A0_2 l0_2.length l0_2) (hc0_2 : l0_2.length ≤ c0_2) (h : backhaulref26_Check.f k a0_0 a0_1 l0_2 = some r) :
    Calls Try.prog 149 #[.agg #[.int .i64 a0_0, .int .i64 a0_1, .slice A0_2 l0_2.length c0_2]] w fun e w' => e = .returned (.int .i64 r) ∧ Below w.heap.size w w' := by
  have hu73 := Try.underlying73
  have hu216 := Try.underlying216
  have HR0_2 := zA hr0_2
  have HC0_2 := zA hc0_2
  clear hr0_2 hc0_2
  have HB := zA (Below.refl w.heap.size w)
  have H : (if a0_0 < 1 then (backhaulref26_Check.j0 k true a0_0 a0_1 l0_2) else (if a0_0 > 999999 then (backhaulref26_Check.j0 k true a0_0 a0_1 l0_2) else (if a0_1 < 0 then (backhaulref26_Check.j0 k true a0_0 a0_1 l0_2) else (if a0_1 > 1000000 then (backhaulref26_Check.j0 k true a0_0 a0_1 l0_2) else (if (l0_2.length : Int) = 0 then (backhaulref26_Check.j0 k true a0_0 a0_1 l0_2) else (backhaulref26_Check.j0 k (decide ((l0_2.length : Int) > 8)) a0_0 a0_1 l0_2)))))) = some r := h
  clear h
  have HC2 := zA H
  clear H
  go_enter Try.func149, Try.ntmps149
  go_upto_region 1 with (first | ((with_reducible refine gate_dst (N := 1) rfl ?_); (try (refine gate_guard (by rfl) ?_; dsimp only)); refine box_event qr (N := 1) qr (cs := #[.int .i64 a0_0, .int .i64 a0_1, .slice A0_2 l0_2.length c0_2]) (t := 73) qg ?_; intro gb101 hg w3 hbox hb; have n0_ := zA (zV qB hb); have n1_ := zA (hbox); have n2_ := zA ((qS : w.heap.size ≤ gb101)); have n3_ := zA ((qS : w.heap.size ≤ gb101)); clear HB; have HB := n0_; have BK101 := n1_; have GW101 := n2_; have GE101 := n3_; clear n0_ n1_ n2_ n3_ hb hbox hg))
  (try simp only [Act.put, zH, zI, zJ])
  go_cut [33] (fun v33 wc => ∃ (kq : Nat) (x33_1 : Bool), v33 = .bool x33_1 ∧ Aside0 (backhaulref26_Check.j0 kq x33_1 a0_0 a0_1 l0_2 = some r) ∧ Aside0 (kq ≤ k) ∧ Aside0 (wc.heap[gb101]? = some (.cells #[.int .i64 a0_0, .int .i64 a0_1, (.slice A0_2 l0_2.length c0_2)] 73 (0, 0))) ∧ Aside0 (Below w.heap.size w wc))
  case first =>
    have H := HC2.out; clear HC2; by_cases c4 : a0_0 < 1
    · rw [if_pos c4] at H
      have c4b0 : decide (a0_0 < 1) = true := zFq c4; clear c4; (first | rw [c4b0] | (simp only [i64_w, i32_w]; rw [c4b0]) | skip)
      have H' := zA H; clear H; obtain ⟨_, _, _, _, _, _⟩ := qc3f BK101.out; go_wp2; go_meet
      case rel => exact ⟨_, (true), (by first | rfl | (simp; done) | (simp [*]; done)), H', ⟨by first | omega | exact Nat.le_refl _⟩, ⟨by exact BK101.out⟩, ⟨qB⟩⟩
    rw [if_neg c4] at H; have c4b0 : decide (a0_0 < 1) = false := zGq c4; clear c4; (first | rw [c4b0] | (simp only [i64_w, i32_w]; rw [c4b0]) | skip)
    by_cases c6 : a0_0 > 999999
    · rw [if_pos c6] at H
      have c6b0 : decide (999999 < a0_0) = true := zFq c6; clear c6; have H' := zA H; clear H; obtain ⟨_, _, _, _, _, _⟩ := qc3f BK101.out; go_wp2; go_meet
      case rel => exact ⟨_, (true), (by first | rfl | (simp; done) | (simp [*]; done)), H', ⟨by first | omega | exact Nat.le_refl _⟩, ⟨by exact BK101.out⟩, ⟨qB⟩⟩
    rw [if_neg c6] at H; have c6b0 : decide (999999 < a0_0) = false := zGq c6; clear c6; by_cases c8 : a0_1 < 0
    · rw [if_pos c8] at H
      have c8b0 : decide (a0_1 < 0) = true := zFq c8; clear c8; have H' := zA H; clear H; obtain ⟨_, _, _, _, _, _⟩ := qc3f BK101.out; go_wp2; go_meet
      case rel => exact ⟨_, (true), (by first | rfl | (simp; done) | (simp [*]; done)), H', ⟨by first | omega | exact Nat.le_refl _⟩, ⟨by exact BK101.out⟩, ⟨qB⟩⟩
    rw [if_neg c8] at H; have c8b0 : decide (a0_1 < 0) = false := zGq c8; clear c8; by_cases c10 : a0_1 > 1000000
    · rw [if_pos c10] at H
      have c10b0 : decide (1000000 < a0_1) = true := zFq c10; clear c10; have H' := zA H; clear H; obtain ⟨_, _, _, _, _, _⟩ := qc3f BK101.out; go_wp2; go_meet
      case rel => exact ⟨_, (true), (by first | rfl | (simp; done) | (simp [*]; done)), H', ⟨by first | omega | exact Nat.le_refl _⟩, ⟨by exact BK101.out⟩, ⟨qB⟩⟩
    rw [if_neg c10] at H; have c10b0 : decide (1000000 < a0_1) = false := zGq c10; clear c10; by_cases c12 : (l0_2.length : Int) = 0
    · rw [if_pos c12] at H
      have c12b0 : ((l0_2.length : Int) == 0) = true := beq_iff_eq.mpr c12; have c12b1 : ((l0_2.length : Int) != 0) = false := bne_eq_false_iff_eq.mpr c12; clear c12; have H' := zA H; clear H; obtain ⟨_, _, _, _, _, _⟩ := qc3f BK101.out; go_wp2; go_meet
      case rel => exact ⟨_, (true), (by first | rfl | (simp; done) | (simp [*]; done)), H', ⟨by first | omega | exact Nat.le_refl _⟩, ⟨by exact BK101.out⟩, ⟨qB⟩⟩
    rw [if_neg c12] at H; have c12b0 : ((l0_2.length : Int) == 0) = false := beq_eq_false_iff_ne.mpr c12; have c12b1 : ((l0_2.length : Int) != 0) = true := bne_iff_ne.mpr c12; have c12b2 : ¬ (l0_2 = []) := fun h_ => c12 (by rw [h_]; rfl)
    have H' := zA H; clear H; obtain ⟨_, _, _, _, _, _⟩ := qc3f BK101.out; go_wp2; go_meet
    case rel => exact ⟨_, (decide ((l0_2.length : Int) > 8)), (by first | rfl | (simp; done) | (simp [*]; done)), H', ⟨by first | omega | exact Nat.le_refl _⟩, ⟨by exact BK101.out⟩, ⟨qB⟩⟩
  case rest =>
    clear HC2; try clear c1
    try clear p2
    try clear c4
    try clear c4b0
    try clear c6
    try clear c6b0
    try clear c8
    try clear c8b0
    try clear c10
    try clear c10b0
    try clear c12
    try clear c12b0
    try clear c12b1
    try clear c12b2
    try clear c14
    obtain ⟨kq, x33_1, rfl, HA, HJ1, BK101, HB⟩ := hcut; cases kq with
    | zero => exact absurd HA.out (by simp [backhaulref26_Check.j0])
    | succ kj1 =>
      have H := HA.out; clear HA; simp only [backhaulref26_Check.j0] at H; by_cases c15 : x33_1 = true
      · subst c15
        have H1 : (some 40) = some r := by first | (rw [if_pos rfl] at H; exact H) | rfl
        clear H; have H := H1; clear H1; obtain rfl := zKq H; go_wp2; go_ret; exact ⟨qE, qB⟩
      replace c15 := Bool.eq_false_iff.mpr c15; subst c15; have H1 : (backhaulref26_Check.l0 kj1 0 a0_0 a0_1 l0_2) = some r := by first | (rw [if_neg (show ¬ (false = true) by decide)] at H; exact H) | rfl
      clear H; have H := H1; clear H1; have H' := zA H; clear H; go_wp2; go_loopg [3] kj1 (fun kq v3 w' => ∃ (x3_2 : Int), v3 = .int .i64 x3_2 ∧ Aside0 (backhaulref26_Check.l0 kq x3_2 a0_0 a0_1 l0_2 = some r) ∧ Aside0 (kq ≤ kj1) ∧ Aside0 (w'.heap[gb101]? = some (.cells #[.int .i64 a0_0, .int .i64 a0_1, (.slice A0_2 l0_2.length c0_2)] 73 (0, 0))) ∧ Aside0 (Below w.heap.size w w'))
      case atStart => exact ⟨(0), (by first | rfl | (simp; done) | (simp [*]; done)), H', ⟨Nat.le_refl _⟩, ⟨by exact BK101.out⟩, ⟨qB⟩⟩
      case round =>
        clear H'; try clear c1
        try clear p2
        try clear c4
        try clear c4b0
        try clear c6
        try clear c6b0
        try clear c8
        try clear c8b0
        try clear c10
        try clear c10b0
        try clear c12
        try clear c12b0
        try clear c12b1
        try clear c12b2
        try clear c14
        try clear c15
        try clear p2
        obtain ⟨x3_2, rfl, HA, HK2, BK101, HB⟩ := hrel; cases gk with
        | zero => exact absurd HA.out (by simp [backhaulref26_Check.l0])
        | succ k2 =>
          have H := HA.out; clear HA; simp only [backhaulref26_Check.l0] at H; by_cases c16 : x3_2 < (l0_2.length : Int)
          · rw [if_pos c16] at H
            have c16b0 : decide (x3_2 < (l0_2.length : Int)) = true := zFq c16; clear c16; by_cases c17 : 0 ≤ x3_2
            · rw [if_pos c17] at H
              have c17b0 : decide (0 ≤ x3_2) = true := zFq c17; clear c17; replace H := Option.bind_eq_some_iff.mp H; obtain ⟨t103, A180, H⟩ := H; replace H : (if t103 = 0 then (backhaulref26_Check.l0 k2 (wrap64 (x3_2 + 1)) a0_0 a0_1 l0_2) else (some 40)) = some r := H; have A18 := zA A180; clear A180; by_cases c19 : t103 = 0
              · rw [if_pos c19] at H
                have c19b0 : (t103 == 0) = true := beq_iff_eq.mpr c19; have c19b1 : (t103 != 0) = false := bne_eq_false_iff_eq.mpr c19; clear c19; have H' := zA H; clear H; obtain ⟨_, _, _, _, _, _⟩ := qc3f BK101.out; have p102 : 0 ≤ (x3_2 : Int) := of_decide_eq_true qA; have q102 : x3_2 < (l0_2.length : Int) := of_decide_eq_true qA; obtain ⟨ad102, A102_4, c102_4, e102, hx102_0, hx102_1, hx102_2, hx102_3, hx102_4, hl102_4, hi102_4⟩ := at_T216 HR0_2.out x3_2 p102 q102; cases e102
                replace hx102_0 := (HB.out.cell (zCq w _ hx102_0)).trans hx102_0; replace hx102_1 := (HB.out.cell (zCq w _ hx102_1)).trans hx102_1; replace hx102_2 := (HB.out.cell (zCq w _ hx102_2)).trans hx102_2; replace hx102_3 := (HB.out.cell (zCq w _ hx102_3)).trans hx102_3; replace hx102_4 := (HB.out.cell (zCq w _ hx102_4)).trans hx102_4; have HR102_4 := zA hi102_4; have HC102_4 := zA hl102_4; clear hi102_4 hl102_4; replace p102 := eq_true p102; replace q102 := eq_true q102; go_wp2_with (first | ((with_reducible refine zJq (f := 223) rfl ?_); refine goesL_ (some 46) rfl rfl Try.func223 (by kernel_rfl) rfl #[.agg #[.int .i64 ((rd_T216 l0_2 x3_2).f0), .int .i64 ((rd_T216 l0_2 x3_2).f1), .int .i64 ((rd_T216 l0_2 x3_2).f2), .int .i64 ((rd_T216 l0_2 x3_2).f3), .slice A102_4 ((rd_T216 l0_2 x3_2).f4).length c102_4]] rfl (by (try simp only [zR, zS, zT]); first | done | rfl | (simp only [zP, zQ]; rfl)) ?_; (with_reducible refine (backhaulref21_Check.calls k2 ((rd_T216 l0_2 x3_2).f0) ((rd_T216 l0_2 x3_2).f1) ((rd_T216 l0_2 x3_2).f2) ((rd_T216 l0_2 x3_2).f3) _ _ ((rd_T216 l0_2 x3_2).f4) t103 _ ?side1 ?side2 A18.out).mono ?_); (case side1 => exact qC (Kd.C_below HR102_4.out HB.out)); (case side2 => exact HC102_4.out); rintro e w21 ⟨rfl, hb⟩; refine ⟨_, rfl, ?_⟩; have n0_ := zA (qX BK101.out hb); have n1_ := zA (zV qB hb); clear BK101 HB; have BK101 := n0_; have HB := n1_; clear n0_ n1_; (try clear hb); (try clear hb2); (try clear hk); (try clear hi))); go_roundg k2
                case measure => have := HJ1.out; have := HK2.out; omega
                case rel => exact ⟨(wrap64 (x3_2 + 1)), (by first | rfl | (simp; done) | (simp [*]; done)), H', ⟨by have := HJ1.out; have := HK2.out; omega⟩, ⟨by exact BK101.out⟩, ⟨qB⟩⟩
              rw [if_neg c19] at H; have c19b0 : (t103 == 0) = false := beq_eq_false_iff_ne.mpr c19; have c19b1 : (t103 != 0) = true := bne_iff_ne.mpr c19; obtain rfl := zKq H; obtain ⟨_, _, _, _, _, _⟩ := qc3f BK101.out; have p102 : 0 ≤ (x3_2 : Int) := of_decide_eq_true qA; have q102 : x3_2 < (l0_2.length : Int) := of_decide_eq_true qA; obtain ⟨ad102, A102_4, c102_4, e102, hx102_0, hx102_1, hx102_2, hx102_3, hx102_4, hl102_4, hi102_4⟩ := at_T216 HR0_2.out x3_2 p102 q102; cases e102
              replace hx102_0 := (HB.out.cell (zCq w _ hx102_0)).trans hx102_0; replace hx102_1 := (HB.out.cell (zCq w _ hx102_1)).trans hx102_1; replace hx102_2 := (HB.out.cell (zCq w _ hx102_2)).trans hx102_2; replace hx102_3 := (HB.out.cell (zCq w _ hx102_3)).trans hx102_3; replace hx102_4 := (HB.out.cell (zCq w _ hx102_4)).trans hx102_4; have HR102_4 := zA hi102_4; have HC102_4 := zA hl102_4; clear hi102_4 hl102_4; replace p102 := eq_true p102; replace q102 := eq_true q102; go_wp2_with (first | ((with_reducible refine zJq (f := 223) rfl ?_); refine goesL_ (some 46) rfl rfl Try.func223 (by kernel_rfl) rfl #[.agg #[.int .i64 ((rd_T216 l0_2 x3_2).f0), .int .i64 ((rd_T216 l0_2 x3_2).f1), .int .i64 ((rd_T216 l0_2 x3_2).f2), .int .i64 ((rd_T216 l0_2 x3_2).f3), .slice A102_4 ((rd_T216 l0_2 x3_2).f4).length c102_4]] rfl (by (try simp only [zR, zS, zT]); first | done | rfl | (simp only [zP, zQ]; rfl)) ?_; (with_reducible refine (backhaulref21_Check.calls k2 ((rd_T216 l0_2 x3_2).f0) ((rd_T216 l0_2 x3_2).f1) ((rd_T216 l0_2 x3_2).f2) ((rd_T216 l0_2 x3_2).f3) _ _ ((rd_T216 l0_2 x3_2).f4) t103 _ ?side1 ?side2 A18.out).mono ?_); (case side1 => exact qC (Kd.C_below HR102_4.out HB.out)); (case side2 => exact HC102_4.out); rintro e w23 ⟨rfl, hb⟩; refine ⟨_, rfl, ?_⟩; have n0_ := zA (qX BK101.out hb); have n1_ := zA (zV qB hb); clear BK101 HB; have BK101 := n0_; have HB := n1_; clear n0_ n1_; (try clear hb); (try clear hb2); (try clear hk); (try clear hi))); go_ret; exact ⟨qE, qB⟩
            rw [if_neg c17] at H; exact absurd H (by simp)
          rw [if_neg c16] at H; have c16b0 : decide (x3_2 < (l0_2.length : Int)) = false := zGq c16; clear c16; replace H := Option.bind_eq_some_iff.mp H; obtain ⟨t104, A240, H⟩ := H; replace H : (if t104 < 0 then (some 40) else ((backhaulref26_all.f k2 l0_2).bind fun t105 => ((backhaulref26_twice.f k2 t105).bind fun t108 => (if t108 = true then (some 40) else (some 0))))) = some r := H; have A24 := zA A240; clear A240; by_cases c25 : t104 < 0
          · rw [if_pos c25] at H
            have c25b0 : decide (t104 < 0) = true := zFq c25; clear c25; obtain rfl := zKq H; obtain ⟨_, _, _, _, _, _⟩ := qc3f BK101.out; go_wp2_with (first | ((with_reducible refine zJq (f := 224) rfl ?_); refine goesL_ (some 50) rfl rfl Try.func224 (by kernel_rfl) rfl #[.slice A0_2 l0_2.length c0_2] rfl (by (try simp only [zR, zS, zT]); first | done | rfl | (simp only [zP, zQ]; rfl)) ?_; (with_reducible refine (backhaulref26_cost.calls k2 _ _ l0_2 t104 _ ?side1 ?side2 A24.out).mono ?_); (case side1 => exact qC (Kd.C_below HR0_2.out HB.out)); (case side2 => exact HC0_2.out); rintro e w' ⟨rfl, ⟨nd, rfl⟩⟩; refine ⟨_, rfl, ?_⟩)); go_ret; exact ⟨qE, qB⟩
          rw [if_neg c25] at H; have c25b0 : decide (t104 < 0) = false := zGq c25; clear c25; replace H := Option.bind_eq_some_iff.mp H; obtain ⟨t105, A270, H⟩ := H; replace H : ((backhaulref26_twice.f k2 t105).bind fun t108 => (if t108 = true then (some 40) else (some 0))) = some r := H; have A27 := zA A270; clear A270; replace H := Option.bind_eq_some_iff.mp H; obtain ⟨t108, A280, H⟩ := H; replace H : (if t108 = true then (some 40) else (some 0)) = some r := H; have A28 := zA A280; clear A280; by_cases c29 : t108 = true
          · subst c29
            have H1 : (some 40) = some r := by first | (rw [if_pos rfl] at H; exact H) | rfl
            clear H; have H := H1; clear H1; obtain rfl := zKq H; obtain ⟨_, _, _, _, _, _⟩ := qc3f BK101.out; go_wp2_with (first | ((with_reducible refine zJq (f := 224) rfl ?_); refine goesL_ (some 50) rfl rfl Try.func224 (by kernel_rfl) rfl #[.slice A0_2 l0_2.length c0_2] rfl (by (try simp only [zR, zS, zT]); first | done | rfl | (simp only [zP, zQ]; rfl)) ?_; (with_reducible refine (backhaulref26_cost.calls k2 _ _ l0_2 t104 _ ?side1 ?side2 A24.out).mono ?_); (case side1 => exact qC (Kd.C_below HR0_2.out HB.out)); (case side2 => exact HC0_2.out); rintro e w' ⟨rfl, ⟨nd, rfl⟩⟩; refine ⟨_, rfl, ?_⟩) | (go_at_call 226; (with_reducible refine (backhaulref26_all.calls k2 _ _ l0_2 t105 _ ?side1 ?side2 A27.out).mono ?_); (case side1 => exact qC (Kd.C_below HR0_2.out qB)); (case side2 => exact HC0_2.out); rintro e w31 ⟨v106, rfl, ho0, hb⟩; have n0_ := zA (Kd.R_lower ho0 (zW qB)); have n1_ := zA (qX BK101.out hb); have n2_ := zA (zV qB hb); clear BK101 HB; have HO107 := n0_; have BK101 := n1_; have HB := n2_; clear n0_ n1_ n2_; (try clear hb); (try clear hb2); (try clear hk); (try clear hi); (try clear ho0); obtain ⟨Ao32, co32, eo32⟩ := Kd.R_slice HO107.out; subst eo32) | (go_at_call 225; (with_reducible refine (backhaulref26_twice.calls k2 _ _ t105 true _ ?side1 ?side2 A28.out).mono ?_); (case side1 => repeat (first | exact (Kd.R_reads' HO107.out).2.2 | (with_reducible refine Kd.C_alloc ?_ _) | (with_reducible refine Kd.C_drewN ?_ _) | (with_reducible refine Kd.C_drew ?_))); (case side2 => exact (Kd.R_reads' HO107.out).2.1); rintro e w' ⟨rfl, ⟨nd, rfl⟩⟩)); go_ret; exact ⟨qE, qB⟩
          replace c29 := Bool.eq_false_iff.mpr c29; subst c29; have H1 : (some 0) = some r := by first | (rw [if_neg (show ¬ (false = true) by decide)] at H; exact H) | rfl
          clear H; have H := H1; clear H1; obtain rfl := zKq H; obtain ⟨_, _, _, _, _, _⟩ := qc3f BK101.out; go_wp2_with (first | ((with_reducible refine zJq (f := 224) rfl ?_); refine goesL_ (some 50) rfl rfl Try.func224 (by kernel_rfl) rfl #[.slice A0_2 l0_2.length c0_2] rfl (by (try simp only [zR, zS, zT]); first | done | rfl | (simp only [zP, zQ]; rfl)) ?_; (with_reducible refine (backhaulref26_cost.calls k2 _ _ l0_2 t104 _ ?side1 ?side2 A24.out).mono ?_); (case side1 => exact qC (Kd.C_below HR0_2.out HB.out)); (case side2 => exact HC0_2.out); rintro e w' ⟨rfl, ⟨nd, rfl⟩⟩; refine ⟨_, rfl, ?_⟩) | (go_at_call 226; (with_reducible refine (backhaulref26_all.calls k2 _ _ l0_2 t105 _ ?side1 ?side2 A27.out).mono ?_); (case side1 => exact qC (Kd.C_below HR0_2.out qB)); (case side2 => exact HC0_2.out); rintro e w34 ⟨v106, rfl, ho0, hb⟩; have n0_ := zA (Kd.R_lower ho0 (zW qB)); have n1_ := zA (qX BK101.out hb); have n2_ := zA (zV qB hb); clear BK101 HB; have HO107 := n0_; have BK101 := n1_; have HB := n2_; clear n0_ n1_ n2_; (try clear hb); (try clear hb2); (try clear hk); (try clear hi); (try clear ho0); obtain ⟨Ao35, co35, eo35⟩ := Kd.R_slice HO107.out; subst eo35) | (go_at_call 225; (with_reducible refine (backhaulref26_twice.calls k2 _ _ t105 false _ ?side1 ?side2 A28.out).mono ?_); (case side1 => repeat (first | exact (Kd.R_reads' HO107.out).2.2 | (with_reducible refine Kd.C_alloc ?_ _) | (with_reducible refine Kd.C_drewN ?_ _) | (with_reducible refine Kd.C_drew ?_))); (case side2 => exact (Kd.R_reads' HO107.out).2.1); rintro e w' ⟨rfl, ⟨nd, rfl⟩⟩)); go_ret; exact ⟨qE, qB⟩
end Go.Proofs.Ytakkhomjpflkbaa.F
