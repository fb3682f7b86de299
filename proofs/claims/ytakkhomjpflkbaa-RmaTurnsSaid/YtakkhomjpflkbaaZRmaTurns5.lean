-- merged and pruned by prune.py (the session's own program); its words go back to the kit's print
import Derived.Test.YtakkhomjpflkbaaProg
import Derived.Below
import Derived.Deep.Draws
import Derived.Deep.AppendLies
import Derived.Maps.AppendAt
import Derived.OwnWalk
import Derived.Laws.BytesArg
import Derived.Laws.MakeOwn
import Derived.Laws.OwnMore
import Derived.Deep.OwnRows
import Derived.Tactics
import Derived.Lib.ConvBytes
import Derived.Laws.Slices
import Derived.WalkKit
import Derived.KernelRfl
import Derived.RowKit3
import Derived.Deep.LoopGhost
import Derived.Deep.QuietTactic
import Derived.BigQuiet
import Derived.WideLaws
import Derived.Deep.DeepCutAuto
import Derived.Deep.CutBlock
import Derived.Deep.RegionHeld3
import Derived.Laws.Rows
import Derived.Lib.AppendStr
import Derived.ArgAppend
import Derived.Laws.IdiomCopy
import Derived.OrdersHeld
import Derived.Laws.BitsLemmas
import Derived.RowKit
import Derived.Laws.StructEq
import Derived.Deep.RegionLawGrows
import Derived.Lib.SliceRun
import Derived.Test.YtakkhomjpflkbaaZRmaTurns4
namespace Go.Proofs.Ytakkhomjpflkbaa.F
open Go.RowKit Go.Proofs.YtakkhomjpflkbaaX Go.Proofs.YtakkhomjpflkbaaW.PrintWords Go.Proofs.YtakkhomjpflkbaaW.PrintLast Go.Proofs.YtakkhomjpflkbaaW.PrintMore
attribute [local go_sem] max2_int min2_int max_two min_two max_three min_three max_four min_four   
attribute [local go_sem high] str_geq str_leq str_gtr
set_option linter.unusedVariables false
set_option linter.unusedSimpArgs false
mutual
def backhaullaw27_kept.j0 : Nat → Bool → Int → Int → Int → Int → List (S97) → Int → Int → Int → Int → List (S97) → Option (Bool)
  | 0, _, _, _, _, _, _, _, _, _, _, _ => none
  | k + 1, x33, x102000, x102001, x102002, x102003, x102004, x103000, x103001, x103002, x103003, x103004 => if x33 = true then (some false) else (backhaullaw27_kept.l0 k 0 x102000 x102001 x102002 x102003 x102004 x103000 x103001 x103002 x103003 x103004)
def backhaullaw27_kept.l0 : Nat → Int → Int → Int → Int → Int → List (S97) → Int → Int → Int → Int → List (S97) → Option (Bool)
  | 0, _, _, _, _, _, _, _, _, _, _, _ => none
  | k + 1, x5, x102000, x102001, x102002, x102003, x102004, x103000, x103001, x103002, x103003, x103004 => if x5 < (x102004.length : Int) then (if 0 ≤ x5 then (if x5 < (x103004.length : Int) then (if ((rd_T97 x102004 x5).f0) = ((rd_T97 x103004 x5).f0) then (if ((rd_T97 x103004 x5).f2) < ((rd_T97 x102004 x5).f2) then (some false) else (backhaullaw27_kept.l0 k (wrap64 (x5 + 1)) x102000 x102001 x102002 x102003 x102004 x103000 x103001 x103002 x103003 x103004)) else (some false)) else (none)) else (none)) else (some true)
end
def backhaullaw27_kept.f (k : Nat) (a0_0 : Int) (a0_1 : Int) (a0_2 : Int) (a0_3 : Int) (l0_4 : List (S97)) (a1_0 : Int) (a1_1 : Int) (a1_2 : Int) (a1_3 : Int) (l1_4 : List (S97)) : Option (Bool) := if a0_0 = a1_0 then (if a0_1 = a1_1 then (if a0_2 = a1_2 then (backhaullaw27_kept.j0 k ((l0_4.length : Int) != (l1_4.length : Int)) a0_0 a0_1 a0_2 a0_3 l0_4 a1_0 a1_1 a1_2 a1_3 l1_4) else (backhaullaw27_kept.j0 k true a0_0 a0_1 a0_2 a0_3 l0_4 a1_0 a1_1 a1_2 a1_3 l1_4)) else (backhaullaw27_kept.j0 k true a0_0 a0_1 a0_2 a0_3 l0_4 a1_0 a1_1 a1_2 a1_3 l1_4)) else (backhaullaw27_kept.j0 k true a0_0 a0_1 a0_2 a0_3 l0_4 a1_0 a1_1 a1_2 a1_3 l1_4)
theorem backhaullaw27_kept.mono_l : ∀ k, (∀ y0 y1 y2 y3 y4 y5 y6 y7 y8 y9 y10, LeO (backhaullaw27_kept.j0 k y0 y1 y2 y3 y4 y5 y6 y7 y8 y9 y10) (backhaullaw27_kept.j0 (k + 1) y0 y1 y2 y3 y4 y5 y6 y7 y8 y9 y10)) ∧ (∀ y0 y1 y2 y3 y4 y5 y6 y7 y8 y9 y10, LeO (backhaullaw27_kept.l0 k y0 y1 y2 y3 y4 y5 y6 y7 y8 y9 y10) (backhaullaw27_kept.l0 (k + 1) y0 y1 y2 y3 y4 y5 y6 y7 y8 y9 y10))
  | 0 => ⟨fun _ _ _ _ _ _ _ _ _ _ _ r h => by simp [backhaullaw27_kept.j0] at h, fun _ _ _ _ _ _ _ _ _ _ _ r h => by simp [backhaullaw27_kept.l0] at h⟩
  | k + 1 => by
    obtain ⟨ih0, ih1⟩ := backhaullaw27_kept.mono_l k
    refine ⟨?_, ?_⟩
    · intro y0 y1 y2 y3 y4 y5 y6 y7 y8 y9 y10
      unfold backhaullaw27_kept.j0
      repeat' first
      | (with_reducible exact ih0 _ _ _ _ _ _ _ _ _ _ _)
      | (with_reducible exact ih1 _ _ _ _ _ _ _ _ _ _ _)
      | (with_reducible exact LeO.refl _)
      | (with_reducible exact LeO.none _)
      | (with_reducible refine LeO.ite ?_ ?_)
      | (with_reducible refine LeO.bind ?_ (fun _ => ?_))
      | exact ih0 _ _ _ _ _ _ _ _ _ _ _
      | exact ih1 _ _ _ _ _ _ _ _ _ _ _
      | exact LeO.none _
      | refine LeO.ite ?_ ?_
      | refine LeO.bind ?_ (fun _ => ?_)
    intro y0 y1 y2 y3 y4 y5 y6 y7 y8 y9 y10
    unfold backhaullaw27_kept.l0
    repeat' first
    | (with_reducible exact ih0 _ _ _ _ _ _ _ _ _ _ _)
    | (with_reducible exact ih1 _ _ _ _ _ _ _ _ _ _ _)
    | (with_reducible exact LeO.refl _)
    | (with_reducible exact LeO.none _)
    | (with_reducible refine LeO.ite ?_ ?_)
    | (with_reducible refine LeO.bind ?_ (fun _ => ?_))
    | exact ih0 _ _ _ _ _ _ _ _ _ _ _
    | exact ih1 _ _ _ _ _ _ _ _ _ _ _
    | exact LeO.none _
    | refine LeO.ite ?_ ?_
    | refine LeO.bind ?_ (fun _ => ?_)
theorem backhaullaw27_kept.mono : ∀ a0 a1 a2 a3 a4 a5 a6 a7 a8 a9 k, LeO (backhaullaw27_kept.f k a0 a1 a2 a3 a4 a5 a6 a7 a8 a9) (backhaullaw27_kept.f (k + 1) a0 a1 a2 a3 a4 a5 a6 a7 a8 a9) := by
  intro a0 a1 a2 a3 a4 a5 a6 a7 a8 a9 k
  obtain ⟨ih0, ih1⟩ := backhaullaw27_kept.mono_l k
  unfold backhaullaw27_kept.f
  repeat' first
      | (with_reducible exact ih0 _ _ _ _ _ _ _ _ _ _ _)
      | (with_reducible exact ih1 _ _ _ _ _ _ _ _ _ _ _)
      | (with_reducible exact LeO.refl _)
      | (with_reducible exact LeO.none _)
      | (with_reducible refine LeO.ite ?_ ?_)
      | (with_reducible refine LeO.bind ?_ (fun _ => ?_))
      | exact ih0 _ _ _ _ _ _ _ _ _ _ _
      | exact ih1 _ _ _ _ _ _ _ _ _ _ _
      | exact LeO.none _
      | refine LeO.ite ?_ ?_
      | refine LeO.bind ?_ (fun _ => ?_)
set_option maxHeartbeats 8000000 in
set_option maxRecDepth 100000 in
theorem backhaullaw27_kept.calls (k : Nat) (a0_0 : Int) (a0_1 : Int) (a0_2 : Int) (a0_3 : Int) (A0_4 : Option Addr) (c0_4 : Nat) (l0_4 : List (S97)) (a1_0 : Int) (a1_1 : Int) (a1_2 : Int) (a1_3 : Int) (A1_4 : Option Addr) (c1_4 : Nat) (l1_4 : List (S97)) (r : Bool) (w : World) (hr0_4 : Kd.C k97 w A0_4 l0_4.length l0_4) (hc0_4 : l0_4.length ≤ c0_4) (hr1_4 : Kd.C k97 w A1_4 l1_4.length l1_4) (hc1_4 : l1_4.length ≤ c1_4) (h : backhaullaw27_kept.f k a0_0 a0_1 a0_2 a0_3 l0_4 a1_0 a1_1 a1_2 a1_3 l1_4 = some r) :
    Calls Try.prog 68 #[.agg #[.int .i64 a0_0, .int .i64 a0_1, .int .i64 a0_2, .int .i64 a0_3, .slice A0_4 l0_4.length c0_4], .agg #[.int .i64 a1_0, .int .i64 a1_1, .int .i64 a1_2, .int .i64 a1_3, .slice A1_4 l1_4.length c1_4]] w fun e w' => e = .returned (.bool r) ∧ Below w.heap.size w w' := by
  have hu70 := Try.underlying70
  have HR0_4 := zA hr0_4
  have HC0_4 := zA hc0_4
  clear hr0_4 hc0_4
  have HR1_4 := zA hr1_4
  have HC1_4 := zA hc1_4
  clear hr1_4 hc1_4
  have HB := zA (Below.refl w.heap.size w)
  have H : (if a0_0 = a1_0 then (if a0_1 = a1_1 then (if a0_2 = a1_2 then (backhaullaw27_kept.j0 k ((l0_4.length : Int) != (l1_4.length : Int)) a0_0 a0_1 a0_2 a0_3 l0_4 a1_0 a1_1 a1_2 a1_3 l1_4) else (backhaullaw27_kept.j0 k true a0_0 a0_1 a0_2 a0_3 l0_4 a1_0 a1_1 a1_2 a1_3 l1_4)) else (backhaullaw27_kept.j0 k true a0_0 a0_1 a0_2 a0_3 l0_4 a1_0 a1_1 a1_2 a1_3 l1_4)) else (backhaullaw27_kept.j0 k true a0_0 a0_1 a0_2 a0_3 l0_4 a1_0 a1_1 a1_2 a1_3 l1_4)) = some r := h
  clear h
  have HC3 := zA H
  clear H
  go_enter Try.func68, Try.ntmps68
  go_upto_region 1 with (first | ((with_reducible refine gate_dst (N := 2) rfl ?_); (try (refine gate_guard (by rfl) ?_; dsimp only)); refine box_event qr (N := 2) qr (cs := #[.int .i64 a0_0, .int .i64 a0_1, .int .i64 a0_2, .int .i64 a0_3, .slice A0_4 l0_4.length c0_4]) (t := 70) qg ?_; intro gb101 hg w4 hbox hb; have n0_ := zA (zV qB hb); have n1_ := zA (hbox); have n2_ := zA ((qS : w.heap.size ≤ gb101)); have n3_ := zA ((qS : w.heap.size ≤ gb101)); clear HB; have HB := n0_; have BK101 := n1_; have GW101 := n2_; have GE101 := n3_; clear n0_ n1_ n2_ n3_ hb hbox hg) | ((with_reducible refine gate_dst (N := 3) rfl ?_); (try (refine gate_guard (by rfl) ?_; dsimp only)); refine box_event qr (N := 3) qr (cs := #[.int .i64 a1_0, .int .i64 a1_1, .int .i64 a1_2, .int .i64 a1_3, .slice A1_4 l1_4.length c1_4]) (t := 70) qg ?_; intro gb102 hg w5 hbox hb; have n0_ := zA (qX BK101.out hb); have n1_ := zA (zV qB hb); have n2_ := zA (hbox); have n3_ := zA ((qS : w.heap.size ≤ gb102)); have n4_ := zA ((qS : w.heap.size ≤ gb102)); have n5_ := zA ((by rw [hg]; exact zLq (qL BK101.out) : gb101 ≠ gb102)); have n6_ := zA ((by rw [hg]; exact zMq (qL BK101.out) : gb102 ≠ gb101)); clear BK101 HB; have BK101 := n0_; have HB := n1_; have BK102 := n2_; have GW102 := n3_; have GE102 := n4_; have NB101_102 := n5_; have NB102_101 := n6_; clear n0_ n1_ n2_ n3_ n4_ n5_ n6_ hb hbox hg))
  repeat (go_quiet (first | ((with_reducible refine gate_dst (N := 2) rfl ?_); (try (refine gate_guard (by rfl) ?_; dsimp only)); refine box_event qr (N := 2) qr (cs := #[.int .i64 a0_0, .int .i64 a0_1, .int .i64 a0_2, .int .i64 a0_3, .slice A0_4 l0_4.length c0_4]) (t := 70) qg ?_; intro gb101 hg w4 hbox hb; have n0_ := zA (zV qB hb); have n1_ := zA (hbox); have n2_ := zA ((qS : w.heap.size ≤ gb101)); have n3_ := zA ((qS : w.heap.size ≤ gb101)); clear HB; have HB := n0_; have BK101 := n1_; have GW101 := n2_; have GE101 := n3_; clear n0_ n1_ n2_ n3_ hb hbox hg) | ((with_reducible refine gate_dst (N := 3) rfl ?_); (try (refine gate_guard (by rfl) ?_; dsimp only)); refine box_event qr (N := 3) qr (cs := #[.int .i64 a1_0, .int .i64 a1_1, .int .i64 a1_2, .int .i64 a1_3, .slice A1_4 l1_4.length c1_4]) (t := 70) qg ?_; intro gb102 hg w5 hbox hb; have n0_ := zA (qX BK101.out hb); have n1_ := zA (zV qB hb); have n2_ := zA (hbox); have n3_ := zA ((qS : w.heap.size ≤ gb102)); have n4_ := zA ((qS : w.heap.size ≤ gb102)); have n5_ := zA ((by rw [hg]; exact zLq (qL BK101.out) : gb101 ≠ gb102)); have n6_ := zA ((by rw [hg]; exact zMq (qL BK101.out) : gb102 ≠ gb101)); clear BK101 HB; have BK101 := n0_; have HB := n1_; have BK102 := n2_; have GW102 := n3_; have GE102 := n4_; have NB101_102 := n5_; have NB102_101 := n6_; clear n0_ n1_ n2_ n3_ n4_ n5_ n6_ hb hbox hg)); go_upto_region 1 with (first | ((with_reducible refine gate_dst (N := 2) rfl ?_); (try (refine gate_guard (by rfl) ?_; dsimp only)); refine box_event qr (N := 2) qr (cs := #[.int .i64 a0_0, .int .i64 a0_1, .int .i64 a0_2, .int .i64 a0_3, .slice A0_4 l0_4.length c0_4]) (t := 70) qg ?_; intro gb101 hg w4 hbox hb; have n0_ := zA (zV qB hb); have n1_ := zA (hbox); have n2_ := zA ((qS : w.heap.size ≤ gb101)); have n3_ := zA ((qS : w.heap.size ≤ gb101)); clear HB; have HB := n0_; have BK101 := n1_; have GW101 := n2_; have GE101 := n3_; clear n0_ n1_ n2_ n3_ hb hbox hg) | ((with_reducible refine gate_dst (N := 3) rfl ?_); (try (refine gate_guard (by rfl) ?_; dsimp only)); refine box_event qr (N := 3) qr (cs := #[.int .i64 a1_0, .int .i64 a1_1, .int .i64 a1_2, .int .i64 a1_3, .slice A1_4 l1_4.length c1_4]) (t := 70) qg ?_; intro gb102 hg w5 hbox hb; have n0_ := zA (qX BK101.out hb); have n1_ := zA (zV qB hb); have n2_ := zA (hbox); have n3_ := zA ((qS : w.heap.size ≤ gb102)); have n4_ := zA ((qS : w.heap.size ≤ gb102)); have n5_ := zA ((by rw [hg]; exact zLq (qL BK101.out) : gb101 ≠ gb102)); have n6_ := zA ((by rw [hg]; exact zMq (qL BK101.out) : gb102 ≠ gb101)); clear BK101 HB; have BK101 := n0_; have HB := n1_; have BK102 := n2_; have GW102 := n3_; have GE102 := n4_; have NB101_102 := n5_; have NB102_101 := n6_; clear n0_ n1_ n2_ n3_ n4_ n5_ n6_ hb hbox hg)))
  (try simp only [Act.put, zH, zI, zJ])
  go_cut [33] (fun v33 wc => ∃ (kq : Nat) (x33_2 : Bool), v33 = .bool x33_2 ∧ Aside0 (backhaullaw27_kept.j0 kq x33_2 a0_0 a0_1 a0_2 a0_3 l0_4 a1_0 a1_1 a1_2 a1_3 l1_4 = some r) ∧ Aside0 (kq ≤ k) ∧ Aside0 (wc.heap[gb101]? = some (.cells #[.int .i64 a0_0, .int .i64 a0_1, .int .i64 a0_2, .int .i64 a0_3, (.slice A0_4 l0_4.length c0_4)] 70 (0, 0))) ∧ Aside0 (wc.heap[gb102]? = some (.cells #[.int .i64 a1_0, .int .i64 a1_1, .int .i64 a1_2, .int .i64 a1_3, (.slice A1_4 l1_4.length c1_4)] 70 (0, 0))) ∧ Aside0 (Below w.heap.size w wc))
  case first =>
    have H := HC3.out; clear HC3; by_cases c6 : a0_0 = a1_0
    · rw [if_pos c6] at H
      have c6b0 : (a0_0 == a1_0) = true := beq_iff_eq.mpr c6; have c6b1 : (a0_0 != a1_0) = false := bne_eq_false_iff_eq.mpr c6; clear c6; (first | rw [c6b0] | (simp only [i64_w, i32_w]; rw [c6b0]) | skip)
      by_cases c7 : a0_1 = a1_1
      · rw [if_pos c7] at H
        have c7b0 : (a0_1 == a1_1) = true := beq_iff_eq.mpr c7; have c7b1 : (a0_1 != a1_1) = false := bne_eq_false_iff_eq.mpr c7; clear c7; by_cases c8 : a0_2 = a1_2
        · rw [if_pos c8] at H
          have c8b0 : (a0_2 == a1_2) = true := beq_iff_eq.mpr c8; have c8b1 : (a0_2 != a1_2) = false := bne_eq_false_iff_eq.mpr c8; clear c8; have H' := zA H; clear H; have hnb9 := NB101_102.out; have hnc9 := NB102_101.out; obtain ⟨_, _, _, _, _, _, _, _, _, _⟩ := qc5f BK101.out; obtain ⟨_, _, _, _, _, _, _, _, _, _⟩ := qc5f BK102.out; go_wp2; repeat (go_quiet (fail); try go_wp2)
          go_meet
          case rel => exact ⟨_, (((l0_4.length : Int) != (l1_4.length : Int))), (by first | rfl | (simp; done) | (simp [*]; done)), H', ⟨by first | omega | exact Nat.le_refl _⟩, ⟨by exact BK101.out⟩, ⟨by exact BK102.out⟩, ⟨qB⟩⟩
        rw [if_neg c8] at H; have c8b0 : (a0_2 == a1_2) = false := beq_eq_false_iff_ne.mpr c8; have c8b1 : (a0_2 != a1_2) = true := bne_iff_ne.mpr c8; have H' := zA H; clear H; have hnb12 := NB101_102.out; have hnc12 := NB102_101.out; obtain ⟨_, _, _, _, _, _, _, _, _, _⟩ := qc5f BK101.out; obtain ⟨_, _, _, _, _, _, _, _, _, _⟩ := qc5f BK102.out; go_wp2; repeat (go_quiet (fail); try go_wp2)
        go_meet
        case rel => exact ⟨_, (true), (by first | rfl | (simp; done) | (simp [*]; done)), H', ⟨by first | omega | exact Nat.le_refl _⟩, ⟨by exact BK101.out⟩, ⟨by exact BK102.out⟩, ⟨qB⟩⟩
      rw [if_neg c7] at H; have c7b0 : (a0_1 == a1_1) = false := beq_eq_false_iff_ne.mpr c7; have c7b1 : (a0_1 != a1_1) = true := bne_iff_ne.mpr c7; have H' := zA H; clear H; have hnb15 := NB101_102.out; have hnc15 := NB102_101.out; obtain ⟨_, _, _, _, _, _, _, _, _, _⟩ := qc5f BK101.out; obtain ⟨_, _, _, _, _, _, _, _, _, _⟩ := qc5f BK102.out; go_wp2; repeat (go_quiet (fail); try go_wp2)
      go_meet
      case rel => exact ⟨_, (true), (by first | rfl | (simp; done) | (simp [*]; done)), H', ⟨by first | omega | exact Nat.le_refl _⟩, ⟨by exact BK101.out⟩, ⟨by exact BK102.out⟩, ⟨qB⟩⟩
    rw [if_neg c6] at H; have c6b0 : (a0_0 == a1_0) = false := beq_eq_false_iff_ne.mpr c6; have c6b1 : (a0_0 != a1_0) = true := bne_iff_ne.mpr c6; (first | rw [c6b0] | (simp only [i64_w, i32_w]; rw [c6b0]) | skip)
    have H' := zA H; clear H; have hnb18 := NB101_102.out; have hnc18 := NB102_101.out; obtain ⟨_, _, _, _, _, _, _, _, _, _⟩ := qc5f BK101.out; obtain ⟨_, _, _, _, _, _, _, _, _, _⟩ := qc5f BK102.out; go_wp2; repeat (go_quiet (fail); try go_wp2)
    go_meet
    case rel => exact ⟨_, (true), (by first | rfl | (simp; done) | (simp [*]; done)), H', ⟨by first | omega | exact Nat.le_refl _⟩, ⟨by exact BK101.out⟩, ⟨by exact BK102.out⟩, ⟨qB⟩⟩
  case rest =>
    clear HC3; try clear c1
    try clear p2
    try clear c6
    try clear c6b0
    try clear c6b1
    try clear c7
    try clear c7b0
    try clear c7b1
    try clear c8
    try clear c8b0
    try clear c8b1
    try clear c9
    try clear c12
    try clear c15
    try clear c18
    obtain ⟨kq, x33_2, rfl, HA, HJ2, BK101, BK102, HB⟩ := hcut; cases kq with
    | zero => exact absurd HA.out (by simp [backhaullaw27_kept.j0])
    | succ kj2 =>
      have H := HA.out; clear HA; simp only [backhaullaw27_kept.j0] at H; by_cases c21 : x33_2 = true
      · subst c21
        have H1 : (some false) = some r := by first | (rw [if_pos rfl] at H; exact H) | rfl
        clear H; have H := H1; clear H1; obtain rfl := zKq H; go_wp2; repeat (go_quiet (fail); try go_wp2)
        go_ret; exact ⟨qE, qB⟩
      replace c21 := Bool.eq_false_iff.mpr c21; subst c21; have H1 : (backhaullaw27_kept.l0 kj2 0 a0_0 a0_1 a0_2 a0_3 l0_4 a1_0 a1_1 a1_2 a1_3 l1_4) = some r := by first | (rw [if_neg (show ¬ (false = true) by decide)] at H; exact H) | rfl
      clear H; have H := H1; clear H1; have H' := zA H; clear H; go_wp2; repeat (go_quiet (fail); try go_wp2)
      go_loopg [5] kj2 (fun kq v5 w' => ∃ (x5_2 : Int), v5 = .int .i64 x5_2 ∧ Aside0 (backhaullaw27_kept.l0 kq x5_2 a0_0 a0_1 a0_2 a0_3 l0_4 a1_0 a1_1 a1_2 a1_3 l1_4 = some r) ∧ Aside0 (kq ≤ kj2) ∧ Aside0 (w'.heap[gb101]? = some (.cells #[.int .i64 a0_0, .int .i64 a0_1, .int .i64 a0_2, .int .i64 a0_3, (.slice A0_4 l0_4.length c0_4)] 70 (0, 0))) ∧ Aside0 (w'.heap[gb102]? = some (.cells #[.int .i64 a1_0, .int .i64 a1_1, .int .i64 a1_2, .int .i64 a1_3, (.slice A1_4 l1_4.length c1_4)] 70 (0, 0))) ∧ Aside0 (Below w.heap.size w w'))
      case atStart => exact ⟨(0), (by first | rfl | (simp; done) | (simp [*]; done)), H', ⟨Nat.le_refl _⟩, ⟨by exact BK101.out⟩, ⟨by exact BK102.out⟩, ⟨qB⟩⟩
      case round =>
        clear H'; try clear c1
        try clear c2
        try clear p2
        try clear c6
        try clear c6b0
        try clear c6b1
        try clear c7
        try clear c7b0
        try clear c7b1
        try clear c8
        try clear c8b0
        try clear c8b1
        try clear c9
        try clear c12
        try clear c15
        try clear c18
        try clear c21
        try clear p2
        obtain ⟨x5_2, rfl, HA, HK2, BK101, BK102, HB⟩ := hrel; cases gk with
        | zero => exact absurd HA.out (by simp [backhaullaw27_kept.l0])
        | succ k2 =>
          have H := HA.out; clear HA; simp only [backhaullaw27_kept.l0] at H; by_cases c22 : x5_2 < (l0_4.length : Int)
          · rw [if_pos c22] at H
            have c22b0 : decide (x5_2 < (l0_4.length : Int)) = true := zFq c22; clear c22; by_cases c23 : 0 ≤ x5_2
            · rw [if_pos c23] at H
              have c23b0 : decide (0 ≤ x5_2) = true := zFq c23; clear c23; by_cases c24 : x5_2 < (l1_4.length : Int)
              · rw [if_pos c24] at H
                have c24b0 : decide (x5_2 < (l1_4.length : Int)) = true := zFq c24; clear c24; by_cases c25 : ((rd_T97 l0_4 x5_2).f0) = ((rd_T97 l1_4 x5_2).f0)
                · rw [if_pos c25] at H
                  have c25b0 : (((rd_T97 l0_4 x5_2).f0) == ((rd_T97 l1_4 x5_2).f0)) = true := beq_iff_eq.mpr c25; have c25b1 : (((rd_T97 l0_4 x5_2).f0) != ((rd_T97 l1_4 x5_2).f0)) = false := bne_eq_false_iff_eq.mpr c25; clear c25; by_cases c26 : ((rd_T97 l1_4 x5_2).f2) < ((rd_T97 l0_4 x5_2).f2)
                  · rw [if_pos c26] at H
                    have c26b0 : decide (((rd_T97 l1_4 x5_2).f2) < ((rd_T97 l0_4 x5_2).f2)) = true := zFq c26; clear c26; obtain rfl := zKq H; have hnb27 := NB101_102.out; have hnc27 := NB102_101.out; obtain ⟨_, _, _, _, _, _, _, _, _, _⟩ := qc5f BK101.out; have p103 : 0 ≤ (x5_2 : Int) := of_decide_eq_true qA; have q103 : x5_2 < (l0_4.length : Int) := of_decide_eq_true qA; obtain ⟨ad103, e103, hx103_0, hx103_1, hx103_2⟩ := at_T97 HR0_4.out x5_2 p103 q103; cases e103
                    replace hx103_0 := (HB.out.cell (zCq w _ hx103_0)).trans hx103_0; replace hx103_1 := (HB.out.cell (zCq w _ hx103_1)).trans hx103_1; replace hx103_2 := (HB.out.cell (zCq w _ hx103_2)).trans hx103_2; replace p103 := eq_true p103; replace q103 := eq_true q103; obtain ⟨_, _, _, _, _, _, _, _, _, _⟩ := qc5f BK102.out; have p104 : 0 ≤ (x5_2 : Int) := of_decide_eq_true qA; have q104 : x5_2 < (l1_4.length : Int) := of_decide_eq_true qA; obtain ⟨ad104, e104, hx104_0, hx104_1, hx104_2⟩ := at_T97 HR1_4.out x5_2 p104 q104; cases e104
                    replace hx104_0 := (HB.out.cell (zCq w _ hx104_0)).trans hx104_0; replace hx104_1 := (HB.out.cell (zCq w _ hx104_1)).trans hx104_1; replace hx104_2 := (HB.out.cell (zCq w _ hx104_2)).trans hx104_2; replace p104 := eq_true p104; replace q104 := eq_true q104; have p105 : 0 ≤ (x5_2 : Int) := of_decide_eq_true qA; have q105 : x5_2 < (l1_4.length : Int) := of_decide_eq_true qA; obtain ⟨ad105, e105, hx105_0, hx105_1, hx105_2⟩ := at_T97 HR1_4.out x5_2 p105 q105; obtain rfl : ad104 = ad105 := (by injection e105)
                    replace hx105_0 := (HB.out.cell (zCq w _ hx105_0)).trans hx105_0; replace hx105_1 := (HB.out.cell (zCq w _ hx105_1)).trans hx105_1; replace hx105_2 := (HB.out.cell (zCq w _ hx105_2)).trans hx105_2; replace p105 := eq_true p105; replace q105 := eq_true q105; have p106 : 0 ≤ (x5_2 : Int) := of_decide_eq_true qA; have q106 : x5_2 < (l0_4.length : Int) := of_decide_eq_true qA; obtain ⟨ad106, e106, hx106_0, hx106_1, hx106_2⟩ := at_T97 HR0_4.out x5_2 p106 q106; obtain rfl : ad103 = ad106 := (by injection e106)
                    replace hx106_0 := (HB.out.cell (zCq w _ hx106_0)).trans hx106_0; replace hx106_1 := (HB.out.cell (zCq w _ hx106_1)).trans hx106_1; replace hx106_2 := (HB.out.cell (zCq w _ hx106_2)).trans hx106_2; replace p106 := eq_true p106; replace q106 := eq_true q106; go_wp2; repeat (go_quiet (fail); try go_wp2)
                    go_ret; exact ⟨qE, qB⟩
                  rw [if_neg c26] at H; have c26b0 : decide (((rd_T97 l1_4 x5_2).f2) < ((rd_T97 l0_4 x5_2).f2)) = false := zGq c26; clear c26; have H' := zA H; clear H; have hnb30 := NB101_102.out; have hnc30 := NB102_101.out; obtain ⟨_, _, _, _, _, _, _, _, _, _⟩ := qc5f BK101.out; have p103 : 0 ≤ (x5_2 : Int) := of_decide_eq_true qA; have q103 : x5_2 < (l0_4.length : Int) := of_decide_eq_true qA; obtain ⟨ad103, e103, hx103_0, hx103_1, hx103_2⟩ := at_T97 HR0_4.out x5_2 p103 q103; cases e103
                  replace hx103_0 := (HB.out.cell (zCq w _ hx103_0)).trans hx103_0; replace hx103_1 := (HB.out.cell (zCq w _ hx103_1)).trans hx103_1; replace hx103_2 := (HB.out.cell (zCq w _ hx103_2)).trans hx103_2; replace p103 := eq_true p103; replace q103 := eq_true q103; obtain ⟨_, _, _, _, _, _, _, _, _, _⟩ := qc5f BK102.out; have p104 : 0 ≤ (x5_2 : Int) := of_decide_eq_true qA; have q104 : x5_2 < (l1_4.length : Int) := of_decide_eq_true qA; obtain ⟨ad104, e104, hx104_0, hx104_1, hx104_2⟩ := at_T97 HR1_4.out x5_2 p104 q104; cases e104
                  replace hx104_0 := (HB.out.cell (zCq w _ hx104_0)).trans hx104_0; replace hx104_1 := (HB.out.cell (zCq w _ hx104_1)).trans hx104_1; replace hx104_2 := (HB.out.cell (zCq w _ hx104_2)).trans hx104_2; replace p104 := eq_true p104; replace q104 := eq_true q104; have p105 : 0 ≤ (x5_2 : Int) := of_decide_eq_true qA; have q105 : x5_2 < (l1_4.length : Int) := of_decide_eq_true qA; obtain ⟨ad105, e105, hx105_0, hx105_1, hx105_2⟩ := at_T97 HR1_4.out x5_2 p105 q105; obtain rfl : ad104 = ad105 := (by injection e105)
                  replace hx105_0 := (HB.out.cell (zCq w _ hx105_0)).trans hx105_0; replace hx105_1 := (HB.out.cell (zCq w _ hx105_1)).trans hx105_1; replace hx105_2 := (HB.out.cell (zCq w _ hx105_2)).trans hx105_2; replace p105 := eq_true p105; replace q105 := eq_true q105; have p106 : 0 ≤ (x5_2 : Int) := of_decide_eq_true qA; have q106 : x5_2 < (l0_4.length : Int) := of_decide_eq_true qA; obtain ⟨ad106, e106, hx106_0, hx106_1, hx106_2⟩ := at_T97 HR0_4.out x5_2 p106 q106; obtain rfl : ad103 = ad106 := (by injection e106)
                  replace hx106_0 := (HB.out.cell (zCq w _ hx106_0)).trans hx106_0; replace hx106_1 := (HB.out.cell (zCq w _ hx106_1)).trans hx106_1; replace hx106_2 := (HB.out.cell (zCq w _ hx106_2)).trans hx106_2; replace p106 := eq_true p106; replace q106 := eq_true q106; go_wp2; repeat (go_quiet (fail); try go_wp2)
                  go_roundg k2
                  case measure => have := HJ2.out; have := HK2.out; omega
                  case rel => exact ⟨(wrap64 (x5_2 + 1)), (by first | rfl | (simp; done) | (simp [*]; done)), H', ⟨by have := HJ2.out; have := HK2.out; omega⟩, ⟨by exact BK101.out⟩, ⟨by exact BK102.out⟩, ⟨qB⟩⟩
                rw [if_neg c25] at H; have c25b0 : (((rd_T97 l0_4 x5_2).f0) == ((rd_T97 l1_4 x5_2).f0)) = false := beq_eq_false_iff_ne.mpr c25; have c25b1 : (((rd_T97 l0_4 x5_2).f0) != ((rd_T97 l1_4 x5_2).f0)) = true := bne_iff_ne.mpr c25; obtain rfl := zKq H; have hnb33 := NB101_102.out; have hnc33 := NB102_101.out; obtain ⟨_, _, _, _, _, _, _, _, _, _⟩ := qc5f BK101.out; have p103 : 0 ≤ (x5_2 : Int) := of_decide_eq_true qA; have q103 : x5_2 < (l0_4.length : Int) := of_decide_eq_true qA; obtain ⟨ad103, e103, hx103_0, hx103_1, hx103_2⟩ := at_T97 HR0_4.out x5_2 p103 q103; cases e103
                replace hx103_0 := (HB.out.cell (zCq w _ hx103_0)).trans hx103_0; replace hx103_1 := (HB.out.cell (zCq w _ hx103_1)).trans hx103_1; replace hx103_2 := (HB.out.cell (zCq w _ hx103_2)).trans hx103_2; replace p103 := eq_true p103; replace q103 := eq_true q103; obtain ⟨_, _, _, _, _, _, _, _, _, _⟩ := qc5f BK102.out; have p104 : 0 ≤ (x5_2 : Int) := of_decide_eq_true qA; have q104 : x5_2 < (l1_4.length : Int) := of_decide_eq_true qA; obtain ⟨ad104, e104, hx104_0, hx104_1, hx104_2⟩ := at_T97 HR1_4.out x5_2 p104 q104; cases e104
                replace hx104_0 := (HB.out.cell (zCq w _ hx104_0)).trans hx104_0; replace hx104_1 := (HB.out.cell (zCq w _ hx104_1)).trans hx104_1; replace hx104_2 := (HB.out.cell (zCq w _ hx104_2)).trans hx104_2; replace p104 := eq_true p104; replace q104 := eq_true q104; go_wp2; repeat (go_quiet (fail); try go_wp2)
                go_ret; exact ⟨qE, qB⟩
              rw [if_neg c24] at H; exact absurd H (by simp)
            rw [if_neg c23] at H; exact absurd H (by simp)
          rw [if_neg c22] at H; have c22b0 : decide (x5_2 < (l0_4.length : Int)) = false := zGq c22; clear c22; obtain rfl := zKq H; have hnb36 := NB101_102.out; have hnc36 := NB102_101.out; obtain ⟨_, _, _, _, _, _, _, _, _, _⟩ := qc5f BK101.out; go_wp2; repeat (go_quiet (fail); try go_wp2)
          go_ret; exact ⟨qE, qB⟩
end Go.Proofs.Ytakkhomjpflkbaa.F
