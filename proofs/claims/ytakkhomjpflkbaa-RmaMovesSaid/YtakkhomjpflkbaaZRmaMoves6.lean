-- merged and pruned by prune.py (the session's own program); its words go back to the kit's print
import Derived.Test.YtakkhomjpflkbaaProg
import Derived.Below
import Derived.Deep.Draws
import Derived.Deep.AppendLies
import Derived.Maps.AppendAt
import Derived.OwnWalk
import Derived.Laws.BytesArg
import Derived.Laws.MakeOwn
import Derived.Laws.OwnMore
import Derived.Deep.OwnRows
import Derived.Tactics
import Derived.Lib.ConvBytes
import Derived.Laws.Slices
import Derived.WalkKit
import Derived.KernelRfl
import Derived.RowKit3
import Derived.Deep.LoopGhost
import Derived.Deep.QuietTactic
import Derived.BigQuiet
import Derived.WideLaws
import Derived.Deep.DeepCutAuto
import Derived.Deep.CutBlock
import Derived.Deep.RegionHeld3
import Derived.Laws.Rows
import Derived.Lib.AppendStr
import Derived.ArgAppend
import Derived.Laws.IdiomCopy
import Derived.OrdersHeld
import Derived.Laws.BitsLemmas
import Derived.RowKit
import Derived.Laws.StructEq
import Derived.Deep.RegionLawGrows
import Derived.Lib.SliceRun
import Derived.Lib.OthersKept
import Derived.Lib.RuneCount
import Derived.Laws.Cover4
import Derived.Outline
import Derived.Shelf.Strings.Builder1
import Derived.Shelf.Strings.BuilderF
import Derived.Shelf.Strings.BuilderK
import Derived.Shelf.Utf8.RuneCount
import Derived.Shelf.Strings.Prefix
import Derived.Maps.Own
import Derived.Maps.OwnOps
import Derived.Maps.Views
import Derived.StringKeys
import Derived.Carry
import Derived.Laws.CopyRow
import Derived.Laws.CopyOwn
import Derived.Deep.Slices
import Derived.ChangeArms
import Derived.WideShapes
import Derived.OpenShut
import Derived.Test.YtakkhomjpflkbaaRows
import Derived.ProofKit
import Derived.Test.YtakkhomjpflkbaaZRmaMoves5
namespace Go.Proofs.Ytakkhomjpflkbaa.F
open Go.RowKit Go.Proofs.YtakkhomjpflkbaaX Go.Proofs.YtakkhomjpflkbaaW.PrintWords Go.Proofs.YtakkhomjpflkbaaW.PrintLast Go.Proofs.YtakkhomjpflkbaaW.PrintMore
attribute [local go_sem] max2_int min2_int max_two min_two max_three min_three max_four min_four   
attribute [local go_sem high] str_geq str_leq str_gtr
set_option linter.unusedVariables false
set_option linter.unusedSimpArgs false
def backhaulref27_Expire.f (k : Nat) (a0_0 : Int) (a0_1 : Int) (a0_2 : Int) (a0_3 : Int) (l0_4 : List (S97)) (a1 : Int) : Option (Int × Int × Int × Int × (List (S97))) := (backhaulref27_wrong.f k a0_0 a0_1 a0_2 a0_3 l0_4).bind fun t103 => (if t103 = 0 then (if a1 > a0_2 then (some (a0_0, a0_1, a0_2, 3, l0_4)) else (some (a0_0, a0_1, a0_2, a0_3, l0_4))) else (some (a0_0, a0_1, a0_2, a0_3, l0_4)))
theorem backhaulref27_Expire.same {k : Nat} {a0_0 : Int} {a0_1 : Int} {a0_2 : Int} {a0_3 : Int} {l0_4 : List (S97)} {a1 : Int} {r_0 : Int} {r_1 : Int} {r_2 : Int} {r_3 : Int} {r_4 : List (S97)} (h : backhaulref27_Expire.f k a0_0 a0_1 a0_2 a0_3 l0_4 a1 = some (r_0, r_1, r_2, r_3, r_4)) : r_4 = l0_4 := by
  unfold backhaulref27_Expire.f at h
  obtain ⟨t_, _, h⟩ := Option.bind_eq_some_iff.1 h
  (try dsimp only at h)
  (repeat' split at h) <;> (simp only [zNq, zOq] at h; exact h.2.2.2.2.symm)
theorem backhaulref27_Expire.mono : ∀ a0 a1 a2 a3 a4 a5 k, LeO (backhaulref27_Expire.f k a0 a1 a2 a3 a4 a5) (backhaulref27_Expire.f (k + 1) a0 a1 a2 a3 a4 a5) := by
  intro a0 a1 a2 a3 a4 a5 k
  unfold backhaulref27_Expire.f
  repeat' first
      | (with_reducible exact backhaulref27_wrong.mono _ _ _ _ _ _)
      | (with_reducible exact LeO.refl _)
      | (with_reducible exact LeO.none _)
      | (with_reducible refine LeO.ite ?_ ?_)
      | (with_reducible refine LeO.bind ?_ (fun _ => ?_))
      | exact backhaulref27_wrong.mono _ _ _ _ _ _
      | exact LeO.none _
      | refine LeO.ite ?_ ?_
      | refine LeO.bind ?_ (fun _ => ?_)
set_option maxHeartbeats 8000000 in
set_option maxRecDepth 100000 in
theorem backhaulref27_Expire.calls (k : Nat) (a0_0 : Int) (a0_1 : Int) (a0_2 : Int) (a0_3 : Int) (A0_4 : Option Addr) (c0_4 : Nat) (l0_4 : List (S97)) (a1 : Int) (r1 : Int) (r2 : Int) (r3 : Int) (r4 : Int) (r5 : List (S97)) (w : World) (hr0_4 : Kd.C k97 w A0_4 l0_4.length l0_4) (hc0_4 : l0_4.length ≤ c0_4) (h : backhaulref27_Expire.f k a0_0 a0_1 a0_2 a0_3 l0_4 a1 = some (r1, r2, r3, r4, r5)) :
    Calls Try.prog 65 #[.agg #[.int .i64 a0_0, .int .i64 a0_1, .int .i64 a0_2, .int .i64 a0_3, .slice A0_4 l0_4.length c0_4], .int .i64 a1] w fun e w' => e = .returned (.agg #[.int .i64 r1, .int .i64 r2, .int .i64 r3, .int .i64 r4, .slice A0_4 l0_4.length c0_4]) ∧ Below w.heap.size w w' := by
  have hu70 := Try.underlying70
  have HR0_4 := zA hr0_4
  have HC0_4 := zA hc0_4
  clear hr0_4 hc0_4
  have HB := zA (Below.refl w.heap.size w)
  have H : ((backhaulref27_wrong.f k a0_0 a0_1 a0_2 a0_3 l0_4).bind fun t103 => (if t103 = 0 then (if a1 > a0_2 then (some (a0_0, a0_1, a0_2, 3, l0_4)) else (some (a0_0, a0_1, a0_2, a0_3, l0_4))) else (some (a0_0, a0_1, a0_2, a0_3, l0_4)))) = some (r1, r2, r3, r4, r5) := h
  clear h
  replace H := Option.bind_eq_some_iff.mp H
  obtain ⟨t103, A30, H⟩ := H
  replace H : (if t103 = 0 then (if a1 > a0_2 then (some (a0_0, a0_1, a0_2, 3, l0_4)) else (some (a0_0, a0_1, a0_2, a0_3, l0_4))) else (some (a0_0, a0_1, a0_2, a0_3, l0_4))) = some (r1, r2, r3, r4, r5) := H
  have A3 := zA A30
  clear A30
  by_cases c4 : t103 = 0
  · rw [if_pos c4] at H
    have c4b0 : (t103 == 0) = true := beq_iff_eq.mpr c4; have c4b1 : (t103 != 0) = false := bne_eq_false_iff_eq.mpr c4; clear c4; by_cases c5 : a1 > a0_2
    · rw [if_pos c5] at H
      have c5b0 : decide (a0_2 < a1) = true := zFq c5; clear c5; simp only [zNq, zOq] at H; obtain ⟨rfl, rfl, rfl, rfl, rfl⟩ := H; go_enter Try.func65, Try.ntmps65; go_wp2_with (first | ((with_reducible refine gate_dst (N := 2) rfl ?_); refine box_event qr (N := 2) qr (cs := #[.int .i64 a0_0, .int .i64 a0_1, .int .i64 a0_2, .int .i64 a0_3, .slice A0_4 l0_4.length c0_4]) (t := 70) qg ?_; intro gb101 hg w6 hbox hb; have n0_ := zA (zV qB hb); have n1_ := zA (hbox); have n2_ := zA ((qS : w.heap.size ≤ gb101)); have n3_ := zA ((qS : w.heap.size ≤ gb101)); clear HB; have HB := n0_; have BK101 := n1_; have GW101 := n2_; have GE101 := n3_; clear n0_ n1_ n2_ n3_ hb hbox hg) | ((with_reducible refine gate_dst (N := 4) rfl ?_); refine box_event qr (N := 4) qr (cs := #[.int .i64 0, .int .i64 0, .int .i64 0, .int .i64 0, .slice none 0 0]) (t := 70) qg ?_; intro gb102 hg w7 hbox hb; have n0_ := zA (qX BK101.out hb); have n1_ := zA (zV qB hb); have n2_ := zA (hbox); have n3_ := zA ((qS : w.heap.size ≤ gb102)); have n4_ := zA ((qS : w.heap.size ≤ gb102)); have n5_ := zA ((by rw [hg]; exact zLq (qL BK101.out) : gb101 ≠ gb102)); have n6_ := zA ((by rw [hg]; exact zMq (qL BK101.out) : gb102 ≠ gb101)); clear BK101 HB; have BK101 := n0_; have HB := n1_; have BK102 := n2_; have GW102 := n3_; have GE102 := n4_; have NB101_102 := n5_; have NB102_101 := n6_; clear n0_ n1_ n2_ n3_ n4_ n5_ n6_ hb hbox hg; have hnb8 := NB101_102.out; have hnc8 := NB102_101.out; obtain ⟨_, _, _, _, _, _, _, _, _, _⟩ := qc5f BK101.out) | ((with_reducible refine zJq (f := 153) rfl ?_); refine goesL_ (some 6) rfl rfl Try.func153 (by kernel_rfl) rfl #[.agg #[.int .i64 a0_0, .int .i64 a0_1, .int .i64 a0_2, .int .i64 a0_3, .slice A0_4 l0_4.length c0_4]] rfl (by (try simp only [zR, zS, zT]); first | done | rfl | (simp only [zP, zQ]; rfl)) ?_; (with_reducible refine (backhaulref27_wrong.calls k a0_0 a0_1 a0_2 a0_3 _ _ l0_4 t103 _ ?side1 ?side2 A3.out).mono ?_); (case side1 => exact qC (Kd.C_below HR0_4.out HB.out)); (case side2 => exact HC0_4.out); rintro e w10 ⟨rfl, hb⟩; refine ⟨_, rfl, ?_⟩; have n0_ := zA (qX BK101.out hb); have n1_ := zA (qX BK102.out hb); have n2_ := zA (zV qB hb); clear BK101 BK102 HB; have BK101 := n0_; have BK102 := n1_; have HB := n2_; clear n0_ n1_ n2_; (try clear hb); (try clear hb2); (try clear hk); (try clear hi); obtain ⟨_, _, _, _, _, _, _, _, _, _⟩ := qc5f BK101.out; obtain ⟨_, _, _, _, _, _, _, _, _, _⟩ := qc5f BK102.out)); refine bodyPost_ret (results_cell_row rfl _ _ gb102 70 #[.int .i64 a0_0, .int .i64 a0_1, .int .i64 a0_2, .int .i64 3, .slice A0_4 l0_4.length c0_4] (0, 0) _ rfl (qV BK102.out) Try.underlying70 rfl (by kernel_rfl)) rfl ?_; exact ⟨qE, qB⟩
    rw [if_neg c5] at H; have c5b0 : decide (a0_2 < a1) = false := zGq c5; clear c5; simp only [zNq, zOq] at H; obtain ⟨rfl, rfl, rfl, rfl, rfl⟩ := H; go_enter Try.func65, Try.ntmps65; go_wp2_with (first | ((with_reducible refine gate_dst (N := 2) rfl ?_); refine box_event qr (N := 2) qr (cs := #[.int .i64 a0_0, .int .i64 a0_1, .int .i64 a0_2, .int .i64 a0_3, .slice A0_4 l0_4.length c0_4]) (t := 70) qg ?_; intro gb101 hg w13 hbox hb; have n0_ := zA (zV qB hb); have n1_ := zA (hbox); have n2_ := zA ((qS : w.heap.size ≤ gb101)); have n3_ := zA ((qS : w.heap.size ≤ gb101)); clear HB; have HB := n0_; have BK101 := n1_; have GW101 := n2_; have GE101 := n3_; clear n0_ n1_ n2_ n3_ hb hbox hg) | ((with_reducible refine gate_dst (N := 4) rfl ?_); refine box_event qr (N := 4) qr (cs := #[.int .i64 0, .int .i64 0, .int .i64 0, .int .i64 0, .slice none 0 0]) (t := 70) qg ?_; intro gb102 hg w14 hbox hb; have n0_ := zA (qX BK101.out hb); have n1_ := zA (zV qB hb); have n2_ := zA (hbox); have n3_ := zA ((qS : w.heap.size ≤ gb102)); have n4_ := zA ((qS : w.heap.size ≤ gb102)); have n5_ := zA ((by rw [hg]; exact zLq (qL BK101.out) : gb101 ≠ gb102)); have n6_ := zA ((by rw [hg]; exact zMq (qL BK101.out) : gb102 ≠ gb101)); clear BK101 HB; have BK101 := n0_; have HB := n1_; have BK102 := n2_; have GW102 := n3_; have GE102 := n4_; have NB101_102 := n5_; have NB102_101 := n6_; clear n0_ n1_ n2_ n3_ n4_ n5_ n6_ hb hbox hg; have hnb15 := NB101_102.out; have hnc15 := NB102_101.out; obtain ⟨_, _, _, _, _, _, _, _, _, _⟩ := qc5f BK101.out) | ((with_reducible refine zJq (f := 153) rfl ?_); refine goesL_ (some 6) rfl rfl Try.func153 (by kernel_rfl) rfl #[.agg #[.int .i64 a0_0, .int .i64 a0_1, .int .i64 a0_2, .int .i64 a0_3, .slice A0_4 l0_4.length c0_4]] rfl (by (try simp only [zR, zS, zT]); first | done | rfl | (simp only [zP, zQ]; rfl)) ?_; (with_reducible refine (backhaulref27_wrong.calls k a0_0 a0_1 a0_2 a0_3 _ _ l0_4 t103 _ ?side1 ?side2 A3.out).mono ?_); (case side1 => exact qC (Kd.C_below HR0_4.out HB.out)); (case side2 => exact HC0_4.out); rintro e w17 ⟨rfl, hb⟩; refine ⟨_, rfl, ?_⟩; have n0_ := zA (qX BK101.out hb); have n1_ := zA (qX BK102.out hb); have n2_ := zA (zV qB hb); clear BK101 BK102 HB; have BK101 := n0_; have BK102 := n1_; have HB := n2_; clear n0_ n1_ n2_; (try clear hb); (try clear hb2); (try clear hk); (try clear hi); obtain ⟨_, _, _, _, _, _, _, _, _, _⟩ := qc5f BK101.out; obtain ⟨_, _, _, _, _, _, _, _, _, _⟩ := qc5f BK102.out)); refine bodyPost_ret (results_cell_row rfl _ _ gb102 70 #[.int .i64 a0_0, .int .i64 a0_1, .int .i64 a0_2, .int .i64 a0_3, .slice A0_4 l0_4.length c0_4] (0, 0) _ rfl (qV BK102.out) Try.underlying70 rfl (by kernel_rfl)) rfl ?_; exact ⟨qE, qB⟩
  rw [if_neg c4] at H
  have c4b0 : (t103 == 0) = false := beq_eq_false_iff_ne.mpr c4
  have c4b1 : (t103 != 0) = true := bne_iff_ne.mpr c4
  simp only [zNq, zOq] at H
  obtain ⟨rfl, rfl, rfl, rfl, rfl⟩ := H
  go_enter Try.func65, Try.ntmps65
  go_wp2_with (first | ((with_reducible refine gate_dst (N := 2) rfl ?_); refine box_event qr (N := 2) qr (cs := #[.int .i64 a0_0, .int .i64 a0_1, .int .i64 a0_2, .int .i64 a0_3, .slice A0_4 l0_4.length c0_4]) (t := 70) qg ?_; intro gb101 hg w20 hbox hb; have n0_ := zA (zV qB hb); have n1_ := zA (hbox); have n2_ := zA ((qS : w.heap.size ≤ gb101)); have n3_ := zA ((qS : w.heap.size ≤ gb101)); clear HB; have HB := n0_; have BK101 := n1_; have GW101 := n2_; have GE101 := n3_; clear n0_ n1_ n2_ n3_ hb hbox hg) | ((with_reducible refine gate_dst (N := 4) rfl ?_); refine box_event qr (N := 4) qr (cs := #[.int .i64 0, .int .i64 0, .int .i64 0, .int .i64 0, .slice none 0 0]) (t := 70) qg ?_; intro gb102 hg w21 hbox hb; have n0_ := zA (qX BK101.out hb); have n1_ := zA (zV qB hb); have n2_ := zA (hbox); have n3_ := zA ((qS : w.heap.size ≤ gb102)); have n4_ := zA ((qS : w.heap.size ≤ gb102)); have n5_ := zA ((by rw [hg]; exact zLq (qL BK101.out) : gb101 ≠ gb102)); have n6_ := zA ((by rw [hg]; exact zMq (qL BK101.out) : gb102 ≠ gb101)); clear BK101 HB; have BK101 := n0_; have HB := n1_; have BK102 := n2_; have GW102 := n3_; have GE102 := n4_; have NB101_102 := n5_; have NB102_101 := n6_; clear n0_ n1_ n2_ n3_ n4_ n5_ n6_ hb hbox hg; have hnb22 := NB101_102.out; have hnc22 := NB102_101.out; obtain ⟨_, _, _, _, _, _, _, _, _, _⟩ := qc5f BK101.out) | ((with_reducible refine zJq (f := 153) rfl ?_); refine goesL_ (some 6) rfl rfl Try.func153 (by kernel_rfl) rfl #[.agg #[.int .i64 a0_0, .int .i64 a0_1, .int .i64 a0_2, .int .i64 a0_3, .slice A0_4 l0_4.length c0_4]] rfl (by (try simp only [zR, zS, zT]); first | done | rfl | (simp only [zP, zQ]; rfl)) ?_; (with_reducible refine (backhaulref27_wrong.calls k a0_0 a0_1 a0_2 a0_3 _ _ l0_4 t103 _ ?side1 ?side2 A3.out).mono ?_); (case side1 => exact qC (Kd.C_below HR0_4.out HB.out)); (case side2 => exact HC0_4.out); rintro e w24 ⟨rfl, hb⟩; refine ⟨_, rfl, ?_⟩; have n0_ := zA (qX BK101.out hb); have n1_ := zA (qX BK102.out hb); have n2_ := zA (zV qB hb); clear BK101 BK102 HB; have BK101 := n0_; have BK102 := n1_; have HB := n2_; clear n0_ n1_ n2_; (try clear hb); (try clear hb2); (try clear hk); (try clear hi); obtain ⟨_, _, _, _, _, _, _, _, _, _⟩ := qc5f BK101.out; obtain ⟨_, _, _, _, _, _, _, _, _, _⟩ := qc5f BK102.out))
  refine bodyPost_ret (results_cell_row rfl _ _ gb102 70 #[.int .i64 a0_0, .int .i64 a0_1, .int .i64 a0_2, .int .i64 a0_3, .slice A0_4 l0_4.length c0_4] (0, 0) _ rfl (qV BK102.out) Try.underlying70 rfl (by kernel_rfl)) rfl ?_
  exact ⟨qE, qB⟩
def backhaulref27_Holds.j0 : Nat → Int → Bool → Int → Int → Int → Int → List (S97) → Option (Int)
  | 0, _, _, _, _, _, _, _ => none
  | k + 1, x5, x15, x102000, x102001, x102002, x102003, x102004 => if x15 = true then (some 0) else (if x102003 = 1 then (if 0 ≤ x5 then (if x5 < (x102004.length : Int) then (some ((rd_T97 x102004 x5).f1)) else (none)) else (none)) else (if 0 ≤ x5 then (if x5 < (x102004.length : Int) then (some ((rd_T97 x102004 x5).f2)) else (none)) else (none)))
def backhaulref27_Holds.f (k : Nat) (a0_0 : Int) (a0_1 : Int) (a0_2 : Int) (a0_3 : Int) (l0_4 : List (S97)) (a1 : Int) : Option (Int) := (backhaulref27_at.f k a0_0 a0_1 a0_2 a0_3 l0_4 a1).bind fun t102 => ((backhaulref27_Check.f k a0_0 a0_1 a0_2 a0_3 l0_4).bind fun t103 => (if t103 = 0 then (backhaulref27_Holds.j0 k t102 (decide (t102 < 0)) a0_0 a0_1 a0_2 a0_3 l0_4) else (backhaulref27_Holds.j0 k t102 true a0_0 a0_1 a0_2 a0_3 l0_4)))
theorem backhaulref27_Holds.mono_l : ∀ k, (∀ y0 y1 y2 y3 y4 y5 y6, LeO (backhaulref27_Holds.j0 k y0 y1 y2 y3 y4 y5 y6) (backhaulref27_Holds.j0 (k + 1) y0 y1 y2 y3 y4 y5 y6))
  | 0 => fun _ _ _ _ _ _ _ r h => by simp [backhaulref27_Holds.j0] at h
  | k + 1 => by
    have ih0 := backhaulref27_Holds.mono_l k
    intro y0 y1 y2 y3 y4 y5 y6
    unfold backhaulref27_Holds.j0
    repeat' first
    | (with_reducible exact ih0 _ _ _ _ _ _ _)
    | (with_reducible exact backhaulref27_Check.mono _ _ _ _ _ _)
    | (with_reducible exact backhaulref27_at.mono _ _ _ _ _ _ _)
    | (with_reducible exact LeO.refl _)
    | (with_reducible exact LeO.none _)
    | (with_reducible refine LeO.ite ?_ ?_)
    | (with_reducible refine LeO.bind ?_ (fun _ => ?_))
    | exact ih0 _ _ _ _ _ _ _
    | exact backhaulref27_Check.mono _ _ _ _ _ _
    | exact backhaulref27_at.mono _ _ _ _ _ _ _
    | exact LeO.none _
    | refine LeO.ite ?_ ?_
    | refine LeO.bind ?_ (fun _ => ?_)
theorem backhaulref27_Holds.mono : ∀ a0 a1 a2 a3 a4 a5 k, LeO (backhaulref27_Holds.f k a0 a1 a2 a3 a4 a5) (backhaulref27_Holds.f (k + 1) a0 a1 a2 a3 a4 a5) := by
  intro a0 a1 a2 a3 a4 a5 k
  have ih0 := backhaulref27_Holds.mono_l k
  unfold backhaulref27_Holds.f
  repeat' first
      | (with_reducible exact ih0 _ _ _ _ _ _ _)
      | (with_reducible exact backhaulref27_Check.mono _ _ _ _ _ _)
      | (with_reducible exact backhaulref27_at.mono _ _ _ _ _ _ _)
      | (with_reducible exact LeO.refl _)
      | (with_reducible exact LeO.none _)
      | (with_reducible refine LeO.ite ?_ ?_)
      | (with_reducible refine LeO.bind ?_ (fun _ => ?_))
      | exact ih0 _ _ _ _ _ _ _
      | exact backhaulref27_Check.mono _ _ _ _ _ _
      | exact backhaulref27_at.mono _ _ _ _ _ _ _
      | exact LeO.none _
      | refine LeO.ite ?_ ?_
      | refine LeO.bind ?_ (fun _ => ?_)
set_option maxHeartbeats 8000000 in
set_option maxRecDepth 100000 in
theorem backhaulref27_Holds.calls (k : Nat) (a0_0 : Int) (a0_1 : Int) (a0_2 : Int) (a0_3 : Int) (A0_4 : Option Addr) (c0_4 : Nat) (l0_4 : List (S97)) (a1 : Int) (r : Int) (w : World) (hr0_4 : Kd.C k97 w A0_4 l0_4.length l0_4) (hc0_4 : l0_4.length ≤ c0_4) (h : backhaulref27_Holds.f k a0_0 a0_1 a0_2 a0_3 l0_4 a1 = some r) :
    Calls Try.prog 67 #[.agg #[.int .i64 a0_0, .int .i64 a0_1, .int .i64 a0_2, .int .i64 a0_3, .slice A0_4 l0_4.length c0_4], .int .i64 a1] w fun e w' => e = .returned (.int .i64 r) ∧ Below w.heap.size w w' := by
  have hu70 := Try.underlying70
  have HR0_4 := zA hr0_4
  have HC0_4 := zA hc0_4
  clear hr0_4 hc0_4
  have HB := zA (Below.refl w.heap.size w)
  have H : ((backhaulref27_at.f k a0_0 a0_1 a0_2 a0_3 l0_4 a1).bind fun t102 => ((backhaulref27_Check.f k a0_0 a0_1 a0_2 a0_3 l0_4).bind fun t103 => (if t103 = 0 then (backhaulref27_Holds.j0 k t102 (decide (t102 < 0)) a0_0 a0_1 a0_2 a0_3 l0_4) else (backhaulref27_Holds.j0 k t102 true a0_0 a0_1 a0_2 a0_3 l0_4)))) = some r := h
  clear h
  replace H := Option.bind_eq_some_iff.mp H
  obtain ⟨t102, A30, H⟩ := H
  replace H : ((backhaulref27_Check.f k a0_0 a0_1 a0_2 a0_3 l0_4).bind fun t103 => (if t103 = 0 then (backhaulref27_Holds.j0 k t102 (decide (t102 < 0)) a0_0 a0_1 a0_2 a0_3 l0_4) else (backhaulref27_Holds.j0 k t102 true a0_0 a0_1 a0_2 a0_3 l0_4))) = some r := H
  have A3 := zA A30
  clear A30
  have HC4 := zA H
  clear H
  go_enter Try.func67, Try.ntmps67
  go_upto_region 2 with (first | ((with_reducible refine gate_dst (N := 2) rfl ?_); refine box_event qr (N := 2) qr (cs := #[.int .i64 a0_0, .int .i64 a0_1, .int .i64 a0_2, .int .i64 a0_3, .slice A0_4 l0_4.length c0_4]) (t := 70) qg ?_; intro gb101 hg w5 hbox hb; have n0_ := zA (zV qB hb); have n1_ := zA (hbox); have n2_ := zA ((qS : w.heap.size ≤ gb101)); have n3_ := zA ((qS : w.heap.size ≤ gb101)); clear HB; have HB := n0_; have BK101 := n1_; have GW101 := n2_; have GE101 := n3_; clear n0_ n1_ n2_ n3_ hb hbox hg; obtain ⟨_, _, _, _, _, _, _, _, _, _⟩ := qc5f BK101.out) | ((with_reducible refine zJq (f := 154) rfl ?_); refine goesL_ (some 8) rfl rfl Try.func154 (by kernel_rfl) rfl #[.agg #[.int .i64 a0_0, .int .i64 a0_1, .int .i64 a0_2, .int .i64 a0_3, .slice A0_4 l0_4.length c0_4], .int .i64 a1] rfl (by (try simp only [zR, zS, zT]); first | done | rfl | (simp only [zP, zQ]; rfl)) ?_; (with_reducible refine (backhaulref27_at.calls k a0_0 a0_1 a0_2 a0_3 _ _ l0_4 a1 t102 _ ?side1 ?side2 A3.out).mono ?_); (case side1 => exact qC (Kd.C_below HR0_4.out HB.out)); (case side2 => exact HC0_4.out); rintro e w7 ⟨rfl, hb⟩; refine ⟨_, rfl, ?_⟩; have n0_ := zA (qX BK101.out hb); have n1_ := zA (zV qB hb); clear BK101 HB; have BK101 := n0_; have HB := n1_; clear n0_ n1_; (try clear hb); (try clear hb2); (try clear hk); (try clear hi)))
  (try simp only [Act.put, zH, zI, zJ])
  go_cut [15] (fun v15 wc => ∃ (kq : Nat) (x15_3 : Bool), v15 = .bool x15_3 ∧ Aside0 (backhaulref27_Holds.j0 kq t102 x15_3 a0_0 a0_1 a0_2 a0_3 l0_4 = some r) ∧ Aside0 (kq ≤ k) ∧ Aside0 (wc.heap[gb101]? = some (.cells #[.int .i64 a0_0, .int .i64 a0_1, .int .i64 a0_2, .int .i64 a0_3, (.slice A0_4 l0_4.length c0_4)] 70 (0, 0))) ∧ Aside0 (Below w.heap.size w wc))
  case first =>
    have H := HC4.out; clear HC4; replace H := Option.bind_eq_some_iff.mp H; obtain ⟨t103, A80, H⟩ := H; replace H : (if t103 = 0 then (backhaulref27_Holds.j0 k t102 (decide (t102 < 0)) a0_0 a0_1 a0_2 a0_3 l0_4) else (backhaulref27_Holds.j0 k t102 true a0_0 a0_1 a0_2 a0_3 l0_4)) = some r := H; have A8 := zA A80; clear A80; by_cases c9 : t103 = 0
    · rw [if_pos c9] at H
      have c9b0 : (t103 == 0) = true := beq_iff_eq.mpr c9; have c9b1 : (t103 != 0) = false := bne_eq_false_iff_eq.mpr c9; clear c9; (first | rw [c9b0] | (simp only [i64_w, i32_w]; rw [c9b0]) | skip)
      have H' := zA H; clear H; obtain ⟨_, _, _, _, _, _, _, _, _, _⟩ := qc5f BK101.out; go_wp2_with (first | ((with_reducible refine zJq (f := 53) rfl ?_); refine goesL_ (some 10) rfl rfl Try.func53 (by kernel_rfl) rfl #[.agg #[.int .i64 a0_0, .int .i64 a0_1, .int .i64 a0_2, .int .i64 a0_3, .slice A0_4 l0_4.length c0_4]] rfl (by (try simp only [zR, zS, zT]); first | done | rfl | (simp only [zP, zQ]; rfl)) ?_; (with_reducible refine (backhaulref27_Check.calls k a0_0 a0_1 a0_2 a0_3 _ _ l0_4 t103 _ ?side1 ?side2 A8.out).mono ?_); (case side1 => exact qC (Kd.C_below HR0_4.out HB.out)); (case side2 => exact HC0_4.out); rintro e w11 ⟨rfl, hb⟩; refine ⟨_, rfl, ?_⟩; have n0_ := zA (qX BK101.out hb); have n1_ := zA (zV qB hb); clear BK101 HB; have BK101 := n0_; have HB := n1_; clear n0_ n1_; (try clear hb); (try clear hb2); (try clear hk); (try clear hi))); go_meet
      case rel => exact ⟨_, (decide (t102 < 0)), (by first | rfl | (simp; done) | (simp [*]; done)), H', ⟨by first | omega | exact Nat.le_refl _⟩, ⟨by exact BK101.out⟩, ⟨qB⟩⟩
    rw [if_neg c9] at H; have c9b0 : (t103 == 0) = false := beq_eq_false_iff_ne.mpr c9; have c9b1 : (t103 != 0) = true := bne_iff_ne.mpr c9; (first | rw [c9b0] | (simp only [i64_w, i32_w]; rw [c9b0]) | skip)
    have H' := zA H; clear H; obtain ⟨_, _, _, _, _, _, _, _, _, _⟩ := qc5f BK101.out; go_wp2_with (first | ((with_reducible refine zJq (f := 53) rfl ?_); refine goesL_ (some 10) rfl rfl Try.func53 (by kernel_rfl) rfl #[.agg #[.int .i64 a0_0, .int .i64 a0_1, .int .i64 a0_2, .int .i64 a0_3, .slice A0_4 l0_4.length c0_4]] rfl (by (try simp only [zR, zS, zT]); first | done | rfl | (simp only [zP, zQ]; rfl)) ?_; (with_reducible refine (backhaulref27_Check.calls k a0_0 a0_1 a0_2 a0_3 _ _ l0_4 t103 _ ?side1 ?side2 A8.out).mono ?_); (case side1 => exact qC (Kd.C_below HR0_4.out HB.out)); (case side2 => exact HC0_4.out); rintro e w13 ⟨rfl, hb⟩; refine ⟨_, rfl, ?_⟩; have n0_ := zA (qX BK101.out hb); have n1_ := zA (zV qB hb); clear BK101 HB; have BK101 := n0_; have HB := n1_; clear n0_ n1_; (try clear hb); (try clear hb2); (try clear hk); (try clear hi))); go_meet
    case rel => exact ⟨_, (true), (by first | rfl | (simp; done) | (simp [*]; done)), H', ⟨by first | omega | exact Nat.le_refl _⟩, ⟨by exact BK101.out⟩, ⟨qB⟩⟩
  case rest =>
    clear HC4; try clear c1
    try clear p2
    try clear c5
    try clear c6
    try clear c9
    try clear c9b0
    try clear c9b1
    obtain ⟨kq, x15_3, rfl, HA, HJ3, BK101, HB⟩ := hcut; cases kq with
    | zero => exact absurd HA.out (by simp [backhaulref27_Holds.j0])
    | succ kj3 =>
      have H := HA.out; clear HA; simp only [backhaulref27_Holds.j0] at H; by_cases c14 : x15_3 = true
      · subst c14
        have H1 : (some 0) = some r := by first | (rw [if_pos rfl] at H; exact H) | rfl
        clear H; have H := H1; clear H1; obtain rfl := zKq H; go_wp2; go_ret; exact ⟨qE, qB⟩
      replace c14 := Bool.eq_false_iff.mpr c14; subst c14; have H1 : (if a0_3 = 1 then (if 0 ≤ t102 then (if t102 < (l0_4.length : Int) then (some ((rd_T97 l0_4 t102).f1)) else (none)) else (none)) else (if 0 ≤ t102 then (if t102 < (l0_4.length : Int) then (some ((rd_T97 l0_4 t102).f2)) else (none)) else (none))) = some r := by first | (rw [if_neg (show ¬ (false = true) by decide)] at H; exact H) | rfl
      clear H; have H := H1; clear H1; by_cases c15 : a0_3 = 1
      · rw [if_pos c15] at H
        have c15b0 : (a0_3 == 1) = true := beq_iff_eq.mpr c15; have c15b1 : (a0_3 != 1) = false := bne_eq_false_iff_eq.mpr c15; clear c15; by_cases c16 : 0 ≤ t102
        · rw [if_pos c16] at H
          have c16b0 : decide (0 ≤ t102) = true := zFq c16; clear c16; by_cases c17 : t102 < (l0_4.length : Int)
          · rw [if_pos c17] at H
            have c17b0 : decide (t102 < (l0_4.length : Int)) = true := zFq c17; clear c17; obtain rfl := zKq H; obtain ⟨_, _, _, _, _, _, _, _, _, _⟩ := qc5f BK101.out; have p104 : 0 ≤ (t102 : Int) := of_decide_eq_true qA; have q104 : t102 < (l0_4.length : Int) := of_decide_eq_true qA; obtain ⟨ad104, e104, hx104_0, hx104_1, hx104_2⟩ := at_T97 HR0_4.out t102 p104 q104; cases e104
            replace hx104_0 := (HB.out.cell (zCq w _ hx104_0)).trans hx104_0; replace hx104_1 := (HB.out.cell (zCq w _ hx104_1)).trans hx104_1; replace hx104_2 := (HB.out.cell (zCq w _ hx104_2)).trans hx104_2; replace p104 := eq_true p104; replace q104 := eq_true q104; go_wp2; go_ret; exact ⟨qE, qB⟩
          rw [if_neg c17] at H; exact absurd H (by simp)
        rw [if_neg c16] at H; exact absurd H (by simp)
      rw [if_neg c15] at H; have c15b0 : (a0_3 == 1) = false := beq_eq_false_iff_ne.mpr c15; have c15b1 : (a0_3 != 1) = true := bne_iff_ne.mpr c15; by_cases c19 : 0 ≤ t102
      · rw [if_pos c19] at H
        have c19b0 : decide (0 ≤ t102) = true := zFq c19; clear c19; by_cases c20 : t102 < (l0_4.length : Int)
        · rw [if_pos c20] at H
          have c20b0 : decide (t102 < (l0_4.length : Int)) = true := zFq c20; clear c20; obtain rfl := zKq H; obtain ⟨_, _, _, _, _, _, _, _, _, _⟩ := qc5f BK101.out; have p105 : 0 ≤ (t102 : Int) := of_decide_eq_true qA; have q105 : t102 < (l0_4.length : Int) := of_decide_eq_true qA; obtain ⟨ad105, e105, hx105_0, hx105_1, hx105_2⟩ := at_T97 HR0_4.out t102 p105 q105; cases e105
          replace hx105_0 := (HB.out.cell (zCq w _ hx105_0)).trans hx105_0; replace hx105_1 := (HB.out.cell (zCq w _ hx105_1)).trans hx105_1; replace hx105_2 := (HB.out.cell (zCq w _ hx105_2)).trans hx105_2; replace p105 := eq_true p105; replace q105 := eq_true q105; go_wp2; go_ret; exact ⟨qE, qB⟩
        rw [if_neg c20] at H; exact absurd H (by simp)
      rw [if_neg c19] at H; exact absurd H (by simp)
def backhaullaw27_RmaMoves.f (k : Nat) (a0_0 : Int) (a0_1 : Int) (a0_2 : Int) (a0_3 : Int) (l0_4 : List (S97)) (a1 : Int) (a2 : Int) : Option (Bool) := (backhaullaw27_Few.f a0_0 a0_1 a0_2 a0_3 l0_4).bind fun t102 => (if t102 = true then ((rma_Amend.f k a0_0 a0_1 a0_2 a0_3 l0_4 a1 a2).bind fun bt104 => ((backhaulref27_Amend.f k a0_0 a0_1 a0_2 a0_3 l0_4 a1 a2).bind fun bt113 => ((rma_Cancel.f k a0_0 a0_1 a0_2 a0_3 l0_4).bind fun bt122 => ((backhaulref27_Cancel.f k a0_0 a0_1 a0_2 a0_3 l0_4).bind fun bt131 => ((rma_Take.f k a0_0 a0_1 a0_2 a0_3 l0_4 a1).bind fun bt140 => ((backhaulref27_Take.f k a0_0 a0_1 a0_2 a0_3 l0_4 a1).bind fun bt149 => ((backhaulref27_Same.f k bt104.1 bt104.2.1 bt104.2.2.1 bt104.2.2.2.1 bt104.2.2.2.2.1 bt113.1 bt113.2.1 bt113.2.2.1 bt113.2.2.2.1 bt113.2.2.2.2.1).bind fun t158 => (if t158 = true then (if bt104.2.2.2.2.2 = bt113.2.2.2.2.2 then ((backhaulref27_Same.f k bt122.1 bt122.2.1 bt122.2.2.1 bt122.2.2.2.1 bt122.2.2.2.2.1 bt131.1 bt131.2.1 bt131.2.2.1 bt131.2.2.2.1 bt131.2.2.2.2.1).bind fun t159 => (if t159 = true then (if bt122.2.2.2.2.2 = bt131.2.2.2.2.2 then ((backhaulref27_Same.f k bt140.1 bt140.2.1 bt140.2.2.1 bt140.2.2.2.1 bt140.2.2.2.2.1 bt149.1 bt149.2.1 bt149.2.2.1 bt149.2.2.2.1 bt149.2.2.2.2.1).bind fun t160 => (if t160 = true then (if bt140.2.2.2.2.2 = bt149.2.2.2.2.2 then ((rma_Expire.f k a0_0 a0_1 a0_2 a0_3 l0_4 a2).bind fun bt161 => ((backhaulref27_Expire.f k a0_0 a0_1 a0_2 a0_3 bt161.2.2.2.2 a2).bind fun bt168 => ((backhaulref27_Same.f k bt161.1 bt161.2.1 bt161.2.2.1 bt161.2.2.2.1 bt168.2.2.2.2 bt168.1 bt168.2.1 bt168.2.2.1 bt168.2.2.2.1 bt168.2.2.2.2).bind fun t175 => (if t175 = true then ((rma_Holds.f k a0_0 a0_1 a0_2 a0_3 bt168.2.2.2.2 a1).bind fun t176 => ((backhaulref27_Holds.f k a0_0 a0_1 a0_2 a0_3 bt168.2.2.2.2 a1).bind fun t177 => (if t176 = t177 then ((backhaullaw27_awake.f).bind fun t178 => (if t178 = true then (some true) else (some false))) else (some false)))) else (some false))))) else (some false)) else (some false))) else (some false)) else (some false))) else (some false)) else (some false))))))))) else ((backhaullaw27_awake.f).bind fun t103 => (if t103 = true then (some true) else (some false))))
theorem backhaullaw27_RmaMoves.mono : ∀ a0 a1 a2 a3 a4 a5 a6 k, LeO (backhaullaw27_RmaMoves.f k a0 a1 a2 a3 a4 a5 a6) (backhaullaw27_RmaMoves.f (k + 1) a0 a1 a2 a3 a4 a5 a6) := by
  intro a0 a1 a2 a3 a4 a5 a6 k
  unfold backhaullaw27_RmaMoves.f
  repeat' first
      | (with_reducible exact backhaulref27_Amend.mono _ _ _ _ _ _ _ _)
      | (with_reducible exact backhaulref27_Cancel.mono _ _ _ _ _ _)
      | (with_reducible exact backhaulref27_Expire.mono _ _ _ _ _ _ _)
      | (with_reducible exact backhaulref27_Holds.mono _ _ _ _ _ _ _)
      | (with_reducible exact backhaulref27_Same.mono _ _ _ _ _ _ _ _ _ _ _)
      | (with_reducible exact backhaulref27_Take.mono _ _ _ _ _ _ _)
      | (with_reducible exact rma_Amend.mono _ _ _ _ _ _ _ _)
      | (with_reducible exact rma_Cancel.mono _ _ _ _ _ _)
      | (with_reducible exact rma_Expire.mono _ _ _ _ _ _ _)
      | (with_reducible exact rma_Holds.mono _ _ _ _ _ _ _)
      | (with_reducible exact rma_Take.mono _ _ _ _ _ _ _)
      | (with_reducible exact LeO.refl _)
      | (with_reducible exact LeO.none _)
      | (with_reducible refine LeO.ite ?_ ?_)
      | (with_reducible refine LeO.bind ?_ (fun _ => ?_))
      | exact backhaulref27_Amend.mono _ _ _ _ _ _ _ _
      | exact backhaulref27_Cancel.mono _ _ _ _ _ _
      | exact backhaulref27_Expire.mono _ _ _ _ _ _ _
      | exact backhaulref27_Holds.mono _ _ _ _ _ _ _
      | exact backhaulref27_Same.mono _ _ _ _ _ _ _ _ _ _ _
      | exact backhaulref27_Take.mono _ _ _ _ _ _ _
      | exact rma_Amend.mono _ _ _ _ _ _ _ _
      | exact rma_Cancel.mono _ _ _ _ _ _
      | exact rma_Expire.mono _ _ _ _ _ _ _
      | exact rma_Holds.mono _ _ _ _ _ _ _
      | exact rma_Take.mono _ _ _ _ _ _ _
      | exact LeO.none _
      | refine LeO.ite ?_ ?_
      | refine LeO.bind ?_ (fun _ => ?_)
def backhaullaw27_RmaMoves.T9 : Bool × List (List Nat × List Nat) := (true, [([], []), ([], []), ([0, 1], [0, 1]), ([2, 2], [2]), ([3], [3]), ([3], [3]), ([4, 5, 3], [3, 4, 5]), ([3, 6], [3, 6]), ([7, 3], [7]), ([8], [8]), ([8], [8]), ([9, 10, 8, 8], [8, 9, 10]), ([8, 11], [8, 11]), ([12, 11], [12]), ([13], [13]), ([13], [13]), ([14, 15, 13], [13, 14, 15]), ([13, 16], [13, 16]), ([17, 13], [17]), ([18], [18]), ([18], [18]), ([19, 20, 18, 18], [18, 19, 20]), ([18, 21], [18, 21]), ([22, 21], [22]), ([23], [23]), ([23], [23]), ([24, 25, 23], [23, 24, 25]), ([23, 26], [23, 26]), ([27, 23], [27]), ([28], [28]), ([28], [28]), ([29, 30, 28, 28], [28, 29, 30]), ([28], [28]), ([28], [28]), ([32, 33, 31, 28], [28, 32, 33]), ([31, 34, 34, 28], [28, 31, 34]), ([28, 35], [28, 35]), ([36, 35], [36]), ([37], [37]), ([37], [37]), ([38, 39, 37, 37], [37, 38, 39]), ([37], [37]), ([37], [37]), ([41, 42, 40, 37], [37, 41, 42]), ([40, 43, 37], [37, 40, 43]), ([37, 44], [37, 44]), ([45, 43], [45]), ([46, 46], [46]), ([46, 47], [46, 47]), ([48, 47, 0, 1, 2, 3, 4, 5, 6, 7, 8, 9, 10, 11, 12, 13, 14, 15, 16, 17, 18, 19, 20, 21, 22, 23, 24, 25, 26, 27, 28, 29, 30, 31, 32, 33, 34, 35, 36, 37, 38, 39, 40, 41, 42, 43, 44, 45, 46, 47, 48], [48])])
def backhaullaw27_RmaMoves.B9 : List Nat := [0, 0, 3, 7, 15, 15, 63, 127, 255, 511, 511, 2047, 4095, 8191, 16383, 16383, 65535, 131071, 262143, 524287, 524287, 2097151, 4194303, 8388607, 16777215, 16777215, 67108863, 134217727, 268435455, 536870911, 536870911, 2147483647, 536870911, 536870911, 17179869183, 34359738367, 68719476735, 137438953471, 274877906943, 274877906943, 1099511627775, 274877906943, 274877906943, 8796093022207, 17592186044415, 35184372088831, 70368744177663, 140737488355327, 281474976710655, 562949953421311]
theorem backhaullaw27_RmaMoves.tab9 : rtab .any (opsOf Try.f9 9) = backhaullaw27_RmaMoves.T9 := by kernel_rfl
theorem backhaullaw27_RmaMoves.bits9 : waitsOk backhaullaw27_RmaMoves.T9.2 backhaullaw27_RmaMoves.B9 = true := by kernel_rfl
set_option maxHeartbeats 8000000 in
set_option maxRecDepth 100000 in
theorem backhaullaw27_RmaMoves.calls (k : Nat) (a0_0 : Int) (a0_1 : Int) (a0_2 : Int) (a0_3 : Int) (A0_4 : Option Addr) (c0_4 : Nat) (l0_4 : List (S97)) (a1 : Int) (a2 : Int) (w : World) (hr0_4 : Kd.C k97 w A0_4 l0_4.length l0_4) (hc0_4 : l0_4.length ≤ c0_4) (h : backhaullaw27_RmaMoves.f k a0_0 a0_1 a0_2 a0_3 l0_4 a1 a2 = some true) :
    Calls Try.prog 9 #[.agg #[.int .i64 a0_0, .int .i64 a0_1, .int .i64 a0_2, .int .i64 a0_3, .slice A0_4 l0_4.length c0_4], .int .i64 a1, .int .i64 a2] w fun e w' => e = .returned (.bool true) ∧ Below w.heap.size w w' := by
  have hu70 := Try.underlying70
  have HR0_4 := zA hr0_4
  have HC0_4 := zA hc0_4
  clear hr0_4 hc0_4
  have HB := zA (Below.refl w.heap.size w)
  have H : ((backhaullaw27_Few.f a0_0 a0_1 a0_2 a0_3 l0_4).bind fun t102 => (if t102 = true then ((rma_Amend.f k a0_0 a0_1 a0_2 a0_3 l0_4 a1 a2).bind fun bt104 => ((backhaulref27_Amend.f k a0_0 a0_1 a0_2 a0_3 l0_4 a1 a2).bind fun bt113 => ((rma_Cancel.f k a0_0 a0_1 a0_2 a0_3 l0_4).bind fun bt122 => ((backhaulref27_Cancel.f k a0_0 a0_1 a0_2 a0_3 l0_4).bind fun bt131 => ((rma_Take.f k a0_0 a0_1 a0_2 a0_3 l0_4 a1).bind fun bt140 => ((backhaulref27_Take.f k a0_0 a0_1 a0_2 a0_3 l0_4 a1).bind fun bt149 => ((backhaulref27_Same.f k bt104.1 bt104.2.1 bt104.2.2.1 bt104.2.2.2.1 bt104.2.2.2.2.1 bt113.1 bt113.2.1 bt113.2.2.1 bt113.2.2.2.1 bt113.2.2.2.2.1).bind fun t158 => (if t158 = true then (if bt104.2.2.2.2.2 = bt113.2.2.2.2.2 then ((backhaulref27_Same.f k bt122.1 bt122.2.1 bt122.2.2.1 bt122.2.2.2.1 bt122.2.2.2.2.1 bt131.1 bt131.2.1 bt131.2.2.1 bt131.2.2.2.1 bt131.2.2.2.2.1).bind fun t159 => (if t159 = true then (if bt122.2.2.2.2.2 = bt131.2.2.2.2.2 then ((backhaulref27_Same.f k bt140.1 bt140.2.1 bt140.2.2.1 bt140.2.2.2.1 bt140.2.2.2.2.1 bt149.1 bt149.2.1 bt149.2.2.1 bt149.2.2.2.1 bt149.2.2.2.2.1).bind fun t160 => (if t160 = true then (if bt140.2.2.2.2.2 = bt149.2.2.2.2.2 then ((rma_Expire.f k a0_0 a0_1 a0_2 a0_3 l0_4 a2).bind fun bt161 => ((backhaulref27_Expire.f k a0_0 a0_1 a0_2 a0_3 bt161.2.2.2.2 a2).bind fun bt168 => ((backhaulref27_Same.f k bt161.1 bt161.2.1 bt161.2.2.1 bt161.2.2.2.1 bt168.2.2.2.2 bt168.1 bt168.2.1 bt168.2.2.1 bt168.2.2.2.1 bt168.2.2.2.2).bind fun t175 => (if t175 = true then ((rma_Holds.f k a0_0 a0_1 a0_2 a0_3 bt168.2.2.2.2 a1).bind fun t176 => ((backhaulref27_Holds.f k a0_0 a0_1 a0_2 a0_3 bt168.2.2.2.2 a1).bind fun t177 => (if t176 = t177 then ((backhaullaw27_awake.f).bind fun t178 => (if t178 = true then (some true) else (some false))) else (some false)))) else (some false))))) else (some false)) else (some false))) else (some false)) else (some false))) else (some false)) else (some false))))))))) else ((backhaullaw27_awake.f).bind fun t103 => (if t103 = true then (some true) else (some false))))) = some true := h
  clear h
  replace H := Option.bind_eq_some_iff.mp H
  obtain ⟨t102, A40, H⟩ := H
  replace H : (if t102 = true then ((rma_Amend.f k a0_0 a0_1 a0_2 a0_3 l0_4 a1 a2).bind fun bt104 => ((backhaulref27_Amend.f k a0_0 a0_1 a0_2 a0_3 l0_4 a1 a2).bind fun bt113 => ((rma_Cancel.f k a0_0 a0_1 a0_2 a0_3 l0_4).bind fun bt122 => ((backhaulref27_Cancel.f k a0_0 a0_1 a0_2 a0_3 l0_4).bind fun bt131 => ((rma_Take.f k a0_0 a0_1 a0_2 a0_3 l0_4 a1).bind fun bt140 => ((backhaulref27_Take.f k a0_0 a0_1 a0_2 a0_3 l0_4 a1).bind fun bt149 => ((backhaulref27_Same.f k bt104.1 bt104.2.1 bt104.2.2.1 bt104.2.2.2.1 bt104.2.2.2.2.1 bt113.1 bt113.2.1 bt113.2.2.1 bt113.2.2.2.1 bt113.2.2.2.2.1).bind fun t158 => (if t158 = true then (if bt104.2.2.2.2.2 = bt113.2.2.2.2.2 then ((backhaulref27_Same.f k bt122.1 bt122.2.1 bt122.2.2.1 bt122.2.2.2.1 bt122.2.2.2.2.1 bt131.1 bt131.2.1 bt131.2.2.1 bt131.2.2.2.1 bt131.2.2.2.2.1).bind fun t159 => (if t159 = true then (if bt122.2.2.2.2.2 = bt131.2.2.2.2.2 then ((backhaulref27_Same.f k bt140.1 bt140.2.1 bt140.2.2.1 bt140.2.2.2.1 bt140.2.2.2.2.1 bt149.1 bt149.2.1 bt149.2.2.1 bt149.2.2.2.1 bt149.2.2.2.2.1).bind fun t160 => (if t160 = true then (if bt140.2.2.2.2.2 = bt149.2.2.2.2.2 then ((rma_Expire.f k a0_0 a0_1 a0_2 a0_3 l0_4 a2).bind fun bt161 => ((backhaulref27_Expire.f k a0_0 a0_1 a0_2 a0_3 bt161.2.2.2.2 a2).bind fun bt168 => ((backhaulref27_Same.f k bt161.1 bt161.2.1 bt161.2.2.1 bt161.2.2.2.1 bt168.2.2.2.2 bt168.1 bt168.2.1 bt168.2.2.1 bt168.2.2.2.1 bt168.2.2.2.2).bind fun t175 => (if t175 = true then ((rma_Holds.f k a0_0 a0_1 a0_2 a0_3 bt168.2.2.2.2 a1).bind fun t176 => ((backhaulref27_Holds.f k a0_0 a0_1 a0_2 a0_3 bt168.2.2.2.2 a1).bind fun t177 => (if t176 = t177 then ((backhaullaw27_awake.f).bind fun t178 => (if t178 = true then (some true) else (some false))) else (some false)))) else (some false))))) else (some false)) else (some false))) else (some false)) else (some false))) else (some false)) else (some false))))))))) else ((backhaullaw27_awake.f).bind fun t103 => (if t103 = true then (some true) else (some false)))) = some true := H
  have A4 := zA A40
  clear A40
  by_cases c5 : t102 = true
  · subst c5
    have H1 : ((rma_Amend.f k a0_0 a0_1 a0_2 a0_3 l0_4 a1 a2).bind fun bt104 => ((backhaulref27_Amend.f k a0_0 a0_1 a0_2 a0_3 l0_4 a1 a2).bind fun bt113 => ((rma_Cancel.f k a0_0 a0_1 a0_2 a0_3 l0_4).bind fun bt122 => ((backhaulref27_Cancel.f k a0_0 a0_1 a0_2 a0_3 l0_4).bind fun bt131 => ((rma_Take.f k a0_0 a0_1 a0_2 a0_3 l0_4 a1).bind fun bt140 => ((backhaulref27_Take.f k a0_0 a0_1 a0_2 a0_3 l0_4 a1).bind fun bt149 => ((backhaulref27_Same.f k bt104.1 bt104.2.1 bt104.2.2.1 bt104.2.2.2.1 bt104.2.2.2.2.1 bt113.1 bt113.2.1 bt113.2.2.1 bt113.2.2.2.1 bt113.2.2.2.2.1).bind fun t158 => (if t158 = true then (if bt104.2.2.2.2.2 = bt113.2.2.2.2.2 then ((backhaulref27_Same.f k bt122.1 bt122.2.1 bt122.2.2.1 bt122.2.2.2.1 bt122.2.2.2.2.1 bt131.1 bt131.2.1 bt131.2.2.1 bt131.2.2.2.1 bt131.2.2.2.2.1).bind fun t159 => (if t159 = true then (if bt122.2.2.2.2.2 = bt131.2.2.2.2.2 then ((backhaulref27_Same.f k bt140.1 bt140.2.1 bt140.2.2.1 bt140.2.2.2.1 bt140.2.2.2.2.1 bt149.1 bt149.2.1 bt149.2.2.1 bt149.2.2.2.1 bt149.2.2.2.2.1).bind fun t160 => (if t160 = true then (if bt140.2.2.2.2.2 = bt149.2.2.2.2.2 then ((rma_Expire.f k a0_0 a0_1 a0_2 a0_3 l0_4 a2).bind fun bt161 => ((backhaulref27_Expire.f k a0_0 a0_1 a0_2 a0_3 bt161.2.2.2.2 a2).bind fun bt168 => ((backhaulref27_Same.f k bt161.1 bt161.2.1 bt161.2.2.1 bt161.2.2.2.1 bt168.2.2.2.2 bt168.1 bt168.2.1 bt168.2.2.1 bt168.2.2.2.1 bt168.2.2.2.2).bind fun t175 => (if t175 = true then ((rma_Holds.f k a0_0 a0_1 a0_2 a0_3 bt168.2.2.2.2 a1).bind fun t176 => ((backhaulref27_Holds.f k a0_0 a0_1 a0_2 a0_3 bt168.2.2.2.2 a1).bind fun t177 => (if t176 = t177 then ((backhaullaw27_awake.f).bind fun t178 => (if t178 = true then (some true) else (some false))) else (some false)))) else (some false))))) else (some false)) else (some false))) else (some false)) else (some false))) else (some false)) else (some false))))))))) = some true := by first | (rw [if_pos rfl] at H; exact H) | rfl
    clear H; have H := H1; clear H1; replace H := Option.bind_eq_some_iff.mp H; obtain ⟨⟨t104, t105, t106, t107, t108, t111⟩, A60, H⟩ := H; replace H : ((backhaulref27_Amend.f k a0_0 a0_1 a0_2 a0_3 l0_4 a1 a2).bind fun bt113 => ((rma_Cancel.f k a0_0 a0_1 a0_2 a0_3 l0_4).bind fun bt122 => ((backhaulref27_Cancel.f k a0_0 a0_1 a0_2 a0_3 l0_4).bind fun bt131 => ((rma_Take.f k a0_0 a0_1 a0_2 a0_3 l0_4 a1).bind fun bt140 => ((backhaulref27_Take.f k a0_0 a0_1 a0_2 a0_3 l0_4 a1).bind fun bt149 => ((backhaulref27_Same.f k t104 t105 t106 t107 t108 bt113.1 bt113.2.1 bt113.2.2.1 bt113.2.2.2.1 bt113.2.2.2.2.1).bind fun t158 => (if t158 = true then (if t111 = bt113.2.2.2.2.2 then ((backhaulref27_Same.f k bt122.1 bt122.2.1 bt122.2.2.1 bt122.2.2.2.1 bt122.2.2.2.2.1 bt131.1 bt131.2.1 bt131.2.2.1 bt131.2.2.2.1 bt131.2.2.2.2.1).bind fun t159 => (if t159 = true then (if bt122.2.2.2.2.2 = bt131.2.2.2.2.2 then ((backhaulref27_Same.f k bt140.1 bt140.2.1 bt140.2.2.1 bt140.2.2.2.1 bt140.2.2.2.2.1 bt149.1 bt149.2.1 bt149.2.2.1 bt149.2.2.2.1 bt149.2.2.2.2.1).bind fun t160 => (if t160 = true then (if bt140.2.2.2.2.2 = bt149.2.2.2.2.2 then ((rma_Expire.f k a0_0 a0_1 a0_2 a0_3 l0_4 a2).bind fun bt161 => ((backhaulref27_Expire.f k a0_0 a0_1 a0_2 a0_3 bt161.2.2.2.2 a2).bind fun bt168 => ((backhaulref27_Same.f k bt161.1 bt161.2.1 bt161.2.2.1 bt161.2.2.2.1 bt168.2.2.2.2 bt168.1 bt168.2.1 bt168.2.2.1 bt168.2.2.2.1 bt168.2.2.2.2).bind fun t175 => (if t175 = true then ((rma_Holds.f k a0_0 a0_1 a0_2 a0_3 bt168.2.2.2.2 a1).bind fun t176 => ((backhaulref27_Holds.f k a0_0 a0_1 a0_2 a0_3 bt168.2.2.2.2 a1).bind fun t177 => (if t176 = t177 then ((backhaullaw27_awake.f).bind fun t178 => (if t178 = true then (some true) else (some false))) else (some false)))) else (some false))))) else (some false)) else (some false))) else (some false)) else (some false))) else (some false)) else (some false)))))))) = some true := H; have A6 := zA A60; clear A60; replace H := Option.bind_eq_some_iff.mp H; obtain ⟨⟨t113, t114, t115, t116, t117, t120⟩, A70, H⟩ := H; replace H : ((rma_Cancel.f k a0_0 a0_1 a0_2 a0_3 l0_4).bind fun bt122 => ((backhaulref27_Cancel.f k a0_0 a0_1 a0_2 a0_3 l0_4).bind fun bt131 => ((rma_Take.f k a0_0 a0_1 a0_2 a0_3 l0_4 a1).bind fun bt140 => ((backhaulref27_Take.f k a0_0 a0_1 a0_2 a0_3 l0_4 a1).bind fun bt149 => ((backhaulref27_Same.f k t104 t105 t106 t107 t108 t113 t114 t115 t116 t117).bind fun t158 => (if t158 = true then (if t111 = t120 then ((backhaulref27_Same.f k bt122.1 bt122.2.1 bt122.2.2.1 bt122.2.2.2.1 bt122.2.2.2.2.1 bt131.1 bt131.2.1 bt131.2.2.1 bt131.2.2.2.1 bt131.2.2.2.2.1).bind fun t159 => (if t159 = true then (if bt122.2.2.2.2.2 = bt131.2.2.2.2.2 then ((backhaulref27_Same.f k bt140.1 bt140.2.1 bt140.2.2.1 bt140.2.2.2.1 bt140.2.2.2.2.1 bt149.1 bt149.2.1 bt149.2.2.1 bt149.2.2.2.1 bt149.2.2.2.2.1).bind fun t160 => (if t160 = true then (if bt140.2.2.2.2.2 = bt149.2.2.2.2.2 then ((rma_Expire.f k a0_0 a0_1 a0_2 a0_3 l0_4 a2).bind fun bt161 => ((backhaulref27_Expire.f k a0_0 a0_1 a0_2 a0_3 bt161.2.2.2.2 a2).bind fun bt168 => ((backhaulref27_Same.f k bt161.1 bt161.2.1 bt161.2.2.1 bt161.2.2.2.1 bt168.2.2.2.2 bt168.1 bt168.2.1 bt168.2.2.1 bt168.2.2.2.1 bt168.2.2.2.2).bind fun t175 => (if t175 = true then ((rma_Holds.f k a0_0 a0_1 a0_2 a0_3 bt168.2.2.2.2 a1).bind fun t176 => ((backhaulref27_Holds.f k a0_0 a0_1 a0_2 a0_3 bt168.2.2.2.2 a1).bind fun t177 => (if t176 = t177 then ((backhaullaw27_awake.f).bind fun t178 => (if t178 = true then (some true) else (some false))) else (some false)))) else (some false))))) else (some false)) else (some false))) else (some false)) else (some false))) else (some false)) else (some false))))))) = some true := H
    have A7 := zA A70; clear A70; replace H := Option.bind_eq_some_iff.mp H; obtain ⟨⟨t122, t123, t124, t125, t126, t129⟩, A80, H⟩ := H; replace H : ((backhaulref27_Cancel.f k a0_0 a0_1 a0_2 a0_3 l0_4).bind fun bt131 => ((rma_Take.f k a0_0 a0_1 a0_2 a0_3 l0_4 a1).bind fun bt140 => ((backhaulref27_Take.f k a0_0 a0_1 a0_2 a0_3 l0_4 a1).bind fun bt149 => ((backhaulref27_Same.f k t104 t105 t106 t107 t108 t113 t114 t115 t116 t117).bind fun t158 => (if t158 = true then (if t111 = t120 then ((backhaulref27_Same.f k t122 t123 t124 t125 t126 bt131.1 bt131.2.1 bt131.2.2.1 bt131.2.2.2.1 bt131.2.2.2.2.1).bind fun t159 => (if t159 = true then (if t129 = bt131.2.2.2.2.2 then ((backhaulref27_Same.f k bt140.1 bt140.2.1 bt140.2.2.1 bt140.2.2.2.1 bt140.2.2.2.2.1 bt149.1 bt149.2.1 bt149.2.2.1 bt149.2.2.2.1 bt149.2.2.2.2.1).bind fun t160 => (if t160 = true then (if bt140.2.2.2.2.2 = bt149.2.2.2.2.2 then ((rma_Expire.f k a0_0 a0_1 a0_2 a0_3 l0_4 a2).bind fun bt161 => ((backhaulref27_Expire.f k a0_0 a0_1 a0_2 a0_3 bt161.2.2.2.2 a2).bind fun bt168 => ((backhaulref27_Same.f k bt161.1 bt161.2.1 bt161.2.2.1 bt161.2.2.2.1 bt168.2.2.2.2 bt168.1 bt168.2.1 bt168.2.2.1 bt168.2.2.2.1 bt168.2.2.2.2).bind fun t175 => (if t175 = true then ((rma_Holds.f k a0_0 a0_1 a0_2 a0_3 bt168.2.2.2.2 a1).bind fun t176 => ((backhaulref27_Holds.f k a0_0 a0_1 a0_2 a0_3 bt168.2.2.2.2 a1).bind fun t177 => (if t176 = t177 then ((backhaullaw27_awake.f).bind fun t178 => (if t178 = true then (some true) else (some false))) else (some false)))) else (some false))))) else (some false)) else (some false))) else (some false)) else (some false))) else (some false)) else (some false)))))) = some true := H; have A8 := zA A80; clear A80; replace H := Option.bind_eq_some_iff.mp H; obtain ⟨⟨t131, t132, t133, t134, t135, t138⟩, A90, H⟩ := H; replace H : ((rma_Take.f k a0_0 a0_1 a0_2 a0_3 l0_4 a1).bind fun bt140 => ((backhaulref27_Take.f k a0_0 a0_1 a0_2 a0_3 l0_4 a1).bind fun bt149 => ((backhaulref27_Same.f k t104 t105 t106 t107 t108 t113 t114 t115 t116 t117).bind fun t158 => (if t158 = true then (if t111 = t120 then ((backhaulref27_Same.f k t122 t123 t124 t125 t126 t131 t132 t133 t134 t135).bind fun t159 => (if t159 = true then (if t129 = t138 then ((backhaulref27_Same.f k bt140.1 bt140.2.1 bt140.2.2.1 bt140.2.2.2.1 bt140.2.2.2.2.1 bt149.1 bt149.2.1 bt149.2.2.1 bt149.2.2.2.1 bt149.2.2.2.2.1).bind fun t160 => (if t160 = true then (if bt140.2.2.2.2.2 = bt149.2.2.2.2.2 then ((rma_Expire.f k a0_0 a0_1 a0_2 a0_3 l0_4 a2).bind fun bt161 => ((backhaulref27_Expire.f k a0_0 a0_1 a0_2 a0_3 bt161.2.2.2.2 a2).bind fun bt168 => ((backhaulref27_Same.f k bt161.1 bt161.2.1 bt161.2.2.1 bt161.2.2.2.1 bt168.2.2.2.2 bt168.1 bt168.2.1 bt168.2.2.1 bt168.2.2.2.1 bt168.2.2.2.2).bind fun t175 => (if t175 = true then ((rma_Holds.f k a0_0 a0_1 a0_2 a0_3 bt168.2.2.2.2 a1).bind fun t176 => ((backhaulref27_Holds.f k a0_0 a0_1 a0_2 a0_3 bt168.2.2.2.2 a1).bind fun t177 => (if t176 = t177 then ((backhaullaw27_awake.f).bind fun t178 => (if t178 = true then (some true) else (some false))) else (some false)))) else (some false))))) else (some false)) else (some false))) else (some false)) else (some false))) else (some false)) else (some false))))) = some true := H
    have A9 := zA A90; clear A90; replace H := Option.bind_eq_some_iff.mp H; obtain ⟨⟨t140, t141, t142, t143, t144, t147⟩, A100, H⟩ := H; replace H : ((backhaulref27_Take.f k a0_0 a0_1 a0_2 a0_3 l0_4 a1).bind fun bt149 => ((backhaulref27_Same.f k t104 t105 t106 t107 t108 t113 t114 t115 t116 t117).bind fun t158 => (if t158 = true then (if t111 = t120 then ((backhaulref27_Same.f k t122 t123 t124 t125 t126 t131 t132 t133 t134 t135).bind fun t159 => (if t159 = true then (if t129 = t138 then ((backhaulref27_Same.f k t140 t141 t142 t143 t144 bt149.1 bt149.2.1 bt149.2.2.1 bt149.2.2.2.1 bt149.2.2.2.2.1).bind fun t160 => (if t160 = true then (if t147 = bt149.2.2.2.2.2 then ((rma_Expire.f k a0_0 a0_1 a0_2 a0_3 l0_4 a2).bind fun bt161 => ((backhaulref27_Expire.f k a0_0 a0_1 a0_2 a0_3 bt161.2.2.2.2 a2).bind fun bt168 => ((backhaulref27_Same.f k bt161.1 bt161.2.1 bt161.2.2.1 bt161.2.2.2.1 bt168.2.2.2.2 bt168.1 bt168.2.1 bt168.2.2.1 bt168.2.2.2.1 bt168.2.2.2.2).bind fun t175 => (if t175 = true then ((rma_Holds.f k a0_0 a0_1 a0_2 a0_3 bt168.2.2.2.2 a1).bind fun t176 => ((backhaulref27_Holds.f k a0_0 a0_1 a0_2 a0_3 bt168.2.2.2.2 a1).bind fun t177 => (if t176 = t177 then ((backhaullaw27_awake.f).bind fun t178 => (if t178 = true then (some true) else (some false))) else (some false)))) else (some false))))) else (some false)) else (some false))) else (some false)) else (some false))) else (some false)) else (some false)))) = some true := H; have A10 := zA A100; clear A100; replace H := Option.bind_eq_some_iff.mp H; obtain ⟨⟨t149, t150, t151, t152, t153, t156⟩, A110, H⟩ := H; replace H : ((backhaulref27_Same.f k t104 t105 t106 t107 t108 t113 t114 t115 t116 t117).bind fun t158 => (if t158 = true then (if t111 = t120 then ((backhaulref27_Same.f k t122 t123 t124 t125 t126 t131 t132 t133 t134 t135).bind fun t159 => (if t159 = true then (if t129 = t138 then ((backhaulref27_Same.f k t140 t141 t142 t143 t144 t149 t150 t151 t152 t153).bind fun t160 => (if t160 = true then (if t147 = t156 then ((rma_Expire.f k a0_0 a0_1 a0_2 a0_3 l0_4 a2).bind fun bt161 => ((backhaulref27_Expire.f k a0_0 a0_1 a0_2 a0_3 bt161.2.2.2.2 a2).bind fun bt168 => ((backhaulref27_Same.f k bt161.1 bt161.2.1 bt161.2.2.1 bt161.2.2.2.1 bt168.2.2.2.2 bt168.1 bt168.2.1 bt168.2.2.1 bt168.2.2.2.1 bt168.2.2.2.2).bind fun t175 => (if t175 = true then ((rma_Holds.f k a0_0 a0_1 a0_2 a0_3 bt168.2.2.2.2 a1).bind fun t176 => ((backhaulref27_Holds.f k a0_0 a0_1 a0_2 a0_3 bt168.2.2.2.2 a1).bind fun t177 => (if t176 = t177 then ((backhaullaw27_awake.f).bind fun t178 => (if t178 = true then (some true) else (some false))) else (some false)))) else (some false))))) else (some false)) else (some false))) else (some false)) else (some false))) else (some false)) else (some false))) = some true := H; have A11 := zA A110; clear A110; replace H := Option.bind_eq_some_iff.mp H; obtain ⟨t158, A120, H⟩ := H; replace H : (if t158 = true then (if t111 = t120 then ((backhaulref27_Same.f k t122 t123 t124 t125 t126 t131 t132 t133 t134 t135).bind fun t159 => (if t159 = true then (if t129 = t138 then ((backhaulref27_Same.f k t140 t141 t142 t143 t144 t149 t150 t151 t152 t153).bind fun t160 => (if t160 = true then (if t147 = t156 then ((rma_Expire.f k a0_0 a0_1 a0_2 a0_3 l0_4 a2).bind fun bt161 => ((backhaulref27_Expire.f k a0_0 a0_1 a0_2 a0_3 bt161.2.2.2.2 a2).bind fun bt168 => ((backhaulref27_Same.f k bt161.1 bt161.2.1 bt161.2.2.1 bt161.2.2.2.1 bt168.2.2.2.2 bt168.1 bt168.2.1 bt168.2.2.1 bt168.2.2.2.1 bt168.2.2.2.2).bind fun t175 => (if t175 = true then ((rma_Holds.f k a0_0 a0_1 a0_2 a0_3 bt168.2.2.2.2 a1).bind fun t176 => ((backhaulref27_Holds.f k a0_0 a0_1 a0_2 a0_3 bt168.2.2.2.2 a1).bind fun t177 => (if t176 = t177 then ((backhaullaw27_awake.f).bind fun t178 => (if t178 = true then (some true) else (some false))) else (some false)))) else (some false))))) else (some false)) else (some false))) else (some false)) else (some false))) else (some false)) else (some false)) = some true := H
    have A12 := zA A120; clear A120; by_cases c13 : t158 = true
    · subst c13
      have H1 : (if t111 = t120 then ((backhaulref27_Same.f k t122 t123 t124 t125 t126 t131 t132 t133 t134 t135).bind fun t159 => (if t159 = true then (if t129 = t138 then ((backhaulref27_Same.f k t140 t141 t142 t143 t144 t149 t150 t151 t152 t153).bind fun t160 => (if t160 = true then (if t147 = t156 then ((rma_Expire.f k a0_0 a0_1 a0_2 a0_3 l0_4 a2).bind fun bt161 => ((backhaulref27_Expire.f k a0_0 a0_1 a0_2 a0_3 bt161.2.2.2.2 a2).bind fun bt168 => ((backhaulref27_Same.f k bt161.1 bt161.2.1 bt161.2.2.1 bt161.2.2.2.1 bt168.2.2.2.2 bt168.1 bt168.2.1 bt168.2.2.1 bt168.2.2.2.1 bt168.2.2.2.2).bind fun t175 => (if t175 = true then ((rma_Holds.f k a0_0 a0_1 a0_2 a0_3 bt168.2.2.2.2 a1).bind fun t176 => ((backhaulref27_Holds.f k a0_0 a0_1 a0_2 a0_3 bt168.2.2.2.2 a1).bind fun t177 => (if t176 = t177 then ((backhaullaw27_awake.f).bind fun t178 => (if t178 = true then (some true) else (some false))) else (some false)))) else (some false))))) else (some false)) else (some false))) else (some false)) else (some false))) else (some false)) = some true := by first | (rw [if_pos rfl] at H; exact H) | rfl
      clear H; have H := H1; clear H1; by_cases c14 : t111 = t120
      · rw [if_pos c14] at H
        have c14b0 : (t111 == t120) = true := beq_iff_eq.mpr c14; have c14b1 : (t111 != t120) = false := bne_eq_false_iff_eq.mpr c14; clear c14; replace H := Option.bind_eq_some_iff.mp H; obtain ⟨t159, A150, H⟩ := H; replace H : (if t159 = true then (if t129 = t138 then ((backhaulref27_Same.f k t140 t141 t142 t143 t144 t149 t150 t151 t152 t153).bind fun t160 => (if t160 = true then (if t147 = t156 then ((rma_Expire.f k a0_0 a0_1 a0_2 a0_3 l0_4 a2).bind fun bt161 => ((backhaulref27_Expire.f k a0_0 a0_1 a0_2 a0_3 bt161.2.2.2.2 a2).bind fun bt168 => ((backhaulref27_Same.f k bt161.1 bt161.2.1 bt161.2.2.1 bt161.2.2.2.1 bt168.2.2.2.2 bt168.1 bt168.2.1 bt168.2.2.1 bt168.2.2.2.1 bt168.2.2.2.2).bind fun t175 => (if t175 = true then ((rma_Holds.f k a0_0 a0_1 a0_2 a0_3 bt168.2.2.2.2 a1).bind fun t176 => ((backhaulref27_Holds.f k a0_0 a0_1 a0_2 a0_3 bt168.2.2.2.2 a1).bind fun t177 => (if t176 = t177 then ((backhaullaw27_awake.f).bind fun t178 => (if t178 = true then (some true) else (some false))) else (some false)))) else (some false))))) else (some false)) else (some false))) else (some false)) else (some false)) = some true := H; have A15 := zA A150; clear A150; by_cases c16 : t159 = true
        · subst c16
          have H1 : (if t129 = t138 then ((backhaulref27_Same.f k t140 t141 t142 t143 t144 t149 t150 t151 t152 t153).bind fun t160 => (if t160 = true then (if t147 = t156 then ((rma_Expire.f k a0_0 a0_1 a0_2 a0_3 l0_4 a2).bind fun bt161 => ((backhaulref27_Expire.f k a0_0 a0_1 a0_2 a0_3 bt161.2.2.2.2 a2).bind fun bt168 => ((backhaulref27_Same.f k bt161.1 bt161.2.1 bt161.2.2.1 bt161.2.2.2.1 bt168.2.2.2.2 bt168.1 bt168.2.1 bt168.2.2.1 bt168.2.2.2.1 bt168.2.2.2.2).bind fun t175 => (if t175 = true then ((rma_Holds.f k a0_0 a0_1 a0_2 a0_3 bt168.2.2.2.2 a1).bind fun t176 => ((backhaulref27_Holds.f k a0_0 a0_1 a0_2 a0_3 bt168.2.2.2.2 a1).bind fun t177 => (if t176 = t177 then ((backhaullaw27_awake.f).bind fun t178 => (if t178 = true then (some true) else (some false))) else (some false)))) else (some false))))) else (some false)) else (some false))) else (some false)) = some true := by first | (rw [if_pos rfl] at H; exact H) | rfl
          clear H; have H := H1; clear H1; by_cases c17 : t129 = t138
          · rw [if_pos c17] at H
            have c17b0 : (t129 == t138) = true := beq_iff_eq.mpr c17; have c17b1 : (t129 != t138) = false := bne_eq_false_iff_eq.mpr c17; clear c17; replace H := Option.bind_eq_some_iff.mp H; obtain ⟨t160, A180, H⟩ := H; replace H : (if t160 = true then (if t147 = t156 then ((rma_Expire.f k a0_0 a0_1 a0_2 a0_3 l0_4 a2).bind fun bt161 => ((backhaulref27_Expire.f k a0_0 a0_1 a0_2 a0_3 bt161.2.2.2.2 a2).bind fun bt168 => ((backhaulref27_Same.f k bt161.1 bt161.2.1 bt161.2.2.1 bt161.2.2.2.1 bt168.2.2.2.2 bt168.1 bt168.2.1 bt168.2.2.1 bt168.2.2.2.1 bt168.2.2.2.2).bind fun t175 => (if t175 = true then ((rma_Holds.f k a0_0 a0_1 a0_2 a0_3 bt168.2.2.2.2 a1).bind fun t176 => ((backhaulref27_Holds.f k a0_0 a0_1 a0_2 a0_3 bt168.2.2.2.2 a1).bind fun t177 => (if t176 = t177 then ((backhaullaw27_awake.f).bind fun t178 => (if t178 = true then (some true) else (some false))) else (some false)))) else (some false))))) else (some false)) else (some false)) = some true := H; have A18 := zA A180; clear A180; by_cases c19 : t160 = true
            · subst c19
              have H1 : (if t147 = t156 then ((rma_Expire.f k a0_0 a0_1 a0_2 a0_3 l0_4 a2).bind fun bt161 => ((backhaulref27_Expire.f k a0_0 a0_1 a0_2 a0_3 bt161.2.2.2.2 a2).bind fun bt168 => ((backhaulref27_Same.f k bt161.1 bt161.2.1 bt161.2.2.1 bt161.2.2.2.1 bt168.2.2.2.2 bt168.1 bt168.2.1 bt168.2.2.1 bt168.2.2.2.1 bt168.2.2.2.2).bind fun t175 => (if t175 = true then ((rma_Holds.f k a0_0 a0_1 a0_2 a0_3 bt168.2.2.2.2 a1).bind fun t176 => ((backhaulref27_Holds.f k a0_0 a0_1 a0_2 a0_3 bt168.2.2.2.2 a1).bind fun t177 => (if t176 = t177 then ((backhaullaw27_awake.f).bind fun t178 => (if t178 = true then (some true) else (some false))) else (some false)))) else (some false))))) else (some false)) = some true := by first | (rw [if_pos rfl] at H; exact H) | rfl
              clear H; have H := H1; clear H1; by_cases c20 : t147 = t156
              · rw [if_pos c20] at H
                have c20b0 : (t147 == t156) = true := beq_iff_eq.mpr c20; have c20b1 : (t147 != t156) = false := bne_eq_false_iff_eq.mpr c20; clear c20; replace H := Option.bind_eq_some_iff.mp H; obtain ⟨⟨t161, t162, t163, t164, l0_4⟩, A210, H⟩ := H; obtain ⟨rfl⟩ := rma_Expire.same A210; replace H : ((backhaulref27_Expire.f k a0_0 a0_1 a0_2 a0_3 l0_4 a2).bind fun bt168 => ((backhaulref27_Same.f k t161 t162 t163 t164 bt168.2.2.2.2 bt168.1 bt168.2.1 bt168.2.2.1 bt168.2.2.2.1 bt168.2.2.2.2).bind fun t175 => (if t175 = true then ((rma_Holds.f k a0_0 a0_1 a0_2 a0_3 bt168.2.2.2.2 a1).bind fun t176 => ((backhaulref27_Holds.f k a0_0 a0_1 a0_2 a0_3 bt168.2.2.2.2 a1).bind fun t177 => (if t176 = t177 then ((backhaullaw27_awake.f).bind fun t178 => (if t178 = true then (some true) else (some false))) else (some false)))) else (some false)))) = some true := H; have A21 := zA A210; clear A210; replace H := Option.bind_eq_some_iff.mp H; obtain ⟨⟨t168, t169, t170, t171, l0_4⟩, A220, H⟩ := H; obtain ⟨rfl⟩ := backhaulref27_Expire.same A220; replace H : ((backhaulref27_Same.f k t161 t162 t163 t164 l0_4 t168 t169 t170 t171 l0_4).bind fun t175 => (if t175 = true then ((rma_Holds.f k a0_0 a0_1 a0_2 a0_3 l0_4 a1).bind fun t176 => ((backhaulref27_Holds.f k a0_0 a0_1 a0_2 a0_3 l0_4 a1).bind fun t177 => (if t176 = t177 then ((backhaullaw27_awake.f).bind fun t178 => (if t178 = true then (some true) else (some false))) else (some false)))) else (some false))) = some true := H; have A22 := zA A220; clear A220; replace H := Option.bind_eq_some_iff.mp H; obtain ⟨t175, A230, H⟩ := H; replace H : (if t175 = true then ((rma_Holds.f k a0_0 a0_1 a0_2 a0_3 l0_4 a1).bind fun t176 => ((backhaulref27_Holds.f k a0_0 a0_1 a0_2 a0_3 l0_4 a1).bind fun t177 => (if t176 = t177 then ((backhaullaw27_awake.f).bind fun t178 => (if t178 = true then (some true) else (some false))) else (some false)))) else (some false)) = some true := H; have A23 := zA A230; clear A230; by_cases c24 : t175 = true
                · subst c24
                  have H1 : ((rma_Holds.f k a0_0 a0_1 a0_2 a0_3 l0_4 a1).bind fun t176 => ((backhaulref27_Holds.f k a0_0 a0_1 a0_2 a0_3 l0_4 a1).bind fun t177 => (if t176 = t177 then ((backhaullaw27_awake.f).bind fun t178 => (if t178 = true then (some true) else (some false))) else (some false)))) = some true := by first | (rw [if_pos rfl] at H; exact H) | rfl
                  clear H; have H := H1; clear H1; replace H := Option.bind_eq_some_iff.mp H; obtain ⟨t176, A250, H⟩ := H; replace H : ((backhaulref27_Holds.f k a0_0 a0_1 a0_2 a0_3 l0_4 a1).bind fun t177 => (if t176 = t177 then ((backhaullaw27_awake.f).bind fun t178 => (if t178 = true then (some true) else (some false))) else (some false))) = some true := H; have A25 := zA A250; clear A250; replace H := Option.bind_eq_some_iff.mp H; obtain ⟨t177, A260, H⟩ := H; replace H : (if t176 = t177 then ((backhaullaw27_awake.f).bind fun t178 => (if t178 = true then (some true) else (some false))) else (some false)) = some true := H; have A26 := zA A260; clear A260; by_cases c27 : t176 = t177
                  · rw [if_pos c27] at H
                    have c27b0 : (t176 == t177) = true := beq_iff_eq.mpr c27; have c27b1 : (t176 != t177) = false := bne_eq_false_iff_eq.mpr c27; clear c27; replace H := Option.bind_eq_some_iff.mp H; obtain ⟨t178, A280, H⟩ := H; replace H : (if t178 = true then (some true) else (some false)) = some true := H; have A28 := zA A280; clear A280; by_cases c29 : t178 = true
                    · subst c29
                      have H1 : (some true) = some true := by first | (rw [if_pos rfl] at H; exact H) | rfl
                      clear H; have H := H1; clear H1; clear H; go_enter Try.func9, Try.ntmps9; try go_wp2_with (first | ((with_reducible refine gate_dst (N := 3) rfl ?_); refine box_event qr (N := 3) qr (cs := #[.int .i64 a0_0, .int .i64 a0_1, .int .i64 a0_2, .int .i64 a0_3, .slice A0_4 l0_4.length c0_4]) (t := 70) qg ?_; intro gb101 hg w30 hbox hb; have n0_ := zA (zV qB hb); have n1_ := zA (hbox); have n2_ := zA ((qS : w.heap.size ≤ gb101)); have n3_ := zA ((qS : w.heap.size ≤ gb101)); clear HB; have HB := n0_; have BK101 := n1_; have GW101 := n2_; have GE101 := n3_; clear n0_ n1_ n2_ n3_ hb hbox hg; obtain ⟨_, _, _, _, _, _, _, _, _, _⟩ := qc5f BK101.out) | ((with_reducible refine zJq (f := 47) rfl ?_); refine goesL_ (some 20) rfl rfl Try.func47 (by kernel_rfl) rfl #[.agg #[.int .i64 a0_0, .int .i64 a0_1, .int .i64 a0_2, .int .i64 a0_3, .slice A0_4 l0_4.length c0_4]] rfl (by (try simp only [zR, zS, zT]); first | done | rfl | (simp only [zP, zQ]; rfl)) ?_; (with_reducible refine (backhaullaw27_Few.calls a0_0 a0_1 a0_2 a0_3 _ _ l0_4 true _ ?side1 ?side2 A4.out).mono ?_); (case side1 => exact qC (Kd.C_below HR0_4.out HB.out)); (case side2 => exact HC0_4.out); rintro e w32 ⟨rfl, hb⟩; refine ⟨_, rfl, ?_⟩; have n0_ := zA (qX BK101.out hb); have n1_ := zA (zV qB hb); clear BK101 HB; have BK101 := n0_; have HB := n1_; clear n0_ n1_; (try clear hb); (try clear hb2); (try clear hk); (try clear hi); obtain ⟨_, _, _, _, _, _, _, _, _, _⟩ := qc5f BK101.out) | ((with_reducible refine zJq (f := 58) rfl ?_); refine goesL_ (some 27) rfl rfl Try.func58 (by kernel_rfl) rfl #[.agg #[.int .i64 a0_0, .int .i64 a0_1, .int .i64 a0_2, .int .i64 a0_3, .slice A0_4 l0_4.length c0_4], .int .i64 a1, .int .i64 a2] rfl (by (try simp only [zR, zS, zT]); first | done | rfl | (simp only [zP, zQ]; rfl)) ?_; (with_reducible refine (rma_Amend.calls k a0_0 a0_1 a0_2 a0_3 _ _ l0_4 a1 a2 t104 t105 t106 t107 t108 t111 _ ?side1 ?side2 A6.out).mono ?_); (case side1 => exact qC (Kd.C_below HR0_4.out HB.out)); (case side2 => exact HC0_4.out); rintro e w34 ⟨v109, rfl, ho0, hb⟩; refine ⟨_, rfl, ?_⟩; have n0_ := zA (Kd.R_lower ho0 (zW qB)); have n1_ := zA (qX BK101.out hb); have n2_ := zA (zV qB hb); clear BK101 HB; have HO110 := n0_; have BK101 := n1_; have HB := n2_; clear n0_ n1_ n2_; (try clear hb); (try clear hb2); (try clear hk); (try clear hi); (try clear ho0)) | ((with_reducible refine gate_dst (N := 7) rfl ?_); refine box_event qr (N := 7) qr (cs := #[.int .i64 0, .int .i64 0, .int .i64 0, .int .i64 0, .slice none 0 0]) (t := 70) qg ?_; intro gb112 hg w35 hbox hb; have n0_ := zA (Kd.R_below (by (with_reducible repeat (first | apply Kd.R_alloc | apply Kd.R_drewN | apply Kd.R_drew)); exact HO110.out) hb); have n1_ := zA (qX BK101.out hb); have n2_ := zA (zV qB hb); have n3_ := zA (hbox); have n4_ := zA ((qS : w.heap.size ≤ gb112)); have n5_ := zA ((qS : w.heap.size ≤ gb112)); have n6_ := zA ((by rw [hg]; exact zLq (qL BK101.out) : gb101 ≠ gb112)); have n7_ := zA ((by rw [hg]; exact zMq (qL BK101.out) : gb112 ≠ gb101)); clear HO110 BK101 HB; have HO110 := n0_; have BK101 := n1_; have HB := n2_; have BK112 := n3_; have GW112 := n4_; have GE112 := n5_; have NB101_112 := n6_; have NB112_101 := n7_; clear n0_ n1_ n2_ n3_ n4_ n5_ n6_ n7_ hb hbox hg; have hnb36 := NB112_101.out; have hnc36 := NB101_112.out; obtain ⟨_, _, _, _, _, _, _, _, _, _⟩ := qc5f BK112.out; obtain ⟨Ao38, co38, eo38⟩ := Kd.R_slice HO110.out; subst eo38; obtain ⟨_, _, _, _, _, _, _, _, _, _⟩ := qc5f BK101.out) | ((with_reducible refine zJq (f := 59) rfl ?_); refine goesL_ (some 34) rfl rfl Try.func59 (by kernel_rfl) rfl #[.agg #[.int .i64 a0_0, .int .i64 a0_1, .int .i64 a0_2, .int .i64 a0_3, .slice A0_4 l0_4.length c0_4], .int .i64 a1, .int .i64 a2] rfl (by (try simp only [zR, zS, zT]); first | done | rfl | (simp only [zP, zQ]; rfl)) ?_; (with_reducible refine (backhaulref27_Amend.calls k a0_0 a0_1 a0_2 a0_3 _ _ l0_4 a1 a2 t113 t114 t115 t116 t117 t120 _ ?side1 ?side2 A7.out).mono ?_); (case side1 => exact Kd.C_below HR0_4.out qB); (case side2 => exact HC0_4.out); rintro e w40 ⟨v118, rfl, ho0, hb⟩; refine ⟨_, rfl, ?_⟩; have n0_ := zA (Kd.R_elder' (by (with_reducible repeat (first | apply Kd.R_alloc | apply Kd.R_drewN | apply Kd.R_drew)); exact (Kd.R_mono (Kd.R_far (p := ⟨gb112, 4, none⟩) (Kd.R_far (p := ⟨gb112, 3, none⟩) (Kd.R_far (p := ⟨gb112, 2, none⟩) (Kd.R_far (p := ⟨gb112, 1, none⟩) (Kd.R_far (p := ⟨gb112, 0, none⟩) (Kd.R_types HO110.out BK112.out (by decide)) (fun _ hk => hk.2) (.int .i64 t104)) (fun _ hk => hk.2) (.int .i64 t105)) (fun _ hk => hk.2) (.int .i64 t106)) (fun _ hk => hk.2) (.int .i64 t107)) (fun _ hk => hk.2) (.slice Ao38 t108.length co38)) (fun _ h_ => h_.1))) (Kd.R_base ho0) hb); have n1_ := zA (Kd.R_lower (Kd.R_new' ho0 (Kd.R_lt (by (with_reducible repeat (first | apply Kd.R_alloc | apply Kd.R_drewN | apply Kd.R_drew)); exact (Kd.R_mono (Kd.R_far (p := ⟨gb112, 4, none⟩) (Kd.R_far (p := ⟨gb112, 3, none⟩) (Kd.R_far (p := ⟨gb112, 2, none⟩) (Kd.R_far (p := ⟨gb112, 1, none⟩) (Kd.R_far (p := ⟨gb112, 0, none⟩) (Kd.R_types HO110.out BK112.out (by decide)) (fun _ hk => hk.2) (.int .i64 t104)) (fun _ hk => hk.2) (.int .i64 t105)) (fun _ hk => hk.2) (.int .i64 t106)) (fun _ hk => hk.2) (.int .i64 t107)) (fun _ hk => hk.2) (.slice Ao38 t108.length co38)) (fun _ h_ => h_.1))))) (zW qB)); have n2_ := zA (qX BK101.out hb); have n3_ := zA (zX (g := gb112) (o := .cells #[.int .i64 t104, .int .i64 t105, .int .i64 t106, .int .i64 t107, .slice Ao38 t108.length co38] 70 (0, 0)) (qV BK112.out) hb); have n4_ := zA (zV qB hb); clear HO110 BK101 BK112 HB; have HO110 := n0_; have HO119 := n1_; have BK101 := n2_; have BK112 := n3_; have HB := n4_; clear n0_ n1_ n2_ n3_ n4_; (try clear hb); (try clear hb2); (try clear hk); (try clear hi); (try clear ho0)) | ((with_reducible refine gate_dst (N := 9) rfl ?_); refine box_event qr (N := 9) qr (cs := #[.int .i64 0, .int .i64 0, .int .i64 0, .int .i64 0, .slice none 0 0]) (t := 70) qg ?_; intro gb121 hg w41 hbox hb; have n0_ := zA (Kd.R_below (by (with_reducible repeat (first | apply Kd.R_alloc | apply Kd.R_drewN | apply Kd.R_drew)); exact HO110.out) hb); have n1_ := zA (Kd.R_below (by (with_reducible repeat (first | apply Kd.R_alloc | apply Kd.R_drewN | apply Kd.R_drew)); exact HO119.out) hb); have n2_ := zA (qX BK101.out hb); have n3_ := zA (qX BK112.out hb); have n4_ := zA (zV qB hb); have n5_ := zA (hbox); have n6_ := zA ((qS : w.heap.size ≤ gb121)); have n7_ := zA ((qS : w.heap.size ≤ gb121)); have n8_ := zA ((by rw [hg]; exact zLq (qL BK101.out) : gb101 ≠ gb121)); have n9_ := zA ((by rw [hg]; exact zMq (qL BK101.out) : gb121 ≠ gb101)); have n10_ := zA ((by rw [hg]; exact zLq (qL BK112.out) : gb112 ≠ gb121)); have n11_ := zA ((by rw [hg]; exact zMq (qL BK112.out) : gb121 ≠ gb112)); clear HO110 HO119 BK101 BK112 HB; have HO110 := n0_; have HO119 := n1_; have BK101 := n2_; have BK112 := n3_; have HB := n4_; have BK121 := n5_; have GW121 := n6_; have GE121 := n7_; have NB101_121 := n8_; have NB121_101 := n9_; have NB112_121 := n10_; have NB121_112 := n11_; clear n0_ n1_ n2_ n3_ n4_ n5_ n6_ n7_ n8_ n9_ n10_ n11_ hb hbox hg; have hnb42 := NB121_101.out; have hnc42 := NB101_121.out; have hnb43 := NB121_112.out; have hnc43 := NB112_121.out; obtain ⟨_, _, _, _, _, _, _, _, _, _⟩ := qc5f BK121.out; obtain ⟨Ao45, co45, eo45⟩ := Kd.R_slice HO119.out; subst eo45; obtain ⟨_, _, _, _, _, _, _, _, _, _⟩ := qc5f BK101.out) | ((with_reducible refine zJq (f := 60) rfl ?_); refine goesL_ (some 39) rfl rfl Try.func60 (by kernel_rfl) rfl #[.agg #[.int .i64 a0_0, .int .i64 a0_1, .int .i64 a0_2, .int .i64 a0_3, .slice A0_4 l0_4.length c0_4]] rfl (by (try simp only [zR, zS, zT]); first | done | rfl | (simp only [zP, zQ]; rfl)) ?_; (with_reducible refine (rma_Cancel.calls k a0_0 a0_1 a0_2 a0_3 _ _ l0_4 t122 t123 t124 t125 t126 t129 _ ?side1 ?side2 A8.out).mono ?_); (case side1 => exact Kd.C_below HR0_4.out qB); (case side2 => exact HC0_4.out); rintro e w47 ⟨v127, rfl, ho0, hb⟩; refine ⟨_, rfl, ?_⟩; have n0_ := zA (Kd.R_elder' (by (with_reducible repeat (first | apply Kd.R_alloc | apply Kd.R_drewN | apply Kd.R_drew)); exact (Kd.R_mono (Kd.R_far (p := ⟨gb121, 4, none⟩) (Kd.R_far (p := ⟨gb121, 3, none⟩) (Kd.R_far (p := ⟨gb121, 2, none⟩) (Kd.R_far (p := ⟨gb121, 1, none⟩) (Kd.R_far (p := ⟨gb121, 0, none⟩) (Kd.R_types HO110.out BK121.out (by decide)) (fun _ hk => hk.2) (.int .i64 t113)) (fun _ hk => hk.2) (.int .i64 t114)) (fun _ hk => hk.2) (.int .i64 t115)) (fun _ hk => hk.2) (.int .i64 t116)) (fun _ hk => hk.2) (.slice Ao45 t117.length co45)) (fun _ h_ => h_.1))) (Kd.R_base ho0) hb); have n1_ := zA (Kd.R_elder' (by (with_reducible repeat (first | apply Kd.R_alloc | apply Kd.R_drewN | apply Kd.R_drew)); exact (Kd.R_mono (Kd.R_far (p := ⟨gb121, 4, none⟩) (Kd.R_far (p := ⟨gb121, 3, none⟩) (Kd.R_far (p := ⟨gb121, 2, none⟩) (Kd.R_far (p := ⟨gb121, 1, none⟩) (Kd.R_far (p := ⟨gb121, 0, none⟩) (Kd.R_types HO119.out BK121.out (by decide)) (fun _ hk => hk.2) (.int .i64 t113)) (fun _ hk => hk.2) (.int .i64 t114)) (fun _ hk => hk.2) (.int .i64 t115)) (fun _ hk => hk.2) (.int .i64 t116)) (fun _ hk => hk.2) (.slice Ao45 t117.length co45)) (fun _ h_ => h_.1))) (Kd.R_base ho0) hb); have n2_ := zA (Kd.R_lower (Kd.R_new' (Kd.R_new' ho0 (Kd.R_lt (by (with_reducible repeat (first | apply Kd.R_alloc | apply Kd.R_drewN | apply Kd.R_drew)); exact (Kd.R_mono (Kd.R_far (p := ⟨gb121, 4, none⟩) (Kd.R_far (p := ⟨gb121, 3, none⟩) (Kd.R_far (p := ⟨gb121, 2, none⟩) (Kd.R_far (p := ⟨gb121, 1, none⟩) (Kd.R_far (p := ⟨gb121, 0, none⟩) (Kd.R_types HO110.out BK121.out (by decide)) (fun _ hk => hk.2) (.int .i64 t113)) (fun _ hk => hk.2) (.int .i64 t114)) (fun _ hk => hk.2) (.int .i64 t115)) (fun _ hk => hk.2) (.int .i64 t116)) (fun _ hk => hk.2) (.slice Ao45 t117.length co45)) (fun _ h_ => h_.1))))) (Kd.R_lt (by (with_reducible repeat (first | apply Kd.R_alloc | apply Kd.R_drewN | apply Kd.R_drew)); exact (Kd.R_mono (Kd.R_far (p := ⟨gb121, 4, none⟩) (Kd.R_far (p := ⟨gb121, 3, none⟩) (Kd.R_far (p := ⟨gb121, 2, none⟩) (Kd.R_far (p := ⟨gb121, 1, none⟩) (Kd.R_far (p := ⟨gb121, 0, none⟩) (Kd.R_types HO119.out BK121.out (by decide)) (fun _ hk => hk.2) (.int .i64 t113)) (fun _ hk => hk.2) (.int .i64 t114)) (fun _ hk => hk.2) (.int .i64 t115)) (fun _ hk => hk.2) (.int .i64 t116)) (fun _ hk => hk.2) (.slice Ao45 t117.length co45)) (fun _ h_ => h_.1))))) (zW qB)); have n3_ := zA (qX BK101.out hb); have n4_ := zA (qX BK112.out hb); have n5_ := zA (zX (g := gb121) (o := .cells #[.int .i64 t113, .int .i64 t114, .int .i64 t115, .int .i64 t116, .slice Ao45 t117.length co45] 70 (0, 0)) (qV BK121.out) hb); have n6_ := zA (zV qB hb); clear HO110 HO119 BK101 BK112 BK121 HB; have HO110 := n0_; have HO119 := n1_; have HO128 := n2_; have BK101 := n3_; have BK112 := n4_; have BK121 := n5_; have HB := n6_; clear n0_ n1_ n2_ n3_ n4_ n5_ n6_; (try clear hb); (try clear hb2); (try clear hk); (try clear hi); (try clear ho0)) | ((with_reducible refine gate_dst (N := 11) rfl ?_); refine box_event qr (N := 11) qr (cs := #[.int .i64 0, .int .i64 0, .int .i64 0, .int .i64 0, .slice none 0 0]) (t := 70) qg ?_; intro gb130 hg w48 hbox hb; have n0_ := zA (Kd.R_below (by (with_reducible repeat (first | apply Kd.R_alloc | apply Kd.R_drewN | apply Kd.R_drew)); exact HO110.out) hb); have n1_ := zA (Kd.R_below (by (with_reducible repeat (first | apply Kd.R_alloc | apply Kd.R_drewN | apply Kd.R_drew)); exact HO119.out) hb); have n2_ := zA (Kd.R_below (by (with_reducible repeat (first | apply Kd.R_alloc | apply Kd.R_drewN | apply Kd.R_drew)); exact HO128.out) hb); have n3_ := zA (qX BK101.out hb); have n4_ := zA (qX BK112.out hb); have n5_ := zA (qX BK121.out hb); have n6_ := zA (zV qB hb); have n7_ := zA (hbox); have n8_ := zA ((qS : w.heap.size ≤ gb130)); have n9_ := zA ((qS : w.heap.size ≤ gb130)); have n10_ := zA ((by rw [hg]; exact zLq (qL BK101.out) : gb101 ≠ gb130)); have n11_ := zA ((by rw [hg]; exact zMq (qL BK101.out) : gb130 ≠ gb101)); have n12_ := zA ((by rw [hg]; exact zLq (qL BK112.out) : gb112 ≠ gb130)); have n13_ := zA ((by rw [hg]; exact zMq (qL BK112.out) : gb130 ≠ gb112)); have n14_ := zA ((by rw [hg]; exact zLq (qL BK121.out) : gb121 ≠ gb130)); have n15_ := zA ((by rw [hg]; exact zMq (qL BK121.out) : gb130 ≠ gb121)); clear HO110 HO119 HO128 BK101 BK112 BK121 HB; have HO110 := n0_; have HO119 := n1_; have HO128 := n2_; have BK101 := n3_; have BK112 := n4_; have BK121 := n5_; have HB := n6_; have BK130 := n7_; have GW130 := n8_; have GE130 := n9_; have NB101_130 := n10_; have NB130_101 := n11_; have NB112_130 := n12_; have NB130_112 := n13_; have NB121_130 := n14_; have NB130_121 := n15_; clear n0_ n1_ n2_ n3_ n4_ n5_ n6_ n7_ n8_ n9_ n10_ n11_ n12_ n13_ n14_ n15_ hb hbox hg; have hnb49 := NB130_101.out; have hnc49 := NB101_130.out; have hnb50 := NB130_112.out; have hnc50 := NB112_130.out; have hnb51 := NB130_121.out; have hnc51 := NB121_130.out; obtain ⟨_, _, _, _, _, _, _, _, _, _⟩ := qc5f BK130.out; obtain ⟨Ao53, co53, eo53⟩ := Kd.R_slice HO128.out; subst eo53) | ((with_reducible refine gate_store (t := 70) (p := 11) rfl ?_); refine store_event (t := 70) (p := 11) (v := ?vo_w54) (w1 := (((((w48.setCell ⟨gb130, 0, none⟩ (.int .i64 t122)).setCell ⟨gb130, 1, none⟩ (.int .i64 t123)).setCell ⟨gb130, 2, none⟩ (.int .i64 t124)).setCell ⟨gb130, 3, none⟩ (.int .i64 t125)).setCell ⟨gb130, 4, none⟩ (.slice Ao53 t126.length co53))) ?hg ?ho ?hn ?hr ?_; (case ho => rfl); (case hg => rfl); (case hn => rfl); (case hr => first | (go_simp; done) | (go_simp; rfl)); intro w54 hw; have n0_ : Aside0 (Kd.R k97 97 w54 w.heap.size (fun k_ => some k_ ≠ (.slice Ao45 t117.length co45 : Value).ownBlock ∧ some k_ ≠ (.slice Ao53 t126.length co53 : Value).ownBlock) (.slice Ao38 t108.length co38) t108) := ⟨(by rw [hw]; exact (by (with_reducible repeat (first | apply Kd.R_alloc | apply Kd.R_drewN | apply Kd.R_drew)); exact Kd.R_mono (Kd.R_far (p := ⟨gb130, 4, none⟩) (Kd.R_far (p := ⟨gb130, 3, none⟩) (Kd.R_far (p := ⟨gb130, 2, none⟩) (Kd.R_far (p := ⟨gb130, 1, none⟩) (Kd.R_far (p := ⟨gb130, 0, none⟩) (Kd.R_types HO110.out BK130.out (by decide)) (fun _ hk => hk.2) (.int .i64 t122)) (fun _ hk => hk.2) (.int .i64 t123)) (fun _ hk => hk.2) (.int .i64 t124)) (fun _ hk => hk.2) (.int .i64 t125)) (fun _ hk => hk.2) (.slice Ao53 t126.length co53)) (fun _ hk => ⟨hk.1.1.2, hk.1.2⟩)))⟩; have n1_ : Aside0 (Kd.R k97 97 w54 w.heap.size (fun k_ => some k_ ≠ (.slice Ao38 t108.length co38 : Value).ownBlock ∧ some k_ ≠ (.slice Ao53 t126.length co53 : Value).ownBlock) (.slice Ao45 t117.length co45) t117) := ⟨(by rw [hw]; exact (by (with_reducible repeat (first | apply Kd.R_alloc | apply Kd.R_drewN | apply Kd.R_drew)); exact Kd.R_mono (Kd.R_far (p := ⟨gb130, 4, none⟩) (Kd.R_far (p := ⟨gb130, 3, none⟩) (Kd.R_far (p := ⟨gb130, 2, none⟩) (Kd.R_far (p := ⟨gb130, 1, none⟩) (Kd.R_far (p := ⟨gb130, 0, none⟩) (Kd.R_types HO119.out BK130.out (by decide)) (fun _ hk => hk.2) (.int .i64 t122)) (fun _ hk => hk.2) (.int .i64 t123)) (fun _ hk => hk.2) (.int .i64 t124)) (fun _ hk => hk.2) (.int .i64 t125)) (fun _ hk => hk.2) (.slice Ao53 t126.length co53)) (fun _ hk => ⟨hk.1.1.2, hk.1.2⟩)))⟩; have n2_ : Aside0 (Kd.R k97 97 w54 w.heap.size (fun k_ => some k_ ≠ (.slice Ao38 t108.length co38 : Value).ownBlock ∧ some k_ ≠ (.slice Ao45 t117.length co45 : Value).ownBlock) (.slice Ao53 t126.length co53) t126) := ⟨(by rw [hw]; exact (by (with_reducible repeat (first | apply Kd.R_alloc | apply Kd.R_drewN | apply Kd.R_drew)); exact Kd.R_mono (Kd.R_far (p := ⟨gb130, 4, none⟩) (Kd.R_far (p := ⟨gb130, 3, none⟩) (Kd.R_far (p := ⟨gb130, 2, none⟩) (Kd.R_far (p := ⟨gb130, 1, none⟩) (Kd.R_far (p := ⟨gb130, 0, none⟩) (Kd.R_types HO128.out BK130.out (by decide)) (fun _ hk => hk.2) (.int .i64 t122)) (fun _ hk => hk.2) (.int .i64 t123)) (fun _ hk => hk.2) (.int .i64 t124)) (fun _ hk => hk.2) (.int .i64 t125)) (fun _ hk => hk.2) (.slice Ao53 t126.length co53)) (fun _ hk => ⟨hk.1.1.2, hk.1.2⟩)))⟩; have n3_ : Aside0 (w54.heap[gb101]? = some (.cells #[.int .i64 a0_0, .int .i64 a0_1, .int .i64 a0_2, .int .i64 a0_3, .slice A0_4 l0_4.length c0_4] 70 (0, 0))) := ⟨(by rw [hw]; exact (qW BK101.out))⟩; have n4_ : Aside0 (w54.heap[gb112]? = some (.cells #[.int .i64 t104, .int .i64 t105, .int .i64 t106, .int .i64 t107, .slice Ao38 t108.length co38] 70 (0, 0))) := ⟨(by rw [hw]; exact (qW BK112.out))⟩; have n5_ : Aside0 (w54.heap[gb121]? = some (.cells #[.int .i64 t113, .int .i64 t114, .int .i64 t115, .int .i64 t116, .slice Ao45 t117.length co45] 70 (0, 0))) := ⟨(by rw [hw]; exact (qW BK121.out))⟩; have n6_ : Aside0 (w54.heap[gb130]? = some (.cells #[.int .i64 t122, .int .i64 t123, .int .i64 t124, .int .i64 t125, .slice Ao53 t126.length co53] 70 (0, 0))) := ⟨(by rw [hw]; exact (qV BK130.out))⟩; have n7_ : Aside0 (Below w.heap.size w w54) := ⟨(by rw [hw]; exact qB)⟩; clear hw HO110 HO119 HO128 BK101 BK112 BK121 BK130 HB; have HO110 := n0_; have HO119 := n1_; have HO128 := n2_; have BK101 := n3_; have BK112 := n4_; have BK121 := n5_; have BK130 := n6_; have HB := n7_; clear n0_ n1_ n2_ n3_ n4_ n5_ n6_ n7_; obtain ⟨_, _, _, _, _, _, _, _, _, _⟩ := qc5f BK101.out) | ((with_reducible refine zJq (f := 61) rfl ?_); refine goesL_ (some 44) rfl rfl Try.func61 (by kernel_rfl) rfl #[.agg #[.int .i64 a0_0, .int .i64 a0_1, .int .i64 a0_2, .int .i64 a0_3, .slice A0_4 l0_4.length c0_4]] rfl (by (try simp only [zR, zS, zT]); first | done | rfl | (simp only [zP, zQ]; rfl)) ?_; (with_reducible refine (backhaulref27_Cancel.calls k a0_0 a0_1 a0_2 a0_3 (fun k_ => k_ < w.heap.size) _ _ l0_4 t131 t132 t133 t134 t135 t138 _ ?side1 A9.out).mono ?_); (case side1 => exact Kd.V_mk HC0_4.out (Kd.F_below (Kd.C_F k97_heap HR0_4.out) qB)); rintro e w56 ⟨v136, rfl, ho0, hb⟩; refine ⟨_, rfl, ?_⟩; have n0_ := zA (Kd.R_below (by (with_reducible repeat (first | apply Kd.R_alloc | apply Kd.R_drewN | apply Kd.R_drew)); exact HO110.out) hb); have n1_ := zA (Kd.R_below (by (with_reducible repeat (first | apply Kd.R_alloc | apply Kd.R_drewN | apply Kd.R_drew)); exact HO119.out) hb); have n2_ := zA (Kd.R_below (by (with_reducible repeat (first | apply Kd.R_alloc | apply Kd.R_drewN | apply Kd.R_drew)); exact HO128.out) hb); have n3_ := zA (Kd.V_lower (Kd.V_mono (ok' := fun k_ => some k_ ≠ (.slice Ao38 t108.length co38 : Value).ownBlock ∧ some k_ ≠ (.slice Ao45 t117.length co45 : Value).ownBlock ∧ some k_ ≠ (.slice Ao53 t126.length co53 : Value).ownBlock ∧ k_ ≠ gb101 ∧ k_ ≠ gb112 ∧ k_ ≠ gb121 ∧ k_ ≠ gb130) ho0 (fun k_ hk_ => ⟨Or.elim hk_ (fun hs_ => fun e_ => Nat.not_le.2 hs_ (Kd.R_base HO110.out k_ e_.symm)) (fun hn_ => (Kd.fresh' (Kd.R_lt (by (with_reducible repeat (first | apply Kd.R_alloc | apply Kd.R_drewN | apply Kd.R_drew)); exact HO110.out)) k_ hn_)), Or.elim hk_ (fun hs_ => fun e_ => Nat.not_le.2 hs_ (Kd.R_base HO119.out k_ e_.symm)) (fun hn_ => (Kd.fresh' (Kd.R_lt (by (with_reducible repeat (first | apply Kd.R_alloc | apply Kd.R_drewN | apply Kd.R_drew)); exact HO119.out)) k_ hn_)), Or.elim hk_ (fun hs_ => fun e_ => Nat.not_le.2 hs_ (Kd.R_base HO128.out k_ e_.symm)) (fun hn_ => (Kd.fresh' (Kd.R_lt (by (with_reducible repeat (first | apply Kd.R_alloc | apply Kd.R_drewN | apply Kd.R_drew)); exact HO128.out)) k_ hn_)), Or.elim hk_ (fun hs_ => fun e_ => Nat.not_le.2 hs_ (by rw [e_]; exact GW101.out)) (fun hn_ => (Kd.freshB (g := gb101) (o := .cells #[.int .i64 a0_0, .int .i64 a0_1, .int .i64 a0_2, .int .i64 a0_3, .slice A0_4 l0_4.length c0_4] 70 (0, 0)) (qW BK101.out) k_ hn_)), Or.elim hk_ (fun hs_ => fun e_ => Nat.not_le.2 hs_ (by rw [e_]; exact GW112.out)) (fun hn_ => (Kd.freshB (g := gb112) (o := .cells #[.int .i64 t104, .int .i64 t105, .int .i64 t106, .int .i64 t107, .slice Ao38 t108.length co38] 70 (0, 0)) (qW BK112.out) k_ hn_)), Or.elim hk_ (fun hs_ => fun e_ => Nat.not_le.2 hs_ (by rw [e_]; exact GW121.out)) (fun hn_ => (Kd.freshB (g := gb121) (o := .cells #[.int .i64 t113, .int .i64 t114, .int .i64 t115, .int .i64 t116, .slice Ao45 t117.length co45] 70 (0, 0)) (qW BK121.out) k_ hn_)), Or.elim hk_ (fun hs_ => fun e_ => Nat.not_le.2 hs_ (by rw [e_]; exact GW130.out)) (fun hn_ => (Kd.freshB (g := gb130) (o := .cells #[.int .i64 t122, .int .i64 t123, .int .i64 t124, .int .i64 t125, .slice Ao53 t126.length co53] 70 (0, 0)) (qW BK130.out) k_ hn_))⟩)) (zW qB)); have n4_ := zA (qX BK101.out hb); have n5_ := zA (qX BK112.out hb); have n6_ := zA (qX BK121.out hb); have n7_ := zA (qX BK130.out hb); have n8_ := zA (zV qB hb); clear HO110 HO119 HO128 BK101 BK112 BK121 BK130 HB; have HO110 := n0_; have HO119 := n1_; have HO128 := n2_; have HO137 := n3_; have BK101 := n4_; have BK112 := n5_; have BK121 := n6_; have BK130 := n7_; have HB := n8_; clear n0_ n1_ n2_ n3_ n4_ n5_ n6_ n7_ n8_; (try clear hb); (try clear hb2); (try clear hk); (try clear hi); (try clear ho0)) | ((with_reducible refine gate_dst (N := 13) rfl ?_); refine box_event qr (N := 13) qr (cs := #[.int .i64 0, .int .i64 0, .int .i64 0, .int .i64 0, .slice none 0 0]) (t := 70) qg ?_; intro gb139 hg w57 hbox hb; have n0_ := zA (Kd.R_below (by (with_reducible repeat (first | apply Kd.R_alloc | apply Kd.R_drewN | apply Kd.R_drew)); exact HO110.out) hb); have n1_ := zA (Kd.R_below (by (with_reducible repeat (first | apply Kd.R_alloc | apply Kd.R_drewN | apply Kd.R_drew)); exact HO119.out) hb); have n2_ := zA (Kd.R_below (by (with_reducible repeat (first | apply Kd.R_alloc | apply Kd.R_drewN | apply Kd.R_drew)); exact HO128.out) hb); have n3_ := zA (Kd.V_below (Kd.V_elderB (by (with_reducible repeat (first | apply Kd.V_alloc | apply Kd.V_drewN | apply Kd.V_drew)); exact HO137.out) gb139 (Nat.le_of_eq hg.symm)) hb); have n4_ := zA (qX BK101.out hb); have n5_ := zA (qX BK112.out hb); have n6_ := zA (qX BK121.out hb); have n7_ := zA (qX BK130.out hb); have n8_ := zA (zV qB hb); have n9_ := zA (hbox); have n10_ := zA ((qS : w.heap.size ≤ gb139)); have n11_ := zA ((qS : w.heap.size ≤ gb139)); have n12_ := zA ((by rw [hg]; exact zLq (qL BK101.out) : gb101 ≠ gb139)); have n13_ := zA ((by rw [hg]; exact zMq (qL BK101.out) : gb139 ≠ gb101)); have n14_ := zA ((by rw [hg]; exact zLq (qL BK112.out) : gb112 ≠ gb139)); have n15_ := zA ((by rw [hg]; exact zMq (qL BK112.out) : gb139 ≠ gb112)); have n16_ := zA ((by rw [hg]; exact zLq (qL BK121.out) : gb121 ≠ gb139)); have n17_ := zA ((by rw [hg]; exact zMq (qL BK121.out) : gb139 ≠ gb121)); have n18_ := zA ((by rw [hg]; exact zLq (qL BK130.out) : gb130 ≠ gb139)); have n19_ := zA ((by rw [hg]; exact zMq (qL BK130.out) : gb139 ≠ gb130)); clear HO110 HO119 HO128 HO137 BK101 BK112 BK121 BK130 HB; have HO110 := n0_; have HO119 := n1_; have HO128 := n2_; have HO137 := n3_; have BK101 := n4_; have BK112 := n5_; have BK121 := n6_; have BK130 := n7_; have HB := n8_; have BK139 := n9_; have GW139 := n10_; have GE139 := n11_; have NB101_139 := n12_; have NB139_101 := n13_; have NB112_139 := n14_; have NB139_112 := n15_; have NB121_139 := n16_; have NB139_121 := n17_; have NB130_139 := n18_; have NB139_130 := n19_; clear n0_ n1_ n2_ n3_ n4_ n5_ n6_ n7_ n8_ n9_ n10_ n11_ n12_ n13_ n14_ n15_ n16_ n17_ n18_ n19_ hb hbox hg; have hnb58 := NB139_101.out; have hnc58 := NB101_139.out; have hnb59 := NB139_112.out; have hnc59 := NB112_139.out; have hnb60 := NB139_121.out; have hnc60 := NB121_139.out; have hnb61 := NB139_130.out; have hnc61 := NB130_139.out; obtain ⟨_, _, _, _, _, _, _, _, _, _⟩ := qc5f BK139.out; obtain ⟨Ao63, co63, eo63⟩ := Kd.V_slice HO137.out; subst eo63; obtain ⟨_, _, _, _, _, _, _, _, _, _⟩ := qc5f BK101.out) | ((with_reducible refine zJq (f := 62) rfl ?_); refine goesL_ (some 50) rfl rfl Try.func62 (by kernel_rfl) rfl #[.agg #[.int .i64 a0_0, .int .i64 a0_1, .int .i64 a0_2, .int .i64 a0_3, .slice A0_4 l0_4.length c0_4], .int .i64 a1] rfl (by (try simp only [zR, zS, zT]); first | done | rfl | (simp only [zP, zQ]; rfl)) ?_; (with_reducible refine (rma_Take.calls k a0_0 a0_1 a0_2 a0_3 _ _ l0_4 a1 t140 t141 t142 t143 t144 t147 _ ?side1 ?side2 A10.out).mono ?_); (case side1 => exact Kd.C_below HR0_4.out qB); (case side2 => exact HC0_4.out); rintro e w65 ⟨v145, rfl, ho0, hb⟩; refine ⟨_, rfl, ?_⟩; have n0_ := zA (Kd.R_elder' (by (with_reducible repeat (first | apply Kd.R_alloc | apply Kd.R_drewN | apply Kd.R_drew)); exact (Kd.R_mono (Kd.R_far (p := ⟨gb139, 4, none⟩) (Kd.R_far (p := ⟨gb139, 3, none⟩) (Kd.R_far (p := ⟨gb139, 2, none⟩) (Kd.R_far (p := ⟨gb139, 1, none⟩) (Kd.R_far (p := ⟨gb139, 0, none⟩) (Kd.R_types HO110.out BK139.out (by decide)) (fun _ hk => hk.2) (.int .i64 t131)) (fun _ hk => hk.2) (.int .i64 t132)) (fun _ hk => hk.2) (.int .i64 t133)) (fun _ hk => hk.2) (.int .i64 t134)) (fun _ hk => hk.2) (.slice Ao63 t135.length co63)) (fun _ h_ => h_.1))) (Kd.R_base ho0) hb); have n1_ := zA (Kd.R_elder' (by (with_reducible repeat (first | apply Kd.R_alloc | apply Kd.R_drewN | apply Kd.R_drew)); exact (Kd.R_mono (Kd.R_far (p := ⟨gb139, 4, none⟩) (Kd.R_far (p := ⟨gb139, 3, none⟩) (Kd.R_far (p := ⟨gb139, 2, none⟩) (Kd.R_far (p := ⟨gb139, 1, none⟩) (Kd.R_far (p := ⟨gb139, 0, none⟩) (Kd.R_types HO119.out BK139.out (by decide)) (fun _ hk => hk.2) (.int .i64 t131)) (fun _ hk => hk.2) (.int .i64 t132)) (fun _ hk => hk.2) (.int .i64 t133)) (fun _ hk => hk.2) (.int .i64 t134)) (fun _ hk => hk.2) (.slice Ao63 t135.length co63)) (fun _ h_ => h_.1))) (Kd.R_base ho0) hb); have n2_ := zA (Kd.R_elder' (by (with_reducible repeat (first | apply Kd.R_alloc | apply Kd.R_drewN | apply Kd.R_drew)); exact (Kd.R_mono (Kd.R_far (p := ⟨gb139, 4, none⟩) (Kd.R_far (p := ⟨gb139, 3, none⟩) (Kd.R_far (p := ⟨gb139, 2, none⟩) (Kd.R_far (p := ⟨gb139, 1, none⟩) (Kd.R_far (p := ⟨gb139, 0, none⟩) (Kd.R_types HO128.out BK139.out (by decide)) (fun _ hk => hk.2) (.int .i64 t131)) (fun _ hk => hk.2) (.int .i64 t132)) (fun _ hk => hk.2) (.int .i64 t133)) (fun _ hk => hk.2) (.int .i64 t134)) (fun _ hk => hk.2) (.slice Ao63 t135.length co63)) (fun _ h_ => h_.1))) (Kd.R_base ho0) hb); have n3_ := zA (Kd.V_elder' (by (with_reducible repeat (first | apply Kd.V_alloc | apply Kd.V_drewN | apply Kd.V_drew)); exact (Kd.V_mono (Kd.V_far (p := ⟨gb139, 4, none⟩) (Kd.V_far (p := ⟨gb139, 3, none⟩) (Kd.V_far (p := ⟨gb139, 2, none⟩) (Kd.V_far (p := ⟨gb139, 1, none⟩) (Kd.V_far (p := ⟨gb139, 0, none⟩) (Kd.V_mono HO137.out (fun k_ hk => (⟨hk, hk.2⟩ : _ ∧ k_ ≠ gb139))) (fun _ hk => hk.2) (.int .i64 t131)) (fun _ hk => hk.2) (.int .i64 t132)) (fun _ hk => hk.2) (.int .i64 t133)) (fun _ hk => hk.2) (.int .i64 t134)) (fun _ hk => hk.2) (.slice Ao63 t135.length co63)) (fun _ h_ => h_.1))) (Kd.R_base ho0) hb); have n4_ := zA (Kd.R_lower (Kd.R_new' (Kd.R_new' (Kd.R_new' ho0 (Kd.R_lt (by (with_reducible repeat (first | apply Kd.R_alloc | apply Kd.R_drewN | apply Kd.R_drew)); exact (Kd.R_mono (Kd.R_far (p := ⟨gb139, 4, none⟩) (Kd.R_far (p := ⟨gb139, 3, none⟩) (Kd.R_far (p := ⟨gb139, 2, none⟩) (Kd.R_far (p := ⟨gb139, 1, none⟩) (Kd.R_far (p := ⟨gb139, 0, none⟩) (Kd.R_types HO110.out BK139.out (by decide)) (fun _ hk => hk.2) (.int .i64 t131)) (fun _ hk => hk.2) (.int .i64 t132)) (fun _ hk => hk.2) (.int .i64 t133)) (fun _ hk => hk.2) (.int .i64 t134)) (fun _ hk => hk.2) (.slice Ao63 t135.length co63)) (fun _ h_ => h_.1))))) (Kd.R_lt (by (with_reducible repeat (first | apply Kd.R_alloc | apply Kd.R_drewN | apply Kd.R_drew)); exact (Kd.R_mono (Kd.R_far (p := ⟨gb139, 4, none⟩) (Kd.R_far (p := ⟨gb139, 3, none⟩) (Kd.R_far (p := ⟨gb139, 2, none⟩) (Kd.R_far (p := ⟨gb139, 1, none⟩) (Kd.R_far (p := ⟨gb139, 0, none⟩) (Kd.R_types HO119.out BK139.out (by decide)) (fun _ hk => hk.2) (.int .i64 t131)) (fun _ hk => hk.2) (.int .i64 t132)) (fun _ hk => hk.2) (.int .i64 t133)) (fun _ hk => hk.2) (.int .i64 t134)) (fun _ hk => hk.2) (.slice Ao63 t135.length co63)) (fun _ h_ => h_.1))))) (Kd.R_lt (by (with_reducible repeat (first | apply Kd.R_alloc | apply Kd.R_drewN | apply Kd.R_drew)); exact (Kd.R_mono (Kd.R_far (p := ⟨gb139, 4, none⟩) (Kd.R_far (p := ⟨gb139, 3, none⟩) (Kd.R_far (p := ⟨gb139, 2, none⟩) (Kd.R_far (p := ⟨gb139, 1, none⟩) (Kd.R_far (p := ⟨gb139, 0, none⟩) (Kd.R_types HO128.out BK139.out (by decide)) (fun _ hk => hk.2) (.int .i64 t131)) (fun _ hk => hk.2) (.int .i64 t132)) (fun _ hk => hk.2) (.int .i64 t133)) (fun _ hk => hk.2) (.int .i64 t134)) (fun _ hk => hk.2) (.slice Ao63 t135.length co63)) (fun _ h_ => h_.1))))) (zW qB)); have n5_ := zA (qX BK101.out hb); have n6_ := zA (qX BK112.out hb); have n7_ := zA (qX BK121.out hb); have n8_ := zA (qX BK130.out hb); have n9_ := zA (zX (g := gb139) (o := .cells #[.int .i64 t131, .int .i64 t132, .int .i64 t133, .int .i64 t134, .slice Ao63 t135.length co63] 70 (0, 0)) (qV BK139.out) hb); have n10_ := zA (zV qB hb); clear HO110 HO119 HO128 HO137 BK101 BK112 BK121 BK130 BK139 HB; have HO110 := n0_; have HO119 := n1_; have HO128 := n2_; have HO137 := n3_; have HO146 := n4_; have BK101 := n5_; have BK112 := n6_; have BK121 := n7_; have BK130 := n8_; have BK139 := n9_; have HB := n10_; clear n0_ n1_ n2_ n3_ n4_ n5_ n6_ n7_ n8_ n9_ n10_; (try clear hb); (try clear hb2); (try clear hk); (try clear hi); (try clear ho0)) | ((with_reducible refine gate_dst (N := 15) rfl ?_); refine box_event qr (N := 15) qr (cs := #[.int .i64 0, .int .i64 0, .int .i64 0, .int .i64 0, .slice none 0 0]) (t := 70) qg ?_; intro gb148 hg w66 hbox hb; have n0_ := zA (Kd.R_below (by (with_reducible repeat (first | apply Kd.R_alloc | apply Kd.R_drewN | apply Kd.R_drew)); exact HO110.out) hb); have n1_ := zA (Kd.R_below (by (with_reducible repeat (first | apply Kd.R_alloc | apply Kd.R_drewN | apply Kd.R_drew)); exact HO119.out) hb); have n2_ := zA (Kd.R_below (by (with_reducible repeat (first | apply Kd.R_alloc | apply Kd.R_drewN | apply Kd.R_drew)); exact HO128.out) hb); have n3_ := zA (Kd.V_below (Kd.V_elderB (by (with_reducible repeat (first | apply Kd.V_alloc | apply Kd.V_drewN | apply Kd.V_drew)); exact HO137.out) gb148 (Nat.le_of_eq hg.symm)) hb); have n4_ := zA (Kd.R_below (by (with_reducible repeat (first | apply Kd.R_alloc | apply Kd.R_drewN | apply Kd.R_drew)); exact HO146.out) hb); have n5_ := zA (qX BK101.out hb); have n6_ := zA (qX BK112.out hb); have n7_ := zA (qX BK121.out hb); have n8_ := zA (qX BK130.out hb); have n9_ := zA (qX BK139.out hb); have n10_ := zA (zV qB hb); have n11_ := zA (hbox); have n12_ := zA ((qS : w.heap.size ≤ gb148)); have n13_ := zA ((qS : w.heap.size ≤ gb148)); have n14_ := zA ((by rw [hg]; exact zLq (qL BK101.out) : gb101 ≠ gb148)); have n15_ := zA ((by rw [hg]; exact zMq (qL BK101.out) : gb148 ≠ gb101)); have n16_ := zA ((by rw [hg]; exact zLq (qL BK112.out) : gb112 ≠ gb148)); have n17_ := zA ((by rw [hg]; exact zMq (qL BK112.out) : gb148 ≠ gb112)); have n18_ := zA ((by rw [hg]; exact zLq (qL BK121.out) : gb121 ≠ gb148)); have n19_ := zA ((by rw [hg]; exact zMq (qL BK121.out) : gb148 ≠ gb121)); have n20_ := zA ((by rw [hg]; exact zLq (qL BK130.out) : gb130 ≠ gb148)); have n21_ := zA ((by rw [hg]; exact zMq (qL BK130.out) : gb148 ≠ gb130)); have n22_ := zA ((by rw [hg]; exact zLq (qL BK139.out) : gb139 ≠ gb148)); have n23_ := zA ((by rw [hg]; exact zMq (qL BK139.out) : gb148 ≠ gb139)); clear HO110 HO119 HO128 HO137 HO146 BK101 BK112 BK121 BK130 BK139 HB; have HO110 := n0_; have HO119 := n1_; have HO128 := n2_; have HO137 := n3_; have HO146 := n4_; have BK101 := n5_; have BK112 := n6_; have BK121 := n7_; have BK130 := n8_; have BK139 := n9_; have HB := n10_; have BK148 := n11_; have GW148 := n12_; have GE148 := n13_; have NB101_148 := n14_; have NB148_101 := n15_; have NB112_148 := n16_; have NB148_112 := n17_; have NB121_148 := n18_; have NB148_121 := n19_; have NB130_148 := n20_; have NB148_130 := n21_; have NB139_148 := n22_; have NB148_139 := n23_; clear n0_ n1_ n2_ n3_ n4_ n5_ n6_ n7_ n8_ n9_ n10_ n11_ n12_ n13_ n14_ n15_ n16_ n17_ n18_ n19_ n20_ n21_ n22_ n23_ hb hbox hg; have hnb67 := NB148_101.out; have hnc67 := NB101_148.out; have hnb68 := NB148_112.out; have hnc68 := NB112_148.out; have hnb69 := NB148_121.out; have hnc69 := NB121_148.out; have hnb70 := NB148_130.out; have hnc70 := NB130_148.out; have hnb71 := NB148_139.out; have hnc71 := NB139_148.out; obtain ⟨_, _, _, _, _, _, _, _, _, _⟩ := qc5f BK148.out; obtain ⟨Ao73, co73, eo73⟩ := Kd.R_slice HO146.out; subst eo73; obtain ⟨_, _, _, _, _, _, _, _, _, _⟩ := qc5f BK101.out) | ((with_reducible refine zJq (f := 63) rfl ?_); refine goesL_ (some 56) rfl rfl Try.func63 (by kernel_rfl) rfl #[.agg #[.int .i64 a0_0, .int .i64 a0_1, .int .i64 a0_2, .int .i64 a0_3, .slice A0_4 l0_4.length c0_4], .int .i64 a1] rfl (by (try simp only [zR, zS, zT]); first | done | rfl | (simp only [zP, zQ]; rfl)) ?_; (with_reducible refine (backhaulref27_Take.calls k a0_0 a0_1 a0_2 a0_3 _ _ l0_4 a1 t149 t150 t151 t152 t153 t156 _ ?side1 ?side2 A11.out).mono ?_); (case side1 => exact Kd.C_below HR0_4.out qB); (case side2 => exact HC0_4.out); rintro e w75 ⟨v154, rfl, ho0, hb⟩; refine ⟨_, rfl, ?_⟩; have n0_ := zA (Kd.R_elder' (by (with_reducible repeat (first | apply Kd.R_alloc | apply Kd.R_drewN | apply Kd.R_drew)); exact (Kd.R_mono (Kd.R_far (p := ⟨gb148, 4, none⟩) (Kd.R_far (p := ⟨gb148, 3, none⟩) (Kd.R_far (p := ⟨gb148, 2, none⟩) (Kd.R_far (p := ⟨gb148, 1, none⟩) (Kd.R_far (p := ⟨gb148, 0, none⟩) (Kd.R_types HO110.out BK148.out (by decide)) (fun _ hk => hk.2) (.int .i64 t140)) (fun _ hk => hk.2) (.int .i64 t141)) (fun _ hk => hk.2) (.int .i64 t142)) (fun _ hk => hk.2) (.int .i64 t143)) (fun _ hk => hk.2) (.slice Ao73 t144.length co73)) (fun _ h_ => h_.1))) (Kd.R_base ho0) hb); have n1_ := zA (Kd.R_elder' (by (with_reducible repeat (first | apply Kd.R_alloc | apply Kd.R_drewN | apply Kd.R_drew)); exact (Kd.R_mono (Kd.R_far (p := ⟨gb148, 4, none⟩) (Kd.R_far (p := ⟨gb148, 3, none⟩) (Kd.R_far (p := ⟨gb148, 2, none⟩) (Kd.R_far (p := ⟨gb148, 1, none⟩) (Kd.R_far (p := ⟨gb148, 0, none⟩) (Kd.R_types HO119.out BK148.out (by decide)) (fun _ hk => hk.2) (.int .i64 t140)) (fun _ hk => hk.2) (.int .i64 t141)) (fun _ hk => hk.2) (.int .i64 t142)) (fun _ hk => hk.2) (.int .i64 t143)) (fun _ hk => hk.2) (.slice Ao73 t144.length co73)) (fun _ h_ => h_.1))) (Kd.R_base ho0) hb); have n2_ := zA (Kd.R_elder' (by (with_reducible repeat (first | apply Kd.R_alloc | apply Kd.R_drewN | apply Kd.R_drew)); exact (Kd.R_mono (Kd.R_far (p := ⟨gb148, 4, none⟩) (Kd.R_far (p := ⟨gb148, 3, none⟩) (Kd.R_far (p := ⟨gb148, 2, none⟩) (Kd.R_far (p := ⟨gb148, 1, none⟩) (Kd.R_far (p := ⟨gb148, 0, none⟩) (Kd.R_types HO128.out BK148.out (by decide)) (fun _ hk => hk.2) (.int .i64 t140)) (fun _ hk => hk.2) (.int .i64 t141)) (fun _ hk => hk.2) (.int .i64 t142)) (fun _ hk => hk.2) (.int .i64 t143)) (fun _ hk => hk.2) (.slice Ao73 t144.length co73)) (fun _ h_ => h_.1))) (Kd.R_base ho0) hb); have n3_ := zA (Kd.V_elder' (by (with_reducible repeat (first | apply Kd.V_alloc | apply Kd.V_drewN | apply Kd.V_drew)); exact (Kd.V_mono (Kd.V_far (p := ⟨gb148, 4, none⟩) (Kd.V_far (p := ⟨gb148, 3, none⟩) (Kd.V_far (p := ⟨gb148, 2, none⟩) (Kd.V_far (p := ⟨gb148, 1, none⟩) (Kd.V_far (p := ⟨gb148, 0, none⟩) (Kd.V_mono HO137.out (fun k_ hk => (⟨hk, hk.2⟩ : _ ∧ k_ ≠ gb148))) (fun _ hk => hk.2) (.int .i64 t140)) (fun _ hk => hk.2) (.int .i64 t141)) (fun _ hk => hk.2) (.int .i64 t142)) (fun _ hk => hk.2) (.int .i64 t143)) (fun _ hk => hk.2) (.slice Ao73 t144.length co73)) (fun _ h_ => h_.1))) (Kd.R_base ho0) hb); have n4_ := zA (Kd.R_elder' (by (with_reducible repeat (first | apply Kd.R_alloc | apply Kd.R_drewN | apply Kd.R_drew)); exact (Kd.R_mono (Kd.R_far (p := ⟨gb148, 4, none⟩) (Kd.R_far (p := ⟨gb148, 3, none⟩) (Kd.R_far (p := ⟨gb148, 2, none⟩) (Kd.R_far (p := ⟨gb148, 1, none⟩) (Kd.R_far (p := ⟨gb148, 0, none⟩) (Kd.R_types HO146.out BK148.out (by decide)) (fun _ hk => hk.2) (.int .i64 t140)) (fun _ hk => hk.2) (.int .i64 t141)) (fun _ hk => hk.2) (.int .i64 t142)) (fun _ hk => hk.2) (.int .i64 t143)) (fun _ hk => hk.2) (.slice Ao73 t144.length co73)) (fun _ h_ => h_.1))) (Kd.R_base ho0) hb); have n5_ := zA (Kd.R_lower (Kd.R_new' (Kd.R_new' (Kd.R_new' (Kd.R_new' ho0 (Kd.R_lt (by (with_reducible repeat (first | apply Kd.R_alloc | apply Kd.R_drewN | apply Kd.R_drew)); exact (Kd.R_mono (Kd.R_far (p := ⟨gb148, 4, none⟩) (Kd.R_far (p := ⟨gb148, 3, none⟩) (Kd.R_far (p := ⟨gb148, 2, none⟩) (Kd.R_far (p := ⟨gb148, 1, none⟩) (Kd.R_far (p := ⟨gb148, 0, none⟩) (Kd.R_types HO110.out BK148.out (by decide)) (fun _ hk => hk.2) (.int .i64 t140)) (fun _ hk => hk.2) (.int .i64 t141)) (fun _ hk => hk.2) (.int .i64 t142)) (fun _ hk => hk.2) (.int .i64 t143)) (fun _ hk => hk.2) (.slice Ao73 t144.length co73)) (fun _ h_ => h_.1))))) (Kd.R_lt (by (with_reducible repeat (first | apply Kd.R_alloc | apply Kd.R_drewN | apply Kd.R_drew)); exact (Kd.R_mono (Kd.R_far (p := ⟨gb148, 4, none⟩) (Kd.R_far (p := ⟨gb148, 3, none⟩) (Kd.R_far (p := ⟨gb148, 2, none⟩) (Kd.R_far (p := ⟨gb148, 1, none⟩) (Kd.R_far (p := ⟨gb148, 0, none⟩) (Kd.R_types HO119.out BK148.out (by decide)) (fun _ hk => hk.2) (.int .i64 t140)) (fun _ hk => hk.2) (.int .i64 t141)) (fun _ hk => hk.2) (.int .i64 t142)) (fun _ hk => hk.2) (.int .i64 t143)) (fun _ hk => hk.2) (.slice Ao73 t144.length co73)) (fun _ h_ => h_.1))))) (Kd.R_lt (by (with_reducible repeat (first | apply Kd.R_alloc | apply Kd.R_drewN | apply Kd.R_drew)); exact (Kd.R_mono (Kd.R_far (p := ⟨gb148, 4, none⟩) (Kd.R_far (p := ⟨gb148, 3, none⟩) (Kd.R_far (p := ⟨gb148, 2, none⟩) (Kd.R_far (p := ⟨gb148, 1, none⟩) (Kd.R_far (p := ⟨gb148, 0, none⟩) (Kd.R_types HO128.out BK148.out (by decide)) (fun _ hk => hk.2) (.int .i64 t140)) (fun _ hk => hk.2) (.int .i64 t141)) (fun _ hk => hk.2) (.int .i64 t142)) (fun _ hk => hk.2) (.int .i64 t143)) (fun _ hk => hk.2) (.slice Ao73 t144.length co73)) (fun _ h_ => h_.1))))) (Kd.R_lt (by (with_reducible repeat (first | apply Kd.R_alloc | apply Kd.R_drewN | apply Kd.R_drew)); exact (Kd.R_mono (Kd.R_far (p := ⟨gb148, 4, none⟩) (Kd.R_far (p := ⟨gb148, 3, none⟩) (Kd.R_far (p := ⟨gb148, 2, none⟩) (Kd.R_far (p := ⟨gb148, 1, none⟩) (Kd.R_far (p := ⟨gb148, 0, none⟩) (Kd.R_types HO146.out BK148.out (by decide)) (fun _ hk => hk.2) (.int .i64 t140)) (fun _ hk => hk.2) (.int .i64 t141)) (fun _ hk => hk.2) (.int .i64 t142)) (fun _ hk => hk.2) (.int .i64 t143)) (fun _ hk => hk.2) (.slice Ao73 t144.length co73)) (fun _ h_ => h_.1))))) (zW qB)); have n6_ := zA (qX BK101.out hb); have n7_ := zA (qX BK112.out hb); have n8_ := zA (qX BK121.out hb); have n9_ := zA (qX BK130.out hb); have n10_ := zA (qX BK139.out hb); have n11_ := zA (zX (g := gb148) (o := .cells #[.int .i64 t140, .int .i64 t141, .int .i64 t142, .int .i64 t143, .slice Ao73 t144.length co73] 70 (0, 0)) (qV BK148.out) hb); have n12_ := zA (zV qB hb); clear HO110 HO119 HO128 HO137 HO146 BK101 BK112 BK121 BK130 BK139 BK148 HB; have HO110 := n0_; have HO119 := n1_; have HO128 := n2_; have HO137 := n3_; have HO146 := n4_; have HO155 := n5_; have BK101 := n6_; have BK112 := n7_; have BK121 := n8_; have BK130 := n9_; have BK139 := n10_; have BK148 := n11_; have HB := n12_; clear n0_ n1_ n2_ n3_ n4_ n5_ n6_ n7_ n8_ n9_ n10_ n11_ n12_; (try clear hb); (try clear hb2); (try clear hk); (try clear hi); (try clear ho0)) | ((with_reducible refine gate_dst (N := 17) rfl ?_); refine box_event qr (N := 17) qr (cs := #[.int .i64 0, .int .i64 0, .int .i64 0, .int .i64 0, .slice none 0 0]) (t := 70) qg ?_; intro gb157 hg w76 hbox hb; have n0_ := zA (Kd.R_below (by (with_reducible repeat (first | apply Kd.R_alloc | apply Kd.R_drewN | apply Kd.R_drew)); exact HO110.out) hb); have n1_ := zA (Kd.R_below (by (with_reducible repeat (first | apply Kd.R_alloc | apply Kd.R_drewN | apply Kd.R_drew)); exact HO119.out) hb); have n2_ := zA (Kd.R_below (by (with_reducible repeat (first | apply Kd.R_alloc | apply Kd.R_drewN | apply Kd.R_drew)); exact HO128.out) hb); have n3_ := zA (Kd.V_below (Kd.V_elderB (by (with_reducible repeat (first | apply Kd.V_alloc | apply Kd.V_drewN | apply Kd.V_drew)); exact HO137.out) gb157 (Nat.le_of_eq hg.symm)) hb); have n4_ := zA (Kd.R_below (by (with_reducible repeat (first | apply Kd.R_alloc | apply Kd.R_drewN | apply Kd.R_drew)); exact HO146.out) hb); have n5_ := zA (Kd.R_below (by (with_reducible repeat (first | apply Kd.R_alloc | apply Kd.R_drewN | apply Kd.R_drew)); exact HO155.out) hb); have n6_ := zA (qX BK101.out hb); have n7_ := zA (qX BK112.out hb); have n8_ := zA (qX BK121.out hb); have n9_ := zA (qX BK130.out hb); have n10_ := zA (qX BK139.out hb); have n11_ := zA (qX BK148.out hb); have n12_ := zA (zV qB hb); have n13_ := zA (hbox); have n14_ := zA ((qS : w.heap.size ≤ gb157)); have n15_ := zA ((qS : w.heap.size ≤ gb157)); have n16_ := zA ((by rw [hg]; exact zLq (qL BK101.out) : gb101 ≠ gb157)); have n17_ := zA ((by rw [hg]; exact zMq (qL BK101.out) : gb157 ≠ gb101)); have n18_ := zA ((by rw [hg]; exact zLq (qL BK112.out) : gb112 ≠ gb157)); have n19_ := zA ((by rw [hg]; exact zMq (qL BK112.out) : gb157 ≠ gb112)); have n20_ := zA ((by rw [hg]; exact zLq (qL BK121.out) : gb121 ≠ gb157)); have n21_ := zA ((by rw [hg]; exact zMq (qL BK121.out) : gb157 ≠ gb121)); have n22_ := zA ((by rw [hg]; exact zLq (qL BK130.out) : gb130 ≠ gb157)); have n23_ := zA ((by rw [hg]; exact zMq (qL BK130.out) : gb157 ≠ gb130)); have n24_ := zA ((by rw [hg]; exact zLq (qL BK139.out) : gb139 ≠ gb157)); have n25_ := zA ((by rw [hg]; exact zMq (qL BK139.out) : gb157 ≠ gb139)); have n26_ := zA ((by rw [hg]; exact zLq (qL BK148.out) : gb148 ≠ gb157)); have n27_ := zA ((by rw [hg]; exact zMq (qL BK148.out) : gb157 ≠ gb148)); clear HO110 HO119 HO128 HO137 HO146 HO155 BK101 BK112 BK121 BK130 BK139 BK148 HB; have HO110 := n0_; have HO119 := n1_; have HO128 := n2_; have HO137 := n3_; have HO146 := n4_; have HO155 := n5_; have BK101 := n6_; have BK112 := n7_; have BK121 := n8_; have BK130 := n9_; have BK139 := n10_; have BK148 := n11_; have HB := n12_; have BK157 := n13_; have GW157 := n14_; have GE157 := n15_; have NB101_157 := n16_; have NB157_101 := n17_; have NB112_157 := n18_; have NB157_112 := n19_; have NB121_157 := n20_; have NB157_121 := n21_; have NB130_157 := n22_; have NB157_130 := n23_; have NB139_157 := n24_; have NB157_139 := n25_; have NB148_157 := n26_; have NB157_148 := n27_; clear n0_ n1_ n2_ n3_ n4_ n5_ n6_ n7_ n8_ n9_ n10_ n11_ n12_ n13_ n14_ n15_ n16_ n17_ n18_ n19_ n20_ n21_ n22_ n23_ n24_ n25_ n26_ n27_ hb hbox hg; have hnb77 := NB157_101.out; have hnc77 := NB101_157.out; have hnb78 := NB157_112.out; have hnc78 := NB112_157.out; have hnb79 := NB157_121.out; have hnc79 := NB121_157.out; have hnb80 := NB157_130.out; have hnc80 := NB130_157.out; have hnb81 := NB157_139.out; have hnc81 := NB139_157.out; have hnb82 := NB157_148.out; have hnc82 := NB148_157.out; obtain ⟨_, _, _, _, _, _, _, _, _, _⟩ := qc5f BK157.out; obtain ⟨Ao84, co84, eo84⟩ := Kd.R_slice HO155.out; subst eo84))
                      have n0_ : Aside0 (Kd.R k97 97 (((((w76.setCell ⟨gb157, 0, none⟩ (.int .i64 t149)).setCell ⟨gb157, 1, none⟩ (.int .i64 t150)).setCell ⟨gb157, 2, none⟩ (.int .i64 t151)).setCell ⟨gb157, 3, none⟩ (.int .i64 t152)).setCell ⟨gb157, 4, none⟩ (.slice Ao84 t153.length co84)) w.heap.size (fun k_ => some k_ ≠ (.slice Ao45 t117.length co45 : Value).ownBlock ∧ some k_ ≠ (.slice Ao53 t126.length co53 : Value).ownBlock ∧ some k_ ≠ (.slice Ao73 t144.length co73 : Value).ownBlock ∧ some k_ ≠ (.slice Ao84 t153.length co84 : Value).ownBlock) (.slice Ao38 t108.length co38) t108) := ⟨by (with_reducible repeat (first | apply Kd.R_alloc | apply Kd.R_drewN | apply Kd.R_drew)); exact Kd.R_mono (Kd.R_far (p := ⟨gb157, 4, none⟩) (Kd.R_far (p := ⟨gb157, 3, none⟩) (Kd.R_far (p := ⟨gb157, 2, none⟩) (Kd.R_far (p := ⟨gb157, 1, none⟩) (Kd.R_far (p := ⟨gb157, 0, none⟩) (Kd.R_types HO110.out BK157.out (by decide)) (fun _ hk => hk.2) (.int .i64 t149)) (fun _ hk => hk.2) (.int .i64 t150)) (fun _ hk => hk.2) (.int .i64 t151)) (fun _ hk => hk.2) (.int .i64 t152)) (fun _ hk => hk.2) (.slice Ao84 t153.length co84)) (fun _ hk => ⟨hk.1.1.1.1, ⟨hk.1.1.1.2, ⟨hk.1.1.2, hk.1.2⟩⟩⟩)⟩
                      have n1_ : Aside0 (Kd.R k97 97 (((((w76.setCell ⟨gb157, 0, none⟩ (.int .i64 t149)).setCell ⟨gb157, 1, none⟩ (.int .i64 t150)).setCell ⟨gb157, 2, none⟩ (.int .i64 t151)).setCell ⟨gb157, 3, none⟩ (.int .i64 t152)).setCell ⟨gb157, 4, none⟩ (.slice Ao84 t153.length co84)) w.heap.size (fun k_ => some k_ ≠ (.slice Ao38 t108.length co38 : Value).ownBlock ∧ some k_ ≠ (.slice Ao53 t126.length co53 : Value).ownBlock ∧ some k_ ≠ (.slice Ao73 t144.length co73 : Value).ownBlock ∧ some k_ ≠ (.slice Ao84 t153.length co84 : Value).ownBlock) (.slice Ao45 t117.length co45) t117) := ⟨by (with_reducible repeat (first | apply Kd.R_alloc | apply Kd.R_drewN | apply Kd.R_drew)); exact Kd.R_mono (Kd.R_far (p := ⟨gb157, 4, none⟩) (Kd.R_far (p := ⟨gb157, 3, none⟩) (Kd.R_far (p := ⟨gb157, 2, none⟩) (Kd.R_far (p := ⟨gb157, 1, none⟩) (Kd.R_far (p := ⟨gb157, 0, none⟩) (Kd.R_types HO119.out BK157.out (by decide)) (fun _ hk => hk.2) (.int .i64 t149)) (fun _ hk => hk.2) (.int .i64 t150)) (fun _ hk => hk.2) (.int .i64 t151)) (fun _ hk => hk.2) (.int .i64 t152)) (fun _ hk => hk.2) (.slice Ao84 t153.length co84)) (fun _ hk => ⟨hk.1.1.1.1, ⟨hk.1.1.1.2, ⟨hk.1.1.2, hk.1.2⟩⟩⟩)⟩
                      have n2_ : Aside0 (Kd.R k97 97 (((((w76.setCell ⟨gb157, 0, none⟩ (.int .i64 t149)).setCell ⟨gb157, 1, none⟩ (.int .i64 t150)).setCell ⟨gb157, 2, none⟩ (.int .i64 t151)).setCell ⟨gb157, 3, none⟩ (.int .i64 t152)).setCell ⟨gb157, 4, none⟩ (.slice Ao84 t153.length co84)) w.heap.size (fun k_ => some k_ ≠ (.slice Ao38 t108.length co38 : Value).ownBlock ∧ some k_ ≠ (.slice Ao45 t117.length co45 : Value).ownBlock ∧ some k_ ≠ (.slice Ao73 t144.length co73 : Value).ownBlock ∧ some k_ ≠ (.slice Ao84 t153.length co84 : Value).ownBlock) (.slice Ao53 t126.length co53) t126) := ⟨by (with_reducible repeat (first | apply Kd.R_alloc | apply Kd.R_drewN | apply Kd.R_drew)); exact Kd.R_mono (Kd.R_far (p := ⟨gb157, 4, none⟩) (Kd.R_far (p := ⟨gb157, 3, none⟩) (Kd.R_far (p := ⟨gb157, 2, none⟩) (Kd.R_far (p := ⟨gb157, 1, none⟩) (Kd.R_far (p := ⟨gb157, 0, none⟩) (Kd.R_types HO128.out BK157.out (by decide)) (fun _ hk => hk.2) (.int .i64 t149)) (fun _ hk => hk.2) (.int .i64 t150)) (fun _ hk => hk.2) (.int .i64 t151)) (fun _ hk => hk.2) (.int .i64 t152)) (fun _ hk => hk.2) (.slice Ao84 t153.length co84)) (fun _ hk => ⟨hk.1.1.1.1, ⟨hk.1.1.1.2, ⟨hk.1.1.2, hk.1.2⟩⟩⟩)⟩
                      have n3_ : Aside0 (Kd.V k97 97 (((((w76.setCell ⟨gb157, 0, none⟩ (.int .i64 t149)).setCell ⟨gb157, 1, none⟩ (.int .i64 t150)).setCell ⟨gb157, 2, none⟩ (.int .i64 t151)).setCell ⟨gb157, 3, none⟩ (.int .i64 t152)).setCell ⟨gb157, 4, none⟩ (.slice Ao84 t153.length co84)) w.heap.size (fun k_ => some k_ ≠ (.slice Ao38 t108.length co38 : Value).ownBlock ∧ some k_ ≠ (.slice Ao45 t117.length co45 : Value).ownBlock ∧ some k_ ≠ (.slice Ao53 t126.length co53 : Value).ownBlock ∧ some k_ ≠ (.slice Ao73 t144.length co73 : Value).ownBlock ∧ some k_ ≠ (.slice Ao84 t153.length co84 : Value).ownBlock ∧ k_ ≠ gb101 ∧ k_ ≠ gb112 ∧ k_ ≠ gb121 ∧ k_ ≠ gb130 ∧ k_ ≠ gb139 ∧ k_ ≠ gb148 ∧ k_ ≠ gb157) (.slice Ao63 t135.length co63) t135) := ⟨by (with_reducible repeat (first | apply Kd.V_alloc | apply Kd.V_drewN | apply Kd.V_drew)); exact Kd.V_mono (Kd.V_far (p := ⟨gb157, 4, none⟩) (Kd.V_far (p := ⟨gb157, 3, none⟩) (Kd.V_far (p := ⟨gb157, 2, none⟩) (Kd.V_far (p := ⟨gb157, 1, none⟩) (Kd.V_far (p := ⟨gb157, 0, none⟩) (Kd.V_mono HO137.out (fun k_ hk => (⟨hk, hk.2⟩ : _ ∧ k_ ≠ gb157))) (fun _ hk => hk.2) (.int .i64 t149)) (fun _ hk => hk.2) (.int .i64 t150)) (fun _ hk => hk.2) (.int .i64 t151)) (fun _ hk => hk.2) (.int .i64 t152)) (fun _ hk => hk.2) (.slice Ao84 t153.length co84)) (fun _ hk => ⟨hk.1.1.1.1.1.1.1, ⟨hk.1.1.1.1.1.1.2.1, ⟨hk.1.1.1.1.1.1.2.2.1, ⟨hk.1.1.1.1.2, ⟨hk.1.1.2, ⟨hk.1.1.1.1.1.1.2.2.2.1, ⟨hk.1.1.1.1.1.1.2.2.2.2.1, ⟨hk.1.1.1.1.1.1.2.2.2.2.2.1, ⟨hk.1.1.1.1.1.1.2.2.2.2.2.2, ⟨hk.1.1.1.1.1.2, ⟨hk.1.1.1.2, hk.1.2⟩⟩⟩⟩⟩⟩⟩⟩⟩⟩⟩)⟩
                      have n4_ : Aside0 (Kd.R k97 97 (((((w76.setCell ⟨gb157, 0, none⟩ (.int .i64 t149)).setCell ⟨gb157, 1, none⟩ (.int .i64 t150)).setCell ⟨gb157, 2, none⟩ (.int .i64 t151)).setCell ⟨gb157, 3, none⟩ (.int .i64 t152)).setCell ⟨gb157, 4, none⟩ (.slice Ao84 t153.length co84)) w.heap.size (fun k_ => some k_ ≠ (.slice Ao38 t108.length co38 : Value).ownBlock ∧ some k_ ≠ (.slice Ao45 t117.length co45 : Value).ownBlock ∧ some k_ ≠ (.slice Ao53 t126.length co53 : Value).ownBlock ∧ some k_ ≠ (.slice Ao84 t153.length co84 : Value).ownBlock) (.slice Ao73 t144.length co73) t144) := ⟨by (with_reducible repeat (first | apply Kd.R_alloc | apply Kd.R_drewN | apply Kd.R_drew)); exact Kd.R_mono (Kd.R_far (p := ⟨gb157, 4, none⟩) (Kd.R_far (p := ⟨gb157, 3, none⟩) (Kd.R_far (p := ⟨gb157, 2, none⟩) (Kd.R_far (p := ⟨gb157, 1, none⟩) (Kd.R_far (p := ⟨gb157, 0, none⟩) (Kd.R_types HO146.out BK157.out (by decide)) (fun _ hk => hk.2) (.int .i64 t149)) (fun _ hk => hk.2) (.int .i64 t150)) (fun _ hk => hk.2) (.int .i64 t151)) (fun _ hk => hk.2) (.int .i64 t152)) (fun _ hk => hk.2) (.slice Ao84 t153.length co84)) (fun _ hk => ⟨hk.1.1.1.1.2, ⟨hk.1.1.1.2, ⟨hk.1.1.2, hk.1.2⟩⟩⟩)⟩
                      have n5_ : Aside0 (Kd.R k97 97 (((((w76.setCell ⟨gb157, 0, none⟩ (.int .i64 t149)).setCell ⟨gb157, 1, none⟩ (.int .i64 t150)).setCell ⟨gb157, 2, none⟩ (.int .i64 t151)).setCell ⟨gb157, 3, none⟩ (.int .i64 t152)).setCell ⟨gb157, 4, none⟩ (.slice Ao84 t153.length co84)) w.heap.size (fun k_ => some k_ ≠ (.slice Ao38 t108.length co38 : Value).ownBlock ∧ some k_ ≠ (.slice Ao45 t117.length co45 : Value).ownBlock ∧ some k_ ≠ (.slice Ao53 t126.length co53 : Value).ownBlock ∧ some k_ ≠ (.slice Ao73 t144.length co73 : Value).ownBlock) (.slice Ao84 t153.length co84) t153) := ⟨by (with_reducible repeat (first | apply Kd.R_alloc | apply Kd.R_drewN | apply Kd.R_drew)); exact Kd.R_mono (Kd.R_far (p := ⟨gb157, 4, none⟩) (Kd.R_far (p := ⟨gb157, 3, none⟩) (Kd.R_far (p := ⟨gb157, 2, none⟩) (Kd.R_far (p := ⟨gb157, 1, none⟩) (Kd.R_far (p := ⟨gb157, 0, none⟩) (Kd.R_types HO155.out BK157.out (by decide)) (fun _ hk => hk.2) (.int .i64 t149)) (fun _ hk => hk.2) (.int .i64 t150)) (fun _ hk => hk.2) (.int .i64 t151)) (fun _ hk => hk.2) (.int .i64 t152)) (fun _ hk => hk.2) (.slice Ao84 t153.length co84)) (fun _ hk => ⟨hk.1.1.1.1.2, ⟨hk.1.1.1.2, ⟨hk.1.1.2, hk.1.2⟩⟩⟩)⟩
                      have n6_ : Aside0 ((((((w76.setCell ⟨gb157, 0, none⟩ (.int .i64 t149)).setCell ⟨gb157, 1, none⟩ (.int .i64 t150)).setCell ⟨gb157, 2, none⟩ (.int .i64 t151)).setCell ⟨gb157, 3, none⟩ (.int .i64 t152)).setCell ⟨gb157, 4, none⟩ (.slice Ao84 t153.length co84)).heap[gb101]? = some (.cells #[.int .i64 a0_0, .int .i64 a0_1, .int .i64 a0_2, .int .i64 a0_3, .slice A0_4 l0_4.length c0_4] 70 (0, 0))) := ⟨by (with_reducible repeat (first | refine zY ?_ _ | refine zAq ?_ | refine zZ ?_ _)); refine blk_far ?_ NB101_157.out _; (with_reducible repeat (first | refine zY ?_ _ | refine zAq ?_ | refine zZ ?_ _)); refine blk_far ?_ NB101_157.out _; (with_reducible repeat (first | refine zY ?_ _ | refine zAq ?_ | refine zZ ?_ _)); refine blk_far ?_ NB101_157.out _; (with_reducible repeat (first | refine zY ?_ _ | refine zAq ?_ | refine zZ ?_ _)); refine blk_far ?_ NB101_157.out _; (with_reducible repeat (first | refine zY ?_ _ | refine zAq ?_ | refine zZ ?_ _)); refine blk_far ?_ NB101_157.out _; exact BK101.out⟩
                      have n7_ : Aside0 ((((((w76.setCell ⟨gb157, 0, none⟩ (.int .i64 t149)).setCell ⟨gb157, 1, none⟩ (.int .i64 t150)).setCell ⟨gb157, 2, none⟩ (.int .i64 t151)).setCell ⟨gb157, 3, none⟩ (.int .i64 t152)).setCell ⟨gb157, 4, none⟩ (.slice Ao84 t153.length co84)).heap[gb112]? = some (.cells #[.int .i64 t104, .int .i64 t105, .int .i64 t106, .int .i64 t107, .slice Ao38 t108.length co38] 70 (0, 0))) := ⟨by (with_reducible repeat (first | refine zY ?_ _ | refine zAq ?_ | refine zZ ?_ _)); refine blk_far ?_ NB112_157.out _; (with_reducible repeat (first | refine zY ?_ _ | refine zAq ?_ | refine zZ ?_ _)); refine blk_far ?_ NB112_157.out _; (with_reducible repeat (first | refine zY ?_ _ | refine zAq ?_ | refine zZ ?_ _)); refine blk_far ?_ NB112_157.out _; (with_reducible repeat (first | refine zY ?_ _ | refine zAq ?_ | refine zZ ?_ _)); refine blk_far ?_ NB112_157.out _; (with_reducible repeat (first | refine zY ?_ _ | refine zAq ?_ | refine zZ ?_ _)); refine blk_far ?_ NB112_157.out _; exact BK112.out⟩
                      have n8_ : Aside0 ((((((w76.setCell ⟨gb157, 0, none⟩ (.int .i64 t149)).setCell ⟨gb157, 1, none⟩ (.int .i64 t150)).setCell ⟨gb157, 2, none⟩ (.int .i64 t151)).setCell ⟨gb157, 3, none⟩ (.int .i64 t152)).setCell ⟨gb157, 4, none⟩ (.slice Ao84 t153.length co84)).heap[gb121]? = some (.cells #[.int .i64 t113, .int .i64 t114, .int .i64 t115, .int .i64 t116, .slice Ao45 t117.length co45] 70 (0, 0))) := ⟨by (with_reducible repeat (first | refine zY ?_ _ | refine zAq ?_ | refine zZ ?_ _)); refine blk_far ?_ NB121_157.out _; (with_reducible repeat (first | refine zY ?_ _ | refine zAq ?_ | refine zZ ?_ _)); refine blk_far ?_ NB121_157.out _; (with_reducible repeat (first | refine zY ?_ _ | refine zAq ?_ | refine zZ ?_ _)); refine blk_far ?_ NB121_157.out _; (with_reducible repeat (first | refine zY ?_ _ | refine zAq ?_ | refine zZ ?_ _)); refine blk_far ?_ NB121_157.out _; (with_reducible repeat (first | refine zY ?_ _ | refine zAq ?_ | refine zZ ?_ _)); refine blk_far ?_ NB121_157.out _; exact BK121.out⟩
                      have n9_ : Aside0 ((((((w76.setCell ⟨gb157, 0, none⟩ (.int .i64 t149)).setCell ⟨gb157, 1, none⟩ (.int .i64 t150)).setCell ⟨gb157, 2, none⟩ (.int .i64 t151)).setCell ⟨gb157, 3, none⟩ (.int .i64 t152)).setCell ⟨gb157, 4, none⟩ (.slice Ao84 t153.length co84)).heap[gb130]? = some (.cells #[.int .i64 t122, .int .i64 t123, .int .i64 t124, .int .i64 t125, .slice Ao53 t126.length co53] 70 (0, 0))) := ⟨by (with_reducible repeat (first | refine zY ?_ _ | refine zAq ?_ | refine zZ ?_ _)); refine blk_far ?_ NB130_157.out _; (with_reducible repeat (first | refine zY ?_ _ | refine zAq ?_ | refine zZ ?_ _)); refine blk_far ?_ NB130_157.out _; (with_reducible repeat (first | refine zY ?_ _ | refine zAq ?_ | refine zZ ?_ _)); refine blk_far ?_ NB130_157.out _; (with_reducible repeat (first | refine zY ?_ _ | refine zAq ?_ | refine zZ ?_ _)); refine blk_far ?_ NB130_157.out _; (with_reducible repeat (first | refine zY ?_ _ | refine zAq ?_ | refine zZ ?_ _)); refine blk_far ?_ NB130_157.out _; exact BK130.out⟩
                      have n10_ : Aside0 ((((((w76.setCell ⟨gb157, 0, none⟩ (.int .i64 t149)).setCell ⟨gb157, 1, none⟩ (.int .i64 t150)).setCell ⟨gb157, 2, none⟩ (.int .i64 t151)).setCell ⟨gb157, 3, none⟩ (.int .i64 t152)).setCell ⟨gb157, 4, none⟩ (.slice Ao84 t153.length co84)).heap[gb139]? = some (.cells #[.int .i64 t131, .int .i64 t132, .int .i64 t133, .int .i64 t134, .slice Ao63 t135.length co63] 70 (0, 0))) := ⟨by (with_reducible repeat (first | refine zY ?_ _ | refine zAq ?_ | refine zZ ?_ _)); refine blk_far ?_ NB139_157.out _; (with_reducible repeat (first | refine zY ?_ _ | refine zAq ?_ | refine zZ ?_ _)); refine blk_far ?_ NB139_157.out _; (with_reducible repeat (first | refine zY ?_ _ | refine zAq ?_ | refine zZ ?_ _)); refine blk_far ?_ NB139_157.out _; (with_reducible repeat (first | refine zY ?_ _ | refine zAq ?_ | refine zZ ?_ _)); refine blk_far ?_ NB139_157.out _; (with_reducible repeat (first | refine zY ?_ _ | refine zAq ?_ | refine zZ ?_ _)); refine blk_far ?_ NB139_157.out _; exact BK139.out⟩
                      have n11_ : Aside0 ((((((w76.setCell ⟨gb157, 0, none⟩ (.int .i64 t149)).setCell ⟨gb157, 1, none⟩ (.int .i64 t150)).setCell ⟨gb157, 2, none⟩ (.int .i64 t151)).setCell ⟨gb157, 3, none⟩ (.int .i64 t152)).setCell ⟨gb157, 4, none⟩ (.slice Ao84 t153.length co84)).heap[gb148]? = some (.cells #[.int .i64 t140, .int .i64 t141, .int .i64 t142, .int .i64 t143, .slice Ao73 t144.length co73] 70 (0, 0))) := ⟨by (with_reducible repeat (first | refine zY ?_ _ | refine zAq ?_ | refine zZ ?_ _)); refine blk_far ?_ NB148_157.out _; (with_reducible repeat (first | refine zY ?_ _ | refine zAq ?_ | refine zZ ?_ _)); refine blk_far ?_ NB148_157.out _; (with_reducible repeat (first | refine zY ?_ _ | refine zAq ?_ | refine zZ ?_ _)); refine blk_far ?_ NB148_157.out _; (with_reducible repeat (first | refine zY ?_ _ | refine zAq ?_ | refine zZ ?_ _)); refine blk_far ?_ NB148_157.out _; (with_reducible repeat (first | refine zY ?_ _ | refine zAq ?_ | refine zZ ?_ _)); refine blk_far ?_ NB148_157.out _; exact BK148.out⟩
                      have n12_ : Aside0 ((((((w76.setCell ⟨gb157, 0, none⟩ (.int .i64 t149)).setCell ⟨gb157, 1, none⟩ (.int .i64 t150)).setCell ⟨gb157, 2, none⟩ (.int .i64 t151)).setCell ⟨gb157, 3, none⟩ (.int .i64 t152)).setCell ⟨gb157, 4, none⟩ (.slice Ao84 t153.length co84)).heap[gb157]? = some (.cells #[.int .i64 t149, .int .i64 t150, .int .i64 t151, .int .i64 t152, .slice Ao84 t153.length co84] 70 (0, 0))) := ⟨by (with_reducible repeat (first | refine zY ?_ _ | refine zAq ?_ | refine zZ ?_ _)); apply qP5; exact BK157.out⟩
                      have n13_ : Aside0 (Below w.heap.size w (((((w76.setCell ⟨gb157, 0, none⟩ (.int .i64 t149)).setCell ⟨gb157, 1, none⟩ (.int .i64 t150)).setCell ⟨gb157, 2, none⟩ (.int .i64 t151)).setCell ⟨gb157, 3, none⟩ (.int .i64 t152)).setCell ⟨gb157, 4, none⟩ (.slice Ao84 t153.length co84))) := ⟨qB⟩
                      (try clear HO110); (try clear HO119); (try clear HO128); (try clear HO137); (try clear HO146); (try clear HO155); (try clear BK101); (try clear BK112); (try clear BK121); (try clear BK130); (try clear BK139); (try clear BK148); (try clear BK157); (try clear HB)
                      generalize (((((w76.setCell ⟨gb157, 0, none⟩ (.int .i64 t149)).setCell ⟨gb157, 1, none⟩ (.int .i64 t150)).setCell ⟨gb157, 2, none⟩ (.int .i64 t151)).setCell ⟨gb157, 3, none⟩ (.int .i64 t152)).setCell ⟨gb157, 4, none⟩ (.slice Ao84 t153.length co84)) = w85 at n0_ n1_ n2_ n3_ n4_ n5_ n6_ n7_ n8_ n9_ n10_ n11_ n12_ n13_ ⊢; have HO110 := n0_; have HO119 := n1_; have HO128 := n2_; have HO137 := n3_; have HO146 := n4_; have HO155 := n5_; have BK101 := n6_; have BK112 := n7_; have BK121 := n8_; have BK130 := n9_; have BK139 := n10_; have BK148 := n11_; have BK157 := n12_; have HB := n13_; clear n0_ n1_ n2_ n3_ n4_ n5_ n6_ n7_ n8_ n9_ n10_ n11_ n12_ n13_; have n0_ := zA (Kd.R_drew HO110.out); have n1_ := zA (Kd.R_drew HO119.out); have n2_ := zA (Kd.R_drew HO128.out); have n3_ := zA (Kd.V_drew HO137.out); have n4_ := zA (Kd.R_drew HO146.out); have n5_ := zA (Kd.R_drew HO155.out); have n6_ := zA (zAq BK101.out); have n7_ := zA (zAq BK112.out); have n8_ := zA (zAq BK121.out); have n9_ := zA (zAq BK130.out); have n10_ := zA (zAq BK139.out); have n11_ := zA (zAq BK148.out); have n12_ := zA (zAq BK157.out); have n13_ := zA (zC HB.out); clear HO110; clear HO119; clear HO128; clear HO137; clear HO146; clear HO155; clear BK101; clear BK112; clear BK121; clear BK130; clear BK139; clear BK148; clear BK157; clear HB; have HO110 := n0_; have HO119 := n1_; have HO128 := n2_; have HO137 := n3_; have HO146 := n4_; have HO155 := n5_; have BK101 := n6_; have BK112 := n7_; have BK121 := n8_; have BK130 := n9_; have BK139 := n10_; have BK148 := n11_; have BK157 := n12_; have HB := n13_; clear n0_ n1_ n2_ n3_ n4_ n5_ n6_ n7_ n8_ n9_ n10_ n11_ n12_ n13_; refine start_ (n := 50) (S := fun w' => w'.cell? ⟨gb112, 0, none⟩ = some (.int .i64 t104) ∧ w'.cell? ⟨gb112, 1, none⟩ = some (.int .i64 t105) ∧ w'.cell? ⟨gb112, 2, none⟩ = some (.int .i64 t106) ∧ w'.cell? ⟨gb112, 3, none⟩ = some (.int .i64 t107) ∧ w'.cell? ⟨gb112, 4, none⟩ = some (.slice Ao38 t108.length co38) ∧ w'.cell? ⟨gb121, 0, none⟩ = some (.int .i64 t113) ∧ w'.cell? ⟨gb121, 1, none⟩ = some (.int .i64 t114) ∧ w'.cell? ⟨gb121, 2, none⟩ = some (.int .i64 t115) ∧ w'.cell? ⟨gb121, 3, none⟩ = some (.int .i64 t116) ∧ w'.cell? ⟨gb121, 4, none⟩ = some (.slice Ao45 t117.length co45) ∧ w'.cell? ⟨gb130, 0, none⟩ = some (.int .i64 t122) ∧ w'.cell? ⟨gb130, 1, none⟩ = some (.int .i64 t123) ∧ w'.cell? ⟨gb130, 2, none⟩ = some (.int .i64 t124) ∧ w'.cell? ⟨gb130, 3, none⟩ = some (.int .i64 t125) ∧ w'.cell? ⟨gb130, 4, none⟩ = some (.slice Ao53 t126.length co53) ∧ w'.cell? ⟨gb139, 0, none⟩ = some (.int .i64 t131) ∧ w'.cell? ⟨gb139, 1, none⟩ = some (.int .i64 t132) ∧ w'.cell? ⟨gb139, 2, none⟩ = some (.int .i64 t133) ∧ w'.cell? ⟨gb139, 3, none⟩ = some (.int .i64 t134) ∧ w'.cell? ⟨gb139, 4, none⟩ = some (.slice Ao63 t135.length co63) ∧ w'.cell? ⟨gb148, 0, none⟩ = some (.int .i64 t140) ∧ w'.cell? ⟨gb148, 1, none⟩ = some (.int .i64 t141) ∧ w'.cell? ⟨gb148, 2, none⟩ = some (.int .i64 t142) ∧ w'.cell? ⟨gb148, 3, none⟩ = some (.int .i64 t143) ∧ w'.cell? ⟨gb148, 4, none⟩ = some (.slice Ao73 t144.length co73) ∧ w'.cell? ⟨gb157, 0, none⟩ = some (.int .i64 t149) ∧ w'.cell? ⟨gb157, 1, none⟩ = some (.int .i64 t150) ∧ w'.cell? ⟨gb157, 2, none⟩ = some (.int .i64 t151) ∧ w'.cell? ⟨gb157, 3, none⟩ = some (.int .i64 t152) ∧ w'.cell? ⟨gb157, 4, none⟩ = some (.slice Ao84 t153.length co84) ∧ w'.cell? ⟨gb101, 0, none⟩ = some (.int .i64 a0_0) ∧ w'.cell? ⟨gb101, 1, none⟩ = some (.int .i64 a0_1) ∧ w'.cell? ⟨gb101, 2, none⟩ = some (.int .i64 a0_2) ∧ w'.cell? ⟨gb101, 3, none⟩ = some (.int .i64 a0_3) ∧ w'.cell? ⟨gb101, 4, none⟩ = some (.slice A0_4 l0_4.length c0_4)) (ds := []) #[o0, o0, o0, o0, o0, o0, o0, o0, o0, o0, o0, o0, o0, o0, o0, o0, o0, o0, o0, o0, o0, o0, o0, o0, o0, o0, o0, o0, o0, o0, o0, o0, o0, o0, o0, o0, o0, o0, o0, o0, o0, o0, o0, o0, o0, o0, o0, o0, o0, o0] (by kernel_rfl) rfl rfl ⟨(zF BK112.out 0).trans rfl, (zF BK112.out 1).trans rfl, (zF BK112.out 2).trans rfl, (zF BK112.out 3).trans rfl, (zF BK112.out 4).trans rfl, (zF BK121.out 0).trans rfl, (zF BK121.out 1).trans rfl, (zF BK121.out 2).trans rfl, (zF BK121.out 3).trans rfl, (zF BK121.out 4).trans rfl, (zF BK130.out 0).trans rfl, (zF BK130.out 1).trans rfl, (zF BK130.out 2).trans rfl, (zF BK130.out 3).trans rfl, (zF BK130.out 4).trans rfl, (zF BK139.out 0).trans rfl, (zF BK139.out 1).trans rfl, (zF BK139.out 2).trans rfl, (zF BK139.out 3).trans rfl, (zF BK139.out 4).trans rfl, (zF BK148.out 0).trans rfl, (zF BK148.out 1).trans rfl, (zF BK148.out 2).trans rfl, (zF BK148.out 3).trans rfl, (zF BK148.out 4).trans rfl, (zF BK157.out 0).trans rfl, (zF BK157.out 1).trans rfl, (zF BK157.out 2).trans rfl, (zF BK157.out 3).trans rfl, (zF BK157.out 4).trans rfl, (zF BK101.out 0).trans rfl, (zF BK101.out 1).trans rfl, (zF BK101.out 2).trans rfl, (zF BK101.out 3).trans rfl, (zF BK101.out 4).trans rfl⟩ (fun hHeld => ?_); refine with_tabW backhaullaw27_RmaMoves.tab9 backhaullaw27_RmaMoves.bits9 (fun HT_ HW_ => ?_)
                      generalize w85.drew = w86 at HO110 HO119 HO128 HO137 HO146 HO155 BK101 BK112 BK121 BK130 BK139 BK148 BK157 HB hHeld ⊢; refine take_ (i := 0) (N := some 59) (v := ?_) (a' := ?_) #[o1, o0, o0, o0, o0, o0, o0, o0, o0, o0, o0, o0, o0, o0, o0, o0, o0, o0, o0, o0, o0, o0, o0, o0, o0, o0, o0, o0, o0, o0, o0, o0, o0, o0, o0, o0, o0, o0, o0, o0, o0, o0, o0, o0, o0, o0, o0, o0, o0, o0] rfl rfl (take_ofW HT_.out HW_.out (by kernel_rfl)) (fun _ _ _ h => h) (Or.inl ⟨by rfl, ?_⟩) hHeld ?_ ?_; rotate_left
                      · rintro w' ⟨s0, s1, s2, s3, s4, s5, s6, s7, s8, s9, s10, s11, s12, s13, s14, s15, s16, s17, s18, s19, s20, s21, s22, s23, s24, s25, s26, s27, s28, s29, s30, s31, s32, s33, s34⟩
                        go_simp; with_reducible rfl
                      rotate_left
                      · simp only [Act.put, zH, zI, zJ, i64_w, i32_w]
                        rfl
                      refine take_ (i := 1) (N := some 60) (v := ?_) (a' := ?_) #[o1, o1, o0, o0, o0, o0, o0, o0, o0, o0, o0, o0, o0, o0, o0, o0, o0, o0, o0, o0, o0, o0, o0, o0, o0, o0, o0, o0, o0, o0, o0, o0, o0, o0, o0, o0, o0, o0, o0, o0, o0, o0, o0, o0, o0, o0, o0, o0, o0, o0] rfl rfl (take_ofW HT_.out HW_.out (by kernel_rfl)) (fun _ _ _ h => h) (Or.inl ⟨by rfl, ?_⟩) hHeld ?_ ?_; rotate_left
                      · rintro w' ⟨s0, s1, s2, s3, s4, s5, s6, s7, s8, s9, s10, s11, s12, s13, s14, s15, s16, s17, s18, s19, s20, s21, s22, s23, s24, s25, s26, s27, s28, s29, s30, s31, s32, s33, s34⟩
                        go_simp; with_reducible rfl
                      rotate_left
                      · simp only [Act.put, zH, zI, zJ, i64_w, i32_w]
                        rfl
                      refine one_ (i := 2) (N := some 61) #[o1, o1, o1, o0, o0, o0, o0, o0, o0, o0, o0, o0, o0, o0, o0, o0, o0, o0, o0, o0, o0, o0, o0, o0, o0, o0, o0, o0, o0, o0, o0, o0, o0, o0, o0, o0, o0, o0, o0, o0, o0, o0, o0, o0, o0, o0, o0, o0, o0, o0] rfl rfl (one_of HT_.out (by kernel_rfl)) (by decide) (fun K hK => ?_); refine goes_ Try.func56 (by kernel_rfl) rfl #[.agg #[.int .i64 t104, .int .i64 t105, .int .i64 t106, .int .i64 t107, .slice Ao38 t108.length co38], .agg #[.int .i64 t113, .int .i64 t114, .int .i64 t115, .int .i64 t116, .slice Ao45 t117.length co45]] (by rfl) rfl rfl (by (try simp only [zR, zS, zT]); first | done | rfl | (simp only [zP, zQ]; rfl)) ?_; with_reducible refine (backhaulref27_Same.calls k t104 t105 t106 t107 _ _ t108 t113 t114 t115 t116 _ _ t117 true _ ?side1 ?side2 ?side3 ?side4 A12.out).mono ?_
                      (case side1 => repeat (first | exact (Kd.R_reads' HO110.out).2.2 | (with_reducible refine Kd.C_alloc ?_ _) | (with_reducible refine Kd.C_drewN ?_ _) | (with_reducible refine Kd.C_drew ?_)))
                      (case side2 => exact (Kd.R_reads' HO110.out).2.1)
                      (case side3 => repeat (first | exact (Kd.R_reads' HO119.out).2.2 | (with_reducible refine Kd.C_alloc ?_ _) | (with_reducible refine Kd.C_drewN ?_ _) | (with_reducible refine Kd.C_drew ?_)))
                      (case side4 => exact (Kd.R_reads' HO119.out).2.1)
                      rintro e w87 ⟨rfl, hb⟩; refine ⟨_, rfl, ?_⟩; have n0_ := zA (Kd.R_below (by (with_reducible repeat (first | apply Kd.R_alloc | apply Kd.R_drewN | apply Kd.R_drew)); exact HO110.out) hb); have n1_ := zA (Kd.R_below (by (with_reducible repeat (first | apply Kd.R_alloc | apply Kd.R_drewN | apply Kd.R_drew)); exact HO119.out) hb); have n2_ := zA (Kd.R_below (by (with_reducible repeat (first | apply Kd.R_alloc | apply Kd.R_drewN | apply Kd.R_drew)); exact HO128.out) hb); have n3_ := zA (Kd.V_below (by (with_reducible repeat (first | apply Kd.V_alloc | apply Kd.V_drewN | apply Kd.V_drew)); exact HO137.out) hb); have n4_ := zA (Kd.R_below (by (with_reducible repeat (first | apply Kd.R_alloc | apply Kd.R_drewN | apply Kd.R_drew)); exact HO146.out) hb); have n5_ := zA (Kd.R_below (by (with_reducible repeat (first | apply Kd.R_alloc | apply Kd.R_drewN | apply Kd.R_drew)); exact HO155.out) hb); have n6_ := zA (qX BK101.out hb); have n7_ := zA (qX BK112.out hb); have n8_ := zA (qX BK121.out hb); have n9_ := zA (qX BK130.out hb); have n10_ := zA (qX BK139.out hb); have n11_ := zA (qX BK148.out hb); have n12_ := zA (qX BK157.out hb); have n13_ := zA (zV qB hb); clear HO110; clear HO119; clear HO128; clear HO137; clear HO146; clear HO155; clear BK101; clear BK112; clear BK121; clear BK130; clear BK139; clear BK148; clear BK157; clear HB; have HO110 := n0_; have HO119 := n1_; have HO128 := n2_; have HO137 := n3_; have HO146 := n4_; have HO155 := n5_; have BK101 := n6_; have BK112 := n7_; have BK121 := n8_; have BK130 := n9_; have BK139 := n10_; have BK148 := n11_; have BK157 := n12_; have HB := n13_; clear n0_ n1_ n2_ n3_ n4_ n5_ n6_ n7_ n8_ n9_ n10_ n11_ n12_ n13_; (try clear hb); (try clear hb2); (try clear hk); (try clear hi); refine hK.out _ _ ⟨(zF BK112.out 0).trans rfl, (zF BK112.out 1).trans rfl, (zF BK112.out 2).trans rfl, (zF BK112.out 3).trans rfl, (zF BK112.out 4).trans rfl, (zF BK121.out 0).trans rfl, (zF BK121.out 1).trans rfl, (zF BK121.out 2).trans rfl, (zF BK121.out 3).trans rfl, (zF BK121.out 4).trans rfl, (zF BK130.out 0).trans rfl, (zF BK130.out 1).trans rfl, (zF BK130.out 2).trans rfl, (zF BK130.out 3).trans rfl, (zF BK130.out 4).trans rfl, (zF BK139.out 0).trans rfl, (zF BK139.out 1).trans rfl, (zF BK139.out 2).trans rfl, (zF BK139.out 3).trans rfl, (zF BK139.out 4).trans rfl, (zF BK148.out 0).trans rfl, (zF BK148.out 1).trans rfl, (zF BK148.out 2).trans rfl, (zF BK148.out 3).trans rfl, (zF BK148.out 4).trans rfl, (zF BK157.out 0).trans rfl, (zF BK157.out 1).trans rfl, (zF BK157.out 2).trans rfl, (zF BK157.out 3).trans rfl, (zF BK157.out 4).trans rfl, (zF BK101.out 0).trans rfl, (zF BK101.out 1).trans rfl, (zF BK101.out 2).trans rfl, (zF BK101.out 3).trans rfl, (zF BK101.out 4).trans rfl⟩ (fun hHeld => ?_)
                      clear hK K; refine norm_ (a' := ?_) ?_ ?_; rotate_left
                      · show Act.put _ (some 61) _ = _
                        simp only [Act.put, zH, zI, zJ, i64_w, i32_w]; rfl
                      refine pure_ (i := 3) (N := some 62) #[o1, o1, o1, o1, o0, o0, o0, o0, o0, o0, o0, o0, o0, o0, o0, o0, o0, o0, o0, o0, o0, o0, o0, o0, o0, o0, o0, o0, o0, o0, o0, o0, o0, o0, o0, o0, o0, o0, o0, o0, o0, o0, o0, o0, o0, o0, o0, o0, o0, o0] rfl rfl (any_of HT_.out (by kernel_rfl)) (fun _ _ _ h => h) (Or.inl ⟨by rfl, qy⟩) qz ?_; refine pure_ (i := 4) (N := some 63) #[o1, o1, o1, o1, o1, o0, o0, o0, o0, o0, o0, o0, o0, o0, o0, o0, o0, o0, o0, o0, o0, o0, o0, o0, o0, o0, o0, o0, o0, o0, o0, o0, o0, o0, o0, o0, o0, o0, o0, o0, o0, o0, o0, o0, o0, o0, o0, o0, o0, o0] rfl rfl (any_of HT_.out (by kernel_rfl)) (fun _ _ _ h => h) (Or.inl ⟨by rfl, qy⟩) qz ?_; refine pure_ (i := 5) (N := some 64) #[o1, o1, o1, o1, o1, o1, o0, o0, o0, o0, o0, o0, o0, o0, o0, o0, o0, o0, o0, o0, o0, o0, o0, o0, o0, o0, o0, o0, o0, o0, o0, o0, o0, o0, o0, o0, o0, o0, o0, o0, o0, o0, o0, o0, o0, o0, o0, o0, o0, o0] rfl rfl (any_of HT_.out (by kernel_rfl)) (fun _ _ _ h => h) (Or.inl ⟨by rfl, qy⟩) qz ?_; refine pure_ (i := 6) (N := some 65) #[o1, o1, o1, o1, o1, o1, o1, o0, o0, o0, o0, o0, o0, o0, o0, o0, o0, o0, o0, o0, o0, o0, o0, o0, o0, o0, o0, o0, o0, o0, o0, o0, o0, o0, o0, o0, o0, o0, o0, o0, o0, o0, o0, o0, o0, o0, o0, o0, o0, o0] rfl rfl (any_of HT_.out (by kernel_rfl)) (fun _ _ _ h => h) (Or.inl ⟨by rfl, qy⟩) qz ?_; refine pure_ (i := 7) (N := some 66) #[o1, o1, o1, o1, o1, o1, o1, o1, o0, o0, o0, o0, o0, o0, o0, o0, o0, o0, o0, o0, o0, o0, o0, o0, o0, o0, o0, o0, o0, o0, o0, o0, o0, o0, o0, o0, o0, o0, o0, o0, o0, o0, o0, o0, o0, o0, o0, o0, o0, o0] rfl rfl (any_of HT_.out (by kernel_rfl)) (fun _ _ _ h => h) (Or.inl ⟨by rfl, qy⟩) qz ?_; refine pure_ (i := 8) (N := some 67) #[o1, o1, o1, o1, o1, o1, o1, o1, o1, o0, o0, o0, o0, o0, o0, o0, o0, o0, o0, o0, o0, o0, o0, o0, o0, o0, o0, o0, o0, o0, o0, o0, o0, o0, o0, o0, o0, o0, o0, o0, o0, o0, o0, o0, o0, o0, o0, o0, o0, o0] rfl rfl (any_of HT_.out (by kernel_rfl)) (fun _ _ _ h => h) (Or.inl ⟨by rfl, qy⟩) qz ?_; refine take_ (i := 9) (N := some 68) (v := ?_) (a' := ?_) #[o1, o1, o1, o1, o1, o1, o1, o1, o1, o1, o0, o0, o0, o0, o0, o0, o0, o0, o0, o0, o0, o0, o0, o0, o0, o0, o0, o0, o0, o0, o0, o0, o0, o0, o0, o0, o0, o0, o0, o0, o0, o0, o0, o0, o0, o0, o0, o0, o0, o0] rfl rfl (take_ofW HT_.out HW_.out (by kernel_rfl)) (fun _ _ _ h => h) (Or.inl ⟨by rfl, ?_⟩) hHeld ?_ ?_
                      rotate_left
                      · rintro w' ⟨s0, s1, s2, s3, s4, s5, s6, s7, s8, s9, s10, s11, s12, s13, s14, s15, s16, s17, s18, s19, s20, s21, s22, s23, s24, s25, s26, s27, s28, s29, s30, s31, s32, s33, s34⟩
                        go_simp; with_reducible rfl
                      rotate_left
                      · simp only [Act.put, zH, zI, zJ, i64_w, i32_w]
                        rfl
                      refine take_ (i := 10) (N := some 69) (v := ?_) (a' := ?_) #[o1, o1, o1, o1, o1, o1, o1, o1, o1, o1, o1, o0, o0, o0, o0, o0, o0, o0, o0, o0, o0, o0, o0, o0, o0, o0, o0, o0, o0, o0, o0, o0, o0, o0, o0, o0, o0, o0, o0, o0, o0, o0, o0, o0, o0, o0, o0, o0, o0, o0] rfl rfl (take_ofW HT_.out HW_.out (by kernel_rfl)) (fun _ _ _ h => h) (Or.inl ⟨by rfl, ?_⟩) hHeld ?_ ?_; rotate_left
                      · rintro w' ⟨s0, s1, s2, s3, s4, s5, s6, s7, s8, s9, s10, s11, s12, s13, s14, s15, s16, s17, s18, s19, s20, s21, s22, s23, s24, s25, s26, s27, s28, s29, s30, s31, s32, s33, s34⟩
                        go_simp; with_reducible rfl
                      rotate_left
                      · simp only [Act.put, zH, zI, zJ, i64_w, i32_w]
                        rfl
                      refine one_ (i := 11) (N := some 70) #[o1, o1, o1, o1, o1, o1, o1, o1, o1, o1, o1, o1, o0, o0, o0, o0, o0, o0, o0, o0, o0, o0, o0, o0, o0, o0, o0, o0, o0, o0, o0, o0, o0, o0, o0, o0, o0, o0, o0, o0, o0, o0, o0, o0, o0, o0, o0, o0, o0, o0] rfl rfl (one_of HT_.out (by kernel_rfl)) (by decide) (fun K hK => ?_); refine goes_ Try.func56 (by kernel_rfl) rfl #[.agg #[.int .i64 t122, .int .i64 t123, .int .i64 t124, .int .i64 t125, .slice Ao53 t126.length co53], .agg #[.int .i64 t131, .int .i64 t132, .int .i64 t133, .int .i64 t134, .slice Ao63 t135.length co63]] (by rfl) rfl rfl (by (try simp only [zR, zS, zT]); first | done | rfl | (simp only [zP, zQ]; rfl)) ?_; with_reducible refine (backhaulref27_Same.calls k t122 t123 t124 t125 _ _ t126 t131 t132 t133 t134 _ _ t135 true _ ?side1 ?side2 ?side3 ?side4 A15.out).mono ?_
                      (case side1 => repeat (first | exact (Kd.R_reads' HO128.out).2.2 | (with_reducible refine Kd.C_alloc ?_ _) | (with_reducible refine Kd.C_drewN ?_ _) | (with_reducible refine Kd.C_drew ?_)))
                      (case side2 => exact (Kd.R_reads' HO128.out).2.1)
                      (case side3 => repeat (first | exact (Kd.V_reads' HO137.out).2.2 | (with_reducible refine Kd.C_alloc ?_ _) | (with_reducible refine Kd.C_drewN ?_ _) | (with_reducible refine Kd.C_drew ?_)))
                      (case side4 => exact (Kd.V_reads' HO137.out).2.1)
                      rintro e w88 ⟨rfl, hb⟩; refine ⟨_, rfl, ?_⟩; have n0_ := zA (Kd.R_below (by (with_reducible repeat (first | apply Kd.R_alloc | apply Kd.R_drewN | apply Kd.R_drew)); exact HO110.out) hb); have n1_ := zA (Kd.R_below (by (with_reducible repeat (first | apply Kd.R_alloc | apply Kd.R_drewN | apply Kd.R_drew)); exact HO119.out) hb); have n2_ := zA (Kd.R_below (by (with_reducible repeat (first | apply Kd.R_alloc | apply Kd.R_drewN | apply Kd.R_drew)); exact HO128.out) hb); have n3_ := zA (Kd.V_below (by (with_reducible repeat (first | apply Kd.V_alloc | apply Kd.V_drewN | apply Kd.V_drew)); exact HO137.out) hb); have n4_ := zA (Kd.R_below (by (with_reducible repeat (first | apply Kd.R_alloc | apply Kd.R_drewN | apply Kd.R_drew)); exact HO146.out) hb); have n5_ := zA (Kd.R_below (by (with_reducible repeat (first | apply Kd.R_alloc | apply Kd.R_drewN | apply Kd.R_drew)); exact HO155.out) hb); have n6_ := zA (qX BK101.out hb); have n7_ := zA (qX BK112.out hb); have n8_ := zA (qX BK121.out hb); have n9_ := zA (qX BK130.out hb); have n10_ := zA (qX BK139.out hb); have n11_ := zA (qX BK148.out hb); have n12_ := zA (qX BK157.out hb); have n13_ := zA (zV qB hb); clear HO110; clear HO119; clear HO128; clear HO137; clear HO146; clear HO155; clear BK101; clear BK112; clear BK121; clear BK130; clear BK139; clear BK148; clear BK157; clear HB; have HO110 := n0_; have HO119 := n1_; have HO128 := n2_; have HO137 := n3_; have HO146 := n4_; have HO155 := n5_; have BK101 := n6_; have BK112 := n7_; have BK121 := n8_; have BK130 := n9_; have BK139 := n10_; have BK148 := n11_; have BK157 := n12_; have HB := n13_; clear n0_ n1_ n2_ n3_ n4_ n5_ n6_ n7_ n8_ n9_ n10_ n11_ n12_ n13_; (try clear hb); (try clear hb2); (try clear hk); (try clear hi); refine hK.out _ _ ⟨(zF BK112.out 0).trans rfl, (zF BK112.out 1).trans rfl, (zF BK112.out 2).trans rfl, (zF BK112.out 3).trans rfl, (zF BK112.out 4).trans rfl, (zF BK121.out 0).trans rfl, (zF BK121.out 1).trans rfl, (zF BK121.out 2).trans rfl, (zF BK121.out 3).trans rfl, (zF BK121.out 4).trans rfl, (zF BK130.out 0).trans rfl, (zF BK130.out 1).trans rfl, (zF BK130.out 2).trans rfl, (zF BK130.out 3).trans rfl, (zF BK130.out 4).trans rfl, (zF BK139.out 0).trans rfl, (zF BK139.out 1).trans rfl, (zF BK139.out 2).trans rfl, (zF BK139.out 3).trans rfl, (zF BK139.out 4).trans rfl, (zF BK148.out 0).trans rfl, (zF BK148.out 1).trans rfl, (zF BK148.out 2).trans rfl, (zF BK148.out 3).trans rfl, (zF BK148.out 4).trans rfl, (zF BK157.out 0).trans rfl, (zF BK157.out 1).trans rfl, (zF BK157.out 2).trans rfl, (zF BK157.out 3).trans rfl, (zF BK157.out 4).trans rfl, (zF BK101.out 0).trans rfl, (zF BK101.out 1).trans rfl, (zF BK101.out 2).trans rfl, (zF BK101.out 3).trans rfl, (zF BK101.out 4).trans rfl⟩ (fun hHeld => ?_)
                      clear hK K; refine norm_ (a' := ?_) ?_ ?_; rotate_left
                      · show Act.put _ (some 70) _ = _
                        simp only [Act.put, zH, zI, zJ, i64_w, i32_w]; rfl
                      refine pure_ (i := 12) (N := some 71) #[o1, o1, o1, o1, o1, o1, o1, o1, o1, o1, o1, o1, o1, o0, o0, o0, o0, o0, o0, o0, o0, o0, o0, o0, o0, o0, o0, o0, o0, o0, o0, o0, o0, o0, o0, o0, o0, o0, o0, o0, o0, o0, o0, o0, o0, o0, o0, o0, o0, o0] rfl rfl (any_of HT_.out (by kernel_rfl)) (fun _ _ _ h => h) (Or.inl ⟨by rfl, qy⟩) qz ?_; refine pure_ (i := 13) (N := some 72) #[o1, o1, o1, o1, o1, o1, o1, o1, o1, o1, o1, o1, o1, o1, o0, o0, o0, o0, o0, o0, o0, o0, o0, o0, o0, o0, o0, o0, o0, o0, o0, o0, o0, o0, o0, o0, o0, o0, o0, o0, o0, o0, o0, o0, o0, o0, o0, o0, o0, o0] rfl rfl (any_of HT_.out (by kernel_rfl)) (fun _ _ _ h => h) (Or.inl ⟨by rfl, qy⟩) qz ?_; refine pure_ (i := 14) (N := some 73) #[o1, o1, o1, o1, o1, o1, o1, o1, o1, o1, o1, o1, o1, o1, o1, o0, o0, o0, o0, o0, o0, o0, o0, o0, o0, o0, o0, o0, o0, o0, o0, o0, o0, o0, o0, o0, o0, o0, o0, o0, o0, o0, o0, o0, o0, o0, o0, o0, o0, o0] rfl rfl (any_of HT_.out (by kernel_rfl)) (fun _ _ _ h => h) (Or.inl ⟨by rfl, qy⟩) qz ?_; refine pure_ (i := 15) (N := some 74) #[o1, o1, o1, o1, o1, o1, o1, o1, o1, o1, o1, o1, o1, o1, o1, o1, o0, o0, o0, o0, o0, o0, o0, o0, o0, o0, o0, o0, o0, o0, o0, o0, o0, o0, o0, o0, o0, o0, o0, o0, o0, o0, o0, o0, o0, o0, o0, o0, o0, o0] rfl rfl (any_of HT_.out (by kernel_rfl)) (fun _ _ _ h => h) (Or.inl ⟨by rfl, qy⟩) qz ?_; refine pure_ (i := 16) (N := some 75) #[o1, o1, o1, o1, o1, o1, o1, o1, o1, o1, o1, o1, o1, o1, o1, o1, o1, o0, o0, o0, o0, o0, o0, o0, o0, o0, o0, o0, o0, o0, o0, o0, o0, o0, o0, o0, o0, o0, o0, o0, o0, o0, o0, o0, o0, o0, o0, o0, o0, o0] rfl rfl (any_of HT_.out (by kernel_rfl)) (fun _ _ _ h => h) (Or.inl ⟨by rfl, qy⟩) qz ?_; refine pure_ (i := 17) (N := some 76) #[o1, o1, o1, o1, o1, o1, o1, o1, o1, o1, o1, o1, o1, o1, o1, o1, o1, o1, o0, o0, o0, o0, o0, o0, o0, o0, o0, o0, o0, o0, o0, o0, o0, o0, o0, o0, o0, o0, o0, o0, o0, o0, o0, o0, o0, o0, o0, o0, o0, o0] rfl rfl (any_of HT_.out (by kernel_rfl)) (fun _ _ _ h => h) (Or.inl ⟨by rfl, qy⟩) qz ?_; refine pure_ (i := 18) (N := some 77) #[o1, o1, o1, o1, o1, o1, o1, o1, o1, o1, o1, o1, o1, o1, o1, o1, o1, o1, o1, o0, o0, o0, o0, o0, o0, o0, o0, o0, o0, o0, o0, o0, o0, o0, o0, o0, o0, o0, o0, o0, o0, o0, o0, o0, o0, o0, o0, o0, o0, o0] rfl rfl (any_of HT_.out (by kernel_rfl)) (fun _ _ _ h => h) (Or.inl ⟨by rfl, qy⟩) qz ?_
                      refine take_ (i := 19) (N := some 78) (v := ?_) (a' := ?_) #[o1, o1, o1, o1, o1, o1, o1, o1, o1, o1, o1, o1, o1, o1, o1, o1, o1, o1, o1, o1, o0, o0, o0, o0, o0, o0, o0, o0, o0, o0, o0, o0, o0, o0, o0, o0, o0, o0, o0, o0, o0, o0, o0, o0, o0, o0, o0, o0, o0, o0] rfl rfl (take_ofW HT_.out HW_.out (by kernel_rfl)) (fun _ _ _ h => h) (Or.inl ⟨by rfl, ?_⟩) hHeld ?_ ?_; rotate_left
                      · rintro w' ⟨s0, s1, s2, s3, s4, s5, s6, s7, s8, s9, s10, s11, s12, s13, s14, s15, s16, s17, s18, s19, s20, s21, s22, s23, s24, s25, s26, s27, s28, s29, s30, s31, s32, s33, s34⟩
                        go_simp; with_reducible rfl
                      rotate_left
                      · simp only [Act.put, zH, zI, zJ, i64_w, i32_w]
                        rfl
                      refine take_ (i := 20) (N := some 79) (v := ?_) (a' := ?_) #[o1, o1, o1, o1, o1, o1, o1, o1, o1, o1, o1, o1, o1, o1, o1, o1, o1, o1, o1, o1, o1, o0, o0, o0, o0, o0, o0, o0, o0, o0, o0, o0, o0, o0, o0, o0, o0, o0, o0, o0, o0, o0, o0, o0, o0, o0, o0, o0, o0, o0] rfl rfl (take_ofW HT_.out HW_.out (by kernel_rfl)) (fun _ _ _ h => h) (Or.inl ⟨by rfl, ?_⟩) hHeld ?_ ?_; rotate_left
                      · rintro w' ⟨s0, s1, s2, s3, s4, s5, s6, s7, s8, s9, s10, s11, s12, s13, s14, s15, s16, s17, s18, s19, s20, s21, s22, s23, s24, s25, s26, s27, s28, s29, s30, s31, s32, s33, s34⟩
                        go_simp; with_reducible rfl
                      rotate_left
                      · simp only [Act.put, zH, zI, zJ, i64_w, i32_w]
                        rfl
                      refine one_ (i := 21) (N := some 80) #[o1, o1, o1, o1, o1, o1, o1, o1, o1, o1, o1, o1, o1, o1, o1, o1, o1, o1, o1, o1, o1, o1, o0, o0, o0, o0, o0, o0, o0, o0, o0, o0, o0, o0, o0, o0, o0, o0, o0, o0, o0, o0, o0, o0, o0, o0, o0, o0, o0, o0] rfl rfl (one_of HT_.out (by kernel_rfl)) (by decide) (fun K hK => ?_); refine goes_ Try.func56 (by kernel_rfl) rfl #[.agg #[.int .i64 t140, .int .i64 t141, .int .i64 t142, .int .i64 t143, .slice Ao73 t144.length co73], .agg #[.int .i64 t149, .int .i64 t150, .int .i64 t151, .int .i64 t152, .slice Ao84 t153.length co84]] (by rfl) rfl rfl (by (try simp only [zR, zS, zT]); first | done | rfl | (simp only [zP, zQ]; rfl)) ?_; with_reducible refine (backhaulref27_Same.calls k t140 t141 t142 t143 _ _ t144 t149 t150 t151 t152 _ _ t153 true _ ?side1 ?side2 ?side3 ?side4 A18.out).mono ?_
                      (case side1 => repeat (first | exact (Kd.R_reads' HO146.out).2.2 | (with_reducible refine Kd.C_alloc ?_ _) | (with_reducible refine Kd.C_drewN ?_ _) | (with_reducible refine Kd.C_drew ?_)))
                      (case side2 => exact (Kd.R_reads' HO146.out).2.1)
                      (case side3 => repeat (first | exact (Kd.R_reads' HO155.out).2.2 | (with_reducible refine Kd.C_alloc ?_ _) | (with_reducible refine Kd.C_drewN ?_ _) | (with_reducible refine Kd.C_drew ?_)))
                      (case side4 => exact (Kd.R_reads' HO155.out).2.1)
                      rintro e w89 ⟨rfl, hb⟩; refine ⟨_, rfl, ?_⟩; have n0_ := zA (Kd.R_below (by (with_reducible repeat (first | apply Kd.R_alloc | apply Kd.R_drewN | apply Kd.R_drew)); exact HO110.out) hb); have n1_ := zA (Kd.R_below (by (with_reducible repeat (first | apply Kd.R_alloc | apply Kd.R_drewN | apply Kd.R_drew)); exact HO119.out) hb); have n2_ := zA (Kd.R_below (by (with_reducible repeat (first | apply Kd.R_alloc | apply Kd.R_drewN | apply Kd.R_drew)); exact HO128.out) hb); have n3_ := zA (Kd.V_below (by (with_reducible repeat (first | apply Kd.V_alloc | apply Kd.V_drewN | apply Kd.V_drew)); exact HO137.out) hb); have n4_ := zA (Kd.R_below (by (with_reducible repeat (first | apply Kd.R_alloc | apply Kd.R_drewN | apply Kd.R_drew)); exact HO146.out) hb); have n5_ := zA (Kd.R_below (by (with_reducible repeat (first | apply Kd.R_alloc | apply Kd.R_drewN | apply Kd.R_drew)); exact HO155.out) hb); have n6_ := zA (qX BK101.out hb); have n7_ := zA (qX BK112.out hb); have n8_ := zA (qX BK121.out hb); have n9_ := zA (qX BK130.out hb); have n10_ := zA (qX BK139.out hb); have n11_ := zA (qX BK148.out hb); have n12_ := zA (qX BK157.out hb); have n13_ := zA (zV qB hb); clear HO110; clear HO119; clear HO128; clear HO137; clear HO146; clear HO155; clear BK101; clear BK112; clear BK121; clear BK130; clear BK139; clear BK148; clear BK157; clear HB; have HO110 := n0_; have HO119 := n1_; have HO128 := n2_; have HO137 := n3_; have HO146 := n4_; have HO155 := n5_; have BK101 := n6_; have BK112 := n7_; have BK121 := n8_; have BK130 := n9_; have BK139 := n10_; have BK148 := n11_; have BK157 := n12_; have HB := n13_; clear n0_ n1_ n2_ n3_ n4_ n5_ n6_ n7_ n8_ n9_ n10_ n11_ n12_ n13_; (try clear hb); (try clear hb2); (try clear hk); (try clear hi); refine hK.out _ _ ⟨(zF BK112.out 0).trans rfl, (zF BK112.out 1).trans rfl, (zF BK112.out 2).trans rfl, (zF BK112.out 3).trans rfl, (zF BK112.out 4).trans rfl, (zF BK121.out 0).trans rfl, (zF BK121.out 1).trans rfl, (zF BK121.out 2).trans rfl, (zF BK121.out 3).trans rfl, (zF BK121.out 4).trans rfl, (zF BK130.out 0).trans rfl, (zF BK130.out 1).trans rfl, (zF BK130.out 2).trans rfl, (zF BK130.out 3).trans rfl, (zF BK130.out 4).trans rfl, (zF BK139.out 0).trans rfl, (zF BK139.out 1).trans rfl, (zF BK139.out 2).trans rfl, (zF BK139.out 3).trans rfl, (zF BK139.out 4).trans rfl, (zF BK148.out 0).trans rfl, (zF BK148.out 1).trans rfl, (zF BK148.out 2).trans rfl, (zF BK148.out 3).trans rfl, (zF BK148.out 4).trans rfl, (zF BK157.out 0).trans rfl, (zF BK157.out 1).trans rfl, (zF BK157.out 2).trans rfl, (zF BK157.out 3).trans rfl, (zF BK157.out 4).trans rfl, (zF BK101.out 0).trans rfl, (zF BK101.out 1).trans rfl, (zF BK101.out 2).trans rfl, (zF BK101.out 3).trans rfl, (zF BK101.out 4).trans rfl⟩ (fun hHeld => ?_)
                      clear hK K; refine norm_ (a' := ?_) ?_ ?_; rotate_left
                      · show Act.put _ (some 80) _ = _
                        simp only [Act.put, zH, zI, zJ, i64_w, i32_w]; rfl
                      refine pure_ (i := 22) (N := some 81) #[o1, o1, o1, o1, o1, o1, o1, o1, o1, o1, o1, o1, o1, o1, o1, o1, o1, o1, o1, o1, o1, o1, o1, o0, o0, o0, o0, o0, o0, o0, o0, o0, o0, o0, o0, o0, o0, o0, o0, o0, o0, o0, o0, o0, o0, o0, o0, o0, o0, o0] rfl rfl (any_of HT_.out (by kernel_rfl)) (fun _ _ _ h => h) (Or.inl ⟨by rfl, qy⟩) qz ?_; refine pure_ (i := 23) (N := some 82) #[o1, o1, o1, o1, o1, o1, o1, o1, o1, o1, o1, o1, o1, o1, o1, o1, o1, o1, o1, o1, o1, o1, o1, o1, o0, o0, o0, o0, o0, o0, o0, o0, o0, o0, o0, o0, o0, o0, o0, o0, o0, o0, o0, o0, o0, o0, o0, o0, o0, o0] rfl rfl (any_of HT_.out (by kernel_rfl)) (fun _ _ _ h => h) (Or.inl ⟨by rfl, qy⟩) qz ?_; refine pure_ (i := 24) (N := some 83) #[o1, o1, o1, o1, o1, o1, o1, o1, o1, o1, o1, o1, o1, o1, o1, o1, o1, o1, o1, o1, o1, o1, o1, o1, o1, o0, o0, o0, o0, o0, o0, o0, o0, o0, o0, o0, o0, o0, o0, o0, o0, o0, o0, o0, o0, o0, o0, o0, o0, o0] rfl rfl (any_of HT_.out (by kernel_rfl)) (fun _ _ _ h => h) (Or.inl ⟨by rfl, qy⟩) qz ?_; refine pure_ (i := 25) (N := some 84) #[o1, o1, o1, o1, o1, o1, o1, o1, o1, o1, o1, o1, o1, o1, o1, o1, o1, o1, o1, o1, o1, o1, o1, o1, o1, o1, o0, o0, o0, o0, o0, o0, o0, o0, o0, o0, o0, o0, o0, o0, o0, o0, o0, o0, o0, o0, o0, o0, o0, o0] rfl rfl (any_of HT_.out (by kernel_rfl)) (fun _ _ _ h => h) (Or.inl ⟨by rfl, qy⟩) qz ?_; refine pure_ (i := 26) (N := some 85) #[o1, o1, o1, o1, o1, o1, o1, o1, o1, o1, o1, o1, o1, o1, o1, o1, o1, o1, o1, o1, o1, o1, o1, o1, o1, o1, o1, o0, o0, o0, o0, o0, o0, o0, o0, o0, o0, o0, o0, o0, o0, o0, o0, o0, o0, o0, o0, o0, o0, o0] rfl rfl (any_of HT_.out (by kernel_rfl)) (fun _ _ _ h => h) (Or.inl ⟨by rfl, qy⟩) qz ?_; refine pure_ (i := 27) (N := some 86) #[o1, o1, o1, o1, o1, o1, o1, o1, o1, o1, o1, o1, o1, o1, o1, o1, o1, o1, o1, o1, o1, o1, o1, o1, o1, o1, o1, o1, o0, o0, o0, o0, o0, o0, o0, o0, o0, o0, o0, o0, o0, o0, o0, o0, o0, o0, o0, o0, o0, o0] rfl rfl (any_of HT_.out (by kernel_rfl)) (fun _ _ _ h => h) (Or.inl ⟨by rfl, qy⟩) qz ?_; refine pure_ (i := 28) (N := some 87) #[o1, o1, o1, o1, o1, o1, o1, o1, o1, o1, o1, o1, o1, o1, o1, o1, o1, o1, o1, o1, o1, o1, o1, o1, o1, o1, o1, o1, o1, o0, o0, o0, o0, o0, o0, o0, o0, o0, o0, o0, o0, o0, o0, o0, o0, o0, o0, o0, o0, o0] rfl rfl (any_of HT_.out (by kernel_rfl)) (fun _ _ _ h => h) (Or.inl ⟨by rfl, qy⟩) qz ?_
                      refine pure_ (i := 30) (N := some 89) #[o1, o1, o1, o1, o1, o1, o1, o1, o1, o1, o1, o1, o1, o1, o1, o1, o1, o1, o1, o1, o1, o1, o1, o1, o1, o1, o1, o1, o1, o0, o1, o0, o0, o0, o0, o0, o0, o0, o0, o0, o0, o0, o0, o0, o0, o0, o0, o0, o0, o0] rfl rfl (any_of HT_.out (by kernel_rfl)) (fun _ _ _ h => h) (Or.inl ⟨by rfl, qy⟩) qz ?_; refine pure_ (i := 33) (N := some 92) #[o1, o1, o1, o1, o1, o1, o1, o1, o1, o1, o1, o1, o1, o1, o1, o1, o1, o1, o1, o1, o1, o1, o1, o1, o1, o1, o1, o1, o1, o0, o1, o0, o0, o1, o0, o0, o0, o0, o0, o0, o0, o0, o0, o0, o0, o0, o0, o0, o0, o0] rfl rfl (any_of HT_.out (by kernel_rfl)) (fun _ _ _ h => h) (Or.inl ⟨by rfl, qy⟩) qz ?_; refine take_ (i := 29) (N := some 88) (v := ?_) (a' := ?_) #[o1, o1, o1, o1, o1, o1, o1, o1, o1, o1, o1, o1, o1, o1, o1, o1, o1, o1, o1, o1, o1, o1, o1, o1, o1, o1, o1, o1, o1, o1, o1, o0, o0, o1, o0, o0, o0, o0, o0, o0, o0, o0, o0, o0, o0, o0, o0, o0, o0, o0] rfl rfl (take_ofW HT_.out HW_.out (by kernel_rfl)) (fun _ _ _ h => h) (Or.inl ⟨by rfl, ?_⟩) hHeld ?_ ?_; rotate_left
                      · rintro w' ⟨s0, s1, s2, s3, s4, s5, s6, s7, s8, s9, s10, s11, s12, s13, s14, s15, s16, s17, s18, s19, s20, s21, s22, s23, s24, s25, s26, s27, s28, s29, s30, s31, s32, s33, s34⟩
                        go_simp; with_reducible rfl
                      rotate_left
                      · simp only [Act.put, zH, zI, zJ, i64_w, i32_w]
                        rfl
                      refine take_ (i := 32) (N := some 91) (v := ?_) (a' := ?_) #[o1, o1, o1, o1, o1, o1, o1, o1, o1, o1, o1, o1, o1, o1, o1, o1, o1, o1, o1, o1, o1, o1, o1, o1, o1, o1, o1, o1, o1, o1, o1, o0, o1, o1, o0, o0, o0, o0, o0, o0, o0, o0, o0, o0, o0, o0, o0, o0, o0, o0] rfl rfl (take_ofW HT_.out HW_.out (by kernel_rfl)) (fun _ _ _ h => h) (Or.inl ⟨by rfl, ?_⟩) hHeld ?_ ?_; rotate_left
                      · rintro w' ⟨s0, s1, s2, s3, s4, s5, s6, s7, s8, s9, s10, s11, s12, s13, s14, s15, s16, s17, s18, s19, s20, s21, s22, s23, s24, s25, s26, s27, s28, s29, s30, s31, s32, s33, s34⟩
                        go_simp; with_reducible rfl
                      rotate_left
                      · simp only [Act.put, zH, zI, zJ, i64_w, i32_w]
                        rfl
                      refine one_ (i := 31) (N := some 90) #[o1, o1, o1, o1, o1, o1, o1, o1, o1, o1, o1, o1, o1, o1, o1, o1, o1, o1, o1, o1, o1, o1, o1, o1, o1, o1, o1, o1, o1, o1, o1, o1, o1, o1, o0, o0, o0, o0, o0, o0, o0, o0, o0, o0, o0, o0, o0, o0, o0, o0] rfl rfl (one_of HT_.out (by kernel_rfl)) (by decide) (fun K hK => ?_); refine goes_ Try.func64 (by kernel_rfl) rfl #[.agg #[.int .i64 a0_0, .int .i64 a0_1, .int .i64 a0_2, .int .i64 a0_3, .slice A0_4 l0_4.length c0_4], .int .i64 a2] (by rfl) rfl rfl (by (try simp only [zR, zS, zT]); first | done | rfl | (simp only [zP, zQ]; rfl)) ?_; with_reducible refine (rma_Expire.calls k a0_0 a0_1 a0_2 a0_3 _ _ l0_4 a2 t161 t162 t163 t164 l0_4 _ ?side1 ?side2 A21.out).mono ?_
                      (case side1 => exact qC (Kd.C_below HR0_4.out HB.out))
                      (case side2 => exact HC0_4.out)
                      rintro e w90 ⟨rfl, hb⟩; refine ⟨_, rfl, ?_⟩; have n0_ := zA (Kd.R_below (by (with_reducible repeat (first | apply Kd.R_alloc | apply Kd.R_drewN | apply Kd.R_drew)); exact HO110.out) hb); have n1_ := zA (Kd.R_below (by (with_reducible repeat (first | apply Kd.R_alloc | apply Kd.R_drewN | apply Kd.R_drew)); exact HO119.out) hb); have n2_ := zA (Kd.R_below (by (with_reducible repeat (first | apply Kd.R_alloc | apply Kd.R_drewN | apply Kd.R_drew)); exact HO128.out) hb); have n3_ := zA (Kd.V_below (by (with_reducible repeat (first | apply Kd.V_alloc | apply Kd.V_drewN | apply Kd.V_drew)); exact HO137.out) hb); have n4_ := zA (Kd.R_below (by (with_reducible repeat (first | apply Kd.R_alloc | apply Kd.R_drewN | apply Kd.R_drew)); exact HO146.out) hb); have n5_ := zA (Kd.R_below (by (with_reducible repeat (first | apply Kd.R_alloc | apply Kd.R_drewN | apply Kd.R_drew)); exact HO155.out) hb); have n6_ := zA (qX BK101.out hb); have n7_ := zA (qX BK112.out hb); have n8_ := zA (qX BK121.out hb); have n9_ := zA (qX BK130.out hb); have n10_ := zA (qX BK139.out hb); have n11_ := zA (qX BK148.out hb); have n12_ := zA (qX BK157.out hb); have n13_ := zA (zV qB hb); clear HO110; clear HO119; clear HO128; clear HO137; clear HO146; clear HO155; clear BK101; clear BK112; clear BK121; clear BK130; clear BK139; clear BK148; clear BK157; clear HB; have HO110 := n0_; have HO119 := n1_; have HO128 := n2_; have HO137 := n3_; have HO146 := n4_; have HO155 := n5_; have BK101 := n6_; have BK112 := n7_; have BK121 := n8_; have BK130 := n9_; have BK139 := n10_; have BK148 := n11_; have BK157 := n12_; have HB := n13_; clear n0_ n1_ n2_ n3_ n4_ n5_ n6_ n7_ n8_ n9_ n10_ n11_ n12_ n13_; (try clear hb); (try clear hb2); (try clear hk); (try clear hi); refine hK.out _ _ ⟨(zF BK112.out 0).trans rfl, (zF BK112.out 1).trans rfl, (zF BK112.out 2).trans rfl, (zF BK112.out 3).trans rfl, (zF BK112.out 4).trans rfl, (zF BK121.out 0).trans rfl, (zF BK121.out 1).trans rfl, (zF BK121.out 2).trans rfl, (zF BK121.out 3).trans rfl, (zF BK121.out 4).trans rfl, (zF BK130.out 0).trans rfl, (zF BK130.out 1).trans rfl, (zF BK130.out 2).trans rfl, (zF BK130.out 3).trans rfl, (zF BK130.out 4).trans rfl, (zF BK139.out 0).trans rfl, (zF BK139.out 1).trans rfl, (zF BK139.out 2).trans rfl, (zF BK139.out 3).trans rfl, (zF BK139.out 4).trans rfl, (zF BK148.out 0).trans rfl, (zF BK148.out 1).trans rfl, (zF BK148.out 2).trans rfl, (zF BK148.out 3).trans rfl, (zF BK148.out 4).trans rfl, (zF BK157.out 0).trans rfl, (zF BK157.out 1).trans rfl, (zF BK157.out 2).trans rfl, (zF BK157.out 3).trans rfl, (zF BK157.out 4).trans rfl, (zF BK101.out 0).trans rfl, (zF BK101.out 1).trans rfl, (zF BK101.out 2).trans rfl, (zF BK101.out 3).trans rfl, (zF BK101.out 4).trans rfl⟩ (fun hHeld => ?_)
                      clear hK K; refine norm_ (a' := ?_) ?_ ?_; rotate_left
                      · show Act.put _ (some 90) _ = _
                        simp only [Act.put, zH, zI, zJ, i64_w, i32_w]; rfl
                      refine one_ (i := 34) (N := some 93) #[o1, o1, o1, o1, o1, o1, o1, o1, o1, o1, o1, o1, o1, o1, o1, o1, o1, o1, o1, o1, o1, o1, o1, o1, o1, o1, o1, o1, o1, o1, o1, o1, o1, o1, o1, o0, o0, o0, o0, o0, o0, o0, o0, o0, o0, o0, o0, o0, o0, o0] rfl rfl (one_of HT_.out (by kernel_rfl)) (by decide) (fun K hK => ?_); refine goes_ Try.func65 (by kernel_rfl) rfl #[.agg #[.int .i64 a0_0, .int .i64 a0_1, .int .i64 a0_2, .int .i64 a0_3, .slice A0_4 l0_4.length c0_4], .int .i64 a2] (by rfl) rfl rfl (by (try simp only [zR, zS, zT]); first | done | rfl | (simp only [zP, zQ]; rfl)) ?_; with_reducible refine (backhaulref27_Expire.calls k a0_0 a0_1 a0_2 a0_3 _ _ l0_4 a2 t168 t169 t170 t171 l0_4 _ ?side1 ?side2 A22.out).mono ?_
                      (case side1 => exact qC (Kd.C_below HR0_4.out HB.out))
                      (case side2 => exact HC0_4.out)
                      rintro e w91 ⟨rfl, hb⟩; refine ⟨_, rfl, ?_⟩; have n0_ := zA (Kd.R_below (by (with_reducible repeat (first | apply Kd.R_alloc | apply Kd.R_drewN | apply Kd.R_drew)); exact HO110.out) hb); have n1_ := zA (Kd.R_below (by (with_reducible repeat (first | apply Kd.R_alloc | apply Kd.R_drewN | apply Kd.R_drew)); exact HO119.out) hb); have n2_ := zA (Kd.R_below (by (with_reducible repeat (first | apply Kd.R_alloc | apply Kd.R_drewN | apply Kd.R_drew)); exact HO128.out) hb); have n3_ := zA (Kd.V_below (by (with_reducible repeat (first | apply Kd.V_alloc | apply Kd.V_drewN | apply Kd.V_drew)); exact HO137.out) hb); have n4_ := zA (Kd.R_below (by (with_reducible repeat (first | apply Kd.R_alloc | apply Kd.R_drewN | apply Kd.R_drew)); exact HO146.out) hb); have n5_ := zA (Kd.R_below (by (with_reducible repeat (first | apply Kd.R_alloc | apply Kd.R_drewN | apply Kd.R_drew)); exact HO155.out) hb); have n6_ := zA (qX BK101.out hb); have n7_ := zA (qX BK112.out hb); have n8_ := zA (qX BK121.out hb); have n9_ := zA (qX BK130.out hb); have n10_ := zA (qX BK139.out hb); have n11_ := zA (qX BK148.out hb); have n12_ := zA (qX BK157.out hb); have n13_ := zA (zV qB hb); clear HO110; clear HO119; clear HO128; clear HO137; clear HO146; clear HO155; clear BK101; clear BK112; clear BK121; clear BK130; clear BK139; clear BK148; clear BK157; clear HB; have HO110 := n0_; have HO119 := n1_; have HO128 := n2_; have HO137 := n3_; have HO146 := n4_; have HO155 := n5_; have BK101 := n6_; have BK112 := n7_; have BK121 := n8_; have BK130 := n9_; have BK139 := n10_; have BK148 := n11_; have BK157 := n12_; have HB := n13_; clear n0_ n1_ n2_ n3_ n4_ n5_ n6_ n7_ n8_ n9_ n10_ n11_ n12_ n13_; (try clear hb); (try clear hb2); (try clear hk); (try clear hi); refine hK.out _ _ ⟨(zF BK112.out 0).trans rfl, (zF BK112.out 1).trans rfl, (zF BK112.out 2).trans rfl, (zF BK112.out 3).trans rfl, (zF BK112.out 4).trans rfl, (zF BK121.out 0).trans rfl, (zF BK121.out 1).trans rfl, (zF BK121.out 2).trans rfl, (zF BK121.out 3).trans rfl, (zF BK121.out 4).trans rfl, (zF BK130.out 0).trans rfl, (zF BK130.out 1).trans rfl, (zF BK130.out 2).trans rfl, (zF BK130.out 3).trans rfl, (zF BK130.out 4).trans rfl, (zF BK139.out 0).trans rfl, (zF BK139.out 1).trans rfl, (zF BK139.out 2).trans rfl, (zF BK139.out 3).trans rfl, (zF BK139.out 4).trans rfl, (zF BK148.out 0).trans rfl, (zF BK148.out 1).trans rfl, (zF BK148.out 2).trans rfl, (zF BK148.out 3).trans rfl, (zF BK148.out 4).trans rfl, (zF BK157.out 0).trans rfl, (zF BK157.out 1).trans rfl, (zF BK157.out 2).trans rfl, (zF BK157.out 3).trans rfl, (zF BK157.out 4).trans rfl, (zF BK101.out 0).trans rfl, (zF BK101.out 1).trans rfl, (zF BK101.out 2).trans rfl, (zF BK101.out 3).trans rfl, (zF BK101.out 4).trans rfl⟩ (fun hHeld => ?_)
                      clear hK K; refine norm_ (a' := ?_) ?_ ?_; rotate_left
                      · show Act.put _ (some 93) _ = _
                        simp only [Act.put, zH, zI, zJ, i64_w, i32_w]; rfl
                      refine one_ (i := 35) (N := some 94) #[o1, o1, o1, o1, o1, o1, o1, o1, o1, o1, o1, o1, o1, o1, o1, o1, o1, o1, o1, o1, o1, o1, o1, o1, o1, o1, o1, o1, o1, o1, o1, o1, o1, o1, o1, o1, o0, o0, o0, o0, o0, o0, o0, o0, o0, o0, o0, o0, o0, o0] rfl rfl (one_of HT_.out (by kernel_rfl)) (by decide) (fun K hK => ?_); refine goes_ Try.func56 (by kernel_rfl) rfl #[.agg #[.int .i64 t161, .int .i64 t162, .int .i64 t163, .int .i64 t164, .slice A0_4 l0_4.length c0_4], .agg #[.int .i64 t168, .int .i64 t169, .int .i64 t170, .int .i64 t171, .slice A0_4 l0_4.length c0_4]] (by rfl) rfl rfl (by (try simp only [zR, zS, zT]); first | done | rfl | (simp only [zP, zQ]; rfl)) ?_; with_reducible refine (backhaulref27_Same.calls k t161 t162 t163 t164 _ _ l0_4 t168 t169 t170 t171 _ _ l0_4 true _ ?side1 ?side2 ?side3 ?side4 A23.out).mono ?_
                      (case side1 => exact qC (Kd.C_below HR0_4.out HB.out))
                      (case side2 => exact HC0_4.out)
                      (case side3 => exact qC (Kd.C_below HR0_4.out HB.out))
                      (case side4 => exact HC0_4.out)
                      rintro e w92 ⟨rfl, hb⟩; refine ⟨_, rfl, ?_⟩; have n0_ := zA (Kd.R_below (by (with_reducible repeat (first | apply Kd.R_alloc | apply Kd.R_drewN | apply Kd.R_drew)); exact HO110.out) hb); have n1_ := zA (Kd.R_below (by (with_reducible repeat (first | apply Kd.R_alloc | apply Kd.R_drewN | apply Kd.R_drew)); exact HO119.out) hb); have n2_ := zA (Kd.R_below (by (with_reducible repeat (first | apply Kd.R_alloc | apply Kd.R_drewN | apply Kd.R_drew)); exact HO128.out) hb); have n3_ := zA (Kd.V_below (by (with_reducible repeat (first | apply Kd.V_alloc | apply Kd.V_drewN | apply Kd.V_drew)); exact HO137.out) hb); have n4_ := zA (Kd.R_below (by (with_reducible repeat (first | apply Kd.R_alloc | apply Kd.R_drewN | apply Kd.R_drew)); exact HO146.out) hb); have n5_ := zA (Kd.R_below (by (with_reducible repeat (first | apply Kd.R_alloc | apply Kd.R_drewN | apply Kd.R_drew)); exact HO155.out) hb); have n6_ := zA (qX BK101.out hb); have n7_ := zA (qX BK112.out hb); have n8_ := zA (qX BK121.out hb); have n9_ := zA (qX BK130.out hb); have n10_ := zA (qX BK139.out hb); have n11_ := zA (qX BK148.out hb); have n12_ := zA (qX BK157.out hb); have n13_ := zA (zV qB hb); clear HO110; clear HO119; clear HO128; clear HO137; clear HO146; clear HO155; clear BK101; clear BK112; clear BK121; clear BK130; clear BK139; clear BK148; clear BK157; clear HB; have HO110 := n0_; have HO119 := n1_; have HO128 := n2_; have HO137 := n3_; have HO146 := n4_; have HO155 := n5_; have BK101 := n6_; have BK112 := n7_; have BK121 := n8_; have BK130 := n9_; have BK139 := n10_; have BK148 := n11_; have BK157 := n12_; have HB := n13_; clear n0_ n1_ n2_ n3_ n4_ n5_ n6_ n7_ n8_ n9_ n10_ n11_ n12_ n13_; (try clear hb); (try clear hb2); (try clear hk); (try clear hi); refine hK.out _ _ ⟨(zF BK112.out 0).trans rfl, (zF BK112.out 1).trans rfl, (zF BK112.out 2).trans rfl, (zF BK112.out 3).trans rfl, (zF BK112.out 4).trans rfl, (zF BK121.out 0).trans rfl, (zF BK121.out 1).trans rfl, (zF BK121.out 2).trans rfl, (zF BK121.out 3).trans rfl, (zF BK121.out 4).trans rfl, (zF BK130.out 0).trans rfl, (zF BK130.out 1).trans rfl, (zF BK130.out 2).trans rfl, (zF BK130.out 3).trans rfl, (zF BK130.out 4).trans rfl, (zF BK139.out 0).trans rfl, (zF BK139.out 1).trans rfl, (zF BK139.out 2).trans rfl, (zF BK139.out 3).trans rfl, (zF BK139.out 4).trans rfl, (zF BK148.out 0).trans rfl, (zF BK148.out 1).trans rfl, (zF BK148.out 2).trans rfl, (zF BK148.out 3).trans rfl, (zF BK148.out 4).trans rfl, (zF BK157.out 0).trans rfl, (zF BK157.out 1).trans rfl, (zF BK157.out 2).trans rfl, (zF BK157.out 3).trans rfl, (zF BK157.out 4).trans rfl, (zF BK101.out 0).trans rfl, (zF BK101.out 1).trans rfl, (zF BK101.out 2).trans rfl, (zF BK101.out 3).trans rfl, (zF BK101.out 4).trans rfl⟩ (fun hHeld => ?_)
                      clear hK K; refine norm_ (a' := ?_) ?_ ?_; rotate_left
                      · show Act.put _ (some 94) _ = _
                        simp only [Act.put, zH, zI, zJ, i64_w, i32_w]; rfl
                      refine pure_ (i := 36) (N := some 95) #[o1, o1, o1, o1, o1, o1, o1, o1, o1, o1, o1, o1, o1, o1, o1, o1, o1, o1, o1, o1, o1, o1, o1, o1, o1, o1, o1, o1, o1, o1, o1, o1, o1, o1, o1, o1, o1, o0, o0, o0, o0, o0, o0, o0, o0, o0, o0, o0, o0, o0] rfl rfl (any_of HT_.out (by kernel_rfl)) (fun _ _ _ h => h) (Or.inl ⟨by rfl, qy⟩) qz ?_; refine pure_ (i := 37) (N := some 96) #[o1, o1, o1, o1, o1, o1, o1, o1, o1, o1, o1, o1, o1, o1, o1, o1, o1, o1, o1, o1, o1, o1, o1, o1, o1, o1, o1, o1, o1, o1, o1, o1, o1, o1, o1, o1, o1, o1, o0, o0, o0, o0, o0, o0, o0, o0, o0, o0, o0, o0] rfl rfl (any_of HT_.out (by kernel_rfl)) (fun _ _ _ h => h) (Or.inl ⟨by rfl, qy⟩) qz ?_; refine pure_ (i := 39) (N := some 98) #[o1, o1, o1, o1, o1, o1, o1, o1, o1, o1, o1, o1, o1, o1, o1, o1, o1, o1, o1, o1, o1, o1, o1, o1, o1, o1, o1, o1, o1, o1, o1, o1, o1, o1, o1, o1, o1, o1, o0, o1, o0, o0, o0, o0, o0, o0, o0, o0, o0, o0] rfl rfl (any_of HT_.out (by kernel_rfl)) (fun _ _ _ h => h) (Or.inl ⟨by rfl, qy⟩) qz ?_; refine pure_ (i := 42) (N := some 101) #[o1, o1, o1, o1, o1, o1, o1, o1, o1, o1, o1, o1, o1, o1, o1, o1, o1, o1, o1, o1, o1, o1, o1, o1, o1, o1, o1, o1, o1, o1, o1, o1, o1, o1, o1, o1, o1, o1, o0, o1, o0, o0, o1, o0, o0, o0, o0, o0, o0, o0] rfl rfl (any_of HT_.out (by kernel_rfl)) (fun _ _ _ h => h) (Or.inl ⟨by rfl, qy⟩) qz ?_; refine take_ (i := 38) (N := some 97) (v := ?_) (a' := ?_) #[o1, o1, o1, o1, o1, o1, o1, o1, o1, o1, o1, o1, o1, o1, o1, o1, o1, o1, o1, o1, o1, o1, o1, o1, o1, o1, o1, o1, o1, o1, o1, o1, o1, o1, o1, o1, o1, o1, o1, o1, o0, o0, o1, o0, o0, o0, o0, o0, o0, o0] rfl rfl (take_ofW HT_.out HW_.out (by kernel_rfl)) (fun _ _ _ h => h) (Or.inl ⟨by rfl, ?_⟩) hHeld ?_ ?_; rotate_left
                      · rintro w' ⟨s0, s1, s2, s3, s4, s5, s6, s7, s8, s9, s10, s11, s12, s13, s14, s15, s16, s17, s18, s19, s20, s21, s22, s23, s24, s25, s26, s27, s28, s29, s30, s31, s32, s33, s34⟩
                        go_simp; with_reducible rfl
                      rotate_left
                      · simp only [Act.put, zH, zI, zJ, i64_w, i32_w]
                        rfl
                      refine take_ (i := 41) (N := some 100) (v := ?_) (a' := ?_) #[o1, o1, o1, o1, o1, o1, o1, o1, o1, o1, o1, o1, o1, o1, o1, o1, o1, o1, o1, o1, o1, o1, o1, o1, o1, o1, o1, o1, o1, o1, o1, o1, o1, o1, o1, o1, o1, o1, o1, o1, o0, o1, o1, o0, o0, o0, o0, o0, o0, o0] rfl rfl (take_ofW HT_.out HW_.out (by kernel_rfl)) (fun _ _ _ h => h) (Or.inl ⟨by rfl, ?_⟩) hHeld ?_ ?_; rotate_left
                      · rintro w' ⟨s0, s1, s2, s3, s4, s5, s6, s7, s8, s9, s10, s11, s12, s13, s14, s15, s16, s17, s18, s19, s20, s21, s22, s23, s24, s25, s26, s27, s28, s29, s30, s31, s32, s33, s34⟩
                        go_simp; with_reducible rfl
                      rotate_left
                      · simp only [Act.put, zH, zI, zJ, i64_w, i32_w]
                        rfl
                      refine one_ (i := 40) (N := some 99) #[o1, o1, o1, o1, o1, o1, o1, o1, o1, o1, o1, o1, o1, o1, o1, o1, o1, o1, o1, o1, o1, o1, o1, o1, o1, o1, o1, o1, o1, o1, o1, o1, o1, o1, o1, o1, o1, o1, o1, o1, o1, o1, o1, o0, o0, o0, o0, o0, o0, o0] rfl rfl (one_of HT_.out (by kernel_rfl)) (by decide) (fun K hK => ?_); refine goes_ Try.func66 (by kernel_rfl) rfl #[.agg #[.int .i64 a0_0, .int .i64 a0_1, .int .i64 a0_2, .int .i64 a0_3, .slice A0_4 l0_4.length c0_4], .int .i64 a1] (by rfl) rfl rfl (by (try simp only [zR, zS, zT]); first | done | rfl | (simp only [zP, zQ]; rfl)) ?_; with_reducible refine (rma_Holds.calls k a0_0 a0_1 a0_2 a0_3 _ _ l0_4 a1 t176 _ ?side1 ?side2 A25.out).mono ?_
                      (case side1 => exact qC (Kd.C_below HR0_4.out HB.out))
                      (case side2 => exact HC0_4.out)
                      rintro e w93 ⟨rfl, hb⟩; refine ⟨_, rfl, ?_⟩; have n0_ := zA (Kd.R_below (by (with_reducible repeat (first | apply Kd.R_alloc | apply Kd.R_drewN | apply Kd.R_drew)); exact HO110.out) hb); have n1_ := zA (Kd.R_below (by (with_reducible repeat (first | apply Kd.R_alloc | apply Kd.R_drewN | apply Kd.R_drew)); exact HO119.out) hb); have n2_ := zA (Kd.R_below (by (with_reducible repeat (first | apply Kd.R_alloc | apply Kd.R_drewN | apply Kd.R_drew)); exact HO128.out) hb); have n3_ := zA (Kd.V_below (by (with_reducible repeat (first | apply Kd.V_alloc | apply Kd.V_drewN | apply Kd.V_drew)); exact HO137.out) hb); have n4_ := zA (Kd.R_below (by (with_reducible repeat (first | apply Kd.R_alloc | apply Kd.R_drewN | apply Kd.R_drew)); exact HO146.out) hb); have n5_ := zA (Kd.R_below (by (with_reducible repeat (first | apply Kd.R_alloc | apply Kd.R_drewN | apply Kd.R_drew)); exact HO155.out) hb); have n6_ := zA (qX BK101.out hb); have n7_ := zA (qX BK112.out hb); have n8_ := zA (qX BK121.out hb); have n9_ := zA (qX BK130.out hb); have n10_ := zA (qX BK139.out hb); have n11_ := zA (qX BK148.out hb); have n12_ := zA (qX BK157.out hb); have n13_ := zA (zV qB hb); clear HO110; clear HO119; clear HO128; clear HO137; clear HO146; clear HO155; clear BK101; clear BK112; clear BK121; clear BK130; clear BK139; clear BK148; clear BK157; clear HB; have HO110 := n0_; have HO119 := n1_; have HO128 := n2_; have HO137 := n3_; have HO146 := n4_; have HO155 := n5_; have BK101 := n6_; have BK112 := n7_; have BK121 := n8_; have BK130 := n9_; have BK139 := n10_; have BK148 := n11_; have BK157 := n12_; have HB := n13_; clear n0_ n1_ n2_ n3_ n4_ n5_ n6_ n7_ n8_ n9_ n10_ n11_ n12_ n13_; (try clear hb); (try clear hb2); (try clear hk); (try clear hi); refine hK.out _ _ ⟨(zF BK112.out 0).trans rfl, (zF BK112.out 1).trans rfl, (zF BK112.out 2).trans rfl, (zF BK112.out 3).trans rfl, (zF BK112.out 4).trans rfl, (zF BK121.out 0).trans rfl, (zF BK121.out 1).trans rfl, (zF BK121.out 2).trans rfl, (zF BK121.out 3).trans rfl, (zF BK121.out 4).trans rfl, (zF BK130.out 0).trans rfl, (zF BK130.out 1).trans rfl, (zF BK130.out 2).trans rfl, (zF BK130.out 3).trans rfl, (zF BK130.out 4).trans rfl, (zF BK139.out 0).trans rfl, (zF BK139.out 1).trans rfl, (zF BK139.out 2).trans rfl, (zF BK139.out 3).trans rfl, (zF BK139.out 4).trans rfl, (zF BK148.out 0).trans rfl, (zF BK148.out 1).trans rfl, (zF BK148.out 2).trans rfl, (zF BK148.out 3).trans rfl, (zF BK148.out 4).trans rfl, (zF BK157.out 0).trans rfl, (zF BK157.out 1).trans rfl, (zF BK157.out 2).trans rfl, (zF BK157.out 3).trans rfl, (zF BK157.out 4).trans rfl, (zF BK101.out 0).trans rfl, (zF BK101.out 1).trans rfl, (zF BK101.out 2).trans rfl, (zF BK101.out 3).trans rfl, (zF BK101.out 4).trans rfl⟩ (fun hHeld => ?_)
                      clear hK K; refine norm_ (a' := ?_) ?_ ?_; rotate_left
                      · show Act.put _ (some 99) _ = _
                        simp only [Act.put, zH, zI, zJ, i64_w, i32_w]; rfl
                      refine one_ (i := 43) (N := some 102) #[o1, o1, o1, o1, o1, o1, o1, o1, o1, o1, o1, o1, o1, o1, o1, o1, o1, o1, o1, o1, o1, o1, o1, o1, o1, o1, o1, o1, o1, o1, o1, o1, o1, o1, o1, o1, o1, o1, o1, o1, o1, o1, o1, o1, o0, o0, o0, o0, o0, o0] rfl rfl (one_of HT_.out (by kernel_rfl)) (by decide) (fun K hK => ?_); refine goes_ Try.func67 (by kernel_rfl) rfl #[.agg #[.int .i64 a0_0, .int .i64 a0_1, .int .i64 a0_2, .int .i64 a0_3, .slice A0_4 l0_4.length c0_4], .int .i64 a1] (by rfl) rfl rfl (by (try simp only [zR, zS, zT]); first | done | rfl | (simp only [zP, zQ]; rfl)) ?_; with_reducible refine (backhaulref27_Holds.calls k a0_0 a0_1 a0_2 a0_3 _ _ l0_4 a1 t177 _ ?side1 ?side2 A26.out).mono ?_
                      (case side1 => exact qC (Kd.C_below HR0_4.out HB.out))
                      (case side2 => exact HC0_4.out)
                      rintro e w94 ⟨rfl, hb⟩; refine ⟨_, rfl, ?_⟩; have n0_ := zA (Kd.R_below (by (with_reducible repeat (first | apply Kd.R_alloc | apply Kd.R_drewN | apply Kd.R_drew)); exact HO110.out) hb); have n1_ := zA (Kd.R_below (by (with_reducible repeat (first | apply Kd.R_alloc | apply Kd.R_drewN | apply Kd.R_drew)); exact HO119.out) hb); have n2_ := zA (Kd.R_below (by (with_reducible repeat (first | apply Kd.R_alloc | apply Kd.R_drewN | apply Kd.R_drew)); exact HO128.out) hb); have n3_ := zA (Kd.V_below (by (with_reducible repeat (first | apply Kd.V_alloc | apply Kd.V_drewN | apply Kd.V_drew)); exact HO137.out) hb); have n4_ := zA (Kd.R_below (by (with_reducible repeat (first | apply Kd.R_alloc | apply Kd.R_drewN | apply Kd.R_drew)); exact HO146.out) hb); have n5_ := zA (Kd.R_below (by (with_reducible repeat (first | apply Kd.R_alloc | apply Kd.R_drewN | apply Kd.R_drew)); exact HO155.out) hb); have n6_ := zA (qX BK101.out hb); have n7_ := zA (qX BK112.out hb); have n8_ := zA (qX BK121.out hb); have n9_ := zA (qX BK130.out hb); have n10_ := zA (qX BK139.out hb); have n11_ := zA (qX BK148.out hb); have n12_ := zA (qX BK157.out hb); have n13_ := zA (zV qB hb); clear HO110; clear HO119; clear HO128; clear HO137; clear HO146; clear HO155; clear BK101; clear BK112; clear BK121; clear BK130; clear BK139; clear BK148; clear BK157; clear HB; have HO110 := n0_; have HO119 := n1_; have HO128 := n2_; have HO137 := n3_; have HO146 := n4_; have HO155 := n5_; have BK101 := n6_; have BK112 := n7_; have BK121 := n8_; have BK130 := n9_; have BK139 := n10_; have BK148 := n11_; have BK157 := n12_; have HB := n13_; clear n0_ n1_ n2_ n3_ n4_ n5_ n6_ n7_ n8_ n9_ n10_ n11_ n12_ n13_; (try clear hb); (try clear hb2); (try clear hk); (try clear hi); refine hK.out _ _ ⟨(zF BK112.out 0).trans rfl, (zF BK112.out 1).trans rfl, (zF BK112.out 2).trans rfl, (zF BK112.out 3).trans rfl, (zF BK112.out 4).trans rfl, (zF BK121.out 0).trans rfl, (zF BK121.out 1).trans rfl, (zF BK121.out 2).trans rfl, (zF BK121.out 3).trans rfl, (zF BK121.out 4).trans rfl, (zF BK130.out 0).trans rfl, (zF BK130.out 1).trans rfl, (zF BK130.out 2).trans rfl, (zF BK130.out 3).trans rfl, (zF BK130.out 4).trans rfl, (zF BK139.out 0).trans rfl, (zF BK139.out 1).trans rfl, (zF BK139.out 2).trans rfl, (zF BK139.out 3).trans rfl, (zF BK139.out 4).trans rfl, (zF BK148.out 0).trans rfl, (zF BK148.out 1).trans rfl, (zF BK148.out 2).trans rfl, (zF BK148.out 3).trans rfl, (zF BK148.out 4).trans rfl, (zF BK157.out 0).trans rfl, (zF BK157.out 1).trans rfl, (zF BK157.out 2).trans rfl, (zF BK157.out 3).trans rfl, (zF BK157.out 4).trans rfl, (zF BK101.out 0).trans rfl, (zF BK101.out 1).trans rfl, (zF BK101.out 2).trans rfl, (zF BK101.out 3).trans rfl, (zF BK101.out 4).trans rfl⟩ (fun hHeld => ?_)
                      clear hK K; refine norm_ (a' := ?_) ?_ ?_; rotate_left
                      · show Act.put _ (some 102) _ = _
                        simp only [Act.put, zH, zI, zJ, i64_w, i32_w]; rfl
                      refine pure_ (i := 44) (N := some 103) #[o1, o1, o1, o1, o1, o1, o1, o1, o1, o1, o1, o1, o1, o1, o1, o1, o1, o1, o1, o1, o1, o1, o1, o1, o1, o1, o1, o1, o1, o1, o1, o1, o1, o1, o1, o1, o1, o1, o1, o1, o1, o1, o1, o1, o1, o0, o0, o0, o0, o0] rfl rfl (any_of HT_.out (by kernel_rfl)) (fun _ _ _ h => h) (Or.inl ⟨by rfl, qy⟩) qz ?_; refine pure_ (i := 45) (N := some 104) #[o1, o1, o1, o1, o1, o1, o1, o1, o1, o1, o1, o1, o1, o1, o1, o1, o1, o1, o1, o1, o1, o1, o1, o1, o1, o1, o1, o1, o1, o1, o1, o1, o1, o1, o1, o1, o1, o1, o1, o1, o1, o1, o1, o1, o1, o1, o0, o0, o0, o0] rfl rfl (any_of HT_.out (by kernel_rfl)) (fun _ _ _ h => h) (Or.inl ⟨by rfl, qy⟩) qz ?_; refine pure_ (i := 46) (N := some 105) #[o1, o1, o1, o1, o1, o1, o1, o1, o1, o1, o1, o1, o1, o1, o1, o1, o1, o1, o1, o1, o1, o1, o1, o1, o1, o1, o1, o1, o1, o1, o1, o1, o1, o1, o1, o1, o1, o1, o1, o1, o1, o1, o1, o1, o1, o1, o1, o0, o0, o0] rfl rfl (any_of HT_.out (by kernel_rfl)) (fun _ _ _ h => h) (Or.inl ⟨by rfl, qy⟩) qz ?_; refine one_ (i := 47) (N := some 106) #[o1, o1, o1, o1, o1, o1, o1, o1, o1, o1, o1, o1, o1, o1, o1, o1, o1, o1, o1, o1, o1, o1, o1, o1, o1, o1, o1, o1, o1, o1, o1, o1, o1, o1, o1, o1, o1, o1, o1, o1, o1, o1, o1, o1, o1, o1, o1, o1, o0, o0] rfl rfl (one_of HT_.out (by kernel_rfl)) (by decide) (fun K hK => ?_); refine goes_ Try.func49 (by kernel_rfl) rfl #[] (by rfl) rfl rfl (by (try simp only [zR, zS, zT]); first | done | rfl | (simp only [zP, zQ]; rfl)) ?_; with_reducible refine (backhaullaw27_awake.calls  true _ A28.out).mono ?_
                      rintro e w95 ⟨rfl, hb⟩; refine ⟨_, rfl, ?_⟩; have n0_ := zA (Kd.R_below (by (with_reducible repeat (first | apply Kd.R_alloc | apply Kd.R_drewN | apply Kd.R_drew)); exact HO110.out) hb); have n1_ := zA (Kd.R_below (by (with_reducible repeat (first | apply Kd.R_alloc | apply Kd.R_drewN | apply Kd.R_drew)); exact HO119.out) hb); have n2_ := zA (Kd.R_below (by (with_reducible repeat (first | apply Kd.R_alloc | apply Kd.R_drewN | apply Kd.R_drew)); exact HO128.out) hb); have n3_ := zA (Kd.V_below (by (with_reducible repeat (first | apply Kd.V_alloc | apply Kd.V_drewN | apply Kd.V_drew)); exact HO137.out) hb); have n4_ := zA (Kd.R_below (by (with_reducible repeat (first | apply Kd.R_alloc | apply Kd.R_drewN | apply Kd.R_drew)); exact HO146.out) hb); have n5_ := zA (Kd.R_below (by (with_reducible repeat (first | apply Kd.R_alloc | apply Kd.R_drewN | apply Kd.R_drew)); exact HO155.out) hb); have n6_ := zA (qX BK101.out hb); have n7_ := zA (qX BK112.out hb); have n8_ := zA (qX BK121.out hb); have n9_ := zA (qX BK130.out hb); have n10_ := zA (qX BK139.out hb); have n11_ := zA (qX BK148.out hb); have n12_ := zA (qX BK157.out hb); have n13_ := zA (zV qB hb); clear HO110; clear HO119; clear HO128; clear HO137; clear HO146; clear HO155; clear BK101; clear BK112; clear BK121; clear BK130; clear BK139; clear BK148; clear BK157; clear HB; have HO110 := n0_; have HO119 := n1_; have HO128 := n2_; have HO137 := n3_; have HO146 := n4_; have HO155 := n5_; have BK101 := n6_; have BK112 := n7_; have BK121 := n8_; have BK130 := n9_; have BK139 := n10_; have BK148 := n11_; have BK157 := n12_; have HB := n13_; clear n0_ n1_ n2_ n3_ n4_ n5_ n6_ n7_ n8_ n9_ n10_ n11_ n12_ n13_; (try clear hb); (try clear hb2); (try clear hk); (try clear hi); refine hK.out _ _ ⟨(zF BK112.out 0).trans rfl, (zF BK112.out 1).trans rfl, (zF BK112.out 2).trans rfl, (zF BK112.out 3).trans rfl, (zF BK112.out 4).trans rfl, (zF BK121.out 0).trans rfl, (zF BK121.out 1).trans rfl, (zF BK121.out 2).trans rfl, (zF BK121.out 3).trans rfl, (zF BK121.out 4).trans rfl, (zF BK130.out 0).trans rfl, (zF BK130.out 1).trans rfl, (zF BK130.out 2).trans rfl, (zF BK130.out 3).trans rfl, (zF BK130.out 4).trans rfl, (zF BK139.out 0).trans rfl, (zF BK139.out 1).trans rfl, (zF BK139.out 2).trans rfl, (zF BK139.out 3).trans rfl, (zF BK139.out 4).trans rfl, (zF BK148.out 0).trans rfl, (zF BK148.out 1).trans rfl, (zF BK148.out 2).trans rfl, (zF BK148.out 3).trans rfl, (zF BK148.out 4).trans rfl, (zF BK157.out 0).trans rfl, (zF BK157.out 1).trans rfl, (zF BK157.out 2).trans rfl, (zF BK157.out 3).trans rfl, (zF BK157.out 4).trans rfl, (zF BK101.out 0).trans rfl, (zF BK101.out 1).trans rfl, (zF BK101.out 2).trans rfl, (zF BK101.out 3).trans rfl, (zF BK101.out 4).trans rfl⟩ (fun hHeld => ?_)
                      clear hK K; refine norm_ (a' := ?_) ?_ ?_; rotate_left
                      · show Act.put _ (some 106) _ = _
                        simp only [Act.put, zH, zI, zJ, i64_w, i32_w]; rfl
                      refine pure_ (i := 48) (N := some 107) #[o1, o1, o1, o1, o1, o1, o1, o1, o1, o1, o1, o1, o1, o1, o1, o1, o1, o1, o1, o1, o1, o1, o1, o1, o1, o1, o1, o1, o1, o1, o1, o1, o1, o1, o1, o1, o1, o1, o1, o1, o1, o1, o1, o1, o1, o1, o1, o1, o1, o0] rfl rfl (any_of HT_.out (by kernel_rfl)) (fun _ _ _ h => h) (Or.inl ⟨by rfl, qy⟩) qz ?_; refine pure_ (i := 49) (N := some 6) #[o1, o1, o1, o1, o1, o1, o1, o1, o1, o1, o1, o1, o1, o1, o1, o1, o1, o1, o1, o1, o1, o1, o1, o1, o1, o1, o1, o1, o1, o1, o1, o1, o1, o1, o1, o1, o1, o1, o1, o1, o1, o1, o1, o1, o1, o1, o1, o1, o1, o1] rfl rfl (any_of HT_.out (by kernel_rfl)) (fun _ _ _ h => h) (Or.inl ⟨by rfl, qy⟩) qz ?_; refine done_ (done_of HT_.out (by kernel_rfl)) ?_; try go_wp2
                      go_ret; exact ⟨qE, qB⟩
                    replace c29 := Bool.eq_false_iff.mpr c29; subst c29; have H1 : (some false) = some true := by first | (rw [if_neg (show ¬ (false = true) by decide)] at H; exact H) | rfl
                    clear H; have H := H1; clear H1; exact absurd H (by simp)
                  rw [if_neg c27] at H; have c27b0 : (t176 == t177) = false := beq_eq_false_iff_ne.mpr c27; have c27b1 : (t176 != t177) = true := bne_iff_ne.mpr c27; exact absurd H (by simp)
                replace c24 := Bool.eq_false_iff.mpr c24; subst c24; have H1 : (some false) = some true := by first | (rw [if_neg (show ¬ (false = true) by decide)] at H; exact H) | rfl
                clear H; have H := H1; clear H1; exact absurd H (by simp)
              rw [if_neg c20] at H; have c20b0 : (t147 == t156) = false := beq_eq_false_iff_ne.mpr c20; have c20b1 : (t147 != t156) = true := bne_iff_ne.mpr c20; exact absurd H (by simp)
            replace c19 := Bool.eq_false_iff.mpr c19; subst c19; have H1 : (some false) = some true := by first | (rw [if_neg (show ¬ (false = true) by decide)] at H; exact H) | rfl
            clear H; have H := H1; clear H1; exact absurd H (by simp)
          rw [if_neg c17] at H; have c17b0 : (t129 == t138) = false := beq_eq_false_iff_ne.mpr c17; have c17b1 : (t129 != t138) = true := bne_iff_ne.mpr c17; exact absurd H (by simp)
        replace c16 := Bool.eq_false_iff.mpr c16; subst c16; have H1 : (some false) = some true := by first | (rw [if_neg (show ¬ (false = true) by decide)] at H; exact H) | rfl
        clear H; have H := H1; clear H1; exact absurd H (by simp)
      rw [if_neg c14] at H; have c14b0 : (t111 == t120) = false := beq_eq_false_iff_ne.mpr c14; have c14b1 : (t111 != t120) = true := bne_iff_ne.mpr c14; exact absurd H (by simp)
    replace c13 := Bool.eq_false_iff.mpr c13; subst c13; have H1 : (some false) = some true := by first | (rw [if_neg (show ¬ (false = true) by decide)] at H; exact H) | rfl
    clear H; have H := H1; clear H1; exact absurd H (by simp)
  replace c5 := Bool.eq_false_iff.mpr c5
  subst c5
  have H1 : ((backhaullaw27_awake.f).bind fun t103 => (if t103 = true then (some true) else (some false))) = some true := by first | (rw [if_neg (show ¬ (false = true) by decide)] at H; exact H) | rfl
  clear H
  have H := H1
  clear H1
  replace H := Option.bind_eq_some_iff.mp H
  obtain ⟨t103, A960, H⟩ := H
  replace H : (if t103 = true then (some true) else (some false)) = some true := H
  have A96 := zA A960
  clear A960
  by_cases c97 : t103 = true
  · subst c97
    have H1 : (some true) = some true := by first | (rw [if_pos rfl] at H; exact H) | rfl
    clear H; have H := H1; clear H1; clear H; go_enter Try.func9, Try.ntmps9; go_wp2_with (first | ((with_reducible refine gate_dst (N := 3) rfl ?_); refine box_event qr (N := 3) qr (cs := #[.int .i64 a0_0, .int .i64 a0_1, .int .i64 a0_2, .int .i64 a0_3, .slice A0_4 l0_4.length c0_4]) (t := 70) qg ?_; intro gb101 hg w98 hbox hb; have n0_ := zA (zV qB hb); have n1_ := zA (hbox); have n2_ := zA ((qS : w.heap.size ≤ gb101)); have n3_ := zA ((qS : w.heap.size ≤ gb101)); clear HB; have HB := n0_; have BK101 := n1_; have GW101 := n2_; have GE101 := n3_; clear n0_ n1_ n2_ n3_ hb hbox hg; obtain ⟨_, _, _, _, _, _, _, _, _, _⟩ := qc5f BK101.out) | ((with_reducible refine zJq (f := 47) rfl ?_); refine goesL_ (some 20) rfl rfl Try.func47 (by kernel_rfl) rfl #[.agg #[.int .i64 a0_0, .int .i64 a0_1, .int .i64 a0_2, .int .i64 a0_3, .slice A0_4 l0_4.length c0_4]] rfl (by (try simp only [zR, zS, zT]); first | done | rfl | (simp only [zP, zQ]; rfl)) ?_; (with_reducible refine (backhaullaw27_Few.calls a0_0 a0_1 a0_2 a0_3 _ _ l0_4 false _ ?side1 ?side2 A4.out).mono ?_); (case side1 => exact qC (Kd.C_below HR0_4.out HB.out)); (case side2 => exact HC0_4.out); rintro e w100 ⟨rfl, hb⟩; refine ⟨_, rfl, ?_⟩; have n0_ := zA (qX BK101.out hb); have n1_ := zA (zV qB hb); clear BK101 HB; have BK101 := n0_; have HB := n1_; clear n0_ n1_; (try clear hb); (try clear hb2); (try clear hk); (try clear hi)) | ((with_reducible refine zJq (f := 49) rfl ?_); refine goesL_ (some 22) rfl rfl Try.func49 (by kernel_rfl) rfl #[] rfl (by (try simp only [zR, zS, zT]); first | done | rfl | (simp only [zP, zQ]; rfl)) ?_; (with_reducible refine (backhaullaw27_awake.calls  true _ A96.out).mono ?_); rintro e w101 ⟨rfl, hb⟩; refine ⟨_, rfl, ?_⟩; have n0_ := zA (qX BK101.out hb); have n1_ := zA (zV qB hb); clear BK101 HB; have BK101 := n0_; have HB := n1_; clear n0_ n1_; (try clear hb); (try clear hb2); (try clear hk); (try clear hi))); go_ret; exact ⟨qE, qB⟩
  replace c97 := Bool.eq_false_iff.mpr c97
  subst c97
  have H1 : (some false) = some true := by first | (rw [if_neg (show ¬ (false = true) by decide)] at H; exact H) | rfl
  clear H
  have H := H1
  clear H1
  exact absurd H (by simp)
def backhaullaw27_RmaMoves.Pure : Prop := ∀ (a0_0 : Int) (a0_1 : Int) (a0_2 : Int) (a0_3 : Int) (l0_4 : List (S97)) (a1 : Int) (a2 : Int), (Lit.int .i64 a0_0).wf = true → (Lit.int .i64 a0_1).wf = true → (Lit.int .i64 a0_2).wf = true → (Lit.int .i64 a0_3).wf = true → (l0_4.length ≤ maxLen ∧ ∀ x ∈ l0_4, ((Lit.int .i64 x.f0).wf = true ∧ (Lit.int .i64 x.f1).wf = true ∧ (Lit.int .i64 x.f2).wf = true)) → (Lit.int .i64 a1).wf = true → (Lit.int .i64 a2).wf = true → ∃ k, backhaullaw27_RmaMoves.f k a0_0 a0_1 a0_2 a0_3 l0_4 a1 a2 = some true
end Go.Proofs.Ytakkhomjpflkbaa.F
set_option linter.unusedVariables false
namespace Go.Proofs.Ytakkhomjpflkbaa.Q
open Go.RowKit Go.Proofs.YtakkhomjpflkbaaW.PrintWords Go.Proofs.YtakkhomjpflkbaaW.PrintLast Go.Proofs.YtakkhomjpflkbaaW.PrintMore
theorem Ev.ite {α : Type} {c : Prop} [Decidable c] {a b : Nat → Option α} {r : α} (h1 : c → Ev a r) (h2 : ¬ c → Ev b r) : Ev (fun k => if c then a k else b k) r := by
  by_cases h : c
  · simp only [if_pos h]; exact h1 h
  simp only [if_neg h]; exact h2 h
theorem Ev.pos {α : Type} {c : Prop} [Decidable c] {a b : Nat → Option α} {r : α} (h : c) (h1 : Ev a r) : Ev (fun k => if c then a k else b k) r := by
  simp only [if_pos h]; exact h1
theorem Ev.neg {α : Type} {c : Prop} [Decidable c] {a b : Nat → Option α} {r : α} (h : ¬ c) (h1 : Ev b r) : Ev (fun k => if c then a k else b k) r := by
  simp only [if_neg h]; exact h1
theorem Ev.ok {α : Type} {a b : α} (h : a = b) : Ev (fun _ => some a) b := ⟨0, fun _ _ => by rw [h]⟩
theorem Ev.const {α : Type} {o : Option α} {r : α} (h : o = some r) : Ev (fun _ => o) r := ⟨0, fun _ _ => h⟩
theorem Ev.bindc {α β : Type} {o : Option α} {f : Nat → α → Option β} {a : α} {r : β} (h : o = some a) (k : Ev (fun n => f n a) r) : Ev (fun n => o.bind (f n)) r := by
  subst h
  exact k
theorem Ev.eq {α : Type} {g : Nat → Option α} {a b : α} (h : Ev g a) (e : a = b) : Ev g b := e ▸ h
theorem wrap_eq {x : Int} (h0 : -9223372036854775808 ≤ x) (h1 : x ≤ 9223372036854775807) : wrap64 x = x := by
  unfold wrap64; omega
theorem drop_cons {α : Type} {l : List α} {i : Nat} (h : i < l.length) : l.drop i = l[i] :: l.drop (i + 1) := List.drop_eq_getElem_cons h
end Go.Proofs.Ytakkhomjpflkbaa.Q
set_option linter.unusedVariables false
namespace Go.Proofs.Ytakkhomjpflkbaa.Q
open Go.RowKit Go.Proofs.Ytakkhomjpflkbaa.F Go.Proofs.YtakkhomjpflkbaaW.PrintWords Go.Proofs.YtakkhomjpflkbaaW.PrintLast Go.Proofs.YtakkhomjpflkbaaW.PrintMore
abbrev WT := S97
theorem rdW {l : List WT} {i : Nat} (h : i < l.length) : rd_T97 l (i : Int) = l[i] := by
  unfold rd_T97; simp [h]
def wOk (p : Int) (w : WT) : Bool := !(decide (w.f0 ≤ p) || decide (w.f0 ≥ 8) || decide (w.f1 < 1) || decide (w.f1 > 20) || decide (w.f2 < 0) || decide (w.f2 > w.f1))
theorem wOk_iff {p : Int} {w : WT} : wOk p w = true ↔ p < w.f0 ∧ w.f0 < 8 ∧ 1 ≤ w.f1 ∧ w.f1 ≤ 20 ∧ 0 ≤ w.f2 ∧ w.f2 ≤ w.f1 := by
  unfold wOk; simp only [Bool.not_eq_true', Bool.or_eq_false_iff, decide_eq_false_iff_not]; omega
def wantsOk : Int → List WT → Bool
  | _, [] => true
  | p, w :: r => wOk p w && wantsOk w.f0 r
theorem wantsOk_len : ∀ (l : List WT) (p : Int), wantsOk p l = true → p < 8 → p + l.length < 8
  | [], p, _, hp => by simpa using hp
  | w :: r, p, h, hp => by
    simp only [wantsOk, Bool.and_eq_true] at h
    have h1 := wOk_iff.1 h.1
    have := wantsOk_len r w.f0 h.2 h1.2.1
    simp only [List.length_cons, Int.natCast_add]
    omega
theorem wantsOk_mem : ∀ (l : List WT) (p : Int), wantsOk p l = true → ∀ w ∈ l, p < w.f0 ∧ w.f0 < 8 ∧ 1 ≤ w.f1 ∧ w.f1 ≤ 20 ∧ 0 ≤ w.f2 ∧ w.f2 ≤ w.f1
  | [], p, _ => fun w h => by cases h
  | w :: r, p, h => fun x hx => by
    simp only [wantsOk, Bool.and_eq_true] at h
    have h1 := wOk_iff.1 h.1
    rcases List.mem_cons.1 hx with rfl | hx
    · exact h1
    have := wantsOk_mem r w.f0 h.2 x hx
    exact ⟨by omega, this.2⟩
def openL (l : List WT) : Bool := l.any fun w => decide (w.f2 < w.f1)
def partOk (a b c : Int) (l : List WT) : Bool := decide (1 ≤ a) && decide (a ≤ 999999) && decide (1 ≤ b) && decide (b ≤ 999999) && decide (0 ≤ c) && decide (c ≤ 1000000) && wantsOk (-1) l && decide (l ≠ [])
def stOk (s : Int) (l : List WT) : Bool := (decide (s = 1) && openL l) || (decide (s = 2) && !openL l) || decide (s = 3)
def checkR (a b c s : Int) (l : List WT) : Int := if partOk a b c l = true ∧ stOk s l = true then 0 else 40
theorem checkR_or (a b c s : Int) (l : List WT) : checkR a b c s l = 0 ∨ checkR a b c s l = 40 := by unfold checkR; split <;> simp
theorem check_wants {a b c s : Int} {l : List WT} (h : checkR a b c s l = 0) : wantsOk (-1) l = true := by
  unfold checkR at h
  by_cases g : partOk a b c l = true ∧ stOk s l = true
  · have := g.1; unfold partOk at this; simp only [Bool.and_eq_true] at this; exact this.1.2
  rw [if_neg g] at h; cases h
theorem wanted_l0 {l : List WT} (hl : l.length < 1000000) (d : Nat) : ∀ (i : Nat) (p : Int), l.length - i = d → i ≤ l.length → Ev (fun k => rma_wanted.l0 k l p l (l.length : Int) (i : Int)) (wantsOk p (l.drop i) && decide (l ≠ [])) := by
  induction d with
  | zero =>
    intro i p hd hi
    refine Ev.step (fun k => by simp only [rma_wanted.l0]; rfl) (Ev.neg (by omega) (Ev.ok ?_))
    rw [List.drop_eq_nil_of_le (by omega)]
    cases l <;> simp [wantsOk]
  | succ d ih =>
    intro i p hd hi
    have h : i < l.length := by omega
    refine Ev.step (fun k => by simp only [rma_wanted.l0]; rfl) (Ev.pos (by omega) (Ev.pos (by omega) (Ev.pos (by omega) ?_)))
    have ih' := ih (i + 1) l[i].f0 (by omega) (by omega)
    rw [rdW h, wrap_eq (x := (i : Int) + 1) (by omega) (by omega), drop_cons h]
    have bad : wOk p l[i] = false → (wantsOk p (l[i] :: l.drop (i + 1)) && decide (l ≠ [])) = false := fun h => by simp [wantsOk, h]
    have hb : ∀ {q : Prop} [Decidable q], q → (q → wOk p l[i] = false) → (false = (wantsOk p (l[i] :: l.drop (i + 1)) && decide (l ≠ []))) := fun hq hf => (bad (hf hq)).symm
    have hw : wOk p l[i] = false ↔ ¬ (p < l[i].f0 ∧ l[i].f0 < 8 ∧ 1 ≤ l[i].f1 ∧ l[i].f1 ≤ 20 ∧ 0 ≤ l[i].f2 ∧ l[i].f2 ≤ l[i].f1) := by rw [← wOk_iff]; simp
    refine Ev.ite (fun h1 => Ev.ok (hb h1 fun h1 => hw.2 (by omega))) (fun h1 => Ev.ite (fun h2 => Ev.ok (hb h2 fun h1 => hw.2 (by omega))) (fun h2 => Ev.ite (fun h3 => Ev.ok (hb h3 fun h1 => hw.2 (by omega))) (fun h3 => Ev.ite (fun h4 => Ev.ok (hb h4 fun h1 => hw.2 (by omega))) (fun h4 => Ev.ite (fun h5 => Ev.ok (hb h5 fun h1 => hw.2 (by omega))) (fun h5 => Ev.ite (fun h6 => Ev.ok (hb h6 fun h1 => hw.2 (by omega))) (fun h6 => ?_))))))
    refine Ev.eq ih' ?_
    rw [wantsOk, wOk_iff.2 (by omega), Bool.true_and]
theorem wanted_f {l : List WT} (hl : l.length < 1000000) : Ev (fun k => rma_wanted.f k l) (wantsOk (-1) l && decide (l ≠ [])) := by
  unfold rma_wanted.f
  exact wanted_l0 hl l.length 0 (-1) (by omega) (by omega)
theorem id_f (a : Int) : rma_id.f a = some (decide (1 ≤ a) && decide (a ≤ 999999)) := by
  unfold rma_id.f
  by_cases h : 1 ≤ a
  · rw [if_pos (by omega)]; simp [h]
  rw [if_neg (by omega)]; simp [h]
theorem time_f (a : Int) : policy_Time.f a = some (decide (0 ≤ a) && decide (a ≤ 1000000)) := by
  unfold policy_Time.f policy_span_has.f
  by_cases h : 0 ≤ a
  · rw [if_pos (by omega)]; simp [h]
  rw [if_neg (by omega)]; simp [h]
def firstI (p : WT → Bool) (l : List WT) : Int := match l.findIdx? p with
  | some i => i
  | none => -1
theorem firstI_at {p : WT → Bool} {l : List WT} {i : Nat} (h : i < l.length) (hp : p l[i] = true) (hn : ∀ j (hj : j < l.length), j < i → p l[j] = false) : firstI p l = i := by
  unfold firstI
  rw [List.findIdx?_eq_some_iff_getElem.2 ⟨h, hp, fun j hj => by simpa using hn j (by omega) hj⟩]
theorem firstI_none {p : WT → Bool} {l : List WT} (hn : ∀ j (hj : j < l.length), p l[j] = false) : firstI p l = -1 := by
  unfold firstI
  rw [List.findIdx?_eq_none_iff.2 (fun x hx => by obtain ⟨j, hj, rfl⟩ := List.mem_iff_getElem.1 hx; exact hn j hj)]
theorem firstI_cases (p : WT → Bool) (l : List WT) : (firstI p l = -1 ∧ ∀ j (hj : j < l.length), p l[j] = false) ∨ ∃ (i : Nat) (h : i < l.length), firstI p l = i ∧ p l[i] = true ∧ ∀ j (hj : j < l.length), j < i → p l[j] = false := by
  unfold firstI
  cases e : l.findIdx? p with
  | none => exact .inl ⟨rfl, fun j hj => List.findIdx?_eq_none_iff.1 e _ (List.getElem_mem hj)⟩
  | some i =>
    obtain ⟨h, hp, hn⟩ := List.findIdx?_eq_some_iff_getElem.1 e
    exact .inr ⟨i, h, rfl, hp, fun j hj hji => by simpa using hn j hji⟩
theorem waits_l0 {l : List WT} (hl : l.length < 1000000) (d : Nat) : ∀ (i : Nat), l.length - i = d → i ≤ l.length → (∀ j (hj : j < l.length), j < i → decide (l[j].f2 < l[j].f1) = false) → Ev (fun k => slices_IndexFunc_rma_waits.l0 k l (l.length : Int) (i : Int)) (firstI (fun w => decide (w.f2 < w.f1)) l) := by
  induction d with
  | zero =>
    intro i hd hi hn
    refine Ev.step (fun k => by simp only [slices_IndexFunc_rma_waits.l0]; rfl) (Ev.neg (by omega) (Ev.ok ?_))
    rw [firstI_none (fun j hj => hn j hj (by omega))]
  | succ d ih =>
    intro i hd hi hn
    have h : i < l.length := by omega
    refine Ev.step (fun k => by simp only [slices_IndexFunc_rma_waits.l0]; rfl) (Ev.pos (by omega) (Ev.pos (by omega) (Ev.pos (by omega) ?_)))
    rw [rdW h, wrap_eq (x := (i : Int) + 1) (by omega) (by omega)]
    refine Ev.bindc (a := decide (l[i].f2 < l[i].f1)) rfl (Ev.ite (fun h1 => Ev.ok ?_) (fun h1 => ih (i + 1) (by omega) (by omega) fun j hj hji => ?_))
    · rw [firstI_at h h1 hn]
    by_cases e : j = i
    · subst e; simpa using h1
    exact hn j hj (by omega)
theorem has_waits_f {l : List WT} (hl : l.length < 1000000) : Ev (fun k => slices_ContainsFunc_rma_waits.f k l) (openL l) := by
  unfold slices_ContainsFunc_rma_waits.f slices_IndexFunc_rma_waits.f
  refine Ev.bind (waits_l0 hl l.length 0 (by omega) (by omega) (fun j hj h => by omega)) (Ev.ok ?_)
  rcases firstI_cases (fun w => decide (w.f2 < w.f1)) l with ⟨h, hn⟩ | ⟨i, hi, h, hp, _⟩
  · rw [h]
    have : openL l = false := by
      unfold openL
      rw [List.any_eq_false]
      intro x hx
      obtain ⟨j, hj, rfl⟩ := List.mem_iff_getElem.1 hx
      simpa using hn j hj
    rw [this]; rfl
  rw [h]
  have : openL l = true := List.any_eq_true.2 ⟨l[i], List.getElem_mem hi, hp⟩
  rw [this]; simp
theorem part_iff {a b c : Int} {l : List WT} : partOk a b c l = true ↔ 1 ≤ a ∧ a ≤ 999999 ∧ 1 ≤ b ∧ b ≤ 999999 ∧ 0 ≤ c ∧ c ≤ 1000000 ∧ wantsOk (-1) l = true ∧ l ≠ [] := by
  unfold partOk; simp only [Bool.and_eq_true, decide_eq_true_eq, and_assoc]
theorem rma_check_f {a b c s : Int} {l : List WT} (hl : l.length < 1000000) : Ev (fun k => rma_Check.f k a b c s l) (checkR a b c s l) := by
  unfold rma_Check.f
  have bad : partOk a b c l = false → Ev (fun k => rma_Check.j0 k true a b c s l) (checkR a b c s l) := fun h =>
    Ev.step (fun k => by simp only [rma_Check.j0]; rfl) (Ev.pos (by trivial) (Ev.ok (by unfold checkR; rw [if_neg (fun g => by rw [h] at g; cases g.1)])))
  refine Ev.bindc (id_f a) (Ev.ite (fun h1 => ?_) (fun h1 => bad (Bool.eq_false_iff.2 fun g => h1 (by have := part_iff.1 g; simp; omega))))
  refine Ev.bindc (id_f b) (Ev.ite (fun h2 => ?_) (fun h2 => bad (Bool.eq_false_iff.2 fun g => h2 (by have := part_iff.1 g; simp; omega))))
  refine Ev.bindc (time_f c) (Ev.ite (fun h3 => ?_) (fun h3 => bad (Bool.eq_false_iff.2 fun g => h3 (by have := part_iff.1 g; simp; omega))))
  refine Ev.bind (wanted_f hl) ?_
  have hp : partOk a b c l = (wantsOk (-1) l && decide (l ≠ [])) := by
    simp only [Bool.and_eq_true, decide_eq_true_eq] at h1 h2 h3
    unfold partOk
    simp [h1, h2, h3]
  cases hw : (wantsOk (-1) l && decide (l ≠ [])) with
  | false => exact bad (by rw [hp, hw])
  | true =>
    rw [hw] at hp
    have ok : ∀ r : Int, r = (if stOk s l = true then 0 else 40) → r = checkR a b c s l := fun r h => by rw [h]; unfold checkR; simp [hp]
    refine Ev.step (fun k => by simp only [rma_Check.j0]; rfl) (Ev.neg (by simp) ?_)
    refine Ev.bind (has_waits_f hl) ?_
    have j2 : ∀ x : Bool, (x = true → stOk s l = true) → (x = false → stOk s l = decide (s = 3)) → Ev (fun k => rma_Check.j2 k x a b c s l) (checkR a b c s l) := fun x h1 h2 =>
      Ev.step (fun k => by simp only [rma_Check.j2]; rfl) (Ev.ite (fun h => Ev.ok (ok _ (by rw [if_pos (h1 h)]))) (fun h => Ev.ite (fun h3 => Ev.ok (ok _ (by rw [h2 (by simpa using h)]; simp [h3]))) (fun h3 => Ev.ok (ok _ (by rw [h2 (by simpa using h)]; simp [h3])))))
    have j1 : ∀ x : Bool, (x = true → stOk s l = true) → (x = false → ¬ (s = 1 ∧ openL l = true)) → Ev (fun k => rma_Check.j1 k (openL l) x a b c s l) (checkR a b c s l) := fun x h1 h2 =>
      Ev.step (fun k => by simp only [rma_Check.j1]; rfl) (Ev.ite (fun h => Ev.ok (ok _ (by rw [if_pos (h1 h)]))) (fun h => by
        have hx := h2 (by simpa using h)
        refine Ev.ite (fun h3 => j2 _ (fun h4 => ?_) (fun h4 => ?_)) (fun h3 => j2 _ (fun h4 => ?_) (fun h4 => ?_))
        · unfold stOk; simp_all
        · unfold stOk; simp_all
        · cases h4
        unfold stOk; cases ho : openL l <;> simp_all))
    refine Ev.ite (fun h4 => j1 _ (fun h5 => ?_) (fun h5 => ?_)) (fun h4 => j1 _ (fun h5 => ?_) (fun h5 => ?_))
    · unfold stOk; simp_all
    · simp_all
    · cases h5
    simp_all
def allL (l : List WT) : Bool := l.all fun w => decide (w.f2 = w.f1)
theorem all_l0 {l : List WT} (hl : l.length < 1000000) (d : Nat) : ∀ (i : Nat), l.length - i = d → i ≤ l.length → Ev (fun k => backhaulref27_all.l0 k l (i : Int)) (allL (l.drop i)) := by
  induction d with
  | zero =>
    intro i hd hi
    refine Ev.step (fun k => by simp only [backhaulref27_all.l0]; rfl) (Ev.neg (by omega) (Ev.ok ?_))
    rw [List.drop_eq_nil_of_le (by omega)]; rfl
  | succ d ih =>
    intro i hd hi
    have h : i < l.length := by omega
    refine Ev.step (fun k => by simp only [backhaulref27_all.l0]; rfl) (Ev.pos (by omega) (Ev.pos (by omega) ?_))
    rw [rdW h, wrap_eq (x := (i : Int) + 1) (by omega) (by omega), drop_cons h]
    refine Ev.ite (fun h1 => Ev.eq (ih (i + 1) (by omega) (by omega)) ?_) (fun h1 => Ev.ok ?_)
    · unfold allL; rw [List.all_cons, decide_eq_true h1, Bool.true_and]
    unfold allL; rw [List.all_cons, decide_eq_false h1, Bool.false_and]
theorem all_f {l : List WT} (hl : l.length < 1000000) : Ev (fun k => backhaulref27_all.f k l) (allL l) := by
  unfold backhaulref27_all.f
  exact all_l0 hl l.length 0 (by omega) (by omega)
theorem all_open {l : List WT} (h : ∀ w ∈ l, w.f2 ≤ w.f1) : allL l = !openL l := by
  induction l with
  | nil => rfl
  | cons w l ih =>
    have h1 := h w List.mem_cons_self
    have ih := ih fun x hx => h x (List.mem_cons_of_mem _ hx)
    unfold allL openL at *
    rw [List.all_cons, List.any_cons, ih, Bool.not_or]
    congr 1
    by_cases e : w.f2 < w.f1
    · rw [decide_eq_true e, decide_eq_false (by omega)]; rfl
    rw [decide_eq_false e, decide_eq_true (by omega)]; rfl
def stRef (s : Int) (l : List WT) : Bool := (decide (s = 1) && !allL l) || (decide (s = 2) && allL l) || decide (s = 3)
theorem ref_check_l0 {a b c s : Int} {l : List WT} (hl : l.length < 1000000) (d : Nat) : ∀ (i : Nat) (p : Int), l.length - i = d → i ≤ l.length → (i = 0 → p = -1) → (∀ h : i - 1 < l.length, 0 < i → p = l[i - 1].f0 ∧ 0 ≤ p) →
    Ev (fun k => backhaulref27_Check.l0 k (i : Int) a b c s l) (if wantsOk p (l.drop i) = true ∧ stRef s l = true then 0 else 40) := by
  induction d with
  | zero =>
    intro i p hd hi h0 hp
    refine Ev.step (fun k => by simp only [backhaulref27_Check.l0]; rfl) (Ev.neg (by omega) ?_)
    rw [List.drop_eq_nil_of_le (by omega)]
    have e : (if wantsOk p [] = true ∧ stRef s l = true then (0 : Int) else 40) = if stRef s l = true then 0 else 40 := by simp [wantsOk]
    rw [e]
    have fin : ∀ x : Int, x = (if stRef s l = true then 0 else 40) → Ev (fun _ => some x) (if stRef s l = true then (0 : Int) else 40) := fun x h => Ev.ok h
    refine Ev.ite (fun h1 => Ev.bind (all_f hl) (Ev.ite (fun h2 => fin _ ?_) (fun h2 => fin _ ?_))) (fun h1 => Ev.ite (fun h3 => Ev.bind (all_f hl) (Ev.ite (fun h2 => fin _ ?_) (fun h2 => fin _ ?_))) (fun h3 => Ev.ite (fun h4 => fin _ ?_) (fun h4 => fin _ ?_)))
    all_goals (unfold stRef; simp_all)
  | succ d ih =>
    intro i p hd hi h0 hp
    have h : i < l.length := by omega
    refine Ev.step (fun k => by simp only [backhaulref27_Check.l0]; rfl) (Ev.pos (by omega) (Ev.pos (by omega) ?_))
    rw [rdW h, wrap_eq (x := (i : Int) + 1) (by omega) (by omega), drop_cons h]
    have hw : wOk p l[i] = false ↔ ¬ (p < l[i].f0 ∧ l[i].f0 < 8 ∧ 1 ≤ l[i].f1 ∧ l[i].f1 ≤ 20 ∧ 0 ≤ l[i].f2 ∧ l[i].f2 ≤ l[i].f1) := by rw [← wOk_iff]; simp
    have hp0 : -1 ≤ p := by
      by_cases e : i = 0
      · rw [h0 e]; omega
      have := (hp (by omega) (by omega)).2; omega
    have bad : wOk p l[i] = false → (40 : Int) = if wantsOk p (l[i] :: l.drop (i + 1)) = true ∧ stRef s l = true then 0 else 40 := fun h => by rw [if_neg]; simp [wantsOk, h]
    refine Ev.ite (fun h1 => Ev.ok (bad (hw.2 (by omega)))) (fun h1 => Ev.ite (fun h2 => Ev.ok (bad (hw.2 (by omega)))) (fun h2 => Ev.ite (fun h3 => Ev.ok (bad (hw.2 (by omega)))) (fun h3 => Ev.ite (fun h4 => Ev.ok (bad (hw.2 (by omega)))) (fun h4 => Ev.ite (fun h5 => Ev.ok (bad (hw.2 (by omega)))) (fun h5 => Ev.ite (fun h6 => Ev.ok (bad (hw.2 (by omega)))) (fun h6 => ?_))))))
    have ih' := ih (i + 1) l[i].f0 (by omega) (by omega) (by omega) (fun h' _ => ⟨by simp, by omega⟩)
    refine Ev.ite (fun h7 => ?_) (fun h7 => ?_)
    · have hi' : i - 1 < l.length := by omega
      rw [wrap_eq (x := (i : Int) - 1) (by omega) (by omega), show (i : Int) - 1 = ((i - 1 : Nat) : Int) by omega, rdW hi']
      obtain ⟨e1, e2⟩ := hp hi' (by omega)
      refine Ev.pos (by omega) (Ev.pos (by omega) (Ev.ite (fun h8 => Ev.ok (bad (hw.2 (by omega)))) (fun h8 => ?_)))
      refine Ev.eq ih' ?_
      rw [wantsOk, wOk_iff.2 (by omega), Bool.true_and]
    have e0 := h0 (by omega)
    refine Ev.eq ih' ?_
    rw [wantsOk, wOk_iff.2 (by omega), Bool.true_and]
theorem stRef_eq {p s : Int} {l : List WT} (h : wantsOk p l = true) : stRef s l = stOk s l := by
  unfold stRef stOk
  rw [all_open fun w hw => (wantsOk_mem l p h w hw).2.2.2.2.2, Bool.not_not]
theorem ref_check_f {a b c s : Int} {l : List WT} (hl : l.length < 1000000) : Ev (fun k => backhaulref27_Check.f k a b c s l) (checkR a b c s l) := by
  unfold backhaulref27_Check.f
  have bad : partOk a b c l = false → Ev (fun k => backhaulref27_Check.j0 k true a b c s l) (checkR a b c s l) := fun h =>
    Ev.step (fun k => by simp only [backhaulref27_Check.j0]; rfl) (Ev.pos (by trivial) (Ev.ok (by unfold checkR; rw [if_neg (fun g => by rw [h] at g; cases g.1)])))
  have no : ∀ {q : Prop}, q → (partOk a b c l = true → ¬ q) → partOk a b c l = false := fun hq hf => by
    cases e : partOk a b c l with
    | false => rfl
    | true => exact absurd hq (hf e)
  have hpo : partOk a b c l = true → 1 ≤ a ∧ a ≤ 999999 ∧ 1 ≤ b ∧ b ≤ 999999 ∧ 0 ≤ c ∧ c ≤ 1000000 ∧ wantsOk (-1) l = true ∧ l ≠ [] := fun h => by
    unfold partOk at h; simp only [Bool.and_eq_true, decide_eq_true_eq] at h
    obtain ⟨⟨⟨⟨⟨⟨⟨h1, h2⟩, h3⟩, h4⟩, h5⟩, h6⟩, h7⟩, h8⟩ := h
    exact ⟨h1, h2, h3, h4, h5, h6, h7, h8⟩
  refine Ev.ite (fun h1 => bad (no h1 fun h => by have := hpo h; omega)) (fun h1 => Ev.ite (fun h2 => bad (no h2 fun h => by have := hpo h; omega)) (fun h2 => Ev.ite (fun h3 => bad (no h3 fun h => by have := hpo h; omega)) (fun h3 => Ev.ite (fun h4 => bad (no h4 fun h => by have := hpo h; omega)) (fun h4 => Ev.ite (fun h5 => bad (no h5 fun h => by have := hpo h; omega)) (fun h5 => Ev.ite (fun h6 => bad (no h6 fun h => by have := hpo h; omega)) (fun h6 => Ev.ite (fun h7 => bad (no h7 fun h h' => by have := (hpo h).2.2.2.2.2.2.2; exact this (List.eq_nil_of_length_eq_zero (by omega)))) (fun h7 => ?_)))))))
  by_cases h8 : (l.length : Int) > 8
  · rw [decide_eq_true h8]
    refine bad (no h8 fun h h' => ?_)
    have := wantsOk_len l (-1) (hpo h).2.2.2.2.2.2.1 (by omega)
    omega
  rw [decide_eq_false h8]
  refine Ev.step (fun k => by simp only [backhaulref27_Check.j0]; rfl) (Ev.neg (by simp) ?_)
  refine Ev.eq (ref_check_l0 hl l.length 0 (-1) (by omega) (by omega) (fun _ => rfl) (fun _ h => absurd h (by omega))) ?_
  have hne : l ≠ [] := fun e => h7 (by rw [e]; rfl)
  rw [List.drop_zero]
  unfold checkR
  by_cases hw : wantsOk (-1) l = true
  · rw [stRef_eq hw]
    have : partOk a b c l = true := by unfold partOk; simp [hw, hne]; omega
    rw [hw, this]
  have : ¬ partOk a b c l = true := fun h => hw (hpo h).2.2.2.2.2.2.1
  rw [if_neg (fun h => hw h.1), if_neg (fun h => this h.1)]
def placeR (l : List WT) (line : Int) : Int := firstI (fun w => decide (w.f0 = line)) l
theorem open_l0 {l : List WT} {line : Int} (hl : l.length < 1000000) (d : Nat) : ∀ (i : Nat), l.length - i = d → i ≤ l.length → (∀ j (hj : j < l.length), j < i → decide (l[j].f0 = line) = false) → Ev (fun k => slices_IndexFunc_rma_open_1_v3.l0 k l (l.length : Int) (i : Int) line) (placeR l line) := by
  induction d with
  | zero =>
    intro i hd hi hn
    refine Ev.step (fun k => by simp only [slices_IndexFunc_rma_open_1_v3.l0]; rfl) (Ev.neg (by omega) (Ev.ok ?_))
    rw [placeR, firstI_none (fun j hj => hn j hj (by omega))]
  | succ d ih =>
    intro i hd hi hn
    have h : i < l.length := by omega
    refine Ev.step (fun k => by simp only [slices_IndexFunc_rma_open_1_v3.l0]; rfl) (Ev.pos (by omega) (Ev.pos (by omega) (Ev.pos (by omega) ?_)))
    rw [rdW h, wrap_eq (x := (i : Int) + 1) (by omega) (by omega)]
    refine Ev.bindc (a := decide (l[i].f0 = line)) (by unfold rma_open_1_v3.f; rfl) (Ev.ite (fun h1 => Ev.ok ?_) (fun h1 => ih (i + 1) (by omega) (by omega) fun j hj hji => ?_))
    · rw [placeR, firstI_at h h1 hn]
    by_cases e : j = i
    · subst e; simpa using h1
    exact hn j hj (by omega)
abbrev T6 := Int × Int × Int × Int × List WT × Int
def noT (e : Int) : T6 := (0, 0, 0, 0, [], e)
theorem open_f {a b c s line : Int} {l : List WT} (hl : l.length < 1000000) : Ev (fun k => rma_open.f k a b c s l line) (if checkR a b c s l = 0 then (if s = 1 then (a, b, c, s, l, placeR l line, 0) else (0, 0, 0, 0, [], 0, 33)) else (0, 0, 0, 0, [], 0, checkR a b c s l)) := by
  unfold rma_open.f
  refine Ev.bind (rma_check_f hl) (Ev.ite (fun h1 => Ev.ite (fun h2 => Ev.pos (by omega) (Ev.pos (by omega) (Ev.pos (by simp) ?_))) (fun h2 => Ev.ok ?_)) (fun h1 => Ev.ok ?_))
  · refine Ev.bindc (a := l) rfl ?_
    unfold slices_IndexFunc_rma_open_1_v3.f
    refine Ev.bind (open_l0 hl l.length 0 (by omega) (by omega) (fun j hj h => by omega)) (Ev.ok ?_)
    rw [if_pos h1, if_pos h2]
  · rw [if_pos h1, if_neg h2]
  rw [if_neg h1]
def closeR (a b c s : Int) (l : List WT) : Int × Int × Int × Int × List WT := (a, b, c, if openL l = true then s else 2, l)
theorem closed_f {a b c s : Int} {l : List WT} (hl : l.length < 1000000) : Ev (fun k => rma_closed.f k a b c s l) (closeR a b c s l) := by
  unfold rma_closed.f closeR
  refine Ev.bind (has_waits_f hl) (Ev.ite (fun h => Ev.ok (by rw [if_pos h])) (fun h => Ev.ok (by rw [if_neg h])))
theorem place_cases (l : List WT) (line : Int) : (placeR l line = -1 ∧ ∀ j (hj : j < l.length), l[j].f0 ≠ line) ∨ ∃ (i : Nat) (h : i < l.length), placeR l line = i ∧ l[i].f0 = line ∧ ∀ j (hj : j < l.length), j < i → l[j].f0 ≠ line := by
  rcases firstI_cases (fun w => decide (w.f0 = line)) l with ⟨h, hn⟩ | ⟨i, h, e, hp, hn⟩
  · exact .inl ⟨h, fun j hj => by simpa using hn j hj⟩
  exact .inr ⟨i, h, e, by simpa using hp, fun j hj hji => by simpa using hn j hj hji⟩
def withR (a b c s : Int) (l : List WT) (i : Nat) (w : WT) : T6 := ((closeR a b c s (l.set i w)).1, (closeR a b c s (l.set i w)).2.1, (closeR a b c s (l.set i w)).2.2.1, (closeR a b c s (l.set i w)).2.2.2.1, (closeR a b c s (l.set i w)).2.2.2.2, 0)
def gotAt (l : List WT) (i : Nat) : WT := l.getD i ⟨0, 0, 0⟩
def amendR (a b c s : Int) (l : List WT) (line qty : Int) : T6 :=
  if checkR a b c s l = 0 then (if s = 1 then (if placeR l line < 0 then noT 31 else (if qty < 1 ∨ qty > 20 ∨ qty < (gotAt l (placeR l line).toNat).f2 then noT 34 else
    withR a b c s l (placeR l line).toNat ⟨(gotAt l (placeR l line).toNat).f0, qty, (gotAt l (placeR l line).toNat).f2⟩)) else noT 33) else noT 40
def takeR (a b c s : Int) (l : List WT) (line : Int) : T6 :=
  if checkR a b c s l = 0 then (if s = 1 then (if placeR l line < 0 then noT 31 else (if ¬ (gotAt l (placeR l line).toNat).f2 < (gotAt l (placeR l line).toNat).f1 then noT 34 else
    withR a b c s l (placeR l line).toNat ⟨(gotAt l (placeR l line).toNat).f0, (gotAt l (placeR l line).toNat).f1, (gotAt l (placeR l line).toNat).f2 + 1⟩)) else noT 33) else noT 40
def cancelR (a b c s : Int) (l : List WT) : T6 := if checkR a b c s l = 0 then (if s = 1 then (a, b, c, 3, l, 0) else noT 33) else noT 40
def expireR (a b c s : Int) (l : List WT) (now : Int) : Int × Int × Int × Int × List WT := (a, b, c, if checkR a b c s l = 0 ∧ s = 1 ∧ now > c then 3 else s, l)
def holdsR (a b c s : Int) (l : List WT) (line : Int) : Int := if checkR a b c s l = 0 then (if placeR l line < 0 then 0 else if s = 1 then (gotAt l (placeR l line).toNat).f1 else (gotAt l (placeR l line).toNat).f2) else 0
theorem gotAt_eq {l : List WT} {i : Nat} (h : i < l.length) : gotAt l i = l[i] := by unfold gotAt; simp [List.getD_eq_getElem?_getD, h]
theorem amend_f {a b c s line qty : Int} {l : List WT} (hl : l.length < 1000000) : Ev (fun k => rma_Amend.f k a b c s l line qty) (amendR a b c s l line qty) := by
  unfold rma_Amend.f amendR
  refine Ev.bind (open_f hl) ?_
  by_cases h1 : checkR a b c s l = 0
  · rw [if_pos h1, if_pos h1]
    by_cases h2 : s = 1
    · rw [if_pos h2, if_pos h2]
      refine Ev.pos rfl ?_
      rcases place_cases l line with ⟨e, _⟩ | ⟨i, hi, e, _⟩
      · rw [e]
        exact Ev.pos (show (-1 : Int) < 0 by decide) (Ev.ok rfl)
      rw [e, if_neg (show ¬ (i : Int) < 0 by omega)]
      simp only [Int.toNat_natCast]
      rw [gotAt_eq hi, rdW hi]
      refine Ev.neg (by omega) (Ev.ite (fun h3 => Ev.ok (by rw [if_pos (.inl h3)]; rfl)) (fun h3 => Ev.ite (fun h4 => Ev.ok (by rw [if_pos (.inr (.inl h4))]; rfl)) (fun h4 => Ev.pos (by omega) (Ev.pos (by omega) (Ev.ite (fun h5 => Ev.ok (by rw [if_pos (.inr (.inr h5))]; rfl)) (fun h5 => ?_))))))
      rw [if_neg (by omega)]
      exact Ev.bind (closed_f (by simpa using hl)) (Ev.ok rfl)
    rw [if_neg h2, if_neg h2]
    exact Ev.neg (by decide) (Ev.ok rfl)
  rw [if_neg h1, if_neg h1]
  have e := (checkR_or a b c s l).resolve_left h1
  rw [e]
  exact Ev.neg (by decide) (Ev.ok rfl)
theorem take_f {a b c s line : Int} {l : List WT} (hl : l.length < 1000000) : Ev (fun k => rma_Take.f k a b c s l line) (takeR a b c s l line) := by
  unfold rma_Take.f takeR
  refine Ev.bind (open_f hl) ?_
  by_cases h1 : checkR a b c s l = 0
  · rw [if_pos h1, if_pos h1]
    have hw := check_wants h1
    by_cases h2 : s = 1
    · rw [if_pos h2, if_pos h2]
      refine Ev.pos rfl ?_
      rcases place_cases l line with ⟨e, _⟩ | ⟨i, hi, e, _⟩
      · rw [e]
        exact Ev.pos (show (-1 : Int) < 0 by decide) (Ev.ok rfl)
      rw [e, if_neg (show ¬ (i : Int) < 0 by omega)]
      simp only [Int.toNat_natCast]
      rw [gotAt_eq hi, rdW hi]
      have hm := wantsOk_mem l (-1) hw l[i] (List.getElem_mem hi)
      rw [wrap_eq (x := l[i].f2 + 1) (by omega) (by omega)]
      refine Ev.neg (by omega) (Ev.pos (by omega) (Ev.pos (by omega) ?_))
      refine Ev.bindc (a := decide (l[i].f2 < l[i].f1)) rfl (Ev.ite (fun h3 => ?_) (fun h3 => Ev.ok (by rw [if_pos (by simpa using h3)]; rfl)))
      rw [if_neg (by simpa using h3)]
      exact Ev.bind (closed_f (by simpa using hl)) (Ev.ok rfl)
    rw [if_neg h2, if_neg h2]
    exact Ev.neg (by decide) (Ev.ok rfl)
  rw [if_neg h1, if_neg h1]
  have e := (checkR_or a b c s l).resolve_left h1
  rw [e]
  exact Ev.neg (by decide) (Ev.ok rfl)
theorem cancel_f {a b c s : Int} {l : List WT} (hl : l.length < 1000000) : Ev (fun k => rma_Cancel.f k a b c s l) (cancelR a b c s l) := by
  unfold rma_Cancel.f cancelR
  refine Ev.bind (open_f hl) ?_
  by_cases h1 : checkR a b c s l = 0
  · rw [if_pos h1, if_pos h1]
    by_cases h2 : s = 1
    · rw [if_pos h2, if_pos h2]
      exact Ev.pos rfl (Ev.ok rfl)
    rw [if_neg h2, if_neg h2]
    exact Ev.neg (by decide) (Ev.ok rfl)
  have e := (checkR_or a b c s l).resolve_left h1
  rw [if_neg h1, if_neg h1, if_neg h1]
  exact Ev.ok (by rw [e]; rfl)
theorem expire_f {a b c s now : Int} {l : List WT} (hl : l.length < 1000000) : Ev (fun k => rma_Expire.f k a b c s l now) (expireR a b c s l now) := by
  unfold rma_Expire.f expireR
  refine Ev.bind (rma_check_f hl) (Ev.ite (fun h1 => Ev.ite (fun h2 => Ev.ite (fun h3 => Ev.ok ?_) (fun h3 => Ev.ok ?_)) (fun h2 => Ev.ok ?_)) (fun h1 => Ev.ok ?_))
  · rw [if_pos ⟨h1, h2, h3⟩]
  · rw [if_neg (fun h => h3 h.2.2)]
  · rw [if_neg (fun h => h2 h.2.1)]
  rw [if_neg (fun h => h1 h.1)]
theorem holds_l0 {a b c s line : Int} {l : List WT} (hl : l.length < 1000000) (d : Nat) : ∀ (i : Nat), l.length - i = d → i ≤ l.length → (∀ j (hj : j < l.length), j < i → l[j].f0 ≠ line) → Ev (fun k => rma_Holds.l0 k line l (l.length : Int) (i : Int) a b c s l) (if placeR l line < 0 then 0 else if s = 1 then (gotAt l (placeR l line).toNat).f1 else (gotAt l (placeR l line).toNat).f2) := by
  induction d with
  | zero =>
    intro i hd hi hn
    refine Ev.step (fun k => by simp only [rma_Holds.l0]; rfl) (Ev.neg (by omega) (Ev.ok ?_))
    rcases place_cases l line with ⟨e, _⟩ | ⟨q, hq, e, h, _⟩
    · rw [e]; rfl
    exact absurd h (hn q hq (by omega))
  | succ d ih =>
    intro i hd hi hn
    have h : i < l.length := by omega
    refine Ev.step (fun k => by simp only [rma_Holds.l0]; rfl) (Ev.pos (by omega) (Ev.pos (by omega) (Ev.pos (by omega) ?_)))
    rw [rdW h]
    refine Ev.ite (fun h1 => ?_) (fun h1 => ?_)
    · have hp : placeR l line = i := firstI_at h (by simpa using h1) (fun j hj hji => by simpa using hn j hj hji)
      rw [hp, if_neg (show ¬ (i : Int) < 0 by omega)]
      simp only [Int.toNat_natCast]
      rw [gotAt_eq h]
      refine Ev.step (fun k => by simp only [rma_Holds.j1]; rfl) ?_
      by_cases h2 : s = 1
      · rw [if_pos h2]; exact Ev.pos (by simp [h2]) (Ev.ok rfl)
      rw [if_neg h2]; exact Ev.neg (by simp [h2]) (Ev.pos h1 (Ev.ok rfl))
    refine Ev.step (fun k => by simp only [rma_Holds.j1]; rfl) (Ev.neg (by simp) (Ev.neg h1 ?_))
    rw [wrap_eq (x := (i : Int) + 1) (by omega) (by omega)]
    refine ih (i + 1) (by omega) (by omega) fun j hj hji => ?_
    by_cases e : j = i
    · subst e; exact h1
    exact hn j hj (by omega)
theorem holds_f {a b c s line : Int} {l : List WT} (hl : l.length < 1000000) : Ev (fun k => rma_Holds.f k a b c s l line) (holdsR a b c s l line) := by
  unfold rma_Holds.f holdsR
  refine Ev.bind (rma_check_f hl) (Ev.ite (fun h1 => ?_) (fun h1 => Ev.ok (by rw [if_neg h1])))
  rw [if_pos h1]
  exact holds_l0 hl l.length 0 (by omega) (by omega) (fun j hj h => by omega)
theorem wrong_f {a b c s : Int} {l : List WT} (hl : l.length < 1000000) : Ev (fun k => backhaulref27_wrong.f k a b c s l) (if checkR a b c s l = 0 then (if s = 1 then 0 else 33) else 40) := by
  unfold backhaulref27_wrong.f
  refine Ev.bind (ref_check_f hl) (Ev.ite (fun h1 => Ev.ite (fun h2 => Ev.ok ?_) (fun h2 => Ev.ok ?_)) (fun h1 => Ev.ok ?_))
  · rw [if_pos h1, if_pos h2]
  · rw [if_pos h1, if_neg h2]
  rw [if_neg h1]
theorem at_l0 {a b c s line : Int} {l : List WT} (hl : l.length < 1000000) (d : Nat) : ∀ (i : Nat), l.length - i = d → i ≤ l.length → (∀ j (hj : j < l.length), j < i → l[j].f0 ≠ line) → Ev (fun k => backhaulref27_at.l0 k line (i : Int) a b c s l) (placeR l line) := by
  induction d with
  | zero =>
    intro i hd hi hn
    refine Ev.step (fun k => by simp only [backhaulref27_at.l0]; rfl) (Ev.neg (by omega) (Ev.ok ?_))
    rw [placeR, firstI_none (fun j hj => by simpa using hn j hj (by omega))]
  | succ d ih =>
    intro i hd hi hn
    have h : i < l.length := by omega
    refine Ev.step (fun k => by simp only [backhaulref27_at.l0]; rfl) (Ev.pos (by omega) (Ev.pos (by omega) ?_))
    rw [rdW h, wrap_eq (x := (i : Int) + 1) (by omega) (by omega)]
    refine Ev.ite (fun h1 => Ev.ok ?_) (fun h1 => ih (i + 1) (by omega) (by omega) fun j hj hji => ?_)
    · rw [placeR, firstI_at h (by simpa using h1) (fun j hj hji => by simpa using hn j hj hji)]
    by_cases e : j = i
    · subst e; exact h1
    exact hn j hj (by omega)
theorem at_f {a b c s line : Int} {l : List WT} (hl : l.length < 1000000) : Ev (fun k => backhaulref27_at.f k a b c s l line) (placeR l line) := by
  unfold backhaulref27_at.f
  exact at_l0 hl l.length 0 (by omega) (by omega) (fun j hj h => by omega)
theorem with_f {a b c s : Int} {l : List WT} {i : Nat} {x y z : Int} (hl : l.length < 1000000) (hi : i < l.length) (hg : ∀ w ∈ l.set i (⟨x, y, z⟩ : WT), w.f2 ≤ w.f1) : Ev (fun k => backhaulref27_with.f k a b c s l (i : Int) x y z) (closeR a b c s (l.set i ⟨x, y, z⟩)) := by
  unfold backhaulref27_with.f
  refine Ev.bindc (a := []) rfl (Ev.pos (by show 0 + l.length < _; omega) (Ev.bindc (a := l) rfl (Ev.pos (by omega) (Ev.pos (by omega) (Ev.bindc (a := l.set i ⟨x, y, z⟩) (by rw [Int.toNat_natCast]) ?_)))))
  refine Ev.bind (all_f (by simpa using hl)) ?_
  rw [all_open hg]
  unfold closeR
  refine Ev.ite (fun h => Ev.ok ?_) (fun h => Ev.ok ?_)
  · have h : openL (l.set i ⟨x, y, z⟩) = false := by simpa using h
    rw [h]; simp
  have h : openL (l.set i ⟨x, y, z⟩) = true := by simpa using h
  rw [h]; simp
theorem mem_set_le {l : List WT} {i : Nat} {w : WT} (h : ∀ x ∈ l, x.f2 ≤ x.f1) (hw : w.f2 ≤ w.f1) : ∀ x ∈ l.set i w, x.f2 ≤ x.f1 := fun x hx => by
  rcases List.mem_or_eq_of_mem_set hx with h1 | rfl
  · exact h x h1
  exact hw
theorem ref_amend_f {a b c s line qty : Int} {l : List WT} (hl : l.length < 1000000) : Ev (fun k => backhaulref27_Amend.f k a b c s l line qty) (amendR a b c s l line qty) := by
  unfold backhaulref27_Amend.f amendR
  refine Ev.bind (wrong_f hl) ?_
  by_cases h1 : checkR a b c s l = 0
  · rw [if_pos h1, if_pos h1]
    have hw := check_wants h1
    by_cases h2 : s = 1
    · rw [if_pos h2, if_pos h2]
      refine Ev.pos rfl (Ev.bind (at_f hl) ?_)
      rcases place_cases l line with ⟨e, _⟩ | ⟨i, hi, e, _⟩
      · rw [e]
        exact Ev.pos (show (-1 : Int) < 0 by decide) (Ev.ok rfl)
      rw [e, if_neg (show ¬ (i : Int) < 0 by omega)]
      simp only [Int.toNat_natCast]
      rw [gotAt_eq hi, rdW hi]
      refine Ev.neg (by omega) (Ev.pos (by omega) (Ev.pos (by omega) (Ev.ite (fun h3 => Ev.ok (by rw [if_pos (.inl h3)]; rfl)) (fun h3 => Ev.ite (fun h4 => Ev.ok (by rw [if_pos (.inr (.inl h4))]; rfl)) (fun h4 => Ev.ite (fun h5 => Ev.ok (by rw [if_pos (.inr (.inr h5))]; rfl)) (fun h5 => ?_))))))
      rw [if_neg (by omega)]
      exact Ev.bind (with_f hl hi (mem_set_le (fun x hx => (wantsOk_mem l (-1) hw x hx).2.2.2.2.2) (by show l[i].f2 ≤ qty; omega))) (Ev.ok rfl)
    rw [if_neg h2, if_neg h2]
    exact Ev.neg (by decide) (Ev.ok rfl)
  rw [if_neg h1, if_neg h1]
  exact Ev.neg (by decide) (Ev.ok rfl)
theorem ref_take_f {a b c s line : Int} {l : List WT} (hl : l.length < 1000000) : Ev (fun k => backhaulref27_Take.f k a b c s l line) (takeR a b c s l line) := by
  unfold backhaulref27_Take.f takeR
  refine Ev.bind (wrong_f hl) ?_
  by_cases h1 : checkR a b c s l = 0
  · rw [if_pos h1, if_pos h1]
    have hw := check_wants h1
    by_cases h2 : s = 1
    · rw [if_pos h2, if_pos h2]
      refine Ev.pos rfl (Ev.bind (at_f hl) ?_)
      rcases place_cases l line with ⟨e, _⟩ | ⟨i, hi, e, _⟩
      · rw [e]
        exact Ev.pos (show (-1 : Int) < 0 by decide) (Ev.ok rfl)
      rw [e, if_neg (show ¬ (i : Int) < 0 by omega)]
      simp only [Int.toNat_natCast]
      rw [gotAt_eq hi, rdW hi]
      have hm := wantsOk_mem l (-1) hw l[i] (List.getElem_mem hi)
      rw [wrap_eq (x := l[i].f2 + 1) (by omega) (by omega)]
      refine Ev.neg (by omega) (Ev.pos (by omega) (Ev.pos (by omega) (Ev.ite (fun h3 => Ev.ok (by rw [if_pos (by omega)]; rfl)) (fun h3 => ?_))))
      rw [if_neg (by omega)]
      exact Ev.bind (with_f hl hi (mem_set_le (fun x hx => (wantsOk_mem l (-1) hw x hx).2.2.2.2.2) (by show l[i].f2 + 1 ≤ l[i].f1; omega))) (Ev.ok rfl)
    rw [if_neg h2, if_neg h2]
    exact Ev.neg (by decide) (Ev.ok rfl)
  rw [if_neg h1, if_neg h1]
  exact Ev.neg (by decide) (Ev.ok rfl)
theorem ref_cancel_f {a b c s : Int} {l : List WT} (hl : l.length < 1000000) : Ev (fun k => backhaulref27_Cancel.f k a b c s l) (cancelR a b c s l) := by
  unfold backhaulref27_Cancel.f cancelR
  refine Ev.bind (wrong_f hl) ?_
  by_cases h1 : checkR a b c s l = 0
  · rw [if_pos h1, if_pos h1]
    by_cases h2 : s = 1
    · rw [if_pos h2, if_pos h2]
      exact Ev.pos rfl (Ev.ok rfl)
    rw [if_neg h2, if_neg h2]
    exact Ev.neg (by decide) (Ev.ok rfl)
  rw [if_neg h1, if_neg h1]
  exact Ev.neg (by decide) (Ev.ok rfl)
theorem ref_expire_f {a b c s now : Int} {l : List WT} (hl : l.length < 1000000) : Ev (fun k => backhaulref27_Expire.f k a b c s l now) (expireR a b c s l now) := by
  unfold backhaulref27_Expire.f expireR
  refine Ev.bind (wrong_f hl) ?_
  by_cases h1 : checkR a b c s l = 0
  · rw [if_pos h1]
    by_cases h2 : s = 1
    · rw [if_pos h2]
      refine Ev.pos rfl (Ev.ite (fun h3 => Ev.ok (by rw [if_pos ⟨h1, h2, h3⟩])) (fun h3 => Ev.ok (by rw [if_neg (fun h => h3 h.2.2)])))
    rw [if_neg h2]
    exact Ev.neg (by decide) (Ev.ok (by rw [if_neg (fun h => h2 h.2.1)]))
  rw [if_neg h1]
  exact Ev.neg (by decide) (Ev.ok (by rw [if_neg (fun h => h1 h.1)]))
theorem ref_holds_f {a b c s line : Int} {l : List WT} (hl : l.length < 1000000) : Ev (fun k => backhaulref27_Holds.f k a b c s l line) (holdsR a b c s l line) := by
  unfold backhaulref27_Holds.f holdsR
  refine Ev.bind (at_f hl) (Ev.bind (ref_check_f hl) (Ev.ite (fun h1 => ?_) (fun h1 => ?_)))
  · rw [if_pos h1]
    refine Ev.step (fun k => by simp only [backhaulref27_Holds.j0]; rfl) ?_
    rcases place_cases l line with ⟨e, _⟩ | ⟨i, hi, e, _⟩
    · rw [e]
      exact Ev.pos (show (decide ((-1 : Int) < 0)) = true by decide) (Ev.ok rfl)
    rw [e, if_neg (show ¬ (i : Int) < 0 by omega)]
    simp only [Int.toNat_natCast]
    rw [gotAt_eq hi, rdW hi]
    refine Ev.neg (by simp) (Ev.ite (fun h2 => Ev.pos (by omega) (Ev.pos (by omega) (Ev.ok (by rw [if_pos h2])))) (fun h2 => Ev.pos (by omega) (Ev.pos (by omega) (Ev.ok (by rw [if_neg h2])))))
  rw [if_neg h1]
  exact Ev.step (fun k => by simp only [backhaulref27_Holds.j0]; rfl) (Ev.pos (by trivial) (Ev.ok rfl))
instance : DecidableEq WT := fun x y => decidable_of_iff (x.f0 = y.f0 ∧ x.f1 = y.f1 ∧ x.f2 = y.f2) (by cases x; cases y; simp)
theorem want_eq (x y : WT) : (!(x.f0 == y.f0) || (!(x.f1 == y.f1) || !(x.f2 == y.f2))) = decide (x ≠ y) := by
  rw [Bool.eq_iff_iff]
  cases x with | mk a b c => cases y with | mk d e f =>
  by_cases h0 : a = d <;> by_cases h1 : b = e <;> by_cases h2 : c = f <;> simp [h0, h1, h2]
def sameR (a b c s : Int) (l : List WT) (a' b' c' s' : Int) (l' : List WT) : Bool := decide (a = a' ∧ b = b' ∧ c = c' ∧ s = s' ∧ l = l')
theorem drop_eq {l l' : List WT} {i : Nat} (h : i < l.length) (h' : i < l'.length) : (l.drop i = l'.drop i) ↔ (l[i] = l'[i] ∧ l.drop (i + 1) = l'.drop (i + 1)) := by
  rw [drop_cons h, drop_cons h', List.cons.injEq]
theorem ref_same_l0 {a b c s a' b' c' s' : Int} {l l' : List WT} (hl : l.length < 1000000) (he : l.length = l'.length) (d : Nat) : ∀ (i : Nat), l.length - i = d → i ≤ l.length → Ev (fun k => backhaulref27_Same.l0 k (i : Int) a b c s l a' b' c' s' l') (decide (l.drop i = l'.drop i)) := by
  induction d with
  | zero =>
    intro i hd hi
    refine Ev.step (fun k => by simp only [backhaulref27_Same.l0]; rfl) (Ev.neg (by omega) (Ev.ok ?_))
    rw [List.drop_eq_nil_of_le (by omega), List.drop_eq_nil_of_le (by omega)]; rfl
  | succ d ih =>
    intro i hd hi
    have h : i < l.length := by omega
    have h' : i < l'.length := by omega
    refine Ev.step (fun k => by simp only [backhaulref27_Same.l0]; rfl) (Ev.pos (by omega) (Ev.pos (by omega) (Ev.pos (by omega) ?_)))
    rw [rdW h, rdW h', wrap_eq (x := (i : Int) + 1) (by omega) (by omega), want_eq]
    refine Ev.ite (fun h1 => Ev.ok ?_) (fun h1 => Ev.eq (ih (i + 1) (by omega) (by omega)) ?_)
    · have h1 : l[i] ≠ l'[i] := of_decide_eq_true h1
      rw [decide_eq_false]
      rw [drop_eq h h']
      exact fun h => h1 h.1
    have h1 : l[i] = l'[i] := by simpa using h1
    congr 1
    rw [drop_eq h h']
    exact propext ⟨fun h => ⟨h1, h⟩, fun h => h.2⟩
theorem ref_same_f {a b c s a' b' c' s' : Int} {l l' : List WT} (hl : l.length < 1000000) : Ev (fun k => backhaulref27_Same.f k a b c s l a' b' c' s' l') (sameR a b c s l a' b' c' s' l') := by
  unfold backhaulref27_Same.f
  have bad : ¬ (a = a' ∧ b = b' ∧ c = c' ∧ s = s' ∧ l = l') → Ev (fun k => backhaulref27_Same.j0 k true a b c s l a' b' c' s' l') (sameR a b c s l a' b' c' s' l') := fun h =>
    Ev.step (fun k => by simp only [backhaulref27_Same.j0]; rfl) (Ev.pos (by trivial) (Ev.ok (decide_eq_false h).symm))
  refine Ev.ite (fun h1 => Ev.ite (fun h2 => Ev.ite (fun h3 => Ev.ite (fun h4 => ?_) (fun h4 => bad fun h => h4 h.2.2.2.1)) (fun h3 => bad fun h => h3 h.2.2.1)) (fun h2 => bad fun h => h2 h.2.1)) (fun h1 => bad fun h => h1 h.1)
  by_cases he : l.length = l'.length
  · have e : ((l.length : Int) != (l'.length : Int)) = false := by simp [he]
    rw [e]
    refine Ev.step (fun k => by simp only [backhaulref27_Same.j0]; rfl) (Ev.neg (by simp) (Ev.eq (ref_same_l0 hl he l.length 0 (by omega) (by omega)) ?_))
    unfold sameR
    rw [List.drop_zero, List.drop_zero]
    congr 1
    exact propext ⟨fun h => ⟨h1, h2, h3, h4, h⟩, fun h => h.2.2.2.2⟩
  have e : ((l.length : Int) != (l'.length : Int)) = true := by simp; omega
  rw [e]
  exact bad fun h => he (by rw [h.2.2.2.2])
theorem sameR_self (a b c s : Int) (l : List WT) : sameR a b c s l a b c s l = true := by unfold sameR; simp
theorem amend_len {a b c s line qty : Int} {l : List WT} (hl : l.length < 1000000) : (amendR a b c s l line qty).2.2.2.2.1.length < 1000000 := by
  unfold amendR noT withR closeR; (repeat' split) <;> simp <;> omega
theorem take_len {a b c s line : Int} {l : List WT} (hl : l.length < 1000000) : (takeR a b c s l line).2.2.2.2.1.length < 1000000 := by
  unfold takeR noT withR closeR; (repeat' split) <;> simp <;> omega
theorem cancel_len {a b c s : Int} {l : List WT} (hl : l.length < 1000000) : (cancelR a b c s l).2.2.2.2.1.length < 1000000 := by
  unfold cancelR noT; (repeat' split) <;> simp <;> omega
end Go.Proofs.Ytakkhomjpflkbaa.Q
namespace Go.Proofs.Ytakkhomjpflkbaa.Pure
open Go.RowKit Go.Proofs.Ytakkhomjpflkbaa.F Go.Proofs.Ytakkhomjpflkbaa.Q Go.Proofs.YtakkhomjpflkbaaW.PrintWords Go.Proofs.YtakkhomjpflkbaaW.PrintLast Go.Proofs.YtakkhomjpflkbaaW.PrintMore
theorem RmaMoves : backhaullaw27_RmaMoves.Pure := by
  intro a b c s l line n ha hb hc hs hl hline hn
  refine Ev.rounds (r := true) ?_
  unfold backhaullaw27_RmaMoves.f backhaullaw27_Few.f
  simp only [Option.bind_some]
  refine Q.Ev.ite (fun h => ?_) (fun h => Q.Ev.const rfl)
  have hl' : l.length < 1000000 := by have := of_decide_eq_true h; omega
  refine Ev.bind (amend_f hl') (Ev.bind (ref_amend_f hl') (Ev.bind (cancel_f hl') (Ev.bind (ref_cancel_f hl') (Ev.bind (take_f hl') (Ev.bind (ref_take_f hl') ?_)))))
  refine Ev.bind (ref_same_f (amend_len hl')) (Q.Ev.pos (sameR_self _ _ _ _ _) (Q.Ev.pos rfl ?_))
  refine Ev.bind (ref_same_f (cancel_len hl')) (Q.Ev.pos (sameR_self _ _ _ _ _) (Q.Ev.pos rfl ?_))
  refine Ev.bind (ref_same_f (take_len hl')) (Q.Ev.pos (sameR_self _ _ _ _ _) (Q.Ev.pos rfl ?_))
  refine Ev.bind (expire_f hl') (Ev.bind (ref_expire_f (l := l) hl') (Ev.bind (ref_same_f hl') (Q.Ev.pos (sameR_self _ _ _ _ _) ?_)))
  refine Ev.bind (holds_f (l := l) hl') (Ev.bind (ref_holds_f (l := l) hl') (Q.Ev.pos rfl (Q.Ev.const rfl)))
end Go.Proofs.Ytakkhomjpflkbaa.Pure
set_option linter.unusedVariables false
set_option linter.unusedSimpArgs false
namespace Go.Proofs.YtakkhomjpflkbaaX
open Go.RowKit Go.Proofs.YtakkhomjpflkbaaW.PrintWords Go.Proofs.YtakkhomjpflkbaaW.PrintLast Go.Proofs.YtakkhomjpflkbaaW.PrintMore
def Opens {α : Type} (P : Program) (t : TypeId) (k : Kd α) (Ok : α → Prop) : Prop :=
  ∀ {H : Type} {enc : TypeId × Value → H} {w : World} {base : Nat} {spare : Nat → Bool} {held : Bool} {fuel : Nat} {cs : List Value} {x : DataW H × List MemPlace},
    DataW.trod enc P w base spare held fuel t cs = some x → ∃ a : α, k.K w a cs ∧ Ok a
theorem Opens.int {P : Program} {t : TypeId} {k : IntKind} (ht : P.underlying t = some (.int k)) : Opens P t (Kd.int k) (fun a => (Lit.int k a).wf = true) := by
  intro H enc w base spare held fuel cs x h
  obtain ⟨n, rfl, _, hw⟩ := DataW.trod_int ht h
  exact ⟨n, rfl, hw⟩
theorem Opens.bool {P : Program} {t : TypeId} (ht : P.underlying t = some .bool) : Opens P t Kd.bool (fun _ => True) := by
  intro H enc w base spare held fuel cs x h
  obtain ⟨n, rfl, _⟩ := DataW.trod_bool ht h
  exact ⟨n, rfl, trivial⟩
theorem Opens.string {P : Program} {t : TypeId} (ht : P.underlying t = some .string) : Opens P t Kd.string (fun a => a.size ≤ maxLen) := by
  intro H enc w base spare held fuel cs x h
  obtain ⟨s, rfl, _, hw⟩ := DataW.trod_string ht h
  exact ⟨s, rfl, hw⟩
theorem list_of {α : Type} {p : Nat → α → Prop} : ∀ n, (∀ i, i < n → ∃ a, p i a) → ∃ xs : List α, xs.length = n ∧ ∀ i a, xs[i]? = some a → p i a
  | 0, _ => ⟨[], rfl, fun i a h => by simp at h⟩
  | n + 1, h => by
    obtain ⟨xs, hl, hx⟩ := list_of n (fun i hi => h i (by omega))
    obtain ⟨a, ha⟩ := h n (by omega)
    refine ⟨xs ++ [a], by simp [hl], fun i b hb => ?_⟩
    rcases Nat.lt_or_ge i xs.length with h1 | h1
    · rw [List.getElem?_append_left h1] at hb
      exact hx i b hb
    rw [List.getElem?_append_right h1] at hb
    have h2 : i - xs.length = 0 := by
      have := (List.getElem?_eq_some_iff.1 hb).1
      simp at this; omega
    rw [h2] at hb
    have : a = b := by simpa using hb
    subst this
    have : i = n := by omega
    rw [this]; exact ha
theorem Opens.slice {α : Type} {P : Program} {t e : TypeId} {k : Kd α} {Ok : α → Prop} (ht : P.underlying t = some (.slice e)) (hc : P.cellsOf e = k.sz) (h : Opens P e k Ok) :
    Opens P t (Kd.slice e k) (fun xs => xs.length ≤ maxLen ∧ ∀ x ∈ xs, Ok x) := by
  intro H enc w base spare held fuel cs x hx
  rcases Go.Deep.open_slice ht hx with ⟨rfl, rfl⟩ | ⟨a, len, cap, m, n, D, Pl, rfl, hb, hl, hm, hmm, rfl, hel⟩
  · exact ⟨[], ⟨none, 0, rfl, by simp, rfl, by simp, fun h => absurd h (by simp)⟩, by simp [maxLen], by simp⟩
  have hlm : len ≤ m := by rw [hmm]; split <;> omega
  obtain ⟨xs, hlen, hxs⟩ := list_of (p := fun i (a' : α) => ∃ cs', w.cells? base (a.add (i * P.cellsOf e)) (P.cellsOf e) = some cs' ∧ k.K w a' cs' ∧ Ok a') len (fun i hi => by
    obtain ⟨cs', h1, h2⟩ := hel i (by omega)
    obtain ⟨a', h3, h4⟩ := h h2
    exact ⟨a', cs', h1, h3, h4⟩)
  have hlm2 : len ≤ maxLen := by omega
  refine ⟨xs, ⟨some a, cap, by rw [hlen], by rw [hlen]; exact hl, rfl, by rw [hlen]; simpa [maxLen] using hlm2, fun _ => ⟨a, rfl, fun j p hj => ?_⟩⟩, by rw [hlen]; exact hlm2, fun y hy => ?_⟩
  · obtain ⟨cs', h1, h2, _⟩ := hxs j p hj
    refine ⟨cs', k.K_len h2, h2, fun i u hu => ?_⟩
    obtain ⟨_, _, h3⟩ := World.cells?_some h1
    have h4 := h3 i (by have := (List.getElem?_eq_some_iff.1 hu).1; have := k.K_len h2; omega)
    rw [← hc, ← Go.Proofs.YtakkhomjpflkbaaW.PrintWords.add_add]
    rw [← hu]; exact h4
  obtain ⟨i, hi, rfl⟩ := List.mem_iff_getElem.1 hy
  obtain ⟨_, _, _, h3⟩ := hxs i _ (List.getElem?_eq_getElem hi)
  exact h3
theorem field_reads {H : Type} {enc : TypeId × Value → H} {P : Program} {w : World} {base : Nat} {spare : Nat → Bool} {held : Bool} {fuel : Nat} {t : TypeId} {cs : List Value} {x : DataW H × List MemPlace} {fs : Array Field}
    (ht : P.underlying t = some (.struct fs)) (h : DataW.trod enc P w base spare held fuel t cs = some x) :
    cs.length = P.cellsOf t ∧ ∃ n, ∀ (i : Nat) (f : Field), fs[i]? = some f → ∃ y, DataW.trod enc P w base spare held n f.type ((cs.drop f.offset).take (P.cellsOf f.type)) = some y := by
  obtain ⟨xs, n, _, _, hl, hx, hf⟩ := DataW.trod_struct ht h
  refine ⟨hl, n, fun i f hif => ?_⟩
  rw [hf i f hif]
  have hi := (Array.getElem?_eq_some_iff.1 hif).1
  exact ⟨_, List.getElem?_eq_getElem (by rw [hx]; exact hi)⟩
theorem band {a b : Bool} (h1 : a = true) (h2 : b = true) : (a && b) = true := by rw [h1, h2]; rfl
theorem mayEnter_of {P : Program} {L c : List Char} {rest : List (List Char)} (h : P.initOrder.toList = L) (h1 : behindMainWord (wordsSigns L) = c :: rest) (h2 : ((stripLifts liftWords (c :: rest)).2.head? == some "cut".toList) = true) (h3 : P.laysLater = false) (h4 : P.bearsReflect = false) (h5 : (stripLifts liftWords (c :: rest)).1 = []) (h6 : P.doorFits [] = true) : P.mayEnter = true := by
  unfold Program.mayEnter
  rw [h, h1]
  dsimp only
  rw [h2, h3, h4, h5, h6]
  simp
theorem make_of {P : Program} {L : List Char} {rest : List (List Char)} (h : P.initOrder.toList = L) (h1 : behindMainWord (wordsSigns L) = "cut".toList :: rest) : P.make = some .cut := by
  unfold Program.make
  rw [h, h1]
  dsimp only
  rw [if_neg (by decide), if_pos (by simp)]
end Go.Proofs.YtakkhomjpflkbaaX
set_option maxRecDepth 10000
namespace Go.Proofs.Ytakkhomjpflkbaa.Join
open Go.Proofs.YtakkhomjpflkbaaX
def initSigns : List Char := ['h', 'a', 'r', 'n', 'e', 's', 's', ' ', '8', '5', '1', '9', '2', 'd', '7', '1', '7', '6', 'f', 'f', '5', '6', '1', '0', '2', '1', 'b', '4', '6', '6', '4', 'b', '6', 'a', '6', '7', 'a', '6', '8', '3', '4', '1', 'a', '9', 'f', 'e', '4', 'b', '6', 'c', 'b', '5', '5', '7', 'f', '5', 'c', 'e', '1', '9', '0', '4', '4', '3', 'f', '0', '1', 'b', '7', '6', 'a', '6', ' ', 'c', 'u', 't', ' ', 'a', 't', ' ', 'b', 'a', 'c', 'k', 'h', 'a', 'u', 'l', '/', 'b', 'a', 'c', 'k', 'h', 'a', 'u', 'l', 'l', 'a', 'w', '3', '1', '.', 'R', 'e', 'p', 'l', 'y', 'C', 'o', 'd', 'e', 's', ' ', 'b', 'a', 'c', 'k', 'h', 'a', 'u', 'l', '/', 'b', 'a', 'c', 'k', 'h', 'a', 'u', 'l', 'l', 'a', 'w', '3', '1', '.', 'R', 'e', 'p', 'l', 'y', 'B', 'a', 'c', 'k', ' ', 'b', 'a', 'c', 'k', 'h', 'a', 'u', 'l', '/', 'b', 'a', 'c', 'k', 'h', 'a', 'u', 'l', 'l', 'a', 'w', '3', '1', '.', 'R', 'e', 'p', 'l', 'y', 'O', 'n', 'l', 'y', ' ', 'b', 'a', 'c', 'k', 'h', 'a', 'u', 'l', '/', 'b', 'a', 'c', 'k', 'h', 'a', 'u', 'l', 'l', 'a', 'w', '0', '6', '.', 'S', 't', 'r', 'i', 'c', 't', 'R', 'e', 'a', 'd', 's', ' ', 'b', 'a', 'c', 'k', 'h', 'a', 'u', 'l', '/', 'b', 'a', 'c', 'k', 'h', 'a', 'u', 'l', 'l', 'a', 'w', '0', '6', '.', 'S', 't', 'r', 'i', 'c', 't', 'F', 'i', 'r', 's', 't', ' ', 'b', 'a', 'c', 'k', 'h', 'a', 'u', 'l', '/', 'b', 'a', 'c', 'k', 'h', 'a', 'u', 'l', 'l', 'a', 'w', '2', '7', '.', 'R', 'm', 'a', 'M', 'a', 'k', 'e', 's', ' ', 'b', 'a', 'c', 'k', 'h', 'a', 'u', 'l', '/', 'b', 'a', 'c', 'k', 'h', 'a', 'u', 'l', 'l', 'a', 'w', '2', '7', '.', 'R', 'm', 'a', 'M', 'o', 'v', 'e', 's', ' ', 'b', 'a', 'c', 'k', 'h', 'a', 'u', 'l', '/', 'b', 'a', 'c', 'k', 'h', 'a', 'u', 'l', 'l', 'a', 'w', '2', '7', '.', 'R', 'm', 'a', 'T', 'u', 'r', 'n', 's', ' ', 'b', 'a', 'c', 'k', 'h', 'a', 'u', 'l', '/', 'b', 'a', 'c', 'k', 'h', 'a', 'u', 'l', 'l', 'a', 'w', '2', '7', '.', 'R', 'm', 'a', 'B', 'o', 'u', 'n', 'd', 's', ' ', 'b', 'a', 'c', 'k', 'h', 'a', 'u', 'l', '/', 'b', 'a', 'c', 'k', 'h', 'a', 'u', 'l', 'l', 'a', 'w', '0', '6', '.', 'S', 't', 'r', 'i', 'c', 't', 'W', 'h', 'o', 'l', 'e', ' ', 'b', 'a', 'c', 'k', 'h', 'a', 'u', 'l', '/', 'b', 'a', 'c', 'k', 'h', 'a', 'u', 'l', 'l', 'a', 'w', '1', '4', '.', 'I', 'n', 'd', 'e', 'x', 'T', 'e', 'l', 'l', 's', ' ', 'b', 'a', 'c', 'k', 'h', 'a', 'u', 'l', '/', 'b', 'a', 'c', 'k', 'h', 'a', 'u', 'l', 'l', 'a', 'w', '1', '4', '.', 'I', 'n', 'd', 'e', 'x', 'A', 'd', 'd', 's', ' ', 'b', 'a', 'c', 'k', 'h', 'a', 'u', 'l', '/', 'b', 'a', 'c', 'k', 'h', 'a', 'u', 'l', 'l', 'a', 'w', '1', '4', '.', 'I', 'n', 'd', 'e', 'x', 'T', 'u', 'r', 'n', 's', ' ', 'b', 'a', 'c', 'k', 'h', 'a', 'u', 'l', '/', 'b', 'a', 'c', 'k', 'h', 'a', 'u', 'l', 'l', 'a', 'w', '1', '4', '.', 'I', 'n', 'd', 'e', 'x', 'W', 'h', 'o', 'l', 'e', ' ', 'b', 'a', 'c', 'k', 'h', 'a', 'u', 'l', '/', 'b', 'a', 'c', 'k', 'h', 'a', 'u', 'l', 'l', 'a', 'w', '1', '5', '.', 'B', 'a', 't', 'c', 'h', 'A', 'p', 'p', 'l', 'i', 'e', 's', ' ', 'b', 'a', 'c', 'k', 'h', 'a', 'u', 'l', '/', 'b', 'a', 'c', 'k', 'h', 'a', 'u', 'l', 'l', 'a', 'w', '1', '5', '.', 'B', 'a', 't', 'c', 'h', 'C', 'o', 'd', 'e', 's', ' ', 'b', 'a', 'c', 'k', 'h', 'a', 'u', 'l', '/', 'b', 'a', 'c', 'k', 'h', 'a', 'u', 'l', 'l', 'a', 'w', '1', '5', '.', 'B', 'a', 't', 'c', 'h', 'W', 'h', 'o', 'l', 'e', ' ', 'b', 'a', 'c', 'k', 'h', 'a', 'u', 'l', '/', 'b', 'a', 'c', 'k', 'h', 'a', 'u', 'l', 'l', 'a', 'w', '1', '5', '.', 'B', 'a', 't', 'c', 'h', 'U', 'n', 'd', 'o', ' ', 'b', 'a', 'c', 'k', 'h', 'a', 'u', 'l', '/', 'b', 'a', 'c', 'k', 'h', 'a', 'u', 'l', 'l', 'a', 'w', '1', '5', '.', 'B', 'a', 't', 'c', 'h', 'D', 'i', 'f', 'f', ' ', 'b', 'a', 'c', 'k', 'h', 'a', 'u', 'l', '/', 'b', 'a', 'c', 'k', 'h', 'a', 'u', 'l', 'l', 'a', 'w', '3', '0', '.', 'C', 'm', 'd', 'B', 'a', 'c', 'k', ' ', 'b', 'a', 'c', 'k', 'h', 'a', 'u', 'l', '/', 'b', 'a', 'c', 'k', 'h', 'a', 'u', 'l', 'l', 'a', 'w', '3', '0', '.', 'C', 'm', 'd', 'O', 'n', 'l', 'y']
theorem initText : Try.pinned.checked.prog.initOrder = String.ofList initSigns := by kernel_rfl
theorem initList : Try.pinned.checked.prog.initOrder.toList = initSigns := (congrArg String.toList initText).trans String.toList_ofList
theorem mayEnter_is : Try.pinned.checked.prog.mayEnter = true :=
  mayEnter_of (L := initSigns) (c := "cut".toList) (rest := (behindMainWord (wordsSigns initSigns)).tail) initList (by kernel_rfl) (by kernel_rfl) (by kernel_rfl) (by kernel_rfl) (by kernel_rfl) (by kernel_rfl)
theorem make_is : Try.pinned.checked.prog.make = some .cut :=
  make_of (L := initSigns) (rest := (behindMainWord (wordsSigns initSigns)).tail) initList (by kernel_rfl)
theorem lifts_is : Try.pinned.checked.prog.liftsFinal = false := by
  unfold Program.liftsFinal Program.headLifts
  rw [initList]
  kernel_rfl
end Go.Proofs.Ytakkhomjpflkbaa.Join
