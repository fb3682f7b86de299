-- merged and pruned by prune.py (the session's own program); its words go back to the kit's print
import Derived.Test.YtakkhomjpflkbaaProg
import Derived.Below
import Derived.Deep.Draws
import Derived.Deep.AppendLies
import Derived.Maps.AppendAt
import Derived.OwnWalk
import Derived.Laws.BytesArg
import Derived.Laws.MakeOwn
import Derived.Laws.OwnMore
import Derived.Deep.OwnRows
import Derived.Tactics
import Derived.Lib.ConvBytes
import Derived.Laws.Slices
import Derived.WalkKit
import Derived.KernelRfl
import Derived.RowKit3
import Derived.Deep.LoopGhost
import Derived.Deep.QuietTactic
import Derived.BigQuiet
import Derived.WideLaws
import Derived.Deep.DeepCutAuto
import Derived.Deep.CutBlock
import Derived.Deep.RegionHeld3
import Derived.Laws.Rows
import Derived.Lib.AppendStr
import Derived.ArgAppend
import Derived.Laws.IdiomCopy
import Derived.OrdersHeld
import Derived.Laws.BitsLemmas
import Derived.RowKit
import Derived.Laws.StructEq
import Derived.Deep.RegionLawGrows
import Derived.Lib.SliceRun
import Derived.Lib.OthersKept
import Derived.Lib.RuneCount
import Derived.Laws.Cover4
import Derived.Outline
import Derived.Shelf.Strings.Builder1
import Derived.Shelf.Strings.BuilderF
import Derived.Shelf.Strings.BuilderK
import Derived.Shelf.Utf8.RuneCount
import Derived.Shelf.Strings.Prefix
import Derived.Maps.Own
import Derived.Maps.OwnOps
import Derived.Maps.Views
import Derived.StringKeys
import Derived.Carry
import Derived.Laws.CopyRow
import Derived.Laws.CopyOwn
import Derived.Test.YtakkhomjpflkbaaZRmaMakes5
namespace Go.Proofs.Ytakkhomjpflkbaa.F
open Go.RowKit Go.Proofs.YtakkhomjpflkbaaX Go.Proofs.YtakkhomjpflkbaaW.PrintWords Go.Proofs.YtakkhomjpflkbaaW.PrintLast Go.Proofs.YtakkhomjpflkbaaW.PrintMore
attribute [local go_sem] max2_int min2_int max_two min_two max_three min_three max_four min_four   
attribute [local go_sem high] str_geq str_leq str_gtr
set_option linter.unusedVariables false
set_option linter.unusedSimpArgs false
mutual
def backhaulref27_Fits.j0 : Nat → Bool → Int → Int → Int → Int → List (S97) → Int → Int → List (S216) → Option (Bool)
  | 0, _, _, _, _, _, _, _, _, _ => none
  | k + 1, x21, x102000, x102001, x102002, x102003, x102004, x103000, x103001, x103002 => if x21 = true then (some false) else (backhaulref27_Fits.l0 k 0 x102000 x102001 x102002 x102003 x102004 x103000 x103001 x103002)
def backhaulref27_Fits.l0 : Nat → Int → Int → Int → Int → Int → List (S97) → Int → Int → List (S216) → Option (Bool)
  | 0, _, _, _, _, _, _, _, _, _ => none
  | k + 1, x5, x102000, x102001, x102002, x102003, x102004, x103000, x103001, x103002 => if x5 < (x102004.length : Int) then (if 0 ≤ x5 then (if ((rd_T97 x102004 x5).f0) ≥ (x103002.length : Int) then (some false) else (if 0 ≤ ((rd_T97 x102004 x5).f0) then (if ((rd_T97 x102004 x5).f0) < (x103002.length : Int) then (if ((rd_T97 x102004 x5).f1) > (((rd_T216 x103002 ((rd_T97 x102004 x5).f0)).f4).length : Int) then (some false) else (backhaulref27_Fits.l0 k (wrap64 (x5 + 1)) x102000 x102001 x102002 x102003 x102004 x103000 x103001 x103002)) else (none)) else (none))) else (none)) else (some true)
end
def backhaulref27_Fits.f (k : Nat) (a0_0 : Int) (a0_1 : Int) (a0_2 : Int) (a0_3 : Int) (l0_4 : List (S97)) (a1_0 : Int) (a1_1 : Int) (l1_2 : List (S216)) : Option (Bool) := (backhaulref27_Check.f k a0_0 a0_1 a0_2 a0_3 l0_4).bind fun t103 => (if t103 = 0 then ((backhaulref26_Check.f k a1_0 a1_1 l1_2).bind fun t104 => (if t104 = 0 then (backhaulref27_Fits.j0 k (a0_1 != a1_0) a0_0 a0_1 a0_2 a0_3 l0_4 a1_0 a1_1 l1_2) else (backhaulref27_Fits.j0 k true a0_0 a0_1 a0_2 a0_3 l0_4 a1_0 a1_1 l1_2))) else (backhaulref27_Fits.j0 k true a0_0 a0_1 a0_2 a0_3 l0_4 a1_0 a1_1 l1_2))
theorem backhaulref27_Fits.mono_l : ∀ k, (∀ y0 y1 y2 y3 y4 y5 y6 y7 y8, LeO (backhaulref27_Fits.j0 k y0 y1 y2 y3 y4 y5 y6 y7 y8) (backhaulref27_Fits.j0 (k + 1) y0 y1 y2 y3 y4 y5 y6 y7 y8)) ∧ (∀ y0 y1 y2 y3 y4 y5 y6 y7 y8, LeO (backhaulref27_Fits.l0 k y0 y1 y2 y3 y4 y5 y6 y7 y8) (backhaulref27_Fits.l0 (k + 1) y0 y1 y2 y3 y4 y5 y6 y7 y8))
  | 0 => ⟨fun _ _ _ _ _ _ _ _ _ r h => by simp [backhaulref27_Fits.j0] at h, fun _ _ _ _ _ _ _ _ _ r h => by simp [backhaulref27_Fits.l0] at h⟩
  | k + 1 => by
    obtain ⟨ih0, ih1⟩ := backhaulref27_Fits.mono_l k
    refine ⟨?_, ?_⟩
    · intro y0 y1 y2 y3 y4 y5 y6 y7 y8
      unfold backhaulref27_Fits.j0
      repeat' first
      | (with_reducible exact ih0 _ _ _ _ _ _ _ _ _)
      | (with_reducible exact ih1 _ _ _ _ _ _ _ _ _)
      | (with_reducible exact backhaulref26_Check.mono _ _ _ _)
      | (with_reducible exact backhaulref27_Check.mono _ _ _ _ _ _)
      | (with_reducible exact LeO.refl _)
      | (with_reducible exact LeO.none _)
      | (with_reducible refine LeO.ite ?_ ?_)
      | (with_reducible refine LeO.bind ?_ (fun _ => ?_))
      | exact ih0 _ _ _ _ _ _ _ _ _
      | exact ih1 _ _ _ _ _ _ _ _ _
      | exact backhaulref26_Check.mono _ _ _ _
      | exact backhaulref27_Check.mono _ _ _ _ _ _
      | exact LeO.none _
      | refine LeO.ite ?_ ?_
      | refine LeO.bind ?_ (fun _ => ?_)
    intro y0 y1 y2 y3 y4 y5 y6 y7 y8
    unfold backhaulref27_Fits.l0
    repeat' first
    | (with_reducible exact ih0 _ _ _ _ _ _ _ _ _)
    | (with_reducible exact ih1 _ _ _ _ _ _ _ _ _)
    | (with_reducible exact backhaulref26_Check.mono _ _ _ _)
    | (with_reducible exact backhaulref27_Check.mono _ _ _ _ _ _)
    | (with_reducible exact LeO.refl _)
    | (with_reducible exact LeO.none _)
    | (with_reducible refine LeO.ite ?_ ?_)
    | (with_reducible refine LeO.bind ?_ (fun _ => ?_))
    | exact ih0 _ _ _ _ _ _ _ _ _
    | exact ih1 _ _ _ _ _ _ _ _ _
    | exact backhaulref26_Check.mono _ _ _ _
    | exact backhaulref27_Check.mono _ _ _ _ _ _
    | exact LeO.none _
    | refine LeO.ite ?_ ?_
    | refine LeO.bind ?_ (fun _ => ?_)
theorem backhaulref27_Fits.mono : ∀ a0 a1 a2 a3 a4 a5 a6 a7 k, LeO (backhaulref27_Fits.f k a0 a1 a2 a3 a4 a5 a6 a7) (backhaulref27_Fits.f (k + 1) a0 a1 a2 a3 a4 a5 a6 a7) := by
  intro a0 a1 a2 a3 a4 a5 a6 a7 k
  obtain ⟨ih0, ih1⟩ := backhaulref27_Fits.mono_l k
  unfold backhaulref27_Fits.f
  repeat' first
      | (with_reducible exact ih0 _ _ _ _ _ _ _ _ _)
      | (with_reducible exact ih1 _ _ _ _ _ _ _ _ _)
      | (with_reducible exact backhaulref26_Check.mono _ _ _ _)
      | (with_reducible exact backhaulref27_Check.mono _ _ _ _ _ _)
      | (with_reducible exact LeO.refl _)
      | (with_reducible exact LeO.none _)
      | (with_reducible refine LeO.ite ?_ ?_)
      | (with_reducible refine LeO.bind ?_ (fun _ => ?_))
      | exact ih0 _ _ _ _ _ _ _ _ _
      | exact ih1 _ _ _ _ _ _ _ _ _
      | exact backhaulref26_Check.mono _ _ _ _
      | exact backhaulref27_Check.mono _ _ _ _ _ _
      | exact LeO.none _
      | refine LeO.ite ?_ ?_
      | refine LeO.bind ?_ (fun _ => ?_)
set_option maxHeartbeats 8000000 in
set_option maxRecDepth 100000 in
theorem backhaulref27_Fits.calls (k : Nat) (a0_0 : Int) (a0_1 : Int) (a0_2 : Int) (a0_3 : Int) (A0_4 : Option Addr) (c0_4 : Nat) (l0_4 : List (S97)) (a1_0 : Int) (a1_1 : Int) (A1_2 : Option Addr) (c1_2 : Nat) (l1_2 : List (S216)) (r : Bool) (w : World) (hr0_4 : Kd.C k97 w A0_4 l0_4.length l0_4) (hc0_4 : l0_4.length ≤ c0_4) (hr1_2 : Kd.C k216 w A1_2 l1_2.length l1_2) (hc1_2 : l1_2.length ≤ c1_2) (h : backhaulref27_Fits.f k a0_0 a0_1 a0_2 a0_3 l0_4 a1_0 a1_1 l1_2 = some r) :
    Calls Try.prog 55 #[.agg #[.int .i64 a0_0, .int .i64 a0_1, .int .i64 a0_2, .int .i64 a0_3, .slice A0_4 l0_4.length c0_4], .agg #[.int .i64 a1_0, .int .i64 a1_1, .slice A1_2 l1_2.length c1_2]] w fun e w' => e = .returned (.bool r) ∧ Below w.heap.size w w' := by
  have hu70 := Try.underlying70
  have hu73 := Try.underlying73
  have HR0_4 := zA hr0_4
  have HC0_4 := zA hc0_4
  clear hr0_4 hc0_4
  have HR1_2 := zA hr1_2
  have HC1_2 := zA hc1_2
  clear hr1_2 hc1_2
  have HB := zA (Below.refl w.heap.size w)
  have H : ((backhaulref27_Check.f k a0_0 a0_1 a0_2 a0_3 l0_4).bind fun t103 => (if t103 = 0 then ((backhaulref26_Check.f k a1_0 a1_1 l1_2).bind fun t104 => (if t104 = 0 then (backhaulref27_Fits.j0 k (a0_1 != a1_0) a0_0 a0_1 a0_2 a0_3 l0_4 a1_0 a1_1 l1_2) else (backhaulref27_Fits.j0 k true a0_0 a0_1 a0_2 a0_3 l0_4 a1_0 a1_1 l1_2))) else (backhaulref27_Fits.j0 k true a0_0 a0_1 a0_2 a0_3 l0_4 a1_0 a1_1 l1_2))) = some r := h
  clear h
  have HC3 := zA H
  clear H
  go_enter Try.func55, Try.ntmps55
  go_upto_region 1 with (first | ((with_reducible refine gate_dst (N := 2) rfl ?_); (try (refine gate_guard (by rfl) ?_; dsimp only)); refine box_event qr (N := 2) qr (cs := #[.int .i64 a0_0, .int .i64 a0_1, .int .i64 a0_2, .int .i64 a0_3, .slice A0_4 l0_4.length c0_4]) (t := 70) qg ?_; intro gb101 hg w4 hbox hb; have n0_ := zA (zV qB hb); have n1_ := zA (hbox); have n2_ := zA ((qS : w.heap.size ≤ gb101)); have n3_ := zA ((qS : w.heap.size ≤ gb101)); clear HB; have HB := n0_; have BK101 := n1_; have GW101 := n2_; have GE101 := n3_; clear n0_ n1_ n2_ n3_ hb hbox hg) | ((with_reducible refine gate_dst (N := 3) rfl ?_); (try (refine gate_guard (by rfl) ?_; dsimp only)); refine box_event qr (N := 3) qr (cs := #[.int .i64 a1_0, .int .i64 a1_1, .slice A1_2 l1_2.length c1_2]) (t := 73) qg ?_; intro gb102 hg w5 hbox hb; have n0_ := zA (qX BK101.out hb); have n1_ := zA (zV qB hb); have n2_ := zA (hbox); have n3_ := zA ((qS : w.heap.size ≤ gb102)); have n4_ := zA ((qS : w.heap.size ≤ gb102)); have n5_ := zA ((by rw [hg]; exact zLq (qL BK101.out) : gb101 ≠ gb102)); have n6_ := zA ((by rw [hg]; exact zMq (qL BK101.out) : gb102 ≠ gb101)); clear BK101 HB; have BK101 := n0_; have HB := n1_; have BK102 := n2_; have GW102 := n3_; have GE102 := n4_; have NB101_102 := n5_; have NB102_101 := n6_; clear n0_ n1_ n2_ n3_ n4_ n5_ n6_ hb hbox hg))
  repeat (go_quiet (first | ((with_reducible refine gate_dst (N := 2) rfl ?_); (try (refine gate_guard (by rfl) ?_; dsimp only)); refine box_event qr (N := 2) qr (cs := #[.int .i64 a0_0, .int .i64 a0_1, .int .i64 a0_2, .int .i64 a0_3, .slice A0_4 l0_4.length c0_4]) (t := 70) qg ?_; intro gb101 hg w4 hbox hb; have n0_ := zA (zV qB hb); have n1_ := zA (hbox); have n2_ := zA ((qS : w.heap.size ≤ gb101)); have n3_ := zA ((qS : w.heap.size ≤ gb101)); clear HB; have HB := n0_; have BK101 := n1_; have GW101 := n2_; have GE101 := n3_; clear n0_ n1_ n2_ n3_ hb hbox hg) | ((with_reducible refine gate_dst (N := 3) rfl ?_); (try (refine gate_guard (by rfl) ?_; dsimp only)); refine box_event qr (N := 3) qr (cs := #[.int .i64 a1_0, .int .i64 a1_1, .slice A1_2 l1_2.length c1_2]) (t := 73) qg ?_; intro gb102 hg w5 hbox hb; have n0_ := zA (qX BK101.out hb); have n1_ := zA (zV qB hb); have n2_ := zA (hbox); have n3_ := zA ((qS : w.heap.size ≤ gb102)); have n4_ := zA ((qS : w.heap.size ≤ gb102)); have n5_ := zA ((by rw [hg]; exact zLq (qL BK101.out) : gb101 ≠ gb102)); have n6_ := zA ((by rw [hg]; exact zMq (qL BK101.out) : gb102 ≠ gb101)); clear BK101 HB; have BK101 := n0_; have HB := n1_; have BK102 := n2_; have GW102 := n3_; have GE102 := n4_; have NB101_102 := n5_; have NB102_101 := n6_; clear n0_ n1_ n2_ n3_ n4_ n5_ n6_ hb hbox hg)); go_upto_region 1 with (first | ((with_reducible refine gate_dst (N := 2) rfl ?_); (try (refine gate_guard (by rfl) ?_; dsimp only)); refine box_event qr (N := 2) qr (cs := #[.int .i64 a0_0, .int .i64 a0_1, .int .i64 a0_2, .int .i64 a0_3, .slice A0_4 l0_4.length c0_4]) (t := 70) qg ?_; intro gb101 hg w4 hbox hb; have n0_ := zA (zV qB hb); have n1_ := zA (hbox); have n2_ := zA ((qS : w.heap.size ≤ gb101)); have n3_ := zA ((qS : w.heap.size ≤ gb101)); clear HB; have HB := n0_; have BK101 := n1_; have GW101 := n2_; have GE101 := n3_; clear n0_ n1_ n2_ n3_ hb hbox hg) | ((with_reducible refine gate_dst (N := 3) rfl ?_); (try (refine gate_guard (by rfl) ?_; dsimp only)); refine box_event qr (N := 3) qr (cs := #[.int .i64 a1_0, .int .i64 a1_1, .slice A1_2 l1_2.length c1_2]) (t := 73) qg ?_; intro gb102 hg w5 hbox hb; have n0_ := zA (qX BK101.out hb); have n1_ := zA (zV qB hb); have n2_ := zA (hbox); have n3_ := zA ((qS : w.heap.size ≤ gb102)); have n4_ := zA ((qS : w.heap.size ≤ gb102)); have n5_ := zA ((by rw [hg]; exact zLq (qL BK101.out) : gb101 ≠ gb102)); have n6_ := zA ((by rw [hg]; exact zMq (qL BK101.out) : gb102 ≠ gb101)); clear BK101 HB; have BK101 := n0_; have HB := n1_; have BK102 := n2_; have GW102 := n3_; have GE102 := n4_; have NB101_102 := n5_; have NB102_101 := n6_; clear n0_ n1_ n2_ n3_ n4_ n5_ n6_ hb hbox hg)))
  (try simp only [Act.put, zH, zI, zJ])
  go_cut [21] (fun v21 wc => ∃ (kq : Nat) (x21_2 : Bool), v21 = .bool x21_2 ∧ Aside0 (backhaulref27_Fits.j0 kq x21_2 a0_0 a0_1 a0_2 a0_3 l0_4 a1_0 a1_1 l1_2 = some r) ∧ Aside0 (kq ≤ k) ∧ Aside0 (wc.heap[gb101]? = some (.cells #[.int .i64 a0_0, .int .i64 a0_1, .int .i64 a0_2, .int .i64 a0_3, (.slice A0_4 l0_4.length c0_4)] 70 (0, 0))) ∧ Aside0 (wc.heap[gb102]? = some (.cells #[.int .i64 a1_0, .int .i64 a1_1, (.slice A1_2 l1_2.length c1_2)] 73 (0, 0))) ∧ Aside0 (Below w.heap.size w wc))
  case first =>
    have H := HC3.out; clear HC3; replace H := Option.bind_eq_some_iff.mp H; obtain ⟨t103, A60, H⟩ := H; replace H : (if t103 = 0 then ((backhaulref26_Check.f k a1_0 a1_1 l1_2).bind fun t104 => (if t104 = 0 then (backhaulref27_Fits.j0 k (a0_1 != a1_0) a0_0 a0_1 a0_2 a0_3 l0_4 a1_0 a1_1 l1_2) else (backhaulref27_Fits.j0 k true a0_0 a0_1 a0_2 a0_3 l0_4 a1_0 a1_1 l1_2))) else (backhaulref27_Fits.j0 k true a0_0 a0_1 a0_2 a0_3 l0_4 a1_0 a1_1 l1_2)) = some r := H; have A6 := zA A60; clear A60; by_cases c7 : t103 = 0
    · rw [if_pos c7] at H
      have c7b0 : (t103 == 0) = true := beq_iff_eq.mpr c7; have c7b1 : (t103 != 0) = false := bne_eq_false_iff_eq.mpr c7; clear c7; (first | rw [c7b0] | (simp only [i64_w, i32_w]; rw [c7b0]) | skip)
      replace H := Option.bind_eq_some_iff.mp H; obtain ⟨t104, A80, H⟩ := H; replace H : (if t104 = 0 then (backhaulref27_Fits.j0 k (a0_1 != a1_0) a0_0 a0_1 a0_2 a0_3 l0_4 a1_0 a1_1 l1_2) else (backhaulref27_Fits.j0 k true a0_0 a0_1 a0_2 a0_3 l0_4 a1_0 a1_1 l1_2)) = some r := H; have A8 := zA A80; clear A80; by_cases c9 : t104 = 0
      · rw [if_pos c9] at H
        have c9b0 : (t104 == 0) = true := beq_iff_eq.mpr c9; have c9b1 : (t104 != 0) = false := bne_eq_false_iff_eq.mpr c9; clear c9; have H' := zA H; clear H; have hnb10 := NB101_102.out; have hnc10 := NB102_101.out; obtain ⟨_, _, _, _, _, _, _, _, _, _⟩ := qc5f BK101.out; go_wp2_with (first | (go_at_call 53; (with_reducible refine (backhaulref27_Check.calls k a0_0 a0_1 a0_2 a0_3 _ _ l0_4 t103 _ ?side1 ?side2 A6.out).mono ?_); (case side1 => exact qC (Kd.C_below HR0_4.out HB.out)); (case side2 => exact HC0_4.out); rintro e w12 ⟨rfl, hb⟩; have n0_ := zA (qX BK101.out hb); have n1_ := zA (qX BK102.out hb); have n2_ := zA (zV qB hb); clear BK101 BK102 HB; have BK101 := n0_; have BK102 := n1_; have HB := n2_; clear n0_ n1_ n2_; (try clear hb); (try clear hb2); (try clear hk); (try clear hi); obtain ⟨hcz13_0, hcz13_1, hcz13_2, hfz13_0, hfz13_1, hfz13_2⟩ := qc3f BK102.out) | (go_at_call 149; (with_reducible refine (backhaulref26_Check.calls k a1_0 a1_1 _ _ l1_2 t104 _ ?side1 ?side2 A8.out).mono ?_); (case side1 => exact qC (Kd.C_below HR1_2.out HB.out)); (case side2 => exact HC1_2.out); rintro e w14 ⟨rfl, hb⟩; have n0_ := zA (qX BK101.out hb); have n1_ := zA (qX BK102.out hb); have n2_ := zA (zV qB hb); clear BK101 BK102 HB; have BK101 := n0_; have BK102 := n1_; have HB := n2_; clear n0_ n1_ n2_; (try clear hb); (try clear hb2); (try clear hk); (try clear hi); obtain ⟨hcz15_0, hcz15_1, hcz15_2, hcz15_3, hcz15_4, hfz15_0, hfz15_1, hfz15_2, hfz15_3, hfz15_4⟩ := qc5f BK101.out; obtain ⟨hcz16_0, hcz16_1, hcz16_2, hfz16_0, hfz16_1, hfz16_2⟩ := qc3f BK102.out)); repeat (go_quiet (first | (go_at_call 53; (with_reducible refine (backhaulref27_Check.calls k a0_0 a0_1 a0_2 a0_3 _ _ l0_4 t103 _ ?side1 ?side2 A6.out).mono ?_); (case side1 => exact qC (Kd.C_below HR0_4.out HB.out)); (case side2 => exact HC0_4.out); rintro e w12 ⟨rfl, hb⟩; have n0_ := zA (qX BK101.out hb); have n1_ := zA (qX BK102.out hb); have n2_ := zA (zV qB hb); clear BK101 BK102 HB; have BK101 := n0_; have BK102 := n1_; have HB := n2_; clear n0_ n1_ n2_; (try clear hb); (try clear hb2); (try clear hk); (try clear hi); obtain ⟨hcz13_0, hcz13_1, hcz13_2, hfz13_0, hfz13_1, hfz13_2⟩ := qc3f BK102.out) | (go_at_call 149; (with_reducible refine (backhaulref26_Check.calls k a1_0 a1_1 _ _ l1_2 t104 _ ?side1 ?side2 A8.out).mono ?_); (case side1 => exact qC (Kd.C_below HR1_2.out HB.out)); (case side2 => exact HC1_2.out); rintro e w14 ⟨rfl, hb⟩; have n0_ := zA (qX BK101.out hb); have n1_ := zA (qX BK102.out hb); have n2_ := zA (zV qB hb); clear BK101 BK102 HB; have BK101 := n0_; have BK102 := n1_; have HB := n2_; clear n0_ n1_ n2_; (try clear hb); (try clear hb2); (try clear hk); (try clear hi); obtain ⟨hcz15_0, hcz15_1, hcz15_2, hcz15_3, hcz15_4, hfz15_0, hfz15_1, hfz15_2, hfz15_3, hfz15_4⟩ := qc5f BK101.out; obtain ⟨hcz16_0, hcz16_1, hcz16_2, hfz16_0, hfz16_1, hfz16_2⟩ := qc3f BK102.out)); try go_wp2_with (first | (go_at_call 53; (with_reducible refine (backhaulref27_Check.calls k a0_0 a0_1 a0_2 a0_3 _ _ l0_4 t103 _ ?side1 ?side2 A6.out).mono ?_); (case side1 => exact qC (Kd.C_below HR0_4.out HB.out)); (case side2 => exact HC0_4.out); rintro e w12 ⟨rfl, hb⟩; have n0_ := zA (qX BK101.out hb); have n1_ := zA (qX BK102.out hb); have n2_ := zA (zV qB hb); clear BK101 BK102 HB; have BK101 := n0_; have BK102 := n1_; have HB := n2_; clear n0_ n1_ n2_; (try clear hb); (try clear hb2); (try clear hk); (try clear hi); obtain ⟨hcz13_0, hcz13_1, hcz13_2, hfz13_0, hfz13_1, hfz13_2⟩ := qc3f BK102.out) | (go_at_call 149; (with_reducible refine (backhaulref26_Check.calls k a1_0 a1_1 _ _ l1_2 t104 _ ?side1 ?side2 A8.out).mono ?_); (case side1 => exact qC (Kd.C_below HR1_2.out HB.out)); (case side2 => exact HC1_2.out); rintro e w14 ⟨rfl, hb⟩; have n0_ := zA (qX BK101.out hb); have n1_ := zA (qX BK102.out hb); have n2_ := zA (zV qB hb); clear BK101 BK102 HB; have BK101 := n0_; have BK102 := n1_; have HB := n2_; clear n0_ n1_ n2_; (try clear hb); (try clear hb2); (try clear hk); (try clear hi); obtain ⟨hcz15_0, hcz15_1, hcz15_2, hcz15_3, hcz15_4, hfz15_0, hfz15_1, hfz15_2, hfz15_3, hfz15_4⟩ := qc5f BK101.out; obtain ⟨hcz16_0, hcz16_1, hcz16_2, hfz16_0, hfz16_1, hfz16_2⟩ := qc3f BK102.out)))
        go_meet
        case rel => exact ⟨_, ((a0_1 != a1_0)), (by first | rfl | (simp; done) | (simp [*]; done)), H', ⟨by first | omega | exact Nat.le_refl _⟩, ⟨by exact BK101.out⟩, ⟨by exact BK102.out⟩, ⟨qB⟩⟩
      rw [if_neg c9] at H; have c9b0 : (t104 == 0) = false := beq_eq_false_iff_ne.mpr c9; have c9b1 : (t104 != 0) = true := bne_iff_ne.mpr c9; have H' := zA H; clear H; have hnb17 := NB101_102.out; have hnc17 := NB102_101.out; obtain ⟨_, _, _, _, _, _, _, _, _, _⟩ := qc5f BK101.out; go_wp2_with (first | (go_at_call 53; (with_reducible refine (backhaulref27_Check.calls k a0_0 a0_1 a0_2 a0_3 _ _ l0_4 t103 _ ?side1 ?side2 A6.out).mono ?_); (case side1 => exact qC (Kd.C_below HR0_4.out HB.out)); (case side2 => exact HC0_4.out); rintro e w19 ⟨rfl, hb⟩; have n0_ := zA (qX BK101.out hb); have n1_ := zA (qX BK102.out hb); have n2_ := zA (zV qB hb); clear BK101 BK102 HB; have BK101 := n0_; have BK102 := n1_; have HB := n2_; clear n0_ n1_ n2_; (try clear hb); (try clear hb2); (try clear hk); (try clear hi); obtain ⟨hcz20_0, hcz20_1, hcz20_2, hfz20_0, hfz20_1, hfz20_2⟩ := qc3f BK102.out) | (go_at_call 149; (with_reducible refine (backhaulref26_Check.calls k a1_0 a1_1 _ _ l1_2 t104 _ ?side1 ?side2 A8.out).mono ?_); (case side1 => exact qC (Kd.C_below HR1_2.out HB.out)); (case side2 => exact HC1_2.out); rintro e w21 ⟨rfl, hb⟩; have n0_ := zA (qX BK101.out hb); have n1_ := zA (qX BK102.out hb); have n2_ := zA (zV qB hb); clear BK101 BK102 HB; have BK101 := n0_; have BK102 := n1_; have HB := n2_; clear n0_ n1_ n2_; (try clear hb); (try clear hb2); (try clear hk); (try clear hi))); repeat (go_quiet (first | (go_at_call 53; (with_reducible refine (backhaulref27_Check.calls k a0_0 a0_1 a0_2 a0_3 _ _ l0_4 t103 _ ?side1 ?side2 A6.out).mono ?_); (case side1 => exact qC (Kd.C_below HR0_4.out HB.out)); (case side2 => exact HC0_4.out); rintro e w19 ⟨rfl, hb⟩; have n0_ := zA (qX BK101.out hb); have n1_ := zA (qX BK102.out hb); have n2_ := zA (zV qB hb); clear BK101 BK102 HB; have BK101 := n0_; have BK102 := n1_; have HB := n2_; clear n0_ n1_ n2_; (try clear hb); (try clear hb2); (try clear hk); (try clear hi); obtain ⟨hcz20_0, hcz20_1, hcz20_2, hfz20_0, hfz20_1, hfz20_2⟩ := qc3f BK102.out) | (go_at_call 149; (with_reducible refine (backhaulref26_Check.calls k a1_0 a1_1 _ _ l1_2 t104 _ ?side1 ?side2 A8.out).mono ?_); (case side1 => exact qC (Kd.C_below HR1_2.out HB.out)); (case side2 => exact HC1_2.out); rintro e w21 ⟨rfl, hb⟩; have n0_ := zA (qX BK101.out hb); have n1_ := zA (qX BK102.out hb); have n2_ := zA (zV qB hb); clear BK101 BK102 HB; have BK101 := n0_; have BK102 := n1_; have HB := n2_; clear n0_ n1_ n2_; (try clear hb); (try clear hb2); (try clear hk); (try clear hi))); try go_wp2_with (first | (go_at_call 53; (with_reducible refine (backhaulref27_Check.calls k a0_0 a0_1 a0_2 a0_3 _ _ l0_4 t103 _ ?side1 ?side2 A6.out).mono ?_); (case side1 => exact qC (Kd.C_below HR0_4.out HB.out)); (case side2 => exact HC0_4.out); rintro e w19 ⟨rfl, hb⟩; have n0_ := zA (qX BK101.out hb); have n1_ := zA (qX BK102.out hb); have n2_ := zA (zV qB hb); clear BK101 BK102 HB; have BK101 := n0_; have BK102 := n1_; have HB := n2_; clear n0_ n1_ n2_; (try clear hb); (try clear hb2); (try clear hk); (try clear hi); obtain ⟨hcz20_0, hcz20_1, hcz20_2, hfz20_0, hfz20_1, hfz20_2⟩ := qc3f BK102.out) | (go_at_call 149; (with_reducible refine (backhaulref26_Check.calls k a1_0 a1_1 _ _ l1_2 t104 _ ?side1 ?side2 A8.out).mono ?_); (case side1 => exact qC (Kd.C_below HR1_2.out HB.out)); (case side2 => exact HC1_2.out); rintro e w21 ⟨rfl, hb⟩; have n0_ := zA (qX BK101.out hb); have n1_ := zA (qX BK102.out hb); have n2_ := zA (zV qB hb); clear BK101 BK102 HB; have BK101 := n0_; have BK102 := n1_; have HB := n2_; clear n0_ n1_ n2_; (try clear hb); (try clear hb2); (try clear hk); (try clear hi))))
      go_meet
      case rel => exact ⟨_, (true), (by first | rfl | (simp; done) | (simp [*]; done)), H', ⟨by first | omega | exact Nat.le_refl _⟩, ⟨by exact BK101.out⟩, ⟨by exact BK102.out⟩, ⟨qB⟩⟩
    rw [if_neg c7] at H; have c7b0 : (t103 == 0) = false := beq_eq_false_iff_ne.mpr c7; have c7b1 : (t103 != 0) = true := bne_iff_ne.mpr c7; (first | rw [c7b0] | (simp only [i64_w, i32_w]; rw [c7b0]) | skip)
    have H' := zA H; clear H; have hnb22 := NB101_102.out; have hnc22 := NB102_101.out; obtain ⟨_, _, _, _, _, _, _, _, _, _⟩ := qc5f BK101.out; go_wp2_with (first | (go_at_call 53; (with_reducible refine (backhaulref27_Check.calls k a0_0 a0_1 a0_2 a0_3 _ _ l0_4 t103 _ ?side1 ?side2 A6.out).mono ?_); (case side1 => exact qC (Kd.C_below HR0_4.out HB.out)); (case side2 => exact HC0_4.out); rintro e w24 ⟨rfl, hb⟩; have n0_ := zA (qX BK101.out hb); have n1_ := zA (qX BK102.out hb); have n2_ := zA (zV qB hb); clear BK101 BK102 HB; have BK101 := n0_; have BK102 := n1_; have HB := n2_; clear n0_ n1_ n2_; (try clear hb); (try clear hb2); (try clear hk); (try clear hi))); repeat (go_quiet (first | (go_at_call 53; (with_reducible refine (backhaulref27_Check.calls k a0_0 a0_1 a0_2 a0_3 _ _ l0_4 t103 _ ?side1 ?side2 A6.out).mono ?_); (case side1 => exact qC (Kd.C_below HR0_4.out HB.out)); (case side2 => exact HC0_4.out); rintro e w24 ⟨rfl, hb⟩; have n0_ := zA (qX BK101.out hb); have n1_ := zA (qX BK102.out hb); have n2_ := zA (zV qB hb); clear BK101 BK102 HB; have BK101 := n0_; have BK102 := n1_; have HB := n2_; clear n0_ n1_ n2_; (try clear hb); (try clear hb2); (try clear hk); (try clear hi))); try go_wp2_with (first | (go_at_call 53; (with_reducible refine (backhaulref27_Check.calls k a0_0 a0_1 a0_2 a0_3 _ _ l0_4 t103 _ ?side1 ?side2 A6.out).mono ?_); (case side1 => exact qC (Kd.C_below HR0_4.out HB.out)); (case side2 => exact HC0_4.out); rintro e w24 ⟨rfl, hb⟩; have n0_ := zA (qX BK101.out hb); have n1_ := zA (qX BK102.out hb); have n2_ := zA (zV qB hb); clear BK101 BK102 HB; have BK101 := n0_; have BK102 := n1_; have HB := n2_; clear n0_ n1_ n2_; (try clear hb); (try clear hb2); (try clear hk); (try clear hi))))
    go_meet
    case rel => exact ⟨_, (true), (by first | rfl | (simp; done) | (simp [*]; done)), H', ⟨by first | omega | exact Nat.le_refl _⟩, ⟨by exact BK101.out⟩, ⟨by exact BK102.out⟩, ⟨qB⟩⟩
  case rest =>
    clear HC3; try clear c1
    try clear c2
    try clear p2
    try clear c5
    try clear c7
    try clear c7b0
    try clear c7b1
    try clear c9
    try clear c9b0
    try clear c9b1
    try clear c10
    try clear c17
    try clear c22
    try clear hcz13_0
    try clear hcz13_1
    try clear hcz13_2
    try clear hcz15_0
    try clear hcz15_1
    try clear hcz15_2
    try clear hcz15_3
    try clear hcz15_4
    try clear hcz16_0
    try clear hcz16_1
    try clear hcz16_2
    try clear hcz20_0
    try clear hcz20_1
    try clear hcz20_2
    try clear hfz13_0
    try clear hfz13_1
    try clear hfz13_2
    try clear hfz15_0
    try clear hfz15_1
    try clear hfz15_2
    try clear hfz15_3
    try clear hfz15_4
    try clear hfz16_0
    try clear hfz16_1
    try clear hfz16_2
    try clear hfz20_0
    try clear hfz20_1
    try clear hfz20_2
    obtain ⟨kq, x21_2, rfl, HA, HJ2, BK101, BK102, HB⟩ := hcut; cases kq with
    | zero => exact absurd HA.out (by simp [backhaulref27_Fits.j0])
    | succ kj2 =>
      have H := HA.out; clear HA; simp only [backhaulref27_Fits.j0] at H; by_cases c25 : x21_2 = true
      · subst c25
        have H1 : (some false) = some r := by first | (rw [if_pos rfl] at H; exact H) | rfl
        clear H; have H := H1; clear H1; obtain rfl := zKq H; go_wp2; repeat (go_quiet (fail); try go_wp2)
        go_ret; exact ⟨qE, qB⟩
      replace c25 := Bool.eq_false_iff.mpr c25; subst c25; have H1 : (backhaulref27_Fits.l0 kj2 0 a0_0 a0_1 a0_2 a0_3 l0_4 a1_0 a1_1 l1_2) = some r := by first | (rw [if_neg (show ¬ (false = true) by decide)] at H; exact H) | rfl
      clear H; have H := H1; clear H1; have H' := zA H; clear H; go_wp2; repeat (go_quiet (fail); try go_wp2)
      go_loopg [5] kj2 (fun kq v5 w' => ∃ (x5_2 : Int), v5 = .int .i64 x5_2 ∧ Aside0 (backhaulref27_Fits.l0 kq x5_2 a0_0 a0_1 a0_2 a0_3 l0_4 a1_0 a1_1 l1_2 = some r) ∧ Aside0 (kq ≤ kj2) ∧ Aside0 (w'.heap[gb101]? = some (.cells #[.int .i64 a0_0, .int .i64 a0_1, .int .i64 a0_2, .int .i64 a0_3, (.slice A0_4 l0_4.length c0_4)] 70 (0, 0))) ∧ Aside0 (w'.heap[gb102]? = some (.cells #[.int .i64 a1_0, .int .i64 a1_1, (.slice A1_2 l1_2.length c1_2)] 73 (0, 0))) ∧ Aside0 (Below w.heap.size w w'))
      case atStart => exact ⟨(0), (by first | rfl | (simp; done) | (simp [*]; done)), H', ⟨Nat.le_refl _⟩, ⟨by exact BK101.out⟩, ⟨by exact BK102.out⟩, ⟨qB⟩⟩
      case round =>
        clear H'; try clear c1
        try clear c2
        try clear p2
        try clear c5
        try clear c7
        try clear c7b0
        try clear c7b1
        try clear c9
        try clear c9b0
        try clear c9b1
        try clear c10
        try clear c17
        try clear c22
        try clear c25
        try clear hcz13_0
        try clear hcz13_1
        try clear hcz13_2
        try clear hcz15_0
        try clear hcz15_1
        try clear hcz15_2
        try clear hcz15_3
        try clear hcz15_4
        try clear hcz16_0
        try clear hcz16_1
        try clear hcz16_2
        try clear hcz20_0
        try clear hcz20_1
        try clear hcz20_2
        try clear hfz13_0
        try clear hfz13_1
        try clear hfz13_2
        try clear hfz15_0
        try clear hfz15_1
        try clear hfz15_2
        try clear hfz15_3
        try clear hfz15_4
        try clear hfz16_0
        try clear hfz16_1
        try clear hfz16_2
        try clear hfz20_0
        try clear hfz20_1
        try clear hfz20_2
        try clear p2
        obtain ⟨x5_2, rfl, HA, HK2, BK101, BK102, HB⟩ := hrel; cases gk with
        | zero => exact absurd HA.out (by simp [backhaulref27_Fits.l0])
        | succ k2 =>
          have H := HA.out; clear HA; simp only [backhaulref27_Fits.l0] at H; by_cases c26 : x5_2 < (l0_4.length : Int)
          · rw [if_pos c26] at H
            have c26b0 : decide (x5_2 < (l0_4.length : Int)) = true := zFq c26; clear c26; by_cases c27 : 0 ≤ x5_2
            · rw [if_pos c27] at H
              have c27b0 : decide (0 ≤ x5_2) = true := zFq c27; clear c27; by_cases c28 : ((rd_T97 l0_4 x5_2).f0) ≥ (l1_2.length : Int)
              · rw [if_pos c28] at H
                have c28b0 : decide ((l1_2.length : Int) ≤ ((rd_T97 l0_4 x5_2).f0)) = true := zFq c28; clear c28; obtain rfl := zKq H; have hnb29 := NB101_102.out; have hnc29 := NB102_101.out; obtain ⟨_, _, _, _, _, _, _, _, _, _⟩ := qc5f BK101.out; have p105 : 0 ≤ (x5_2 : Int) := of_decide_eq_true qA; have q105 : x5_2 < (l0_4.length : Int) := of_decide_eq_true qA; obtain ⟨ad105, e105, hx105_0, hx105_1, hx105_2⟩ := at_T97 HR0_4.out x5_2 p105 q105; cases e105
                replace hx105_0 := (HB.out.cell (zCq w _ hx105_0)).trans hx105_0; replace hx105_1 := (HB.out.cell (zCq w _ hx105_1)).trans hx105_1; replace hx105_2 := (HB.out.cell (zCq w _ hx105_2)).trans hx105_2; replace p105 := eq_true p105; replace q105 := eq_true q105; obtain ⟨_, _, _, _, _, _⟩ := qc3f BK102.out; go_wp2; repeat (go_quiet (fail); try go_wp2)
                go_ret; exact ⟨qE, qB⟩
              rw [if_neg c28] at H; have c28b0 : decide ((l1_2.length : Int) ≤ ((rd_T97 l0_4 x5_2).f0)) = false := zGq c28; clear c28; by_cases c32 : 0 ≤ ((rd_T97 l0_4 x5_2).f0)
              · rw [if_pos c32] at H
                have c32b0 : decide (0 ≤ ((rd_T97 l0_4 x5_2).f0)) = true := zFq c32; clear c32; by_cases c33 : ((rd_T97 l0_4 x5_2).f0) < (l1_2.length : Int)
                · rw [if_pos c33] at H
                  have c33b0 : decide (((rd_T97 l0_4 x5_2).f0) < (l1_2.length : Int)) = true := zFq c33; clear c33; by_cases c34 : ((rd_T97 l0_4 x5_2).f1) > (((rd_T216 l1_2 ((rd_T97 l0_4 x5_2).f0)).f4).length : Int)
                  · rw [if_pos c34] at H
                    have c34b0 : decide ((((rd_T216 l1_2 ((rd_T97 l0_4 x5_2).f0)).f4).length : Int) < ((rd_T97 l0_4 x5_2).f1)) = true := zFq c34; clear c34; obtain rfl := zKq H; have hnb35 := NB101_102.out; have hnc35 := NB102_101.out; obtain ⟨_, _, _, _, _, _, _, _, _, _⟩ := qc5f BK101.out; have p105 : 0 ≤ (x5_2 : Int) := of_decide_eq_true qA; have q105 : x5_2 < (l0_4.length : Int) := of_decide_eq_true qA; obtain ⟨ad105, e105, hx105_0, hx105_1, hx105_2⟩ := at_T97 HR0_4.out x5_2 p105 q105; cases e105
                    replace hx105_0 := (HB.out.cell (zCq w _ hx105_0)).trans hx105_0; replace hx105_1 := (HB.out.cell (zCq w _ hx105_1)).trans hx105_1; replace hx105_2 := (HB.out.cell (zCq w _ hx105_2)).trans hx105_2; replace p105 := eq_true p105; replace q105 := eq_true q105; obtain ⟨_, _, _, _, _, _⟩ := qc3f BK102.out; have p106 : 0 ≤ (x5_2 : Int) := of_decide_eq_true qA; have q106 : x5_2 < (l0_4.length : Int) := of_decide_eq_true qA; obtain ⟨ad106, e106, hx106_0, hx106_1, hx106_2⟩ := at_T97 HR0_4.out x5_2 p106 q106; obtain rfl : ad105 = ad106 := (by injection e106)
                    replace hx106_0 := (HB.out.cell (zCq w _ hx106_0)).trans hx106_0; replace hx106_1 := (HB.out.cell (zCq w _ hx106_1)).trans hx106_1; replace hx106_2 := (HB.out.cell (zCq w _ hx106_2)).trans hx106_2; replace p106 := eq_true p106; replace q106 := eq_true q106; have p107 : 0 ≤ (((rd_T97 l0_4 x5_2).f0) : Int) := of_decide_eq_true qA; have q107 : ((rd_T97 l0_4 x5_2).f0) < (l1_2.length : Int) := of_decide_eq_true qA; obtain ⟨ad107, A107_4, c107_4, e107, hx107_0, hx107_1, hx107_2, hx107_3, hx107_4, hl107_4, hi107_4⟩ := at_T216 HR1_2.out ((rd_T97 l0_4 x5_2).f0) p107 q107; cases e107
                    replace hx107_0 := (HB.out.cell (zCq w _ hx107_0)).trans hx107_0; replace hx107_1 := (HB.out.cell (zCq w _ hx107_1)).trans hx107_1; replace hx107_2 := (HB.out.cell (zCq w _ hx107_2)).trans hx107_2; replace hx107_3 := (HB.out.cell (zCq w _ hx107_3)).trans hx107_3; replace hx107_4 := (HB.out.cell (zCq w _ hx107_4)).trans hx107_4; have HR107_4 := zA hi107_4; have HC107_4 := zA hl107_4; clear hi107_4 hl107_4; replace p107 := eq_true p107; replace q107 := eq_true q107; go_wp2; repeat (go_quiet (fail); try go_wp2)
                    go_ret; exact ⟨qE, qB⟩
                  rw [if_neg c34] at H; have c34b0 : decide ((((rd_T216 l1_2 ((rd_T97 l0_4 x5_2).f0)).f4).length : Int) < ((rd_T97 l0_4 x5_2).f1)) = false := zGq c34; clear c34; have H' := zA H; clear H; have hnb38 := NB101_102.out; have hnc38 := NB102_101.out; obtain ⟨_, _, _, _, _, _, _, _, _, _⟩ := qc5f BK101.out; have p105 : 0 ≤ (x5_2 : Int) := of_decide_eq_true qA; have q105 : x5_2 < (l0_4.length : Int) := of_decide_eq_true qA; obtain ⟨ad105, e105, hx105_0, hx105_1, hx105_2⟩ := at_T97 HR0_4.out x5_2 p105 q105; cases e105
                  replace hx105_0 := (HB.out.cell (zCq w _ hx105_0)).trans hx105_0; replace hx105_1 := (HB.out.cell (zCq w _ hx105_1)).trans hx105_1; replace hx105_2 := (HB.out.cell (zCq w _ hx105_2)).trans hx105_2; replace p105 := eq_true p105; replace q105 := eq_true q105; obtain ⟨_, _, _, _, _, _⟩ := qc3f BK102.out; have p106 : 0 ≤ (x5_2 : Int) := of_decide_eq_true qA; have q106 : x5_2 < (l0_4.length : Int) := of_decide_eq_true qA; obtain ⟨ad106, e106, hx106_0, hx106_1, hx106_2⟩ := at_T97 HR0_4.out x5_2 p106 q106; obtain rfl : ad105 = ad106 := (by injection e106)
                  replace hx106_0 := (HB.out.cell (zCq w _ hx106_0)).trans hx106_0; replace hx106_1 := (HB.out.cell (zCq w _ hx106_1)).trans hx106_1; replace hx106_2 := (HB.out.cell (zCq w _ hx106_2)).trans hx106_2; replace p106 := eq_true p106; replace q106 := eq_true q106; have p107 : 0 ≤ (((rd_T97 l0_4 x5_2).f0) : Int) := of_decide_eq_true qA; have q107 : ((rd_T97 l0_4 x5_2).f0) < (l1_2.length : Int) := of_decide_eq_true qA; obtain ⟨ad107, A107_4, c107_4, e107, hx107_0, hx107_1, hx107_2, hx107_3, hx107_4, hl107_4, hi107_4⟩ := at_T216 HR1_2.out ((rd_T97 l0_4 x5_2).f0) p107 q107; cases e107
                  replace hx107_0 := (HB.out.cell (zCq w _ hx107_0)).trans hx107_0; replace hx107_1 := (HB.out.cell (zCq w _ hx107_1)).trans hx107_1; replace hx107_2 := (HB.out.cell (zCq w _ hx107_2)).trans hx107_2; replace hx107_3 := (HB.out.cell (zCq w _ hx107_3)).trans hx107_3; replace hx107_4 := (HB.out.cell (zCq w _ hx107_4)).trans hx107_4; have HR107_4 := zA hi107_4; have HC107_4 := zA hl107_4; clear hi107_4 hl107_4; replace p107 := eq_true p107; replace q107 := eq_true q107; go_wp2; repeat (go_quiet (fail); try go_wp2)
                  go_roundg k2
                  case measure => have := HJ2.out; have := HK2.out; omega
                  case rel => exact ⟨(wrap64 (x5_2 + 1)), (by first | rfl | (simp; done) | (simp [*]; done)), H', ⟨by have := HJ2.out; have := HK2.out; omega⟩, ⟨by exact BK101.out⟩, ⟨by exact BK102.out⟩, ⟨qB⟩⟩
                rw [if_neg c33] at H; exact absurd H (by simp)
              rw [if_neg c32] at H; exact absurd H (by simp)
            rw [if_neg c27] at H; exact absurd H (by simp)
          rw [if_neg c26] at H; have c26b0 : decide (x5_2 < (l0_4.length : Int)) = false := zGq c26; clear c26; obtain rfl := zKq H; have hnb41 := NB101_102.out; have hnc41 := NB102_101.out; obtain ⟨_, _, _, _, _, _, _, _, _, _⟩ := qc5f BK101.out; go_wp2; repeat (go_quiet (fail); try go_wp2)
          go_ret; exact ⟨qE, qB⟩
def backhaulref27_Make.l0 : Nat → List (S97) → Int → Int → Int → List (S216) → Int → Int → Int → Int → List (S97) → Option (Int × Int × Int × Int × (List (S97)) × Int)
  | 0, _, _, _, _, _, _, _, _, _, _ => none
  | k + 1, x3, x11, x102000, x102001, x102002, x104000, x104001, x104002, x104003, x104004 => if x11 < (x3.length : Int) then (if 0 ≤ x11 then (if x104004.length < 5864062014805 then (backhaulref27_Make.l0 k x3 (wrap64 (x11 + 1)) x102000 x102001 x102002 x104000 x104001 x104002 x104003 (x104004 ++ [(⟨(rd_T97 x3 x11).f0, (rd_T97 x3 x11).f1, 0⟩ : S97)])) else (none)) else (none)) else ((backhaulref27_Check.f k x104000 x104001 x104002 x104003 x104004).bind fun t109 => (if t109 = 0 then ((backhaulref27_Fits.f k x104000 x104001 x104002 x104003 x104004 x102000 x102001 x102002).bind fun t110 => (if t110 = true then (some (x104000, x104001, x104002, x104003, x104004, 0)) else (some (0, 0, 0, 0, ([] : List (S97)), 34)))) else (some (0, 0, 0, 0, ([] : List (S97)), 2))))
def backhaulref27_Make.f (k : Nat) (a0 : Int) (a1_0 : Int) (a1_1 : Int) (l1_2 : List (S216)) (a2 : Int) (l3 : List (S97)) : Option (Int × Int × Int × Int × (List (S97)) × Int) := backhaulref27_Make.l0 k l3 0 a1_0 a1_1 l1_2 a0 a1_0 a2 1 ([] : List (S97))
theorem backhaulref27_Make.mono_l : ∀ k, (∀ y0 y1 y2 y3 y4 y5 y6 y7 y8 y9, LeO (backhaulref27_Make.l0 k y0 y1 y2 y3 y4 y5 y6 y7 y8 y9) (backhaulref27_Make.l0 (k + 1) y0 y1 y2 y3 y4 y5 y6 y7 y8 y9))
  | 0 => fun _ _ _ _ _ _ _ _ _ _ r h => by simp [backhaulref27_Make.l0] at h
  | k + 1 => by
    have ih0 := backhaulref27_Make.mono_l k
    intro y0 y1 y2 y3 y4 y5 y6 y7 y8 y9
    unfold backhaulref27_Make.l0
    repeat' first
    | (with_reducible exact ih0 _ _ _ _ _ _ _ _ _ _)
    | (with_reducible exact backhaulref27_Check.mono _ _ _ _ _ _)
    | (with_reducible exact backhaulref27_Fits.mono _ _ _ _ _ _ _ _ _)
    | (with_reducible exact LeO.refl _)
    | (with_reducible exact LeO.none _)
    | (with_reducible refine LeO.ite ?_ ?_)
    | (with_reducible refine LeO.bind ?_ (fun _ => ?_))
    | exact ih0 _ _ _ _ _ _ _ _ _ _
    | exact backhaulref27_Check.mono _ _ _ _ _ _
    | exact backhaulref27_Fits.mono _ _ _ _ _ _ _ _ _
    | exact LeO.none _
    | refine LeO.ite ?_ ?_
    | refine LeO.bind ?_ (fun _ => ?_)
theorem backhaulref27_Make.mono : ∀ a0 a1 a2 a3 a4 a5 k, LeO (backhaulref27_Make.f k a0 a1 a2 a3 a4 a5) (backhaulref27_Make.f (k + 1) a0 a1 a2 a3 a4 a5) := by
  intro a0 a1 a2 a3 a4 a5 k
  have ih0 := backhaulref27_Make.mono_l k
  unfold backhaulref27_Make.f
  repeat' first
      | (with_reducible exact ih0 _ _ _ _ _ _ _ _ _ _)
      | (with_reducible exact backhaulref27_Check.mono _ _ _ _ _ _)
      | (with_reducible exact backhaulref27_Fits.mono _ _ _ _ _ _ _ _ _)
      | (with_reducible exact LeO.refl _)
      | (with_reducible exact LeO.none _)
      | (with_reducible refine LeO.ite ?_ ?_)
      | (with_reducible refine LeO.bind ?_ (fun _ => ?_))
      | exact ih0 _ _ _ _ _ _ _ _ _ _
      | exact backhaulref27_Check.mono _ _ _ _ _ _
      | exact backhaulref27_Fits.mono _ _ _ _ _ _ _ _ _
      | exact LeO.none _
      | refine LeO.ite ?_ ?_
      | refine LeO.bind ?_ (fun _ => ?_)
def backhaulref27_Make.T5 : Bool × List (List Nat × List Nat) := (true, [([], []), ([0], [0]), ([], []), ([], []), ([2, 3], [2, 3]), ([4], [4]), ([5], [5]), ([], []), ([], []), ([7, 8], [7, 8]), ([9], [9]), ([10], [10]), ([6, 11], [6, 11]), ([12], [12]), ([1, 13], [1, 13]), ([0, 1, 2, 3, 4, 5, 6, 7, 8, 9, 10, 11, 12, 13, 14], []), ([15, 14, 14, 0, 1, 2, 3, 4, 5, 6, 7, 8, 9, 10, 11, 12, 13, 14], [14, 15])])
def backhaulref27_Make.B5 : List Nat := [0, 1, 0, 0, 12, 28, 60, 0, 0, 384, 896, 1920, 4092, 8188, 16383, 32767, 65535]
theorem backhaulref27_Make.tab5 : rtab .any (opsOf Try.f51 5) = backhaulref27_Make.T5 := by kernel_rfl
theorem backhaulref27_Make.bits5 : waitsOk backhaulref27_Make.T5.2 backhaulref27_Make.B5 = true := by kernel_rfl
set_option maxHeartbeats 8000000 in
set_option maxRecDepth 100000 in
theorem backhaulref27_Make.calls (k : Nat) (a0 : Int) (a1_0 : Int) (a1_1 : Int) (A1_2 : Option Addr) (c1_2 : Nat) (l1_2 : List (S216)) (a2 : Int) (A3 : Option Addr) (c3 : Nat) (l3 : List (S97)) (r1 : Int) (r2 : Int) (r3 : Int) (r4 : Int) (r5 : List (S97)) (r6 : Int) (w : World) (hr1_2 : Kd.C k216 w A1_2 l1_2.length l1_2) (hc1_2 : l1_2.length ≤ c1_2) (hr3 : Kd.C k97 w A3 l3.length l3) (hc3 : l3.length ≤ c3) (h : backhaulref27_Make.f k a0 a1_0 a1_1 l1_2 a2 l3 = some (r1, r2, r3, r4, r5, r6)) :
    Calls Try.prog 51 #[.int .i64 a0, .agg #[.int .i64 a1_0, .int .i64 a1_1, .slice A1_2 l1_2.length c1_2], .int .i64 a2, .slice A3 l3.length c3] w fun e w' => ∃ v4_ : Value, e = .returned (.tuple #[.agg #[.int .i64 r1, .int .i64 r2, .int .i64 r3, .int .i64 r4, v4_], .int .i64 r6]) ∧ Kd.R k97 97 w' w.heap.size (fun _ => True) v4_ r5 ∧ Below w.heap.size w w' := by
  have hu73 := Try.underlying73
  have hu70 := Try.underlying70
  have hu97 := Try.underlying97
  have HR1_2 := zA hr1_2
  have HC1_2 := zA hc1_2
  clear hr1_2 hc1_2
  have HR3 := zA hr3
  have HC3 := zA hc3
  clear hr3 hc3
  have HB := zA (Below.refl w.heap.size w)
  have H : (backhaulref27_Make.l0 k l3 0 a1_0 a1_1 l1_2 a0 a1_0 a2 1 ([] : List (S97))) = some (r1, r2, r3, r4, r5, r6) := h
  clear h
  have H' := zA H
  clear H
  go_enter Try.func51, Try.ntmps51
  go_wp2_with (first | ((with_reducible refine gate_dst (N := 5) rfl ?_); refine box_event qr (N := 5) qr (cs := #[.int .i64 a1_0, .int .i64 a1_1, .slice A1_2 l1_2.length c1_2]) (t := 73) qg ?_; intro gb101 hg w5 hbox hb; have n0_ := zA (zV qB hb); have n1_ := zA (hbox); have n2_ := zA ((qS : w.heap.size ≤ gb101)); have n3_ := zA ((qS : w.heap.size ≤ gb101)); clear HB; have HB := n0_; have BK101 := n1_; have GW101 := n2_; have GE101 := n3_; clear n0_ n1_ n2_ n3_ hb hbox hg) | ((with_reducible refine gate_dst (N := 8) rfl ?_); refine box_event qr (N := 8) qr (cs := #[.int .i64 0, .int .i64 0, .int .i64 0, .int .i64 0, .slice none 0 0]) (t := 70) qg ?_; intro gb102 hg w6 hbox hb; have n0_ := zA (qX BK101.out hb); have n1_ := zA (zV qB hb); have n2_ := zA (hbox); have n3_ := zA ((qS : w.heap.size ≤ gb102)); have n4_ := zA ((qS : w.heap.size ≤ gb102)); have n5_ := zA ((by rw [hg]; exact zLq (qL BK101.out) : gb101 ≠ gb102)); have n6_ := zA ((by rw [hg]; exact zMq (qL BK101.out) : gb102 ≠ gb101)); clear BK101 HB; have BK101 := n0_; have HB := n1_; have BK102 := n2_; have GW102 := n3_; have GE102 := n4_; have NB101_102 := n5_; have NB102_101 := n6_; clear n0_ n1_ n2_ n3_ n4_ n5_ n6_ hb hbox hg; have hnb7 := NB101_102.out; have hnc7 := NB102_101.out; obtain ⟨_, _, _, _, _, _⟩ := qc3f BK101.out) | ((with_reducible refine gate_dst (N := 10) rfl ?_); refine box_event qr (N := 10) qr (cs := #[.int .i64 0, .int .i64 0, .int .i64 0, .int .i64 0, .slice none 0 0]) (t := 70) qg ?_; intro gb103 hg w9 hbox hb; have n0_ := zA (qX BK101.out hb); have n1_ := zA (qX BK102.out hb); have n2_ := zA (zV qB hb); have n3_ := zA (hbox); have n4_ := zA ((qS : w.heap.size ≤ gb103)); have n5_ := zA ((qS : w.heap.size ≤ gb103)); have n6_ := zA ((by rw [hg]; exact zLq (qL BK101.out) : gb101 ≠ gb103)); have n7_ := zA ((by rw [hg]; exact zMq (qL BK101.out) : gb103 ≠ gb101)); have n8_ := zA ((by rw [hg]; exact zLq (qL BK102.out) : gb102 ≠ gb103)); have n9_ := zA ((by rw [hg]; exact zMq (qL BK102.out) : gb103 ≠ gb102)); clear BK101 BK102 HB; have BK101 := n0_; have BK102 := n1_; have HB := n2_; have BK103 := n3_; have GW103 := n4_; have GE103 := n5_; have NB101_103 := n6_; have NB103_101 := n7_; have NB102_103 := n8_; have NB103_102 := n9_; clear n0_ n1_ n2_ n3_ n4_ n5_ n6_ n7_ n8_ n9_ hb hbox hg; have hnb10 := NB103_101.out; have hnc10 := NB101_103.out; have hnb11 := NB103_102.out; have hnc11 := NB102_103.out; obtain ⟨_, _, _, _, _, _, _, _, _, _⟩ := qc5f BK103.out))
  go_loopg [11] k (fun kq v11 w' => ∃ (x11_1 : Int) (x104004_1 : List (S97)) (u104004 : Value), v11 = .int .i64 x11_1 ∧ Aside0 (backhaulref27_Make.l0 kq l3 x11_1 a1_0 a1_1 l1_2 a0 a1_0 a2 1 x104004_1 = some (r1, r2, r3, r4, r5, r6)) ∧ Aside0 (kq ≤ k) ∧ Aside0 (Kd.R k97 97 w' w.heap.size (fun _ => True) u104004 x104004_1) ∧ Aside0 (w'.heap[gb101]? = some (.cells #[.int .i64 a1_0, .int .i64 a1_1, (.slice A1_2 l1_2.length c1_2)] 73 (0, 0))) ∧ Aside0 (w'.heap[gb102]? = some (.cells #[.int .i64 0, .int .i64 0, .int .i64 0, .int .i64 0, (.slice none 0 0)] 70 (0, 0))) ∧ Aside0 (w'.heap[gb103]? = some (.cells #[.int .i64 a0, .int .i64 a1_0, .int .i64 a2, .int .i64 1, u104004] 70 (0, 0))) ∧ Aside0 (Below w.heap.size w w'))
  case atStart => exact ⟨(0), (([] : List (S97))), (.slice none 0 0), (by first | rfl | (simp; done) | (simp [*]; done)), H', ⟨Nat.le_refl _⟩, ⟨qN⟩, ⟨by (with_reducible repeat (first | refine zY ?_ _ | refine zAq ?_ | refine zZ ?_ _)); refine blk_far ?_ NB101_103.out _; (with_reducible repeat (first | refine zY ?_ _ | refine zAq ?_ | refine zZ ?_ _)); refine blk_far ?_ NB101_103.out _; (with_reducible repeat (first | refine zY ?_ _ | refine zAq ?_ | refine zZ ?_ _)); refine blk_far ?_ NB101_103.out _; (with_reducible repeat (first | refine zY ?_ _ | refine zAq ?_ | refine zZ ?_ _)); refine blk_far ?_ NB101_103.out _; (with_reducible repeat (first | refine zY ?_ _ | refine zAq ?_ | refine zZ ?_ _)); refine blk_far ?_ NB101_103.out _; exact BK101.out⟩, ⟨by (with_reducible repeat (first | refine zY ?_ _ | refine zAq ?_ | refine zZ ?_ _)); refine blk_far ?_ NB102_103.out _; (with_reducible repeat (first | refine zY ?_ _ | refine zAq ?_ | refine zZ ?_ _)); refine blk_far ?_ NB102_103.out _; (with_reducible repeat (first | refine zY ?_ _ | refine zAq ?_ | refine zZ ?_ _)); refine blk_far ?_ NB102_103.out _; (with_reducible repeat (first | refine zY ?_ _ | refine zAq ?_ | refine zZ ?_ _)); refine blk_far ?_ NB102_103.out _; (with_reducible repeat (first | refine zY ?_ _ | refine zAq ?_ | refine zZ ?_ _)); refine blk_far ?_ NB102_103.out _; exact BK102.out⟩, ⟨by (with_reducible repeat (first | refine zY ?_ _ | refine zAq ?_ | refine zZ ?_ _)); apply qP5; exact BK103.out⟩, ⟨qB⟩⟩
  case round =>
    clear H'; try clear c1
    try clear p2
    try clear c3
    try clear c5
    try clear c7
    try clear c10
    try clear c11
    obtain ⟨x11_1, x104004_1, u104004, rfl, HA, HK1, HO_104004, BK101, BK102, BK103, HB⟩ := hrel; cases gk with
    | zero => exact absurd HA.out (by simp [backhaulref27_Make.l0])
    | succ k1 =>
      have H := HA.out; clear HA; simp only [backhaulref27_Make.l0] at H; by_cases c13 : x11_1 < (l3.length : Int)
      · rw [if_pos c13] at H
        have c13b0 : decide (x11_1 < (l3.length : Int)) = true := zFq c13; clear c13; by_cases c14 : 0 ≤ x11_1
        · rw [if_pos c14] at H
          have c14b0 : decide (0 ≤ x11_1) = true := zFq c14; clear c14; by_cases c15 : x104004_1.length < 5864062014805
          · rw [if_pos c15] at H
            have LMc15 := zA c15; clear c15; obtain ⟨y106, hy106⟩ : ∃ y_ : List (S97), y_ = (x104004_1 ++ [(⟨(rd_T97 l3 x11_1).f0, (rd_T97 l3 x11_1).f1, 0⟩ : S97)]) := ⟨_, rfl⟩
            replace H : (backhaulref27_Make.l0 k1 l3 (wrap64 (x11_1 + 1)) a1_0 a1_1 l1_2 a0 a1_0 a2 1 y106) = some (r1, r2, r3, r4, r5, r6) := by first | (rw [hy106]; with_reducible exact H) | (have H2_ := (Option.bind_some _ _).symm.trans H; rw [hy106]; with_reducible exact H2_) | (have H2_ := (Option.bind_some _ _).symm.trans H; with_reducible exact H2_) | with_reducible exact H | (rw [hy106]; exact H) | exact H
            have Ny106 := zA hy106; clear hy106; have H' := zA H; clear H; try go_wp2
            have n0_ := zA (Kd.R_drew HO_104004.out); have n1_ := zA (zAq BK101.out); have n2_ := zA (zAq BK102.out); have n3_ := zA (zAq BK103.out); have n4_ := zA (zC HB.out); clear HO_104004; clear BK101; clear BK102; clear BK103; clear HB; have HO_104004 := n0_; have BK101 := n1_; have BK102 := n2_; have BK103 := n3_; have HB := n4_; clear n0_ n1_ n2_ n3_ n4_; have p104 : 0 ≤ (x11_1 : Int) := of_decide_eq_true qA; have q104 : x11_1 < (l3.length : Int) := of_decide_eq_true qA; obtain ⟨ad104, e104, hx104_0, hx104_1, hx104_2⟩ := at_T97 HR3.out x11_1 p104 q104; have hw104_2 := hx104_2; have hw104_1 := hx104_1; have hw104_0 := hx104_0; cases e104
            replace hx104_0 := (HB.out.cell (zCq w _ hx104_0)).trans hx104_0; replace hx104_1 := (HB.out.cell (zCq w _ hx104_1)).trans hx104_1; replace hx104_2 := (HB.out.cell (zCq w _ hx104_2)).trans hx104_2; replace p104 := eq_true p104; replace q104 := eq_true q104; have p105 : 0 ≤ (x11_1 : Int) := of_decide_eq_true qA; have q105 : x11_1 < (l3.length : Int) := of_decide_eq_true qA; obtain ⟨ad105, e105, hx105_0, hx105_1, hx105_2⟩ := at_T97 HR3.out x11_1 p105 q105; have hw105_2 := hx105_2; have hw105_1 := hx105_1; have hw105_0 := hx105_0; obtain rfl : ad104 = ad105 := (by injection e105)
            replace hx105_0 := (HB.out.cell (zCq w _ hx105_0)).trans hx105_0; replace hx105_1 := (HB.out.cell (zCq w _ hx105_1)).trans hx105_1; replace hx105_2 := (HB.out.cell (zCq w _ hx105_2)).trans hx105_2; replace p105 := eq_true p105; replace q105 := eq_true q105; refine start_ (n := 17) (S := fun w' => w'.cell? ⟨gb103, 0, none⟩ = some (.int .i64 a0) ∧ w'.cell? ⟨gb103, 1, none⟩ = some (.int .i64 a1_0) ∧ w'.cell? ⟨gb103, 2, none⟩ = some (.int .i64 a2) ∧ w'.cell? ⟨gb103, 3, none⟩ = some (.int .i64 1) ∧ w'.cell? ⟨gb103, 4, none⟩ = some (u104004) ∧ w'.cell? (ad104.add ((x11_1).toNat * 3)) = some (.int .i64 ((rd_T97 l3 x11_1).f0)) ∧ w'.cell? ⟨(ad104.add ((x11_1).toNat * 3)).block, (ad104.add ((x11_1).toNat * 3)).off + 1, none⟩ = some (.int .i64 ((rd_T97 l3 x11_1).f1)) ∧ w'.cell? ⟨(ad104.add ((x11_1).toNat * 3)).block, (ad104.add ((x11_1).toNat * 3)).off + 2, none⟩ = some (.int .i64 ((rd_T97 l3 x11_1).f2)) ∧ w'.cell? (ad104.add ((x11_1).toNat * 3)) = some (.int .i64 ((rd_T97 l3 x11_1).f0)) ∧ w'.cell? ⟨(ad104.add ((x11_1).toNat * 3)).block, (ad104.add ((x11_1).toNat * 3)).off + 1, none⟩ = some (.int .i64 ((rd_T97 l3 x11_1).f1)) ∧ w'.cell? ⟨(ad104.add ((x11_1).toNat * 3)).block, (ad104.add ((x11_1).toNat * 3)).off + 2, none⟩ = some (.int .i64 ((rd_T97 l3 x11_1).f2))) (ds := [16]) #[o0, o0, o0, o0, o0, o0, o0, o0, o0, o0, o0, o0, o0, o0, o0, o0, o0] (by kernel_rfl) rfl rfl ⟨(zF BK103.out 0).trans rfl, (zF BK103.out 1).trans rfl, (zF BK103.out 2).trans rfl, (zF BK103.out 3).trans rfl, (zF BK103.out 4).trans rfl, ((HB.out.cell (zCq w _ hw104_0)).trans hw104_0), ((HB.out.cell (zCq w _ hw104_1)).trans hw104_1), ((HB.out.cell (zCq w _ hw104_2)).trans hw104_2), ((HB.out.cell (zCq w _ hw105_0)).trans hw105_0), ((HB.out.cell (zCq w _ hw105_1)).trans hw105_1), ((HB.out.cell (zCq w _ hw105_2)).trans hw105_2)⟩ (fun hHeld => ?_); refine with_tabW backhaulref27_Make.tab5 backhaulref27_Make.bits5 (fun HT_ HW_ => ?_); generalize wr.drew = w16 at HO_104004 BK101 BK102 BK103 HB hx104_0 hx104_1 hx104_2 hx105_0 hx105_1 hx105_2 hHeld ⊢; refine pure_ (i := 0) (N := some 23) #[o1, o0, o0, o0, o0, o0, o0, o0, o0, o0, o0, o0, o0, o0, o0, o0, o0] rfl rfl (any_of HT_.out (by kernel_rfl)) (fun _ _ _ h => h) (Or.inl ⟨by rfl, qy⟩) qz ?_; refine pure_ (i := 2) (N := some 25) #[o1, o0, o1, o0, o0, o0, o0, o0, o0, o0, o0, o0, o0, o0, o0, o0, o0] rfl rfl (any_of HT_.out (by kernel_rfl)) (fun _ _ _ h => h) (Or.inl ⟨by rfl, qy⟩) qz ?_; refine pure_ (i := 3) (N := some 26) #[o1, o0, o1, o1, o0, o0, o0, o0, o0, o0, o0, o0, o0, o0, o0, o0, o0] rfl rfl (any_of HT_.out (by kernel_rfl)) (fun _ _ _ h => h) (Or.inl ⟨by rfl, qy⟩) qz ?_
            refine pure_ (i := 4) (N := some 27) #[o1, o0, o1, o1, o1, o0, o0, o0, o0, o0, o0, o0, o0, o0, o0, o0, o0] rfl rfl (any_of HT_.out (by kernel_rfl)) (fun _ _ _ h => h) (Or.inl ⟨by rfl, qy⟩) qz ?_; refine pure_ (i := 5) (N := some 28) #[o1, o0, o1, o1, o1, o1, o0, o0, o0, o0, o0, o0, o0, o0, o0, o0, o0] rfl rfl (any_of HT_.out (by kernel_rfl)) (fun _ _ _ h => h) (Or.inl ⟨by rfl, qy⟩) qz ?_; refine pure_ (i := 7) (N := some 30) #[o1, o0, o1, o1, o1, o1, o0, o1, o0, o0, o0, o0, o0, o0, o0, o0, o0] rfl rfl (any_of HT_.out (by kernel_rfl)) (fun _ _ _ h => h) (Or.inl ⟨by rfl, qy⟩) qz ?_; refine pure_ (i := 8) (N := some 31) #[o1, o0, o1, o1, o1, o1, o0, o1, o1, o0, o0, o0, o0, o0, o0, o0, o0] rfl rfl (any_of HT_.out (by kernel_rfl)) (fun _ _ _ h => h) (Or.inl ⟨by rfl, qy⟩) qz ?_; refine pure_ (i := 9) (N := some 32) #[o1, o0, o1, o1, o1, o1, o0, o1, o1, o1, o0, o0, o0, o0, o0, o0, o0] rfl rfl (any_of HT_.out (by kernel_rfl)) (fun _ _ _ h => h) (Or.inl ⟨by rfl, qy⟩) qz ?_; refine pure_ (i := 10) (N := some 33) #[o1, o0, o1, o1, o1, o1, o0, o1, o1, o1, o1, o0, o0, o0, o0, o0, o0] rfl rfl (any_of HT_.out (by kernel_rfl)) (fun _ _ _ h => h) (Or.inl ⟨by rfl, qy⟩) qz ?_; refine take_ (i := 1) (N := some 24) (v := ?_) (a' := ?_) #[o1, o1, o1, o1, o1, o1, o0, o1, o1, o1, o1, o0, o0, o0, o0, o0, o0] rfl rfl (take_ofW HT_.out HW_.out (by kernel_rfl)) (fun _ _ _ h => h) (Or.inl ⟨by rfl, ?_⟩) hHeld ?_ ?_; rotate_left
            · rintro w' ⟨s0, s1, s2, s3, s4, s5, s6, s7, s8, s9, s10⟩
              go_simp; with_reducible rfl
            rotate_left
            · simp only [Act.put, zH, zI, zJ, i64_w, i32_w]
              rfl
            refine take_ (i := 6) (N := some 29) (v := ?_) (a' := ?_) #[o1, o1, o1, o1, o1, o1, o1, o1, o1, o1, o1, o0, o0, o0, o0, o0, o0] rfl rfl (take_ofW HT_.out HW_.out (by kernel_rfl)) (fun _ _ _ h => h) (Or.inl ⟨by rfl, ?_⟩) hHeld ?_ ?_; rotate_left
            · rintro w' ⟨s0, s1, s2, s3, s4, s5, s6, s7, s8, s9, s10⟩
              go_simp; with_reducible rfl
            rotate_left
            · simp only [Act.put, zH, zI, zJ, i64_w, i32_w]
              rfl
            refine take_ (i := 11) (N := some 34) (v := ?_) (a' := ?_) #[o1, o1, o1, o1, o1, o1, o1, o1, o1, o1, o1, o1, o0, o0, o0, o0, o0] rfl rfl (take_ofW HT_.out HW_.out (by kernel_rfl)) (fun _ _ _ h => h) (Or.inl ⟨by rfl, ?_⟩) hHeld ?_ ?_; rotate_left
            · rintro w' ⟨s0, s1, s2, s3, s4, s5, s6, s7, s8, s9, s10⟩
              go_simp; with_reducible rfl
            rotate_left
            · simp only [Act.put, zH, zI, zJ, i64_w, i32_w]
              rfl
            refine pure_ (i := 12) (N := some 35) #[o1, o1, o1, o1, o1, o1, o1, o1, o1, o1, o1, o1, o1, o0, o0, o0, o0] rfl rfl (any_of HT_.out (by kernel_rfl)) (fun _ _ _ h => h) (Or.inl ⟨by rfl, qy⟩) qz ?_; refine one_ (i := 13) (N := some 36) #[o1, o1, o1, o1, o1, o1, o1, o1, o1, o1, o1, o1, o1, o1, o0, o0, o0] rfl rfl (one_of HT_.out (by kernel_rfl)) (by decide) (fun K hK => ?_); refine value_ (w1 := ?_) (v := ?_) (by rfl) rfl ?_ ?_; rotate_left 2
            · go_simp
              constructor
              · rfl
              rfl
            refine hK.out _ _ ⟨(zF (zZ BK103.out _) 0).trans rfl, (zF (zZ BK103.out _) 1).trans rfl, (zF (zZ BK103.out _) 2).trans rfl, (zF (zZ BK103.out _) 3).trans rfl, (zF (zZ BK103.out _) 4).trans rfl, (World.cell?_alloc_lt _ _ _ (zCq _ _ (((HB.out.cell (zCq w _ hw104_0)).trans hw104_0)))).trans (((HB.out.cell (zCq w _ hw104_0)).trans hw104_0)), (World.cell?_alloc_lt _ _ _ (zCq _ _ (((HB.out.cell (zCq w _ hw104_1)).trans hw104_1)))).trans (((HB.out.cell (zCq w _ hw104_1)).trans hw104_1)), (World.cell?_alloc_lt _ _ _ (zCq _ _ (((HB.out.cell (zCq w _ hw104_2)).trans hw104_2)))).trans (((HB.out.cell (zCq w _ hw104_2)).trans hw104_2)), (World.cell?_alloc_lt _ _ _ (zCq _ _ (((HB.out.cell (zCq w _ hw105_0)).trans hw105_0)))).trans (((HB.out.cell (zCq w _ hw105_0)).trans hw105_0)), (World.cell?_alloc_lt _ _ _ (zCq _ _ (((HB.out.cell (zCq w _ hw105_1)).trans hw105_1)))).trans (((HB.out.cell (zCq w _ hw105_1)).trans hw105_1)), (World.cell?_alloc_lt _ _ _ (zCq _ _ (((HB.out.cell (zCq w _ hw105_2)).trans hw105_2)))).trans (((HB.out.cell (zCq w _ hw105_2)).trans hw105_2))⟩ (fun hHeld => ?_); clear hK K; refine norm_ (a' := ?_) ?_ ?_; rotate_left
            · show Act.put _ (some 36) _ = _
              simp only [Act.put, zH, zI, zJ, i64_w, i32_w]; rfl
            refine one_ (i := 14) (N := some 37) #[o1, o1, o1, o1, o1, o1, o1, o1, o1, o1, o1, o1, o1, o1, o1, o0, o0] rfl rfl (one_of HT_.out (by kernel_rfl)) (by decide) (fun K hK => ?_); refine Kd.R_append_step k97 (w0 := w) w.heap.size (by rfl) (.tmp 24) (.tmp 36) 68 97 (.agg #[(.int .i64 0), (.int .i64 0), (.int .i64 0)]) 24 rfl Try.underlying68 info97 rfl (by decide) (by omega) u104004 x104004_1 (⟨(rd_T97 l3 x11_1).f0, (rd_T97 l3 x11_1).f1, 0⟩ : S97) [.int .i64 ((rd_T97 l3 x11_1).f0), .int .i64 ((rd_T97 l3 x11_1).f1), .int .i64 0] (fun _ => True) (fun _ => False) rfl rfl ?aP (fun _ hk => hk.elim) ?aF ?aO ?aB ?aS ?aL ?_; (case aP => exact k97_mkM _ _ _ (⟨(rd_T97 l3 x11_1).f0, (rd_T97 l3 x11_1).f1, 0⟩ : S97))
            (case aB => exact qB)
            (case aF => exact (fun _ _ => trivial))
            (case aO => exact (by (with_reducible repeat (first | apply Kd.R_alloc | apply Kd.R_drewN | apply Kd.R_drew)); exact HO_104004.out))
            (case aS => exact (zW qB))
            (case aL => have := LMc15.out; omega)
            intro v107 w17 ho hb hg hat; rw [← Ny106.out] at ho; have n0_ := zA (blk_grown (g := gb101) (o := .cells #[.int .i64 a1_0, .int .i64 a1_1, .slice A1_2 l1_2.length c1_2] 73 (0, 0)) (qW BK101.out) hg (Kd.R_ne HO_104004.out BK101.out (by decide))); have n1_ := zA (blk_grown (g := gb102) (o := .cells #[.int .i64 0, .int .i64 0, .int .i64 0, .int .i64 0, .slice none 0 0] 70 (0, 0)) (qW BK102.out) hg (Kd.R_ne HO_104004.out BK102.out (by decide))); have n2_ := zA (blk_grown (g := gb103) (o := .cells #[.int .i64 a0, .int .i64 a1_0, .int .i64 a2, .int .i64 1, u104004] 70 (0, 0)) (qW BK103.out) hg (Kd.R_ne HO_104004.out BK103.out (by decide))); have n3_ := zA (hb); have n4_ := zA (ho); clear BK101; clear BK102; clear BK103; clear HB; clear HO_104004; have BK101 := n0_; have BK102 := n1_; have BK103 := n2_; have HB := n3_; have HO108 := n4_; clear n0_ n1_ n2_ n3_ n4_; clear ho hb hg hat; obtain ⟨Ao18, co18, eo18⟩ := Kd.R_slice HO108.out; (first | subst eo18 | (injection eo18 with f1_ f2_ f3_; have f4_ := f1_.symm; have f5_ := f3_.symm; clear f1_ f2_ f3_; subst f4_; subst f5_))
            refine hK.out _ _ ⟨(zF BK103.out 0).trans rfl, (zF BK103.out 1).trans rfl, (zF BK103.out 2).trans rfl, (zF BK103.out 3).trans rfl, (zF BK103.out 4).trans rfl, ((HB.out.cell (zCq w _ hw104_0)).trans hw104_0), ((HB.out.cell (zCq w _ hw104_1)).trans hw104_1), ((HB.out.cell (zCq w _ hw104_2)).trans hw104_2), ((HB.out.cell (zCq w _ hw105_0)).trans hw105_0), ((HB.out.cell (zCq w _ hw105_1)).trans hw105_1), ((HB.out.cell (zCq w _ hw105_2)).trans hw105_2)⟩ (fun hHeld => ?_); clear hK K; refine norm_ (a' := ?_) ?_ ?_; rotate_left
            · show Act.put _ (some 37) _ = _
              simp only [Act.put, zH, zI, zJ, i64_w, i32_w]; rfl
            refine pure_ (i := 15) (N := some 38) #[o1, o1, o1, o1, o1, o1, o1, o1, o1, o1, o1, o1, o1, o1, o1, o1, o0] rfl rfl (any_of HT_.out (by kernel_rfl)) (fun _ _ _ h => h) (Or.inl ⟨by rfl, qy⟩) qz ?_; refine last_ (i := 16) (N := none) #[o1, o1, o1, o1, o1, o1, o1, o1, o1, o1, o1, o1, o1, o1, o1, o1, o1] rfl rfl (one_of HT_.out (by kernel_rfl)) (by decide) (fun K hK => ?_); have hs19 : w17.cell? ⟨gb103, 4, none⟩ = some (u104004) := (zF BK103.out 4).trans rfl; have hfs19 := zG BK103.out 4; have hns19_0 := NB101_103.out; have hns19_1 := NB102_103.out; have hms19_0 := NB103_101.out; have hms19_1 := NB103_102.out; refine skip_ (w1 := ?_) (by rfl) rfl ?_ ?_; rotate_left
            · go_simp
              rfl
            refine hK.out _ _ ?_; clear hK K; refine done_ (done_of HT_.out (by kernel_rfl)) ?_; try go_wp2
            go_roundg k1
            case measure => have := HK1.out; omega
            case rel => exact ⟨(wrap64 (x11_1 + 1)), (y106), (.slice Ao18 y106.length co18), (by first | rfl | (simp; done) | (simp [*]; done)), H', ⟨by have := HK1.out; omega⟩, ⟨by (with_reducible repeat (first | apply Kd.R_alloc | apply Kd.R_drewN | apply Kd.R_drew)); exact Kd.R_mono (Kd.R_far (p := ⟨gb103, 4, none⟩) (Kd.R_types HO108.out BK103.out (by decide)) (fun _ hk => hk.2) (.slice Ao18 y106.length co18)) (fun _ hk => trivial)⟩, ⟨by (with_reducible repeat (first | refine zY ?_ _ | refine zAq ?_ | refine zZ ?_ _)); refine blk_far ?_ NB101_103.out _; exact BK101.out⟩, ⟨by (with_reducible repeat (first | refine zY ?_ _ | refine zAq ?_ | refine zZ ?_ _)); refine blk_far ?_ NB102_103.out _; exact BK102.out⟩, ⟨by (with_reducible repeat (first | refine zY ?_ _ | refine zAq ?_ | refine zZ ?_ _)); refine blk_put (cs := #[.int .i64 a0, .int .i64 a1_0, .int .i64 a2, .int .i64 1, u104004]) ?_ 4 _ rfl; exact BK103.out⟩, ⟨qB⟩⟩
          rw [if_neg c15] at H; exact absurd H (by simp)
        rw [if_neg c14] at H; exact absurd H (by simp)
      rw [if_neg c13] at H; have c13b0 : decide (x11_1 < (l3.length : Int)) = false := zGq c13; clear c13; replace H := Option.bind_eq_some_iff.mp H; obtain ⟨t109, A200, H⟩ := H; replace H : (if t109 = 0 then ((backhaulref27_Fits.f k1 a0 a1_0 a2 1 x104004_1 a1_0 a1_1 l1_2).bind fun t110 => (if t110 = true then (some (a0, a1_0, a2, 1, x104004_1, 0)) else (some (0, 0, 0, 0, ([] : List (S97)), 34)))) else (some (0, 0, 0, 0, ([] : List (S97)), 2))) = some (r1, r2, r3, r4, r5, r6) := H; have A20 := zA A200; clear A200; by_cases c21 : t109 = 0
      · rw [if_pos c21] at H
        have c21b0 : (t109 == 0) = true := beq_iff_eq.mpr c21; have c21b1 : (t109 != 0) = false := bne_eq_false_iff_eq.mpr c21; clear c21; replace H := Option.bind_eq_some_iff.mp H; obtain ⟨t110, A220, H⟩ := H; replace H : (if t110 = true then (some (a0, a1_0, a2, 1, x104004_1, 0)) else (some (0, 0, 0, 0, ([] : List (S97)), 34))) = some (r1, r2, r3, r4, r5, r6) := H; have A22 := zA A220; clear A220; by_cases c23 : t110 = true
        · subst c23
          have H1 : (some (a0, a1_0, a2, 1, x104004_1, 0)) = some (r1, r2, r3, r4, r5, r6) := by first | (rw [if_pos rfl] at H; exact H) | rfl
          clear H; have H := H1; clear H1; simp only [zNq, zOq] at H; obtain ⟨rfl, rfl, rfl, rfl, rfl, rfl⟩ := H; have hnb24 := NB103_101.out; have hnc24 := NB101_103.out; have hnb25 := NB103_102.out; have hnc25 := NB102_103.out; obtain ⟨_, _, _, _, _, _, _, _, _, _⟩ := qc5f BK103.out; obtain ⟨Ao27, co27, eo27⟩ := Kd.R_slice HO_104004.out; subst eo27; go_wp2_with (first | ((with_reducible refine zJq (f := 53) rfl ?_); refine goesL_ (some 40) rfl rfl Try.func53 (by kernel_rfl) rfl #[.agg #[.int .i64 a0, .int .i64 a1_0, .int .i64 a2, .int .i64 1, .slice Ao27 x104004_1.length co27]] rfl (by (try simp only [zR, zS, zT]); first | done | rfl | (simp only [zP, zQ]; rfl)) ?_; (with_reducible refine (backhaulref27_Check.calls k1 a0 a1_0 a2 1 _ _ x104004_1 t109 _ ?side1 ?side2 A20.out).mono ?_); (case side1 => repeat (first | exact (Kd.R_reads' HO_104004.out).2.2 | (with_reducible refine Kd.C_alloc ?_ _) | (with_reducible refine Kd.C_drewN ?_ _) | (with_reducible refine Kd.C_drew ?_))); (case side2 => exact (Kd.R_reads' HO_104004.out).2.1); rintro e w28 ⟨rfl, hb⟩; refine ⟨_, rfl, ?_⟩; have n0_ := zA (Kd.R_below (by (with_reducible repeat (first | apply Kd.R_alloc | apply Kd.R_drewN | apply Kd.R_drew)); exact HO_104004.out) hb); have n1_ := zA (qX BK101.out hb); have n2_ := zA (qX BK102.out hb); have n3_ := zA (qX BK103.out hb); have n4_ := zA (zV qB hb); clear HO_104004 BK101 BK102 BK103 HB; have HO_104004 := n0_; have BK101 := n1_; have BK102 := n2_; have BK103 := n3_; have HB := n4_; clear n0_ n1_ n2_ n3_ n4_; (try clear hb); (try clear hb2); (try clear hk); (try clear hi); obtain ⟨_, _, _, _, _, _, _, _, _, _⟩ := qc5f BK103.out; have hnb30 := NB101_102.out; have hnc30 := NB102_101.out; obtain ⟨_, _, _, _, _, _⟩ := qc3f BK101.out) | ((with_reducible refine zJq (f := 55) rfl ?_); refine goesL_ (some 45) rfl rfl Try.func55 (by kernel_rfl) rfl #[.agg #[.int .i64 a0, .int .i64 a1_0, .int .i64 a2, .int .i64 1, .slice Ao27 x104004_1.length co27], .agg #[.int .i64 a1_0, .int .i64 a1_1, .slice A1_2 l1_2.length c1_2]] rfl (by (try simp only [zR, zS, zT]); first | done | rfl | (simp only [zP, zQ]; rfl)) ?_; (with_reducible refine (backhaulref27_Fits.calls k1 a0 a1_0 a2 1 _ _ x104004_1 a1_0 a1_1 _ _ l1_2 true _ ?side1 ?side2 ?side3 ?side4 A22.out).mono ?_); (case side1 => repeat (first | exact (Kd.R_reads' HO_104004.out).2.2 | (with_reducible refine Kd.C_alloc ?_ _) | (with_reducible refine Kd.C_drewN ?_ _) | (with_reducible refine Kd.C_drew ?_))); (case side2 => exact (Kd.R_reads' HO_104004.out).2.1); (case side3 => exact qC (Kd.C_below HR1_2.out HB.out)); (case side4 => exact HC1_2.out); rintro e w32 ⟨rfl, hb⟩; refine ⟨_, rfl, ?_⟩; have n0_ := zA (Kd.R_below (by (with_reducible repeat (first | apply Kd.R_alloc | apply Kd.R_drewN | apply Kd.R_drew)); exact HO_104004.out) hb); have n1_ := zA (qX BK101.out hb); have n2_ := zA (qX BK102.out hb); have n3_ := zA (qX BK103.out hb); have n4_ := zA (zV qB hb); clear HO_104004 BK101 BK102 BK103 HB; have HO_104004 := n0_; have BK101 := n1_; have BK102 := n2_; have BK103 := n3_; have HB := n4_; clear n0_ n1_ n2_ n3_ n4_; (try clear hb); (try clear hb2); (try clear hk); (try clear hi); obtain ⟨_, _, _, _, _, _, _, _, _, _⟩ := qc5f BK103.out; obtain ⟨_, _, _, _, _, _, _, _, _, _⟩ := qc5f BK102.out))
          refine bodyPost_ret (results_ct rfl _ _ gb102 70 #[.int .i64 a0, .int .i64 a1_0, .int .i64 a2, .int .i64 1, .slice Ao27 x104004_1.length co27] (0, 0) _ rfl (qV BK102.out) Try.underlying70 rfl (by kernel_rfl)) rfl ?_; exact ⟨_, qE, by (with_reducible repeat (first | apply Kd.R_alloc | apply Kd.R_drewN | apply Kd.R_drew)); exact Kd.R_mono (Kd.R_far (p := ⟨gb102, 4, none⟩) (Kd.R_far (p := ⟨gb102, 3, none⟩) (Kd.R_far (p := ⟨gb102, 2, none⟩) (Kd.R_far (p := ⟨gb102, 1, none⟩) (Kd.R_far (p := ⟨gb102, 0, none⟩) (Kd.R_types HO_104004.out BK102.out (by decide)) (fun _ hk => hk.2) (.int .i64 a0)) (fun _ hk => hk.2) (.int .i64 a1_0)) (fun _ hk => hk.2) (.int .i64 a2)) (fun _ hk => hk.2) (.int .i64 1)) (fun _ hk => hk.2) (.slice Ao27 x104004_1.length co27)) (fun _ hk => trivial), qB⟩
        replace c23 := Bool.eq_false_iff.mpr c23; subst c23; have H1 : (some (0, 0, 0, 0, ([] : List (S97)), 34)) = some (r1, r2, r3, r4, r5, r6) := by first | (rw [if_neg (show ¬ (false = true) by decide)] at H; exact H) | rfl
        clear H; have H := H1; clear H1; simp only [zNq, zOq] at H; obtain ⟨rfl, rfl, rfl, rfl, rfl, rfl⟩ := H; have hnb35 := NB103_101.out; have hnc35 := NB101_103.out; have hnb36 := NB103_102.out; have hnc36 := NB102_103.out; obtain ⟨_, _, _, _, _, _, _, _, _, _⟩ := qc5f BK103.out; obtain ⟨Ao38, co38, eo38⟩ := Kd.R_slice HO_104004.out; subst eo38; go_wp2_with (first | ((with_reducible refine zJq (f := 53) rfl ?_); refine goesL_ (some 40) rfl rfl Try.func53 (by kernel_rfl) rfl #[.agg #[.int .i64 a0, .int .i64 a1_0, .int .i64 a2, .int .i64 1, .slice Ao38 x104004_1.length co38]] rfl (by (try simp only [zR, zS, zT]); first | done | rfl | (simp only [zP, zQ]; rfl)) ?_; (with_reducible refine (backhaulref27_Check.calls k1 a0 a1_0 a2 1 _ _ x104004_1 t109 _ ?side1 ?side2 A20.out).mono ?_); (case side1 => repeat (first | exact (Kd.R_reads' HO_104004.out).2.2 | (with_reducible refine Kd.C_alloc ?_ _) | (with_reducible refine Kd.C_drewN ?_ _) | (with_reducible refine Kd.C_drew ?_))); (case side2 => exact (Kd.R_reads' HO_104004.out).2.1); rintro e w39 ⟨rfl, hb⟩; refine ⟨_, rfl, ?_⟩; have n0_ := zA (Kd.R_below (by (with_reducible repeat (first | apply Kd.R_alloc | apply Kd.R_drewN | apply Kd.R_drew)); exact HO_104004.out) hb); have n1_ := zA (qX BK101.out hb); have n2_ := zA (qX BK102.out hb); have n3_ := zA (qX BK103.out hb); have n4_ := zA (zV qB hb); clear HO_104004 BK101 BK102 BK103 HB; have HO_104004 := n0_; have BK101 := n1_; have BK102 := n2_; have BK103 := n3_; have HB := n4_; clear n0_ n1_ n2_ n3_ n4_; (try clear hb); (try clear hb2); (try clear hk); (try clear hi); obtain ⟨_, _, _, _, _, _, _, _, _, _⟩ := qc5f BK103.out; have hnb41 := NB101_102.out; have hnc41 := NB102_101.out; obtain ⟨_, _, _, _, _, _⟩ := qc3f BK101.out) | ((with_reducible refine zJq (f := 55) rfl ?_); refine goesL_ (some 45) rfl rfl Try.func55 (by kernel_rfl) rfl #[.agg #[.int .i64 a0, .int .i64 a1_0, .int .i64 a2, .int .i64 1, .slice Ao38 x104004_1.length co38], .agg #[.int .i64 a1_0, .int .i64 a1_1, .slice A1_2 l1_2.length c1_2]] rfl (by (try simp only [zR, zS, zT]); first | done | rfl | (simp only [zP, zQ]; rfl)) ?_; (with_reducible refine (backhaulref27_Fits.calls k1 a0 a1_0 a2 1 _ _ x104004_1 a1_0 a1_1 _ _ l1_2 false _ ?side1 ?side2 ?side3 ?side4 A22.out).mono ?_); (case side1 => repeat (first | exact (Kd.R_reads' HO_104004.out).2.2 | (with_reducible refine Kd.C_alloc ?_ _) | (with_reducible refine Kd.C_drewN ?_ _) | (with_reducible refine Kd.C_drew ?_))); (case side2 => exact (Kd.R_reads' HO_104004.out).2.1); (case side3 => exact qC (Kd.C_below HR1_2.out HB.out)); (case side4 => exact HC1_2.out); rintro e w43 ⟨rfl, hb⟩; refine ⟨_, rfl, ?_⟩; have n0_ := zA (Kd.R_below (by (with_reducible repeat (first | apply Kd.R_alloc | apply Kd.R_drewN | apply Kd.R_drew)); exact HO_104004.out) hb); have n1_ := zA (qX BK101.out hb); have n2_ := zA (qX BK102.out hb); have n3_ := zA (qX BK103.out hb); have n4_ := zA (zV qB hb); clear HO_104004 BK101 BK102 BK103 HB; have HO_104004 := n0_; have BK101 := n1_; have BK102 := n2_; have BK103 := n3_; have HB := n4_; clear n0_ n1_ n2_ n3_ n4_; (try clear hb); (try clear hb2); (try clear hk); (try clear hi); obtain ⟨_, _, _, _, _, _, _, _, _, _⟩ := qc5f BK102.out))
        refine bodyPost_ret (results_ct rfl _ _ gb102 70 #[.int .i64 0, .int .i64 0, .int .i64 0, .int .i64 0, .slice none 0 0] (0, 0) _ rfl (qV BK102.out) Try.underlying70 rfl (by kernel_rfl)) rfl ?_; exact ⟨_, qE, qN, qB⟩
      rw [if_neg c21] at H; have c21b0 : (t109 == 0) = false := beq_eq_false_iff_ne.mpr c21; have c21b1 : (t109 != 0) = true := bne_iff_ne.mpr c21; simp only [zNq, zOq] at H; obtain ⟨rfl, rfl, rfl, rfl, rfl, rfl⟩ := H; have hnb45 := NB103_101.out; have hnc45 := NB101_103.out; have hnb46 := NB103_102.out; have hnc46 := NB102_103.out; obtain ⟨_, _, _, _, _, _, _, _, _, _⟩ := qc5f BK103.out; obtain ⟨Ao48, co48, eo48⟩ := Kd.R_slice HO_104004.out; subst eo48; go_wp2_with (first | ((with_reducible refine zJq (f := 53) rfl ?_); refine goesL_ (some 40) rfl rfl Try.func53 (by kernel_rfl) rfl #[.agg #[.int .i64 a0, .int .i64 a1_0, .int .i64 a2, .int .i64 1, .slice Ao48 x104004_1.length co48]] rfl (by (try simp only [zR, zS, zT]); first | done | rfl | (simp only [zP, zQ]; rfl)) ?_; (with_reducible refine (backhaulref27_Check.calls k1 a0 a1_0 a2 1 _ _ x104004_1 t109 _ ?side1 ?side2 A20.out).mono ?_); (case side1 => repeat (first | exact (Kd.R_reads' HO_104004.out).2.2 | (with_reducible refine Kd.C_alloc ?_ _) | (with_reducible refine Kd.C_drewN ?_ _) | (with_reducible refine Kd.C_drew ?_))); (case side2 => exact (Kd.R_reads' HO_104004.out).2.1); rintro e w49 ⟨rfl, hb⟩; refine ⟨_, rfl, ?_⟩; have n0_ := zA (Kd.R_below (by (with_reducible repeat (first | apply Kd.R_alloc | apply Kd.R_drewN | apply Kd.R_drew)); exact HO_104004.out) hb); have n1_ := zA (qX BK101.out hb); have n2_ := zA (qX BK102.out hb); have n3_ := zA (qX BK103.out hb); have n4_ := zA (zV qB hb); clear HO_104004 BK101 BK102 BK103 HB; have HO_104004 := n0_; have BK101 := n1_; have BK102 := n2_; have BK103 := n3_; have HB := n4_; clear n0_ n1_ n2_ n3_ n4_; (try clear hb); (try clear hb2); (try clear hk); (try clear hi); have hnb50 := NB102_101.out; have hnc50 := NB101_102.out; obtain ⟨_, _, _, _, _, _, _, _, _, _⟩ := qc5f BK102.out)); refine bodyPost_ret (results_ct rfl _ _ gb102 70 #[.int .i64 0, .int .i64 0, .int .i64 0, .int .i64 0, .slice none 0 0] (0, 0) _ rfl (qV BK102.out) Try.underlying70 rfl (by kernel_rfl)) rfl ?_; exact ⟨_, qE, qN, qB⟩
end Go.Proofs.Ytakkhomjpflkbaa.F
namespace Go.Proofs.Ytakkhomjpflkbaa.F
open Go.RowKit Go.Proofs.YtakkhomjpflkbaaX Go.Proofs.YtakkhomjpflkbaaW.PrintWords Go.Proofs.YtakkhomjpflkbaaW.PrintLast Go.Proofs.YtakkhomjpflkbaaW.PrintMore
attribute [local go_sem] max2_int min2_int max_two min_two max_three min_three max_four min_four   
attribute [local go_sem high] str_geq str_leq str_gtr
set_option linter.unusedVariables false
set_option linter.unusedSimpArgs false
attribute [local go_sem high] eqA97
mutual
def backhaulref27_Same.j0 : Nat → Bool → Int → Int → Int → Int → List (S97) → Int → Int → Int → Int → List (S97) → Option (Bool)
  | 0, _, _, _, _, _, _, _, _, _, _, _ => none
  | k + 1, x40, x102000, x102001, x102002, x102003, x102004, x103000, x103001, x103002, x103003, x103004 => if x40 = true then (some false) else (backhaulref27_Same.l0 k 0 x102000 x102001 x102002 x102003 x102004 x103000 x103001 x103002 x103003 x103004)
def backhaulref27_Same.l0 : Nat → Int → Int → Int → Int → Int → List (S97) → Int → Int → Int → Int → List (S97) → Option (Bool)
  | 0, _, _, _, _, _, _, _, _, _, _, _ => none
  | k + 1, x5, x102000, x102001, x102002, x102003, x102004, x103000, x103001, x103002, x103003, x103004 => if x5 < (x102004.length : Int) then (if 0 ≤ x5 then (if x5 < (x103004.length : Int) then (if (!(((rd_T97 x102004 x5).f0) == ((rd_T97 x103004 x5).f0)) || (!(((rd_T97 x102004 x5).f1) == ((rd_T97 x103004 x5).f1)) || (!(((rd_T97 x102004 x5).f2) == ((rd_T97 x103004 x5).f2))))) = true then (some false) else (backhaulref27_Same.l0 k (wrap64 (x5 + 1)) x102000 x102001 x102002 x102003 x102004 x103000 x103001 x103002 x103003 x103004)) else (none)) else (none)) else (some true)
end
def backhaulref27_Same.f (k : Nat) (a0_0 : Int) (a0_1 : Int) (a0_2 : Int) (a0_3 : Int) (l0_4 : List (S97)) (a1_0 : Int) (a1_1 : Int) (a1_2 : Int) (a1_3 : Int) (l1_4 : List (S97)) : Option (Bool) := if a0_0 = a1_0 then (if a0_1 = a1_1 then (if a0_2 = a1_2 then (if a0_3 = a1_3 then (backhaulref27_Same.j0 k ((l0_4.length : Int) != (l1_4.length : Int)) a0_0 a0_1 a0_2 a0_3 l0_4 a1_0 a1_1 a1_2 a1_3 l1_4) else (backhaulref27_Same.j0 k true a0_0 a0_1 a0_2 a0_3 l0_4 a1_0 a1_1 a1_2 a1_3 l1_4)) else (backhaulref27_Same.j0 k true a0_0 a0_1 a0_2 a0_3 l0_4 a1_0 a1_1 a1_2 a1_3 l1_4)) else (backhaulref27_Same.j0 k true a0_0 a0_1 a0_2 a0_3 l0_4 a1_0 a1_1 a1_2 a1_3 l1_4)) else (backhaulref27_Same.j0 k true a0_0 a0_1 a0_2 a0_3 l0_4 a1_0 a1_1 a1_2 a1_3 l1_4)
theorem backhaulref27_Same.mono_l : ∀ k, (∀ y0 y1 y2 y3 y4 y5 y6 y7 y8 y9 y10, LeO (backhaulref27_Same.j0 k y0 y1 y2 y3 y4 y5 y6 y7 y8 y9 y10) (backhaulref27_Same.j0 (k + 1) y0 y1 y2 y3 y4 y5 y6 y7 y8 y9 y10)) ∧ (∀ y0 y1 y2 y3 y4 y5 y6 y7 y8 y9 y10, LeO (backhaulref27_Same.l0 k y0 y1 y2 y3 y4 y5 y6 y7 y8 y9 y10) (backhaulref27_Same.l0 (k + 1) y0 y1 y2 y3 y4 y5 y6 y7 y8 y9 y10))
  | 0 => ⟨fun _ _ _ _ _ _ _ _ _ _ _ r h => by simp [backhaulref27_Same.j0] at h, fun _ _ _ _ _ _ _ _ _ _ _ r h => by simp [backhaulref27_Same.l0] at h⟩
  | k + 1 => by
    obtain ⟨ih0, ih1⟩ := backhaulref27_Same.mono_l k
    refine ⟨?_, ?_⟩
    · intro y0 y1 y2 y3 y4 y5 y6 y7 y8 y9 y10
      unfold backhaulref27_Same.j0
      repeat' first
      | (with_reducible exact ih0 _ _ _ _ _ _ _ _ _ _ _)
      | (with_reducible exact ih1 _ _ _ _ _ _ _ _ _ _ _)
      | (with_reducible exact LeO.refl _)
      | (with_reducible exact LeO.none _)
      | (with_reducible refine LeO.ite ?_ ?_)
      | (with_reducible refine LeO.bind ?_ (fun _ => ?_))
      | exact ih0 _ _ _ _ _ _ _ _ _ _ _
      | exact ih1 _ _ _ _ _ _ _ _ _ _ _
      | exact LeO.none _
      | refine LeO.ite ?_ ?_
      | refine LeO.bind ?_ (fun _ => ?_)
    intro y0 y1 y2 y3 y4 y5 y6 y7 y8 y9 y10
    unfold backhaulref27_Same.l0
    repeat' first
    | (with_reducible exact ih0 _ _ _ _ _ _ _ _ _ _ _)
    | (with_reducible exact ih1 _ _ _ _ _ _ _ _ _ _ _)
    | (with_reducible exact LeO.refl _)
    | (with_reducible exact LeO.none _)
    | (with_reducible refine LeO.ite ?_ ?_)
    | (with_reducible refine LeO.bind ?_ (fun _ => ?_))
    | exact ih0 _ _ _ _ _ _ _ _ _ _ _
    | exact ih1 _ _ _ _ _ _ _ _ _ _ _
    | exact LeO.none _
    | refine LeO.ite ?_ ?_
    | refine LeO.bind ?_ (fun _ => ?_)
theorem backhaulref27_Same.mono : ∀ a0 a1 a2 a3 a4 a5 a6 a7 a8 a9 k, LeO (backhaulref27_Same.f k a0 a1 a2 a3 a4 a5 a6 a7 a8 a9) (backhaulref27_Same.f (k + 1) a0 a1 a2 a3 a4 a5 a6 a7 a8 a9) := by
  intro a0 a1 a2 a3 a4 a5 a6 a7 a8 a9 k
  obtain ⟨ih0, ih1⟩ := backhaulref27_Same.mono_l k
  unfold backhaulref27_Same.f
  repeat' first
      | (with_reducible exact ih0 _ _ _ _ _ _ _ _ _ _ _)
      | (with_reducible exact ih1 _ _ _ _ _ _ _ _ _ _ _)
      | (with_reducible exact LeO.refl _)
      | (with_reducible exact LeO.none _)
      | (with_reducible refine LeO.ite ?_ ?_)
      | (with_reducible refine LeO.bind ?_ (fun _ => ?_))
      | exact ih0 _ _ _ _ _ _ _ _ _ _ _
      | exact ih1 _ _ _ _ _ _ _ _ _ _ _
      | exact LeO.none _
      | refine LeO.ite ?_ ?_
      | refine LeO.bind ?_ (fun _ => ?_)
set_option maxHeartbeats 8000000 in
set_option maxRecDepth 100000 in
theorem backhaulref27_Same.calls (k : Nat) (a0_0 : Int) (a0_1 : Int) (a0_2 : Int) (a0_3 : Int) (A0_4 : Option Addr) (c0_4 : Nat) (l0_4 : List (S97)) (a1_0 : Int) (a1_1 : Int) (a1_2 : Int) (a1_3 : Int) (A1_4 : Option Addr) (c1_4 : Nat) (l1_4 : List (S97)) (r : Bool) (w : World) (hr0_4 : Kd.C k97 w A0_4 l0_4.length l0_4) (hc0_4 : l0_4.length ≤ c0_4) (hr1_4 : Kd.C k97 w A1_4 l1_4.length l1_4) (hc1_4 : l1_4.length ≤ c1_4) (h : backhaulref27_Same.f k a0_0 a0_1 a0_2 a0_3 l0_4 a1_0 a1_1 a1_2 a1_3 l1_4 = some r) :
    Calls Try.prog 56 #[.agg #[.int .i64 a0_0, .int .i64 a0_1, .int .i64 a0_2, .int .i64 a0_3, .slice A0_4 l0_4.length c0_4], .agg #[.int .i64 a1_0, .int .i64 a1_1, .int .i64 a1_2, .int .i64 a1_3, .slice A1_4 l1_4.length c1_4]] w fun e w' => e = .returned (.bool r) ∧ Below w.heap.size w w' := by
  have hu70 := Try.underlying70
  have hu97 := Try.underlying97
  have HR0_4 := zA hr0_4
  have HC0_4 := zA hc0_4
  clear hr0_4 hc0_4
  have HR1_4 := zA hr1_4
  have HC1_4 := zA hc1_4
  clear hr1_4 hc1_4
  have HB := zA (Below.refl w.heap.size w)
  have H : (if a0_0 = a1_0 then (if a0_1 = a1_1 then (if a0_2 = a1_2 then (if a0_3 = a1_3 then (backhaulref27_Same.j0 k ((l0_4.length : Int) != (l1_4.length : Int)) a0_0 a0_1 a0_2 a0_3 l0_4 a1_0 a1_1 a1_2 a1_3 l1_4) else (backhaulref27_Same.j0 k true a0_0 a0_1 a0_2 a0_3 l0_4 a1_0 a1_1 a1_2 a1_3 l1_4)) else (backhaulref27_Same.j0 k true a0_0 a0_1 a0_2 a0_3 l0_4 a1_0 a1_1 a1_2 a1_3 l1_4)) else (backhaulref27_Same.j0 k true a0_0 a0_1 a0_2 a0_3 l0_4 a1_0 a1_1 a1_2 a1_3 l1_4)) else (backhaulref27_Same.j0 k true a0_0 a0_1 a0_2 a0_3 l0_4 a1_0 a1_1 a1_2 a1_3 l1_4)) = some r := h
  clear h
  have HC3 := zA H
  clear H
  go_enter Try.func56, Try.ntmps56
  go_upto_region 1 with (first | ((with_reducible refine gate_dst (N := 2) rfl ?_); (try (refine gate_guard (by rfl) ?_; dsimp only)); refine box_event qr (N := 2) qr (cs := #[.int .i64 a0_0, .int .i64 a0_1, .int .i64 a0_2, .int .i64 a0_3, .slice A0_4 l0_4.length c0_4]) (t := 70) qg ?_; intro gb101 hg w4 hbox hb; have n0_ := zA (zV qB hb); have n1_ := zA (hbox); have n2_ := zA ((qS : w.heap.size ≤ gb101)); have n3_ := zA ((qS : w.heap.size ≤ gb101)); clear HB; have HB := n0_; have BK101 := n1_; have GW101 := n2_; have GE101 := n3_; clear n0_ n1_ n2_ n3_ hb hbox hg) | ((with_reducible refine gate_dst (N := 3) rfl ?_); (try (refine gate_guard (by rfl) ?_; dsimp only)); refine box_event qr (N := 3) qr (cs := #[.int .i64 a1_0, .int .i64 a1_1, .int .i64 a1_2, .int .i64 a1_3, .slice A1_4 l1_4.length c1_4]) (t := 70) qg ?_; intro gb102 hg w5 hbox hb; have n0_ := zA (qX BK101.out hb); have n1_ := zA (zV qB hb); have n2_ := zA (hbox); have n3_ := zA ((qS : w.heap.size ≤ gb102)); have n4_ := zA ((qS : w.heap.size ≤ gb102)); have n5_ := zA ((by rw [hg]; exact zLq (qL BK101.out) : gb101 ≠ gb102)); have n6_ := zA ((by rw [hg]; exact zMq (qL BK101.out) : gb102 ≠ gb101)); clear BK101 HB; have BK101 := n0_; have HB := n1_; have BK102 := n2_; have GW102 := n3_; have GE102 := n4_; have NB101_102 := n5_; have NB102_101 := n6_; clear n0_ n1_ n2_ n3_ n4_ n5_ n6_ hb hbox hg))
  repeat (go_quiet (first | ((with_reducible refine gate_dst (N := 2) rfl ?_); (try (refine gate_guard (by rfl) ?_; dsimp only)); refine box_event qr (N := 2) qr (cs := #[.int .i64 a0_0, .int .i64 a0_1, .int .i64 a0_2, .int .i64 a0_3, .slice A0_4 l0_4.length c0_4]) (t := 70) qg ?_; intro gb101 hg w4 hbox hb; have n0_ := zA (zV qB hb); have n1_ := zA (hbox); have n2_ := zA ((qS : w.heap.size ≤ gb101)); have n3_ := zA ((qS : w.heap.size ≤ gb101)); clear HB; have HB := n0_; have BK101 := n1_; have GW101 := n2_; have GE101 := n3_; clear n0_ n1_ n2_ n3_ hb hbox hg) | ((with_reducible refine gate_dst (N := 3) rfl ?_); (try (refine gate_guard (by rfl) ?_; dsimp only)); refine box_event qr (N := 3) qr (cs := #[.int .i64 a1_0, .int .i64 a1_1, .int .i64 a1_2, .int .i64 a1_3, .slice A1_4 l1_4.length c1_4]) (t := 70) qg ?_; intro gb102 hg w5 hbox hb; have n0_ := zA (qX BK101.out hb); have n1_ := zA (zV qB hb); have n2_ := zA (hbox); have n3_ := zA ((qS : w.heap.size ≤ gb102)); have n4_ := zA ((qS : w.heap.size ≤ gb102)); have n5_ := zA ((by rw [hg]; exact zLq (qL BK101.out) : gb101 ≠ gb102)); have n6_ := zA ((by rw [hg]; exact zMq (qL BK101.out) : gb102 ≠ gb101)); clear BK101 HB; have BK101 := n0_; have HB := n1_; have BK102 := n2_; have GW102 := n3_; have GE102 := n4_; have NB101_102 := n5_; have NB102_101 := n6_; clear n0_ n1_ n2_ n3_ n4_ n5_ n6_ hb hbox hg)); go_upto_region 1 with (first | ((with_reducible refine gate_dst (N := 2) rfl ?_); (try (refine gate_guard (by rfl) ?_; dsimp only)); refine box_event qr (N := 2) qr (cs := #[.int .i64 a0_0, .int .i64 a0_1, .int .i64 a0_2, .int .i64 a0_3, .slice A0_4 l0_4.length c0_4]) (t := 70) qg ?_; intro gb101 hg w4 hbox hb; have n0_ := zA (zV qB hb); have n1_ := zA (hbox); have n2_ := zA ((qS : w.heap.size ≤ gb101)); have n3_ := zA ((qS : w.heap.size ≤ gb101)); clear HB; have HB := n0_; have BK101 := n1_; have GW101 := n2_; have GE101 := n3_; clear n0_ n1_ n2_ n3_ hb hbox hg) | ((with_reducible refine gate_dst (N := 3) rfl ?_); (try (refine gate_guard (by rfl) ?_; dsimp only)); refine box_event qr (N := 3) qr (cs := #[.int .i64 a1_0, .int .i64 a1_1, .int .i64 a1_2, .int .i64 a1_3, .slice A1_4 l1_4.length c1_4]) (t := 70) qg ?_; intro gb102 hg w5 hbox hb; have n0_ := zA (qX BK101.out hb); have n1_ := zA (zV qB hb); have n2_ := zA (hbox); have n3_ := zA ((qS : w.heap.size ≤ gb102)); have n4_ := zA ((qS : w.heap.size ≤ gb102)); have n5_ := zA ((by rw [hg]; exact zLq (qL BK101.out) : gb101 ≠ gb102)); have n6_ := zA ((by rw [hg]; exact zMq (qL BK101.out) : gb102 ≠ gb101)); clear BK101 HB; have BK101 := n0_; have HB := n1_; have BK102 := n2_; have GW102 := n3_; have GE102 := n4_; have NB101_102 := n5_; have NB102_101 := n6_; clear n0_ n1_ n2_ n3_ n4_ n5_ n6_ hb hbox hg)))
  (try simp only [Act.put, zH, zI, zJ])
  go_cut [40] (fun v40 wc => ∃ (kq : Nat) (x40_2 : Bool), v40 = .bool x40_2 ∧ Aside0 (backhaulref27_Same.j0 kq x40_2 a0_0 a0_1 a0_2 a0_3 l0_4 a1_0 a1_1 a1_2 a1_3 l1_4 = some r) ∧ Aside0 (kq ≤ k) ∧ Aside0 (wc.heap[gb101]? = some (.cells #[.int .i64 a0_0, .int .i64 a0_1, .int .i64 a0_2, .int .i64 a0_3, (.slice A0_4 l0_4.length c0_4)] 70 (0, 0))) ∧ Aside0 (wc.heap[gb102]? = some (.cells #[.int .i64 a1_0, .int .i64 a1_1, .int .i64 a1_2, .int .i64 a1_3, (.slice A1_4 l1_4.length c1_4)] 70 (0, 0))) ∧ Aside0 (Below w.heap.size w wc))
  case first =>
    have H := HC3.out; clear HC3; by_cases c6 : a0_0 = a1_0
    · rw [if_pos c6] at H
      have c6b0 : (a0_0 == a1_0) = true := beq_iff_eq.mpr c6; have c6b1 : (a0_0 != a1_0) = false := bne_eq_false_iff_eq.mpr c6; clear c6; (first | rw [c6b0] | (simp only [i64_w, i32_w]; rw [c6b0]) | skip)
      by_cases c7 : a0_1 = a1_1
      · rw [if_pos c7] at H
        have c7b0 : (a0_1 == a1_1) = true := beq_iff_eq.mpr c7; have c7b1 : (a0_1 != a1_1) = false := bne_eq_false_iff_eq.mpr c7; clear c7; by_cases c8 : a0_2 = a1_2
        · rw [if_pos c8] at H
          have c8b0 : (a0_2 == a1_2) = true := beq_iff_eq.mpr c8; have c8b1 : (a0_2 != a1_2) = false := bne_eq_false_iff_eq.mpr c8; clear c8; by_cases c9 : a0_3 = a1_3
          · rw [if_pos c9] at H
            have c9b0 : (a0_3 == a1_3) = true := beq_iff_eq.mpr c9; have c9b1 : (a0_3 != a1_3) = false := bne_eq_false_iff_eq.mpr c9; clear c9; have H' := zA H; clear H; have hnb10 := NB101_102.out; have hnc10 := NB102_101.out; obtain ⟨_, _, _, _, _, _, _, _, _, _⟩ := qc5f BK101.out; obtain ⟨_, _, _, _, _, _, _, _, _, _⟩ := qc5f BK102.out; go_wp2; repeat (go_quiet (fail); try go_wp2)
            go_meet
            case rel => exact ⟨_, (((l0_4.length : Int) != (l1_4.length : Int))), (by first | rfl | (simp; done) | (simp [*]; done)), H', ⟨by first | omega | exact Nat.le_refl _⟩, ⟨by exact BK101.out⟩, ⟨by exact BK102.out⟩, ⟨qB⟩⟩
          rw [if_neg c9] at H; have c9b0 : (a0_3 == a1_3) = false := beq_eq_false_iff_ne.mpr c9; have c9b1 : (a0_3 != a1_3) = true := bne_iff_ne.mpr c9; have H' := zA H; clear H; have hnb13 := NB101_102.out; have hnc13 := NB102_101.out; obtain ⟨_, _, _, _, _, _, _, _, _, _⟩ := qc5f BK101.out; obtain ⟨_, _, _, _, _, _, _, _, _, _⟩ := qc5f BK102.out; go_wp2; repeat (go_quiet (fail); try go_wp2)
          go_meet
          case rel => exact ⟨_, (true), (by first | rfl | (simp; done) | (simp [*]; done)), H', ⟨by first | omega | exact Nat.le_refl _⟩, ⟨by exact BK101.out⟩, ⟨by exact BK102.out⟩, ⟨qB⟩⟩
        rw [if_neg c8] at H; have c8b0 : (a0_2 == a1_2) = false := beq_eq_false_iff_ne.mpr c8; have c8b1 : (a0_2 != a1_2) = true := bne_iff_ne.mpr c8; have H' := zA H; clear H; have hnb16 := NB101_102.out; have hnc16 := NB102_101.out; obtain ⟨_, _, _, _, _, _, _, _, _, _⟩ := qc5f BK101.out; obtain ⟨_, _, _, _, _, _, _, _, _, _⟩ := qc5f BK102.out; go_wp2; repeat (go_quiet (fail); try go_wp2)
        go_meet
        case rel => exact ⟨_, (true), (by first | rfl | (simp; done) | (simp [*]; done)), H', ⟨by first | omega | exact Nat.le_refl _⟩, ⟨by exact BK101.out⟩, ⟨by exact BK102.out⟩, ⟨qB⟩⟩
      rw [if_neg c7] at H; have c7b0 : (a0_1 == a1_1) = false := beq_eq_false_iff_ne.mpr c7; have c7b1 : (a0_1 != a1_1) = true := bne_iff_ne.mpr c7; have H' := zA H; clear H; have hnb19 := NB101_102.out; have hnc19 := NB102_101.out; obtain ⟨_, _, _, _, _, _, _, _, _, _⟩ := qc5f BK101.out; obtain ⟨_, _, _, _, _, _, _, _, _, _⟩ := qc5f BK102.out; go_wp2; repeat (go_quiet (fail); try go_wp2)
      go_meet
      case rel => exact ⟨_, (true), (by first | rfl | (simp; done) | (simp [*]; done)), H', ⟨by first | omega | exact Nat.le_refl _⟩, ⟨by exact BK101.out⟩, ⟨by exact BK102.out⟩, ⟨qB⟩⟩
    rw [if_neg c6] at H; have c6b0 : (a0_0 == a1_0) = false := beq_eq_false_iff_ne.mpr c6; have c6b1 : (a0_0 != a1_0) = true := bne_iff_ne.mpr c6; (first | rw [c6b0] | (simp only [i64_w, i32_w]; rw [c6b0]) | skip)
    have H' := zA H; clear H; have hnb22 := NB101_102.out; have hnc22 := NB102_101.out; obtain ⟨_, _, _, _, _, _, _, _, _, _⟩ := qc5f BK101.out; obtain ⟨_, _, _, _, _, _, _, _, _, _⟩ := qc5f BK102.out; go_wp2; repeat (go_quiet (fail); try go_wp2)
    go_meet
    case rel => exact ⟨_, (true), (by first | rfl | (simp; done) | (simp [*]; done)), H', ⟨by first | omega | exact Nat.le_refl _⟩, ⟨by exact BK101.out⟩, ⟨by exact BK102.out⟩, ⟨qB⟩⟩
  case rest =>
    clear HC3; try clear c1
    try clear c2
    try clear p2
    try clear c5
    try clear c6
    try clear c6b0
    try clear c6b1
    try clear c7
    try clear c7b0
    try clear c7b1
    try clear c8
    try clear c8b0
    try clear c8b1
    try clear c9
    try clear c9b0
    try clear c9b1
    try clear c10
    try clear c13
    try clear c16
    try clear c19
    try clear c22
    obtain ⟨kq, x40_2, rfl, HA, HJ2, BK101, BK102, HB⟩ := hcut; cases kq with
    | zero => exact absurd HA.out (by simp [backhaulref27_Same.j0])
    | succ kj2 =>
      have H := HA.out; clear HA; simp only [backhaulref27_Same.j0] at H; by_cases c25 : x40_2 = true
      · subst c25
        have H1 : (some false) = some r := by first | (rw [if_pos rfl] at H; exact H) | rfl
        clear H; have H := H1; clear H1; obtain rfl := zKq H; go_wp2; repeat (go_quiet (fail); try go_wp2)
        go_ret; exact ⟨qE, qB⟩
      replace c25 := Bool.eq_false_iff.mpr c25; subst c25; have H1 : (backhaulref27_Same.l0 kj2 0 a0_0 a0_1 a0_2 a0_3 l0_4 a1_0 a1_1 a1_2 a1_3 l1_4) = some r := by first | (rw [if_neg (show ¬ (false = true) by decide)] at H; exact H) | rfl
      clear H; have H := H1; clear H1; have H' := zA H; clear H; go_wp2; repeat (go_quiet (fail); try go_wp2)
      go_loopg [5] kj2 (fun kq v5 w' => ∃ (x5_2 : Int), v5 = .int .i64 x5_2 ∧ Aside0 (backhaulref27_Same.l0 kq x5_2 a0_0 a0_1 a0_2 a0_3 l0_4 a1_0 a1_1 a1_2 a1_3 l1_4 = some r) ∧ Aside0 (kq ≤ kj2) ∧ Aside0 (w'.heap[gb101]? = some (.cells #[.int .i64 a0_0, .int .i64 a0_1, .int .i64 a0_2, .int .i64 a0_3, (.slice A0_4 l0_4.length c0_4)] 70 (0, 0))) ∧ Aside0 (w'.heap[gb102]? = some (.cells #[.int .i64 a1_0, .int .i64 a1_1, .int .i64 a1_2, .int .i64 a1_3, (.slice A1_4 l1_4.length c1_4)] 70 (0, 0))) ∧ Aside0 (Below w.heap.size w w'))
      case atStart => exact ⟨(0), (by first | rfl | (simp; done) | (simp [*]; done)), H', ⟨Nat.le_refl _⟩, ⟨by exact BK101.out⟩, ⟨by exact BK102.out⟩, ⟨qB⟩⟩
      case round =>
        clear H'; try clear c1
        try clear c2
        try clear p2
        try clear c5
        try clear c6
        try clear c6b0
        try clear c6b1
        try clear c7
        try clear c7b0
        try clear c7b1
        try clear c8
        try clear c8b0
        try clear c8b1
        try clear c9
        try clear c9b0
        try clear c9b1
        try clear c10
        try clear c13
        try clear c16
        try clear c19
        try clear c22
        try clear c25
        try clear p2
        obtain ⟨x5_2, rfl, HA, HK2, BK101, BK102, HB⟩ := hrel; cases gk with
        | zero => exact absurd HA.out (by simp [backhaulref27_Same.l0])
        | succ k2 =>
          have H := HA.out; clear HA; simp only [backhaulref27_Same.l0] at H; by_cases c26 : x5_2 < (l0_4.length : Int)
          · rw [if_pos c26] at H
            have c26b0 : decide (x5_2 < (l0_4.length : Int)) = true := zFq c26; clear c26; by_cases c27 : 0 ≤ x5_2
            · rw [if_pos c27] at H
              have c27b0 : decide (0 ≤ x5_2) = true := zFq c27; clear c27; by_cases c28 : x5_2 < (l1_4.length : Int)
              · rw [if_pos c28] at H
                have c28b0 : decide (x5_2 < (l1_4.length : Int)) = true := zFq c28; clear c28; by_cases c29 : (!(((rd_T97 l0_4 x5_2).f0) == ((rd_T97 l1_4 x5_2).f0)) || (!(((rd_T97 l0_4 x5_2).f1) == ((rd_T97 l1_4 x5_2).f1)) || (!(((rd_T97 l0_4 x5_2).f2) == ((rd_T97 l1_4 x5_2).f2))))) = true
                · rw [if_pos c29] at H
                  have c29b0 : (!(((rd_T97 l0_4 x5_2).f0) == ((rd_T97 l1_4 x5_2).f0)) || (!(((rd_T97 l0_4 x5_2).f1) == ((rd_T97 l1_4 x5_2).f1)) || (!(((rd_T97 l0_4 x5_2).f2) == ((rd_T97 l1_4 x5_2).f2))))) = true := c29; clear c29; obtain rfl := zKq H; have hnb30 := NB101_102.out; have hnc30 := NB102_101.out; obtain ⟨_, _, _, _, _, _, _, _, _, _⟩ := qc5f BK101.out; have p103 : 0 ≤ (x5_2 : Int) := of_decide_eq_true qA; have q103 : x5_2 < (l0_4.length : Int) := of_decide_eq_true qA; obtain ⟨ad103, e103, hx103_0, hx103_1, hx103_2⟩ := at_T97 HR0_4.out x5_2 p103 q103; cases e103
                  replace hx103_0 := (HB.out.cell (zCq w _ hx103_0)).trans hx103_0; replace hx103_1 := (HB.out.cell (zCq w _ hx103_1)).trans hx103_1; replace hx103_2 := (HB.out.cell (zCq w _ hx103_2)).trans hx103_2; replace p103 := eq_true p103; replace q103 := eq_true q103; obtain ⟨_, _, _, _, _, _, _, _, _, _⟩ := qc5f BK102.out; have p104 : 0 ≤ (x5_2 : Int) := of_decide_eq_true qA; have q104 : x5_2 < (l1_4.length : Int) := of_decide_eq_true qA; obtain ⟨ad104, e104, hx104_0, hx104_1, hx104_2⟩ := at_T97 HR1_4.out x5_2 p104 q104; cases e104
                  replace hx104_0 := (HB.out.cell (zCq w _ hx104_0)).trans hx104_0; replace hx104_1 := (HB.out.cell (zCq w _ hx104_1)).trans hx104_1; replace hx104_2 := (HB.out.cell (zCq w _ hx104_2)).trans hx104_2; replace p104 := eq_true p104; replace q104 := eq_true q104; go_wp2; repeat (go_quiet (fail); try go_wp2)
                  go_ret; exact ⟨qE, qB⟩
                rw [if_neg c29] at H; have c29b0 : (!(((rd_T97 l0_4 x5_2).f0) == ((rd_T97 l1_4 x5_2).f0)) || (!(((rd_T97 l0_4 x5_2).f1) == ((rd_T97 l1_4 x5_2).f1)) || (!(((rd_T97 l0_4 x5_2).f2) == ((rd_T97 l1_4 x5_2).f2))))) = false := by simpa using c29
                clear c29; have H' := zA H; clear H; have hnb33 := NB101_102.out; have hnc33 := NB102_101.out; obtain ⟨_, _, _, _, _, _, _, _, _, _⟩ := qc5f BK101.out; have p103 : 0 ≤ (x5_2 : Int) := of_decide_eq_true qA; have q103 : x5_2 < (l0_4.length : Int) := of_decide_eq_true qA; obtain ⟨ad103, e103, hx103_0, hx103_1, hx103_2⟩ := at_T97 HR0_4.out x5_2 p103 q103; cases e103
                replace hx103_0 := (HB.out.cell (zCq w _ hx103_0)).trans hx103_0; replace hx103_1 := (HB.out.cell (zCq w _ hx103_1)).trans hx103_1; replace hx103_2 := (HB.out.cell (zCq w _ hx103_2)).trans hx103_2; replace p103 := eq_true p103; replace q103 := eq_true q103; obtain ⟨_, _, _, _, _, _, _, _, _, _⟩ := qc5f BK102.out; have p104 : 0 ≤ (x5_2 : Int) := of_decide_eq_true qA; have q104 : x5_2 < (l1_4.length : Int) := of_decide_eq_true qA; obtain ⟨ad104, e104, hx104_0, hx104_1, hx104_2⟩ := at_T97 HR1_4.out x5_2 p104 q104; cases e104
                replace hx104_0 := (HB.out.cell (zCq w _ hx104_0)).trans hx104_0; replace hx104_1 := (HB.out.cell (zCq w _ hx104_1)).trans hx104_1; replace hx104_2 := (HB.out.cell (zCq w _ hx104_2)).trans hx104_2; replace p104 := eq_true p104; replace q104 := eq_true q104; go_wp2; repeat (go_quiet (fail); try go_wp2)
                go_roundg k2
                case measure => have := HJ2.out; have := HK2.out; omega
                case rel => exact ⟨(wrap64 (x5_2 + 1)), (by first | rfl | (simp; done) | (simp [*]; done)), H', ⟨by have := HJ2.out; have := HK2.out; omega⟩, ⟨by exact BK101.out⟩, ⟨by exact BK102.out⟩, ⟨qB⟩⟩
              rw [if_neg c28] at H; exact absurd H (by simp)
            rw [if_neg c27] at H; exact absurd H (by simp)
          rw [if_neg c26] at H; have c26b0 : decide (x5_2 < (l0_4.length : Int)) = false := zGq c26; clear c26; obtain rfl := zKq H; have hnb36 := NB101_102.out; have hnc36 := NB102_101.out; obtain ⟨_, _, _, _, _, _, _, _, _, _⟩ := qc5f BK101.out; go_wp2; repeat (go_quiet (fail); try go_wp2)
          go_ret; exact ⟨qE, qB⟩
def backhaullaw27_RmaMakes.j0 : Nat → Bool → Int → Int → Int → Int → List (S97) → Int → Int → Int → Int → List (S97) → Int → Int → List (S216) → Option (Bool)
  | 0, _, _, _, _, _, _, _, _, _, _, _, _, _, _ => none
  | k + 1, x24, x102000, x102001, x102002, x102003, x102004, x103000, x103001, x103002, x103003, x103004, x104000, x104001, x104002 => if x24 = true then ((backhaullaw27_awake.f).bind fun t107 => (if t107 = true then (some true) else (some false))) else ((rma_Make.f k x102000 x104000 x104001 x104002 x102002 x102004).bind fun bt108 => ((backhaulref27_Make.f k x102000 x104000 x104001 x104002 x102002 x102004).bind fun bt117 => ((rma_Check.f k x102000 x102001 x102002 x102003 x102004).bind fun t126 => ((backhaulref27_Check.f k x102000 x102001 x102002 x102003 x102004).bind fun t127 => (if t126 = t127 then ((rma_Fits.f k x102000 x102001 x102002 x102003 x102004 x104000 x104001 x104002).bind fun t128 => ((backhaulref27_Fits.f k x102000 x102001 x102002 x102003 x102004 x104000 x104001 x104002).bind fun t129 => (if (t128 == t129) = true then ((backhaulref27_Same.f k bt108.1 bt108.2.1 bt108.2.2.1 bt108.2.2.2.1 bt108.2.2.2.2.1 bt117.1 bt117.2.1 bt117.2.2.1 bt117.2.2.2.1 bt117.2.2.2.2.1).bind fun t130 => (if t130 = true then (if bt108.2.2.2.2.2 = bt117.2.2.2.2.2 then ((rma_Same.f k x102000 x102001 x102002 x102003 x102004 x103000 x103001 x103002 x103003 x103004).bind fun t131 => ((backhaulref27_Same.f k x102000 x102001 x102002 x102003 x102004 x103000 x103001 x103002 x103003 x103004).bind fun t132 => (if (t131 == t132) = true then ((backhaullaw27_awake.f).bind fun t133 => (if t133 = true then (some true) else (some false))) else (some false)))) else (some false)) else (some false))) else (some false)))) else (some false))))))
def backhaullaw27_RmaMakes.f (k : Nat) (a0_0 : Int) (a0_1 : Int) (a0_2 : Int) (a0_3 : Int) (l0_4 : List (S97)) (a1_0 : Int) (a1_1 : Int) (a1_2 : Int) (a1_3 : Int) (l1_4 : List (S97)) (a2_0 : Int) (a2_1 : Int) (l2_2 : List (S216)) : Option (Bool) := (backhaullaw27_Few.f a0_0 a0_1 a0_2 a0_3 l0_4).bind fun t104 => (if t104 = true then ((backhaullaw27_Few.f a1_0 a1_1 a1_2 a1_3 l1_4).bind fun t105 => (if t105 = true then ((backhaullaw21_Few.f k l2_2).bind fun t106 => (backhaullaw27_RmaMakes.j0 k (!t106) a0_0 a0_1 a0_2 a0_3 l0_4 a1_0 a1_1 a1_2 a1_3 l1_4 a2_0 a2_1 l2_2)) else (backhaullaw27_RmaMakes.j0 k true a0_0 a0_1 a0_2 a0_3 l0_4 a1_0 a1_1 a1_2 a1_3 l1_4 a2_0 a2_1 l2_2))) else (backhaullaw27_RmaMakes.j0 k true a0_0 a0_1 a0_2 a0_3 l0_4 a1_0 a1_1 a1_2 a1_3 l1_4 a2_0 a2_1 l2_2))
theorem backhaullaw27_RmaMakes.mono_l : ∀ k, (∀ y0 y1 y2 y3 y4 y5 y6 y7 y8 y9 y10 y11 y12 y13, LeO (backhaullaw27_RmaMakes.j0 k y0 y1 y2 y3 y4 y5 y6 y7 y8 y9 y10 y11 y12 y13) (backhaullaw27_RmaMakes.j0 (k + 1) y0 y1 y2 y3 y4 y5 y6 y7 y8 y9 y10 y11 y12 y13))
  | 0 => fun _ _ _ _ _ _ _ _ _ _ _ _ _ _ r h => by simp [backhaullaw27_RmaMakes.j0] at h
  | k + 1 => by
    have ih0 := backhaullaw27_RmaMakes.mono_l k
    intro y0 y1 y2 y3 y4 y5 y6 y7 y8 y9 y10 y11 y12 y13
    unfold backhaullaw27_RmaMakes.j0
    repeat' first
    | (with_reducible exact ih0 _ _ _ _ _ _ _ _ _ _ _ _ _ _)
    | (with_reducible exact backhaullaw21_Few.mono _ _)
    | (with_reducible exact backhaulref27_Check.mono _ _ _ _ _ _)
    | (with_reducible exact backhaulref27_Fits.mono _ _ _ _ _ _ _ _ _)
    | (with_reducible exact backhaulref27_Make.mono _ _ _ _ _ _ _)
    | (with_reducible exact backhaulref27_Same.mono _ _ _ _ _ _ _ _ _ _ _)
    | (with_reducible exact rma_Check.mono _ _ _ _ _ _)
    | (with_reducible exact rma_Fits.mono _ _ _ _ _ _ _ _ _)
    | (with_reducible exact rma_Make.mono _ _ _ _ _ _ _)
    | (with_reducible exact rma_Same.mono _ _ _ _ _ _ _ _ _ _ _)
    | (with_reducible exact LeO.refl _)
    | (with_reducible exact LeO.none _)
    | (with_reducible refine LeO.ite ?_ ?_)
    | (with_reducible refine LeO.bind ?_ (fun _ => ?_))
    | exact ih0 _ _ _ _ _ _ _ _ _ _ _ _ _ _
    | exact backhaullaw21_Few.mono _ _
    | exact backhaulref27_Check.mono _ _ _ _ _ _
    | exact backhaulref27_Fits.mono _ _ _ _ _ _ _ _ _
    | exact backhaulref27_Make.mono _ _ _ _ _ _ _
    | exact backhaulref27_Same.mono _ _ _ _ _ _ _ _ _ _ _
    | exact rma_Check.mono _ _ _ _ _ _
    | exact rma_Fits.mono _ _ _ _ _ _ _ _ _
    | exact rma_Make.mono _ _ _ _ _ _ _
    | exact rma_Same.mono _ _ _ _ _ _ _ _ _ _ _
    | exact LeO.none _
    | refine LeO.ite ?_ ?_
    | refine LeO.bind ?_ (fun _ => ?_)
theorem backhaullaw27_RmaMakes.mono : ∀ a0 a1 a2 a3 a4 a5 a6 a7 a8 a9 a10 a11 a12 k, LeO (backhaullaw27_RmaMakes.f k a0 a1 a2 a3 a4 a5 a6 a7 a8 a9 a10 a11 a12) (backhaullaw27_RmaMakes.f (k + 1) a0 a1 a2 a3 a4 a5 a6 a7 a8 a9 a10 a11 a12) := by
  intro a0 a1 a2 a3 a4 a5 a6 a7 a8 a9 a10 a11 a12 k
  have ih0 := backhaullaw27_RmaMakes.mono_l k
  unfold backhaullaw27_RmaMakes.f
  repeat' first
      | (with_reducible exact ih0 _ _ _ _ _ _ _ _ _ _ _ _ _ _)
      | (with_reducible exact backhaullaw21_Few.mono _ _)
      | (with_reducible exact backhaulref27_Check.mono _ _ _ _ _ _)
      | (with_reducible exact backhaulref27_Fits.mono _ _ _ _ _ _ _ _ _)
      | (with_reducible exact backhaulref27_Make.mono _ _ _ _ _ _ _)
      | (with_reducible exact backhaulref27_Same.mono _ _ _ _ _ _ _ _ _ _ _)
      | (with_reducible exact rma_Check.mono _ _ _ _ _ _)
      | (with_reducible exact rma_Fits.mono _ _ _ _ _ _ _ _ _)
      | (with_reducible exact rma_Make.mono _ _ _ _ _ _ _)
      | (with_reducible exact rma_Same.mono _ _ _ _ _ _ _ _ _ _ _)
      | (with_reducible exact LeO.refl _)
      | (with_reducible exact LeO.none _)
      | (with_reducible refine LeO.ite ?_ ?_)
      | (with_reducible refine LeO.bind ?_ (fun _ => ?_))
      | exact ih0 _ _ _ _ _ _ _ _ _ _ _ _ _ _
      | exact backhaullaw21_Few.mono _ _
      | exact backhaulref27_Check.mono _ _ _ _ _ _
      | exact backhaulref27_Fits.mono _ _ _ _ _ _ _ _ _
      | exact backhaulref27_Make.mono _ _ _ _ _ _ _
      | exact backhaulref27_Same.mono _ _ _ _ _ _ _ _ _ _ _
      | exact rma_Check.mono _ _ _ _ _ _
      | exact rma_Fits.mono _ _ _ _ _ _ _ _ _
      | exact rma_Make.mono _ _ _ _ _ _ _
      | exact rma_Same.mono _ _ _ _ _ _ _ _ _ _ _
      | exact LeO.none _
      | refine LeO.ite ?_ ?_
      | refine LeO.bind ?_ (fun _ => ?_)
def backhaullaw27_RmaMakes.T5 : Bool × List (List Nat × List Nat) := (true, [([], []), ([0], [0]), ([], []), ([2, 1], [2]), ([1, 3], [1, 3]), ([4, 3], [4]), ([5], [5]), ([5], [5]), ([6, 7, 5, 5], [5, 6, 7]), ([5], [5]), ([5], [5]), ([9, 10, 8, 5], [5, 9, 10]), ([8, 11, 5], [5, 8, 11]), ([5, 12], [5, 12]), ([13, 11], [13]), ([14], [14]), ([14], [14]), ([15, 16, 14, 14], [14, 15, 16]), ([14, 17], [14, 17]), ([18, 17], [18]), ([19], [19]), ([19], [19]), ([20, 21, 19], [19, 20, 21]), ([19, 22], [19, 22]), ([23, 19], [23]), ([24], [24]), ([24], [24]), ([25, 26, 24, 24], [24, 25, 26]), ([24], [24]), ([24], [24]), ([28, 29, 27, 24], [24, 28, 29]), ([27, 30, 24], [24, 27, 30]), ([24, 31], [24, 31]), ([32, 30], [32]), ([33, 33], [33]), ([33, 34], [33, 34]), ([35, 34, 0, 1, 2, 3, 4, 5, 6, 7, 8, 9, 10, 11, 12, 13, 14, 15, 16, 17, 18, 19, 20, 21, 22, 23, 24, 25, 26, 27, 28, 29, 30, 31, 32, 33, 34, 35], [35])])
def backhaullaw27_RmaMakes.B5 : List Nat := [0, 1, 0, 7, 15, 31, 63, 63, 255, 63, 63, 2047, 4095, 8191, 16383, 32767, 32767, 131071, 262143, 524287, 1048575, 1048575, 4194303, 8388607, 16777215, 33554431, 33554431, 134217727, 33554431, 33554431, 1073741823, 2147483647, 4294967295, 8589934591, 17179869183, 34359738367, 68719476735]
theorem backhaullaw27_RmaMakes.tab5 : rtab .any (opsOf Try.f8 5) = backhaullaw27_RmaMakes.T5 := by kernel_rfl
theorem backhaullaw27_RmaMakes.bits5 : waitsOk backhaullaw27_RmaMakes.T5.2 backhaullaw27_RmaMakes.B5 = true := by kernel_rfl
set_option maxHeartbeats 8000000 in
set_option maxRecDepth 100000 in
theorem backhaullaw27_RmaMakes.calls (k : Nat) (a0_0 : Int) (a0_1 : Int) (a0_2 : Int) (a0_3 : Int) (A0_4 : Option Addr) (c0_4 : Nat) (l0_4 : List (S97)) (a1_0 : Int) (a1_1 : Int) (a1_2 : Int) (a1_3 : Int) (A1_4 : Option Addr) (c1_4 : Nat) (l1_4 : List (S97)) (a2_0 : Int) (a2_1 : Int) (A2_2 : Option Addr) (c2_2 : Nat) (l2_2 : List (S216)) (w : World) (hr0_4 : Kd.C k97 w A0_4 l0_4.length l0_4) (hc0_4 : l0_4.length ≤ c0_4) (hr1_4 : Kd.C k97 w A1_4 l1_4.length l1_4) (hc1_4 : l1_4.length ≤ c1_4) (hr2_2 : Kd.C k216 w A2_2 l2_2.length l2_2) (hc2_2 : l2_2.length ≤ c2_2) (h : backhaullaw27_RmaMakes.f k a0_0 a0_1 a0_2 a0_3 l0_4 a1_0 a1_1 a1_2 a1_3 l1_4 a2_0 a2_1 l2_2 = some true) :
    Calls Try.prog 8 #[.agg #[.int .i64 a0_0, .int .i64 a0_1, .int .i64 a0_2, .int .i64 a0_3, .slice A0_4 l0_4.length c0_4], .agg #[.int .i64 a1_0, .int .i64 a1_1, .int .i64 a1_2, .int .i64 a1_3, .slice A1_4 l1_4.length c1_4], .agg #[.int .i64 a2_0, .int .i64 a2_1, .slice A2_2 l2_2.length c2_2]] w fun e w' => e = .returned (.bool true) ∧ Below w.heap.size w w' := by
  have hu70 := Try.underlying70
  have hu73 := Try.underlying73
  have HR0_4 := zA hr0_4
  have HC0_4 := zA hc0_4
  clear hr0_4 hc0_4
  have HR1_4 := zA hr1_4
  have HC1_4 := zA hc1_4
  clear hr1_4 hc1_4
  have HR2_2 := zA hr2_2
  have HC2_2 := zA hc2_2
  clear hr2_2 hc2_2
  have HB := zA (Below.refl w.heap.size w)
  have H : ((backhaullaw27_Few.f a0_0 a0_1 a0_2 a0_3 l0_4).bind fun t104 => (if t104 = true then ((backhaullaw27_Few.f a1_0 a1_1 a1_2 a1_3 l1_4).bind fun t105 => (if t105 = true then ((backhaullaw21_Few.f k l2_2).bind fun t106 => (backhaullaw27_RmaMakes.j0 k (!t106) a0_0 a0_1 a0_2 a0_3 l0_4 a1_0 a1_1 a1_2 a1_3 l1_4 a2_0 a2_1 l2_2)) else (backhaullaw27_RmaMakes.j0 k true a0_0 a0_1 a0_2 a0_3 l0_4 a1_0 a1_1 a1_2 a1_3 l1_4 a2_0 a2_1 l2_2))) else (backhaullaw27_RmaMakes.j0 k true a0_0 a0_1 a0_2 a0_3 l0_4 a1_0 a1_1 a1_2 a1_3 l1_4 a2_0 a2_1 l2_2))) = some true := h
  clear h
  have HC4 := zA H
  clear H
  go_enter Try.func8, Try.ntmps8
  go_upto_region 1 with (first | ((with_reducible refine gate_dst (N := 3) rfl ?_); refine box_event qr (N := 3) qr (cs := #[.int .i64 a0_0, .int .i64 a0_1, .int .i64 a0_2, .int .i64 a0_3, .slice A0_4 l0_4.length c0_4]) (t := 70) qg ?_; intro gb101 hg w5 hbox hb; have n0_ := zA (zV qB hb); have n1_ := zA (hbox); have n2_ := zA ((qS : w.heap.size ≤ gb101)); have n3_ := zA ((qS : w.heap.size ≤ gb101)); clear HB; have HB := n0_; have BK101 := n1_; have GW101 := n2_; have GE101 := n3_; clear n0_ n1_ n2_ n3_ hb hbox hg) | ((with_reducible refine gate_dst (N := 4) rfl ?_); refine box_event qr (N := 4) qr (cs := #[.int .i64 a1_0, .int .i64 a1_1, .int .i64 a1_2, .int .i64 a1_3, .slice A1_4 l1_4.length c1_4]) (t := 70) qg ?_; intro gb102 hg w6 hbox hb; have n0_ := zA (qX BK101.out hb); have n1_ := zA (zV qB hb); have n2_ := zA (hbox); have n3_ := zA ((qS : w.heap.size ≤ gb102)); have n4_ := zA ((qS : w.heap.size ≤ gb102)); have n5_ := zA ((by rw [hg]; exact zLq (qL BK101.out) : gb101 ≠ gb102)); have n6_ := zA ((by rw [hg]; exact zMq (qL BK101.out) : gb102 ≠ gb101)); clear BK101 HB; have BK101 := n0_; have HB := n1_; have BK102 := n2_; have GW102 := n3_; have GE102 := n4_; have NB101_102 := n5_; have NB102_101 := n6_; clear n0_ n1_ n2_ n3_ n4_ n5_ n6_ hb hbox hg) | ((with_reducible refine gate_dst (N := 5) rfl ?_); refine box_event qr (N := 5) qr (cs := #[.int .i64 a2_0, .int .i64 a2_1, .slice A2_2 l2_2.length c2_2]) (t := 73) qg ?_; intro gb103 hg w7 hbox hb; have n0_ := zA (qX BK101.out hb); have n1_ := zA (qX BK102.out hb); have n2_ := zA (zV qB hb); have n3_ := zA (hbox); have n4_ := zA ((qS : w.heap.size ≤ gb103)); have n5_ := zA ((qS : w.heap.size ≤ gb103)); have n6_ := zA ((by rw [hg]; exact zLq (qL BK101.out) : gb101 ≠ gb103)); have n7_ := zA ((by rw [hg]; exact zMq (qL BK101.out) : gb103 ≠ gb101)); have n8_ := zA ((by rw [hg]; exact zLq (qL BK102.out) : gb102 ≠ gb103)); have n9_ := zA ((by rw [hg]; exact zMq (qL BK102.out) : gb103 ≠ gb102)); clear BK101 BK102 HB; have BK101 := n0_; have BK102 := n1_; have HB := n2_; have BK103 := n3_; have GW103 := n4_; have GE103 := n5_; have NB101_103 := n6_; have NB103_101 := n7_; have NB102_103 := n8_; have NB103_102 := n9_; clear n0_ n1_ n2_ n3_ n4_ n5_ n6_ n7_ n8_ n9_ hb hbox hg))
  (try simp only [Act.put, zH, zI, zJ])
  go_cut [24] (fun v24 wc => ∃ (kq : Nat) (x24_3 : Bool), v24 = .bool x24_3 ∧ Aside0 (backhaullaw27_RmaMakes.j0 kq x24_3 a0_0 a0_1 a0_2 a0_3 l0_4 a1_0 a1_1 a1_2 a1_3 l1_4 a2_0 a2_1 l2_2 = some true) ∧ Aside0 (kq ≤ k) ∧ Aside0 (wc.heap[gb101]? = some (.cells #[.int .i64 a0_0, .int .i64 a0_1, .int .i64 a0_2, .int .i64 a0_3, (.slice A0_4 l0_4.length c0_4)] 70 (0, 0))) ∧ Aside0 (wc.heap[gb102]? = some (.cells #[.int .i64 a1_0, .int .i64 a1_1, .int .i64 a1_2, .int .i64 a1_3, (.slice A1_4 l1_4.length c1_4)] 70 (0, 0))) ∧ Aside0 (wc.heap[gb103]? = some (.cells #[.int .i64 a2_0, .int .i64 a2_1, (.slice A2_2 l2_2.length c2_2)] 73 (0, 0))) ∧ Aside0 (Below w.heap.size w wc))
  case first =>
    have H := HC4.out; clear HC4; replace H := Option.bind_eq_some_iff.mp H; obtain ⟨t104, A80, H⟩ := H; replace H : (if t104 = true then ((backhaullaw27_Few.f a1_0 a1_1 a1_2 a1_3 l1_4).bind fun t105 => (if t105 = true then ((backhaullaw21_Few.f k l2_2).bind fun t106 => (backhaullaw27_RmaMakes.j0 k (!t106) a0_0 a0_1 a0_2 a0_3 l0_4 a1_0 a1_1 a1_2 a1_3 l1_4 a2_0 a2_1 l2_2)) else (backhaullaw27_RmaMakes.j0 k true a0_0 a0_1 a0_2 a0_3 l0_4 a1_0 a1_1 a1_2 a1_3 l1_4 a2_0 a2_1 l2_2))) else (backhaullaw27_RmaMakes.j0 k true a0_0 a0_1 a0_2 a0_3 l0_4 a1_0 a1_1 a1_2 a1_3 l1_4 a2_0 a2_1 l2_2)) = some true := H; have A8 := zA A80; clear A80; by_cases c9 : t104 = true
    · subst c9
      have H1 : ((backhaullaw27_Few.f a1_0 a1_1 a1_2 a1_3 l1_4).bind fun t105 => (if t105 = true then ((backhaullaw21_Few.f k l2_2).bind fun t106 => (backhaullaw27_RmaMakes.j0 k (!t106) a0_0 a0_1 a0_2 a0_3 l0_4 a1_0 a1_1 a1_2 a1_3 l1_4 a2_0 a2_1 l2_2)) else (backhaullaw27_RmaMakes.j0 k true a0_0 a0_1 a0_2 a0_3 l0_4 a1_0 a1_1 a1_2 a1_3 l1_4 a2_0 a2_1 l2_2))) = some true := by first | (rw [if_pos rfl] at H; exact H) | rfl
      clear H; have H := H1; clear H1; replace H := Option.bind_eq_some_iff.mp H; obtain ⟨t105, A100, H⟩ := H; replace H : (if t105 = true then ((backhaullaw21_Few.f k l2_2).bind fun t106 => (backhaullaw27_RmaMakes.j0 k (!t106) a0_0 a0_1 a0_2 a0_3 l0_4 a1_0 a1_1 a1_2 a1_3 l1_4 a2_0 a2_1 l2_2)) else (backhaullaw27_RmaMakes.j0 k true a0_0 a0_1 a0_2 a0_3 l0_4 a1_0 a1_1 a1_2 a1_3 l1_4 a2_0 a2_1 l2_2)) = some true := H; have A10 := zA A100; clear A100; by_cases c11 : t105 = true
      · subst c11
        have H1 : ((backhaullaw21_Few.f k l2_2).bind fun t106 => (backhaullaw27_RmaMakes.j0 k (!t106) a0_0 a0_1 a0_2 a0_3 l0_4 a1_0 a1_1 a1_2 a1_3 l1_4 a2_0 a2_1 l2_2)) = some true := by first | (rw [if_pos rfl] at H; exact H) | rfl
        clear H; have H := H1; clear H1; replace H := Option.bind_eq_some_iff.mp H; obtain ⟨t106, A120, H⟩ := H; replace H : (backhaullaw27_RmaMakes.j0 k (!t106) a0_0 a0_1 a0_2 a0_3 l0_4 a1_0 a1_1 a1_2 a1_3 l1_4 a2_0 a2_1 l2_2) = some true := H; have A12 := zA A120; clear A120; have H' := zA H; clear H; have hnb13 := NB101_102.out; have hnc13 := NB102_101.out; have hnb14 := NB101_103.out; have hnc14 := NB103_101.out; obtain ⟨_, _, _, _, _, _, _, _, _, _⟩ := qc5f BK101.out; go_wp2_with (first | ((with_reducible refine zJq (f := 47) rfl ?_); refine goesL_ (some 12) rfl rfl Try.func47 (by kernel_rfl) rfl #[.agg #[.int .i64 a0_0, .int .i64 a0_1, .int .i64 a0_2, .int .i64 a0_3, .slice A0_4 l0_4.length c0_4]] rfl (by (try simp only [zR, zS, zT]); first | done | rfl | (simp only [zP, zQ]; rfl)) ?_; (with_reducible refine (backhaullaw27_Few.calls a0_0 a0_1 a0_2 a0_3 _ _ l0_4 true _ ?side1 ?side2 A8.out).mono ?_); (case side1 => exact qC (Kd.C_below HR0_4.out HB.out)); (case side2 => exact HC0_4.out); rintro e w16 ⟨rfl, hb⟩; refine ⟨_, rfl, ?_⟩; have n0_ := zA (qX BK101.out hb); have n1_ := zA (qX BK102.out hb); have n2_ := zA (qX BK103.out hb); have n3_ := zA (zV qB hb); clear BK101 BK102 BK103 HB; have BK101 := n0_; have BK102 := n1_; have BK103 := n2_; have HB := n3_; clear n0_ n1_ n2_ n3_; (try clear hb); (try clear hb2); (try clear hk); (try clear hi); have hnb17 := NB102_103.out; have hnc17 := NB103_102.out; obtain ⟨_, _, _, _, _, _, _, _, _, _⟩ := qc5f BK102.out) | (go_at_call 47; (with_reducible refine (backhaullaw27_Few.calls a1_0 a1_1 a1_2 a1_3 _ _ l1_4 true _ ?side1 ?side2 A10.out).mono ?_); (case side1 => exact qC (Kd.C_below HR1_4.out HB.out)); (case side2 => exact HC1_4.out); rintro e w19 ⟨rfl, hb⟩; have n0_ := zA (qX BK101.out hb); have n1_ := zA (qX BK102.out hb); have n2_ := zA (qX BK103.out hb); have n3_ := zA (zV qB hb); clear BK101 BK102 BK103 HB; have BK101 := n0_; have BK102 := n1_; have BK103 := n2_; have HB := n3_; clear n0_ n1_ n2_ n3_; (try clear hb); (try clear hb2); (try clear hk); (try clear hi); obtain ⟨_, _, _, _, _, _⟩ := qc3f BK103.out) | (go_at_call 48; (with_reducible refine (backhaullaw21_Few.calls k _ _ l2_2 t106 _ ?side1 ?side2 A12.out).mono ?_); (case side1 => exact qC (Kd.C_below HR2_2.out HB.out)); (case side2 => exact HC2_2.out); rintro e w' ⟨rfl, ⟨nd, rfl⟩⟩)); go_meet
        case rel => exact ⟨_, (!t106), (by first | rfl | (simp; done) | (simp [*]; done)), H', ⟨by first | omega | exact Nat.le_refl _⟩, ⟨by exact BK101.out⟩, ⟨by exact BK102.out⟩, ⟨by exact BK103.out⟩, ⟨qB⟩⟩
      replace c11 := Bool.eq_false_iff.mpr c11; subst c11; have H1 : (backhaullaw27_RmaMakes.j0 k true a0_0 a0_1 a0_2 a0_3 l0_4 a1_0 a1_1 a1_2 a1_3 l1_4 a2_0 a2_1 l2_2) = some true := by first | (rw [if_neg (show ¬ (false = true) by decide)] at H; exact H) | rfl
      clear H; have H := H1; clear H1; have H' := zA H; clear H; have hnb21 := NB101_102.out; have hnc21 := NB102_101.out; have hnb22 := NB101_103.out; have hnc22 := NB103_101.out; obtain ⟨_, _, _, _, _, _, _, _, _, _⟩ := qc5f BK101.out; go_wp2_with (first | ((with_reducible refine zJq (f := 47) rfl ?_); refine goesL_ (some 12) rfl rfl Try.func47 (by kernel_rfl) rfl #[.agg #[.int .i64 a0_0, .int .i64 a0_1, .int .i64 a0_2, .int .i64 a0_3, .slice A0_4 l0_4.length c0_4]] rfl (by (try simp only [zR, zS, zT]); first | done | rfl | (simp only [zP, zQ]; rfl)) ?_; (with_reducible refine (backhaullaw27_Few.calls a0_0 a0_1 a0_2 a0_3 _ _ l0_4 true _ ?side1 ?side2 A8.out).mono ?_); (case side1 => exact qC (Kd.C_below HR0_4.out HB.out)); (case side2 => exact HC0_4.out); rintro e w24 ⟨rfl, hb⟩; refine ⟨_, rfl, ?_⟩; have n0_ := zA (qX BK101.out hb); have n1_ := zA (qX BK102.out hb); have n2_ := zA (qX BK103.out hb); have n3_ := zA (zV qB hb); clear BK101 BK102 BK103 HB; have BK101 := n0_; have BK102 := n1_; have BK103 := n2_; have HB := n3_; clear n0_ n1_ n2_ n3_; (try clear hb); (try clear hb2); (try clear hk); (try clear hi); have hnb25 := NB102_103.out; have hnc25 := NB103_102.out; obtain ⟨_, _, _, _, _, _, _, _, _, _⟩ := qc5f BK102.out) | (go_at_call 47; (with_reducible refine (backhaullaw27_Few.calls a1_0 a1_1 a1_2 a1_3 _ _ l1_4 false _ ?side1 ?side2 A10.out).mono ?_); (case side1 => exact qC (Kd.C_below HR1_4.out HB.out)); (case side2 => exact HC1_4.out); rintro e w27 ⟨rfl, hb⟩; have n0_ := zA (qX BK101.out hb); have n1_ := zA (qX BK102.out hb); have n2_ := zA (qX BK103.out hb); have n3_ := zA (zV qB hb); clear BK101 BK102 BK103 HB; have BK101 := n0_; have BK102 := n1_; have BK103 := n2_; have HB := n3_; clear n0_ n1_ n2_ n3_; (try clear hb); (try clear hb2); (try clear hk); (try clear hi))); go_meet
      case rel => exact ⟨_, (true), (by first | rfl | (simp; done) | (simp [*]; done)), H', ⟨by first | omega | exact Nat.le_refl _⟩, ⟨by exact BK101.out⟩, ⟨by exact BK102.out⟩, ⟨by exact BK103.out⟩, ⟨qB⟩⟩
    replace c9 := Bool.eq_false_iff.mpr c9; subst c9; have H1 : (backhaullaw27_RmaMakes.j0 k true a0_0 a0_1 a0_2 a0_3 l0_4 a1_0 a1_1 a1_2 a1_3 l1_4 a2_0 a2_1 l2_2) = some true := by first | (rw [if_neg (show ¬ (false = true) by decide)] at H; exact H) | rfl
    clear H; have H := H1; clear H1; have H' := zA H; clear H; have hnb28 := NB101_102.out; have hnc28 := NB102_101.out; have hnb29 := NB101_103.out; have hnc29 := NB103_101.out; obtain ⟨_, _, _, _, _, _, _, _, _, _⟩ := qc5f BK101.out; go_wp2_with (first | ((with_reducible refine zJq (f := 47) rfl ?_); refine goesL_ (some 12) rfl rfl Try.func47 (by kernel_rfl) rfl #[.agg #[.int .i64 a0_0, .int .i64 a0_1, .int .i64 a0_2, .int .i64 a0_3, .slice A0_4 l0_4.length c0_4]] rfl (by (try simp only [zR, zS, zT]); first | done | rfl | (simp only [zP, zQ]; rfl)) ?_; (with_reducible refine (backhaullaw27_Few.calls a0_0 a0_1 a0_2 a0_3 _ _ l0_4 false _ ?side1 ?side2 A8.out).mono ?_); (case side1 => exact qC (Kd.C_below HR0_4.out HB.out)); (case side2 => exact HC0_4.out); rintro e w31 ⟨rfl, hb⟩; refine ⟨_, rfl, ?_⟩; have n0_ := zA (qX BK101.out hb); have n1_ := zA (qX BK102.out hb); have n2_ := zA (qX BK103.out hb); have n3_ := zA (zV qB hb); clear BK101 BK102 BK103 HB; have BK101 := n0_; have BK102 := n1_; have BK103 := n2_; have HB := n3_; clear n0_ n1_ n2_ n3_; (try clear hb); (try clear hb2); (try clear hk); (try clear hi))); go_meet
    case rel => exact ⟨_, (true), (by first | rfl | (simp; done) | (simp [*]; done)), H', ⟨by first | omega | exact Nat.le_refl _⟩, ⟨by exact BK101.out⟩, ⟨by exact BK102.out⟩, ⟨by exact BK103.out⟩, ⟨qB⟩⟩
  case rest =>
    clear HC4; try clear c1
    try clear c2
    try clear p2
    try clear c4
    try clear c8
    try clear c9
    try clear c11
    try clear c13
    try clear c14
    try clear c17
    try clear c21
    try clear c22
    try clear c25
    try clear c28
    try clear c29
    obtain ⟨kq, x24_3, rfl, HA, HJ3, BK101, BK102, BK103, HB⟩ := hcut; cases kq with
    | zero => exact absurd HA.out (by simp [backhaullaw27_RmaMakes.j0])
    | succ kj3 =>
      have H := HA.out; clear HA; simp only [backhaullaw27_RmaMakes.j0] at H; by_cases c32 : x24_3 = true
      · subst c32
        have H1 : ((backhaullaw27_awake.f).bind fun t107 => (if t107 = true then (some true) else (some false))) = some true := by first | (rw [if_pos rfl] at H; exact H) | rfl
        clear H; have H := H1; clear H1; replace H := Option.bind_eq_some_iff.mp H; obtain ⟨t107, A330, H⟩ := H; replace H : (if t107 = true then (some true) else (some false)) = some true := H; have A33 := zA A330; clear A330; by_cases c34 : t107 = true
        · subst c34
          have H1 : (some true) = some true := by first | (rw [if_pos rfl] at H; exact H) | rfl
          clear H; have H := H1; clear H1; clear H; go_wp2_with (first | ((with_reducible refine zJq (f := 49) rfl ?_); refine goesL_ (some 25) rfl rfl Try.func49 (by kernel_rfl) rfl #[] rfl (by (try simp only [zR, zS, zT]); first | done | rfl | (simp only [zP, zQ]; rfl)) ?_; (with_reducible refine (backhaullaw27_awake.calls  true _ A33.out).mono ?_); rintro e w35 ⟨rfl, hb⟩; refine ⟨_, rfl, ?_⟩; have n0_ := zA (qX BK101.out hb); have n1_ := zA (qX BK102.out hb); have n2_ := zA (qX BK103.out hb); have n3_ := zA (zV qB hb); clear BK101 BK102 BK103 HB; have BK101 := n0_; have BK102 := n1_; have BK103 := n2_; have HB := n3_; clear n0_ n1_ n2_ n3_; (try clear hb); (try clear hb2); (try clear hk); (try clear hi))); go_ret; exact ⟨qE, qB⟩
        replace c34 := Bool.eq_false_iff.mpr c34; subst c34; have H1 : (some false) = some true := by first | (rw [if_neg (show ¬ (false = true) by decide)] at H; exact H) | rfl
        clear H; have H := H1; clear H1; exact absurd H (by simp)
      replace c32 := Bool.eq_false_iff.mpr c32; subst c32; have H1 : ((rma_Make.f kj3 a0_0 a2_0 a2_1 l2_2 a0_2 l0_4).bind fun bt108 => ((backhaulref27_Make.f kj3 a0_0 a2_0 a2_1 l2_2 a0_2 l0_4).bind fun bt117 => ((rma_Check.f kj3 a0_0 a0_1 a0_2 a0_3 l0_4).bind fun t126 => ((backhaulref27_Check.f kj3 a0_0 a0_1 a0_2 a0_3 l0_4).bind fun t127 => (if t126 = t127 then ((rma_Fits.f kj3 a0_0 a0_1 a0_2 a0_3 l0_4 a2_0 a2_1 l2_2).bind fun t128 => ((backhaulref27_Fits.f kj3 a0_0 a0_1 a0_2 a0_3 l0_4 a2_0 a2_1 l2_2).bind fun t129 => (if (t128 == t129) = true then ((backhaulref27_Same.f kj3 bt108.1 bt108.2.1 bt108.2.2.1 bt108.2.2.2.1 bt108.2.2.2.2.1 bt117.1 bt117.2.1 bt117.2.2.1 bt117.2.2.2.1 bt117.2.2.2.2.1).bind fun t130 => (if t130 = true then (if bt108.2.2.2.2.2 = bt117.2.2.2.2.2 then ((rma_Same.f kj3 a0_0 a0_1 a0_2 a0_3 l0_4 a1_0 a1_1 a1_2 a1_3 l1_4).bind fun t131 => ((backhaulref27_Same.f kj3 a0_0 a0_1 a0_2 a0_3 l0_4 a1_0 a1_1 a1_2 a1_3 l1_4).bind fun t132 => (if (t131 == t132) = true then ((backhaullaw27_awake.f).bind fun t133 => (if t133 = true then (some true) else (some false))) else (some false)))) else (some false)) else (some false))) else (some false)))) else (some false)))))) = some true := by first | (rw [if_neg (show ¬ (false = true) by decide)] at H; exact H) | rfl
      clear H; have H := H1; clear H1; replace H := Option.bind_eq_some_iff.mp H; obtain ⟨⟨t108, t109, t110, t111, t112, t115⟩, A360, H⟩ := H; replace H : ((backhaulref27_Make.f kj3 a0_0 a2_0 a2_1 l2_2 a0_2 l0_4).bind fun bt117 => ((rma_Check.f kj3 a0_0 a0_1 a0_2 a0_3 l0_4).bind fun t126 => ((backhaulref27_Check.f kj3 a0_0 a0_1 a0_2 a0_3 l0_4).bind fun t127 => (if t126 = t127 then ((rma_Fits.f kj3 a0_0 a0_1 a0_2 a0_3 l0_4 a2_0 a2_1 l2_2).bind fun t128 => ((backhaulref27_Fits.f kj3 a0_0 a0_1 a0_2 a0_3 l0_4 a2_0 a2_1 l2_2).bind fun t129 => (if (t128 == t129) = true then ((backhaulref27_Same.f kj3 t108 t109 t110 t111 t112 bt117.1 bt117.2.1 bt117.2.2.1 bt117.2.2.2.1 bt117.2.2.2.2.1).bind fun t130 => (if t130 = true then (if t115 = bt117.2.2.2.2.2 then ((rma_Same.f kj3 a0_0 a0_1 a0_2 a0_3 l0_4 a1_0 a1_1 a1_2 a1_3 l1_4).bind fun t131 => ((backhaulref27_Same.f kj3 a0_0 a0_1 a0_2 a0_3 l0_4 a1_0 a1_1 a1_2 a1_3 l1_4).bind fun t132 => (if (t131 == t132) = true then ((backhaullaw27_awake.f).bind fun t133 => (if t133 = true then (some true) else (some false))) else (some false)))) else (some false)) else (some false))) else (some false)))) else (some false))))) = some true := H; have A36 := zA A360; clear A360; replace H := Option.bind_eq_some_iff.mp H; obtain ⟨⟨t117, t118, t119, t120, t121, t124⟩, A370, H⟩ := H; replace H : ((rma_Check.f kj3 a0_0 a0_1 a0_2 a0_3 l0_4).bind fun t126 => ((backhaulref27_Check.f kj3 a0_0 a0_1 a0_2 a0_3 l0_4).bind fun t127 => (if t126 = t127 then ((rma_Fits.f kj3 a0_0 a0_1 a0_2 a0_3 l0_4 a2_0 a2_1 l2_2).bind fun t128 => ((backhaulref27_Fits.f kj3 a0_0 a0_1 a0_2 a0_3 l0_4 a2_0 a2_1 l2_2).bind fun t129 => (if (t128 == t129) = true then ((backhaulref27_Same.f kj3 t108 t109 t110 t111 t112 t117 t118 t119 t120 t121).bind fun t130 => (if t130 = true then (if t115 = t124 then ((rma_Same.f kj3 a0_0 a0_1 a0_2 a0_3 l0_4 a1_0 a1_1 a1_2 a1_3 l1_4).bind fun t131 => ((backhaulref27_Same.f kj3 a0_0 a0_1 a0_2 a0_3 l0_4 a1_0 a1_1 a1_2 a1_3 l1_4).bind fun t132 => (if (t131 == t132) = true then ((backhaullaw27_awake.f).bind fun t133 => (if t133 = true then (some true) else (some false))) else (some false)))) else (some false)) else (some false))) else (some false)))) else (some false)))) = some true := H; have A37 := zA A370; clear A370; replace H := Option.bind_eq_some_iff.mp H; obtain ⟨t126, A380, H⟩ := H; replace H : ((backhaulref27_Check.f kj3 a0_0 a0_1 a0_2 a0_3 l0_4).bind fun t127 => (if t126 = t127 then ((rma_Fits.f kj3 a0_0 a0_1 a0_2 a0_3 l0_4 a2_0 a2_1 l2_2).bind fun t128 => ((backhaulref27_Fits.f kj3 a0_0 a0_1 a0_2 a0_3 l0_4 a2_0 a2_1 l2_2).bind fun t129 => (if (t128 == t129) = true then ((backhaulref27_Same.f kj3 t108 t109 t110 t111 t112 t117 t118 t119 t120 t121).bind fun t130 => (if t130 = true then (if t115 = t124 then ((rma_Same.f kj3 a0_0 a0_1 a0_2 a0_3 l0_4 a1_0 a1_1 a1_2 a1_3 l1_4).bind fun t131 => ((backhaulref27_Same.f kj3 a0_0 a0_1 a0_2 a0_3 l0_4 a1_0 a1_1 a1_2 a1_3 l1_4).bind fun t132 => (if (t131 == t132) = true then ((backhaullaw27_awake.f).bind fun t133 => (if t133 = true then (some true) else (some false))) else (some false)))) else (some false)) else (some false))) else (some false)))) else (some false))) = some true := H
      have A38 := zA A380; clear A380; replace H := Option.bind_eq_some_iff.mp H; obtain ⟨t127, A390, H⟩ := H; replace H : (if t126 = t127 then ((rma_Fits.f kj3 a0_0 a0_1 a0_2 a0_3 l0_4 a2_0 a2_1 l2_2).bind fun t128 => ((backhaulref27_Fits.f kj3 a0_0 a0_1 a0_2 a0_3 l0_4 a2_0 a2_1 l2_2).bind fun t129 => (if (t128 == t129) = true then ((backhaulref27_Same.f kj3 t108 t109 t110 t111 t112 t117 t118 t119 t120 t121).bind fun t130 => (if t130 = true then (if t115 = t124 then ((rma_Same.f kj3 a0_0 a0_1 a0_2 a0_3 l0_4 a1_0 a1_1 a1_2 a1_3 l1_4).bind fun t131 => ((backhaulref27_Same.f kj3 a0_0 a0_1 a0_2 a0_3 l0_4 a1_0 a1_1 a1_2 a1_3 l1_4).bind fun t132 => (if (t131 == t132) = true then ((backhaullaw27_awake.f).bind fun t133 => (if t133 = true then (some true) else (some false))) else (some false)))) else (some false)) else (some false))) else (some false)))) else (some false)) = some true := H; have A39 := zA A390; clear A390; by_cases c40 : t126 = t127
      · rw [if_pos c40] at H
        have c40b0 : (t126 == t127) = true := beq_iff_eq.mpr c40; have c40b1 : (t126 != t127) = false := bne_eq_false_iff_eq.mpr c40; clear c40; replace H := Option.bind_eq_some_iff.mp H; obtain ⟨t128, A410, H⟩ := H; replace H : ((backhaulref27_Fits.f kj3 a0_0 a0_1 a0_2 a0_3 l0_4 a2_0 a2_1 l2_2).bind fun t129 => (if (t128 == t129) = true then ((backhaulref27_Same.f kj3 t108 t109 t110 t111 t112 t117 t118 t119 t120 t121).bind fun t130 => (if t130 = true then (if t115 = t124 then ((rma_Same.f kj3 a0_0 a0_1 a0_2 a0_3 l0_4 a1_0 a1_1 a1_2 a1_3 l1_4).bind fun t131 => ((backhaulref27_Same.f kj3 a0_0 a0_1 a0_2 a0_3 l0_4 a1_0 a1_1 a1_2 a1_3 l1_4).bind fun t132 => (if (t131 == t132) = true then ((backhaullaw27_awake.f).bind fun t133 => (if t133 = true then (some true) else (some false))) else (some false)))) else (some false)) else (some false))) else (some false))) = some true := H; have A41 := zA A410; clear A410; replace H := Option.bind_eq_some_iff.mp H; obtain ⟨t129, A420, H⟩ := H; replace H : (if (t128 == t129) = true then ((backhaulref27_Same.f kj3 t108 t109 t110 t111 t112 t117 t118 t119 t120 t121).bind fun t130 => (if t130 = true then (if t115 = t124 then ((rma_Same.f kj3 a0_0 a0_1 a0_2 a0_3 l0_4 a1_0 a1_1 a1_2 a1_3 l1_4).bind fun t131 => ((backhaulref27_Same.f kj3 a0_0 a0_1 a0_2 a0_3 l0_4 a1_0 a1_1 a1_2 a1_3 l1_4).bind fun t132 => (if (t131 == t132) = true then ((backhaullaw27_awake.f).bind fun t133 => (if t133 = true then (some true) else (some false))) else (some false)))) else (some false)) else (some false))) else (some false)) = some true := H; have A42 := zA A420; clear A420; by_cases c43 : (t128 == t129) = true
        · rw [if_pos c43] at H
          have c43b0 : (t128 == t129) = true := c43; (try (have c43b1 : decide (t128 = t129) = true := by simpa using c43))
          (try (have c43b2 : (t128 == t129) = true := by simpa using c43))
          clear c43; replace H := Option.bind_eq_some_iff.mp H; obtain ⟨t130, A440, H⟩ := H; replace H : (if t130 = true then (if t115 = t124 then ((rma_Same.f kj3 a0_0 a0_1 a0_2 a0_3 l0_4 a1_0 a1_1 a1_2 a1_3 l1_4).bind fun t131 => ((backhaulref27_Same.f kj3 a0_0 a0_1 a0_2 a0_3 l0_4 a1_0 a1_1 a1_2 a1_3 l1_4).bind fun t132 => (if (t131 == t132) = true then ((backhaullaw27_awake.f).bind fun t133 => (if t133 = true then (some true) else (some false))) else (some false)))) else (some false)) else (some false)) = some true := H; have A44 := zA A440; clear A440; by_cases c45 : t130 = true
          · subst c45
            have H1 : (if t115 = t124 then ((rma_Same.f kj3 a0_0 a0_1 a0_2 a0_3 l0_4 a1_0 a1_1 a1_2 a1_3 l1_4).bind fun t131 => ((backhaulref27_Same.f kj3 a0_0 a0_1 a0_2 a0_3 l0_4 a1_0 a1_1 a1_2 a1_3 l1_4).bind fun t132 => (if (t131 == t132) = true then ((backhaullaw27_awake.f).bind fun t133 => (if t133 = true then (some true) else (some false))) else (some false)))) else (some false)) = some true := by first | (rw [if_pos rfl] at H; exact H) | rfl
            clear H; have H := H1; clear H1; by_cases c46 : t115 = t124
            · rw [if_pos c46] at H
              have c46b0 : (t115 == t124) = true := beq_iff_eq.mpr c46; have c46b1 : (t115 != t124) = false := bne_eq_false_iff_eq.mpr c46; clear c46; replace H := Option.bind_eq_some_iff.mp H; obtain ⟨t131, A470, H⟩ := H; replace H : ((backhaulref27_Same.f kj3 a0_0 a0_1 a0_2 a0_3 l0_4 a1_0 a1_1 a1_2 a1_3 l1_4).bind fun t132 => (if (t131 == t132) = true then ((backhaullaw27_awake.f).bind fun t133 => (if t133 = true then (some true) else (some false))) else (some false))) = some true := H; have A47 := zA A470; clear A470; replace H := Option.bind_eq_some_iff.mp H; obtain ⟨t132, A480, H⟩ := H; replace H : (if (t131 == t132) = true then ((backhaullaw27_awake.f).bind fun t133 => (if t133 = true then (some true) else (some false))) else (some false)) = some true := H; have A48 := zA A480; clear A480; by_cases c49 : (t131 == t132) = true
              · rw [if_pos c49] at H
                have c49b0 : (t131 == t132) = true := c49; (try (have c49b1 : decide (t131 = t132) = true := by simpa using c49))
                (try (have c49b2 : (t131 == t132) = true := by simpa using c49))
                clear c49; replace H := Option.bind_eq_some_iff.mp H; obtain ⟨t133, A500, H⟩ := H; replace H : (if t133 = true then (some true) else (some false)) = some true := H; have A50 := zA A500; clear A500; by_cases c51 : t133 = true
                · subst c51
                  have H1 : (some true) = some true := by first | (rw [if_pos rfl] at H; exact H) | rfl
                  clear H; have H := H1; clear H1; clear H; have hnb52 := NB101_102.out; have hnc52 := NB102_101.out; have hnb53 := NB101_103.out; have hnc53 := NB103_101.out; obtain ⟨_, _, _, _, _, _, _, _, _, _⟩ := qc5f BK101.out; have hnb55 := NB103_102.out; have hnc55 := NB102_103.out; obtain ⟨_, _, _, _, _, _⟩ := qc3f BK103.out; try go_wp2_with (first | ((with_reducible refine zJq (f := 50) rfl ?_); refine goesL_ (some 34) rfl rfl Try.func50 (by kernel_rfl) rfl #[.int .i64 a0_0, .agg #[.int .i64 a2_0, .int .i64 a2_1, .slice A2_2 l2_2.length c2_2], .int .i64 a0_2, .slice A0_4 l0_4.length c0_4] rfl (by (try simp only [zR, zS, zT]); first | done | rfl | (simp only [zP, zQ]; rfl)) ?_; (with_reducible refine (rma_Make.calls kj3 a0_0 a2_0 a2_1 _ _ l2_2 a0_2 _ _ l0_4 t108 t109 t110 t111 t112 t115 _ ?side1 ?side2 ?side3 ?side4 A36.out).mono ?_); (case side1 => exact qC (Kd.C_below HR2_2.out HB.out)); (case side2 => exact HC2_2.out); (case side3 => exact qC (Kd.C_below HR0_4.out HB.out)); (case side4 => exact HC0_4.out); rintro e w57 ⟨v113, rfl, ho0, hb⟩; refine ⟨_, rfl, ?_⟩; have n0_ := zA (Kd.R_lower ho0 (zW qB)); have n1_ := zA (qX BK101.out hb); have n2_ := zA (qX BK102.out hb); have n3_ := zA (qX BK103.out hb); have n4_ := zA (zV qB hb); clear BK101 BK102 BK103 HB; have HO114 := n0_; have BK101 := n1_; have BK102 := n2_; have BK103 := n3_; have HB := n4_; clear n0_ n1_ n2_ n3_ n4_; (try clear hb); (try clear hb2); (try clear hk); (try clear hi); (try clear ho0)) | ((with_reducible refine gate_dst (N := 7) rfl ?_); refine box_event qr (N := 7) qr (cs := #[.int .i64 0, .int .i64 0, .int .i64 0, .int .i64 0, .slice none 0 0]) (t := 70) qg ?_; intro gb116 hg w58 hbox hb; have n0_ := zA (Kd.R_below (by (with_reducible repeat (first | apply Kd.R_alloc | apply Kd.R_drewN | apply Kd.R_drew)); exact HO114.out) hb); have n1_ := zA (qX BK101.out hb); have n2_ := zA (qX BK102.out hb); have n3_ := zA (qX BK103.out hb); have n4_ := zA (zV qB hb); have n5_ := zA (hbox); have n6_ := zA ((qS : w.heap.size ≤ gb116)); have n7_ := zA ((qS : w.heap.size ≤ gb116)); have n8_ := zA ((by rw [hg]; exact zLq (qL BK101.out) : gb101 ≠ gb116)); have n9_ := zA ((by rw [hg]; exact zMq (qL BK101.out) : gb116 ≠ gb101)); have n10_ := zA ((by rw [hg]; exact zLq (qL BK102.out) : gb102 ≠ gb116)); have n11_ := zA ((by rw [hg]; exact zMq (qL BK102.out) : gb116 ≠ gb102)); have n12_ := zA ((by rw [hg]; exact zLq (qL BK103.out) : gb103 ≠ gb116)); have n13_ := zA ((by rw [hg]; exact zMq (qL BK103.out) : gb116 ≠ gb103)); clear HO114 BK101 BK102 BK103 HB; have HO114 := n0_; have BK101 := n1_; have BK102 := n2_; have BK103 := n3_; have HB := n4_; have BK116 := n5_; have GW116 := n6_; have GE116 := n7_; have NB101_116 := n8_; have NB116_101 := n9_; have NB102_116 := n10_; have NB116_102 := n11_; have NB103_116 := n12_; have NB116_103 := n13_; clear n0_ n1_ n2_ n3_ n4_ n5_ n6_ n7_ n8_ n9_ n10_ n11_ n12_ n13_ hb hbox hg; have hnb59 := NB116_101.out; have hnc59 := NB101_116.out; have hnb60 := NB116_102.out; have hnc60 := NB102_116.out; have hnb61 := NB116_103.out; have hnc61 := NB103_116.out; obtain ⟨_, _, _, _, _, _, _, _, _, _⟩ := qc5f BK116.out; obtain ⟨Ao63, co63, eo63⟩ := Kd.R_slice HO114.out; subst eo63; obtain ⟨_, _, _, _, _, _, _, _, _, _⟩ := qc5f BK101.out; obtain ⟨_, _, _, _, _, _⟩ := qc3f BK103.out) | ((with_reducible refine zJq (f := 51) rfl ?_); refine goesL_ (some 45) rfl rfl Try.func51 (by kernel_rfl) rfl #[.int .i64 a0_0, .agg #[.int .i64 a2_0, .int .i64 a2_1, .slice A2_2 l2_2.length c2_2], .int .i64 a0_2, .slice A0_4 l0_4.length c0_4] rfl (by (try simp only [zR, zS, zT]); first | done | rfl | (simp only [zP, zQ]; rfl)) ?_; (with_reducible refine (backhaulref27_Make.calls kj3 a0_0 a2_0 a2_1 _ _ l2_2 a0_2 _ _ l0_4 t117 t118 t119 t120 t121 t124 _ ?side1 ?side2 ?side3 ?side4 A37.out).mono ?_); (case side1 => exact Kd.C_below HR2_2.out qB); (case side2 => exact HC2_2.out); (case side3 => exact Kd.C_below HR0_4.out qB); (case side4 => exact HC0_4.out); rintro e w66 ⟨v122, rfl, ho0, hb⟩; refine ⟨_, rfl, ?_⟩; have n0_ := zA (Kd.R_elder' (by (with_reducible repeat (first | apply Kd.R_alloc | apply Kd.R_drewN | apply Kd.R_drew)); exact (Kd.R_mono (Kd.R_far (p := ⟨gb116, 4, none⟩) (Kd.R_far (p := ⟨gb116, 3, none⟩) (Kd.R_far (p := ⟨gb116, 2, none⟩) (Kd.R_far (p := ⟨gb116, 1, none⟩) (Kd.R_far (p := ⟨gb116, 0, none⟩) (Kd.R_types HO114.out BK116.out (by decide)) (fun _ hk => hk.2) (.int .i64 t108)) (fun _ hk => hk.2) (.int .i64 t109)) (fun _ hk => hk.2) (.int .i64 t110)) (fun _ hk => hk.2) (.int .i64 t111)) (fun _ hk => hk.2) (.slice Ao63 t112.length co63)) (fun _ h_ => h_.1))) (Kd.R_base ho0) hb); have n1_ := zA (Kd.R_lower (Kd.R_new' ho0 (Kd.R_lt (by (with_reducible repeat (first | apply Kd.R_alloc | apply Kd.R_drewN | apply Kd.R_drew)); exact (Kd.R_mono (Kd.R_far (p := ⟨gb116, 4, none⟩) (Kd.R_far (p := ⟨gb116, 3, none⟩) (Kd.R_far (p := ⟨gb116, 2, none⟩) (Kd.R_far (p := ⟨gb116, 1, none⟩) (Kd.R_far (p := ⟨gb116, 0, none⟩) (Kd.R_types HO114.out BK116.out (by decide)) (fun _ hk => hk.2) (.int .i64 t108)) (fun _ hk => hk.2) (.int .i64 t109)) (fun _ hk => hk.2) (.int .i64 t110)) (fun _ hk => hk.2) (.int .i64 t111)) (fun _ hk => hk.2) (.slice Ao63 t112.length co63)) (fun _ h_ => h_.1))))) (zW qB)); have n2_ := zA (qX BK101.out hb); have n3_ := zA (qX BK102.out hb); have n4_ := zA (qX BK103.out hb); have n5_ := zA (zX (g := gb116) (o := .cells #[.int .i64 t108, .int .i64 t109, .int .i64 t110, .int .i64 t111, .slice Ao63 t112.length co63] 70 (0, 0)) (qV BK116.out) hb); have n6_ := zA (zV qB hb); clear HO114 BK101 BK102 BK103 BK116 HB; have HO114 := n0_; have HO123 := n1_; have BK101 := n2_; have BK102 := n3_; have BK103 := n4_; have BK116 := n5_; have HB := n6_; clear n0_ n1_ n2_ n3_ n4_ n5_ n6_; (try clear hb); (try clear hb2); (try clear hk); (try clear hi); (try clear ho0)) | ((with_reducible refine gate_dst (N := 9) rfl ?_); refine box_event qr (N := 9) qr (cs := #[.int .i64 0, .int .i64 0, .int .i64 0, .int .i64 0, .slice none 0 0]) (t := 70) qg ?_; intro gb125 hg w67 hbox hb; have n0_ := zA (Kd.R_below (by (with_reducible repeat (first | apply Kd.R_alloc | apply Kd.R_drewN | apply Kd.R_drew)); exact HO114.out) hb); have n1_ := zA (Kd.R_below (by (with_reducible repeat (first | apply Kd.R_alloc | apply Kd.R_drewN | apply Kd.R_drew)); exact HO123.out) hb); have n2_ := zA (qX BK101.out hb); have n3_ := zA (qX BK102.out hb); have n4_ := zA (qX BK103.out hb); have n5_ := zA (qX BK116.out hb); have n6_ := zA (zV qB hb); have n7_ := zA (hbox); have n8_ := zA ((qS : w.heap.size ≤ gb125)); have n9_ := zA ((qS : w.heap.size ≤ gb125)); have n10_ := zA ((by rw [hg]; exact zLq (qL BK101.out) : gb101 ≠ gb125)); have n11_ := zA ((by rw [hg]; exact zMq (qL BK101.out) : gb125 ≠ gb101)); have n12_ := zA ((by rw [hg]; exact zLq (qL BK102.out) : gb102 ≠ gb125)); have n13_ := zA ((by rw [hg]; exact zMq (qL BK102.out) : gb125 ≠ gb102)); have n14_ := zA ((by rw [hg]; exact zLq (qL BK103.out) : gb103 ≠ gb125)); have n15_ := zA ((by rw [hg]; exact zMq (qL BK103.out) : gb125 ≠ gb103)); have n16_ := zA ((by rw [hg]; exact zLq (qL BK116.out) : gb116 ≠ gb125)); have n17_ := zA ((by rw [hg]; exact zMq (qL BK116.out) : gb125 ≠ gb116)); clear HO114 HO123 BK101 BK102 BK103 BK116 HB; have HO114 := n0_; have HO123 := n1_; have BK101 := n2_; have BK102 := n3_; have BK103 := n4_; have BK116 := n5_; have HB := n6_; have BK125 := n7_; have GW125 := n8_; have GE125 := n9_; have NB101_125 := n10_; have NB125_101 := n11_; have NB102_125 := n12_; have NB125_102 := n13_; have NB103_125 := n14_; have NB125_103 := n15_; have NB116_125 := n16_; have NB125_116 := n17_; clear n0_ n1_ n2_ n3_ n4_ n5_ n6_ n7_ n8_ n9_ n10_ n11_ n12_ n13_ n14_ n15_ n16_ n17_ hb hbox hg; have hnb68 := NB125_101.out; have hnc68 := NB101_125.out; have hnb69 := NB125_102.out; have hnc69 := NB102_125.out; have hnb70 := NB125_103.out; have hnc70 := NB103_125.out; have hnb71 := NB125_116.out; have hnc71 := NB116_125.out; obtain ⟨_, _, _, _, _, _, _, _, _, _⟩ := qc5f BK125.out; obtain ⟨Ao73, co73, eo73⟩ := Kd.R_slice HO123.out; subst eo73))
                  have n0_ : Aside0 (Kd.R k97 97 (((((w67.setCell ⟨gb125, 0, none⟩ (.int .i64 t117)).setCell ⟨gb125, 1, none⟩ (.int .i64 t118)).setCell ⟨gb125, 2, none⟩ (.int .i64 t119)).setCell ⟨gb125, 3, none⟩ (.int .i64 t120)).setCell ⟨gb125, 4, none⟩ (.slice Ao73 t121.length co73)) w.heap.size (fun k_ => some k_ ≠ (.slice Ao73 t121.length co73 : Value).ownBlock) (.slice Ao63 t112.length co63) t112) := ⟨by (with_reducible repeat (first | apply Kd.R_alloc | apply Kd.R_drewN | apply Kd.R_drew)); exact Kd.R_mono (Kd.R_far (p := ⟨gb125, 4, none⟩) (Kd.R_far (p := ⟨gb125, 3, none⟩) (Kd.R_far (p := ⟨gb125, 2, none⟩) (Kd.R_far (p := ⟨gb125, 1, none⟩) (Kd.R_far (p := ⟨gb125, 0, none⟩) (Kd.R_types HO114.out BK125.out (by decide)) (fun _ hk => hk.2) (.int .i64 t117)) (fun _ hk => hk.2) (.int .i64 t118)) (fun _ hk => hk.2) (.int .i64 t119)) (fun _ hk => hk.2) (.int .i64 t120)) (fun _ hk => hk.2) (.slice Ao73 t121.length co73)) (fun _ hk => hk.1.2)⟩
                  have n1_ : Aside0 (Kd.R k97 97 (((((w67.setCell ⟨gb125, 0, none⟩ (.int .i64 t117)).setCell ⟨gb125, 1, none⟩ (.int .i64 t118)).setCell ⟨gb125, 2, none⟩ (.int .i64 t119)).setCell ⟨gb125, 3, none⟩ (.int .i64 t120)).setCell ⟨gb125, 4, none⟩ (.slice Ao73 t121.length co73)) w.heap.size (fun k_ => some k_ ≠ (.slice Ao63 t112.length co63 : Value).ownBlock) (.slice Ao73 t121.length co73) t121) := ⟨by (with_reducible repeat (first | apply Kd.R_alloc | apply Kd.R_drewN | apply Kd.R_drew)); exact Kd.R_mono (Kd.R_far (p := ⟨gb125, 4, none⟩) (Kd.R_far (p := ⟨gb125, 3, none⟩) (Kd.R_far (p := ⟨gb125, 2, none⟩) (Kd.R_far (p := ⟨gb125, 1, none⟩) (Kd.R_far (p := ⟨gb125, 0, none⟩) (Kd.R_types HO123.out BK125.out (by decide)) (fun _ hk => hk.2) (.int .i64 t117)) (fun _ hk => hk.2) (.int .i64 t118)) (fun _ hk => hk.2) (.int .i64 t119)) (fun _ hk => hk.2) (.int .i64 t120)) (fun _ hk => hk.2) (.slice Ao73 t121.length co73)) (fun _ hk => hk.1.2)⟩
                  have n2_ : Aside0 ((((((w67.setCell ⟨gb125, 0, none⟩ (.int .i64 t117)).setCell ⟨gb125, 1, none⟩ (.int .i64 t118)).setCell ⟨gb125, 2, none⟩ (.int .i64 t119)).setCell ⟨gb125, 3, none⟩ (.int .i64 t120)).setCell ⟨gb125, 4, none⟩ (.slice Ao73 t121.length co73)).heap[gb101]? = some (.cells #[.int .i64 a0_0, .int .i64 a0_1, .int .i64 a0_2, .int .i64 a0_3, .slice A0_4 l0_4.length c0_4] 70 (0, 0))) := ⟨by (with_reducible repeat (first | refine zY ?_ _ | refine zAq ?_ | refine zZ ?_ _)); refine blk_far ?_ NB101_125.out _; (with_reducible repeat (first | refine zY ?_ _ | refine zAq ?_ | refine zZ ?_ _)); refine blk_far ?_ NB101_125.out _; (with_reducible repeat (first | refine zY ?_ _ | refine zAq ?_ | refine zZ ?_ _)); refine blk_far ?_ NB101_125.out _; (with_reducible repeat (first | refine zY ?_ _ | refine zAq ?_ | refine zZ ?_ _)); refine blk_far ?_ NB101_125.out _; (with_reducible repeat (first | refine zY ?_ _ | refine zAq ?_ | refine zZ ?_ _)); refine blk_far ?_ NB101_125.out _; exact BK101.out⟩
                  have n3_ : Aside0 ((((((w67.setCell ⟨gb125, 0, none⟩ (.int .i64 t117)).setCell ⟨gb125, 1, none⟩ (.int .i64 t118)).setCell ⟨gb125, 2, none⟩ (.int .i64 t119)).setCell ⟨gb125, 3, none⟩ (.int .i64 t120)).setCell ⟨gb125, 4, none⟩ (.slice Ao73 t121.length co73)).heap[gb102]? = some (.cells #[.int .i64 a1_0, .int .i64 a1_1, .int .i64 a1_2, .int .i64 a1_3, .slice A1_4 l1_4.length c1_4] 70 (0, 0))) := ⟨by (with_reducible repeat (first | refine zY ?_ _ | refine zAq ?_ | refine zZ ?_ _)); refine blk_far ?_ NB102_125.out _; (with_reducible repeat (first | refine zY ?_ _ | refine zAq ?_ | refine zZ ?_ _)); refine blk_far ?_ NB102_125.out _; (with_reducible repeat (first | refine zY ?_ _ | refine zAq ?_ | refine zZ ?_ _)); refine blk_far ?_ NB102_125.out _; (with_reducible repeat (first | refine zY ?_ _ | refine zAq ?_ | refine zZ ?_ _)); refine blk_far ?_ NB102_125.out _; (with_reducible repeat (first | refine zY ?_ _ | refine zAq ?_ | refine zZ ?_ _)); refine blk_far ?_ NB102_125.out _; exact BK102.out⟩
                  have n4_ : Aside0 ((((((w67.setCell ⟨gb125, 0, none⟩ (.int .i64 t117)).setCell ⟨gb125, 1, none⟩ (.int .i64 t118)).setCell ⟨gb125, 2, none⟩ (.int .i64 t119)).setCell ⟨gb125, 3, none⟩ (.int .i64 t120)).setCell ⟨gb125, 4, none⟩ (.slice Ao73 t121.length co73)).heap[gb103]? = some (.cells #[.int .i64 a2_0, .int .i64 a2_1, .slice A2_2 l2_2.length c2_2] 73 (0, 0))) := ⟨by (with_reducible repeat (first | refine zY ?_ _ | refine zAq ?_ | refine zZ ?_ _)); refine blk_far ?_ NB103_125.out _; (with_reducible repeat (first | refine zY ?_ _ | refine zAq ?_ | refine zZ ?_ _)); refine blk_far ?_ NB103_125.out _; (with_reducible repeat (first | refine zY ?_ _ | refine zAq ?_ | refine zZ ?_ _)); refine blk_far ?_ NB103_125.out _; (with_reducible repeat (first | refine zY ?_ _ | refine zAq ?_ | refine zZ ?_ _)); refine blk_far ?_ NB103_125.out _; (with_reducible repeat (first | refine zY ?_ _ | refine zAq ?_ | refine zZ ?_ _)); refine blk_far ?_ NB103_125.out _; exact BK103.out⟩
                  have n5_ : Aside0 ((((((w67.setCell ⟨gb125, 0, none⟩ (.int .i64 t117)).setCell ⟨gb125, 1, none⟩ (.int .i64 t118)).setCell ⟨gb125, 2, none⟩ (.int .i64 t119)).setCell ⟨gb125, 3, none⟩ (.int .i64 t120)).setCell ⟨gb125, 4, none⟩ (.slice Ao73 t121.length co73)).heap[gb116]? = some (.cells #[.int .i64 t108, .int .i64 t109, .int .i64 t110, .int .i64 t111, .slice Ao63 t112.length co63] 70 (0, 0))) := ⟨by (with_reducible repeat (first | refine zY ?_ _ | refine zAq ?_ | refine zZ ?_ _)); refine blk_far ?_ NB116_125.out _; (with_reducible repeat (first | refine zY ?_ _ | refine zAq ?_ | refine zZ ?_ _)); refine blk_far ?_ NB116_125.out _; (with_reducible repeat (first | refine zY ?_ _ | refine zAq ?_ | refine zZ ?_ _)); refine blk_far ?_ NB116_125.out _; (with_reducible repeat (first | refine zY ?_ _ | refine zAq ?_ | refine zZ ?_ _)); refine blk_far ?_ NB116_125.out _; (with_reducible repeat (first | refine zY ?_ _ | refine zAq ?_ | refine zZ ?_ _)); refine blk_far ?_ NB116_125.out _; exact BK116.out⟩
                  have n6_ : Aside0 ((((((w67.setCell ⟨gb125, 0, none⟩ (.int .i64 t117)).setCell ⟨gb125, 1, none⟩ (.int .i64 t118)).setCell ⟨gb125, 2, none⟩ (.int .i64 t119)).setCell ⟨gb125, 3, none⟩ (.int .i64 t120)).setCell ⟨gb125, 4, none⟩ (.slice Ao73 t121.length co73)).heap[gb125]? = some (.cells #[.int .i64 t117, .int .i64 t118, .int .i64 t119, .int .i64 t120, .slice Ao73 t121.length co73] 70 (0, 0))) := ⟨by (with_reducible repeat (first | refine zY ?_ _ | refine zAq ?_ | refine zZ ?_ _)); apply qP5; exact BK125.out⟩
                  have n7_ : Aside0 (Below w.heap.size w (((((w67.setCell ⟨gb125, 0, none⟩ (.int .i64 t117)).setCell ⟨gb125, 1, none⟩ (.int .i64 t118)).setCell ⟨gb125, 2, none⟩ (.int .i64 t119)).setCell ⟨gb125, 3, none⟩ (.int .i64 t120)).setCell ⟨gb125, 4, none⟩ (.slice Ao73 t121.length co73))) := ⟨qB⟩
                  (try clear HO114); (try clear HO123); (try clear BK101); (try clear BK102); (try clear BK103); (try clear BK116); (try clear BK125); (try clear HB)
                  generalize (((((w67.setCell ⟨gb125, 0, none⟩ (.int .i64 t117)).setCell ⟨gb125, 1, none⟩ (.int .i64 t118)).setCell ⟨gb125, 2, none⟩ (.int .i64 t119)).setCell ⟨gb125, 3, none⟩ (.int .i64 t120)).setCell ⟨gb125, 4, none⟩ (.slice Ao73 t121.length co73)) = w74 at n0_ n1_ n2_ n3_ n4_ n5_ n6_ n7_ ⊢; have HO114 := n0_; have HO123 := n1_; have BK101 := n2_; have BK102 := n3_; have BK103 := n4_; have BK116 := n5_; have BK125 := n6_; have HB := n7_; clear n0_ n1_ n2_ n3_ n4_ n5_ n6_ n7_; have n0_ := zA (Kd.R_drew HO114.out); have n1_ := zA (Kd.R_drew HO123.out); have n2_ := zA (zAq BK101.out); have n3_ := zA (zAq BK102.out); have n4_ := zA (zAq BK103.out); have n5_ := zA (zAq BK116.out); have n6_ := zA (zAq BK125.out); have n7_ := zA (zC HB.out); clear HO114; clear HO123; clear BK101; clear BK102; clear BK103; clear BK116; clear BK125; clear HB; have HO114 := n0_; have HO123 := n1_; have BK101 := n2_; have BK102 := n3_; have BK103 := n4_; have BK116 := n5_; have BK125 := n6_; have HB := n7_; clear n0_ n1_ n2_ n3_ n4_ n5_ n6_ n7_; refine start_ (n := 37) (S := fun w' => w'.cell? ⟨gb101, 0, none⟩ = some (.int .i64 a0_0) ∧ w'.cell? ⟨gb101, 1, none⟩ = some (.int .i64 a0_1) ∧ w'.cell? ⟨gb101, 2, none⟩ = some (.int .i64 a0_2) ∧ w'.cell? ⟨gb101, 3, none⟩ = some (.int .i64 a0_3) ∧ w'.cell? ⟨gb101, 4, none⟩ = some (.slice A0_4 l0_4.length c0_4) ∧ w'.cell? ⟨gb103, 0, none⟩ = some (.int .i64 a2_0) ∧ w'.cell? ⟨gb103, 1, none⟩ = some (.int .i64 a2_1) ∧ w'.cell? ⟨gb103, 2, none⟩ = some (.slice A2_2 l2_2.length c2_2) ∧ w'.cell? ⟨gb116, 0, none⟩ = some (.int .i64 t108) ∧ w'.cell? ⟨gb116, 1, none⟩ = some (.int .i64 t109) ∧ w'.cell? ⟨gb116, 2, none⟩ = some (.int .i64 t110) ∧ w'.cell? ⟨gb116, 3, none⟩ = some (.int .i64 t111) ∧ w'.cell? ⟨gb116, 4, none⟩ = some (.slice Ao63 t112.length co63) ∧ w'.cell? ⟨gb125, 0, none⟩ = some (.int .i64 t117) ∧ w'.cell? ⟨gb125, 1, none⟩ = some (.int .i64 t118) ∧ w'.cell? ⟨gb125, 2, none⟩ = some (.int .i64 t119) ∧ w'.cell? ⟨gb125, 3, none⟩ = some (.int .i64 t120) ∧ w'.cell? ⟨gb125, 4, none⟩ = some (.slice Ao73 t121.length co73) ∧ w'.cell? ⟨gb102, 0, none⟩ = some (.int .i64 a1_0) ∧ w'.cell? ⟨gb102, 1, none⟩ = some (.int .i64 a1_1) ∧ w'.cell? ⟨gb102, 2, none⟩ = some (.int .i64 a1_2) ∧ w'.cell? ⟨gb102, 3, none⟩ = some (.int .i64 a1_3) ∧ w'.cell? ⟨gb102, 4, none⟩ = some (.slice A1_4 l1_4.length c1_4)) (ds := []) #[o0, o0, o0, o0, o0, o0, o0, o0, o0, o0, o0, o0, o0, o0, o0, o0, o0, o0, o0, o0, o0, o0, o0, o0, o0, o0, o0, o0, o0, o0, o0, o0, o0, o0, o0, o0, o0] (by kernel_rfl) rfl rfl ⟨(zF BK101.out 0).trans rfl, (zF BK101.out 1).trans rfl, (zF BK101.out 2).trans rfl, (zF BK101.out 3).trans rfl, (zF BK101.out 4).trans rfl, (zF BK103.out 0).trans rfl, (zF BK103.out 1).trans rfl, (zF BK103.out 2).trans rfl, (zF BK116.out 0).trans rfl, (zF BK116.out 1).trans rfl, (zF BK116.out 2).trans rfl, (zF BK116.out 3).trans rfl, (zF BK116.out 4).trans rfl, (zF BK125.out 0).trans rfl, (zF BK125.out 1).trans rfl, (zF BK125.out 2).trans rfl, (zF BK125.out 3).trans rfl, (zF BK125.out 4).trans rfl, (zF BK102.out 0).trans rfl, (zF BK102.out 1).trans rfl, (zF BK102.out 2).trans rfl, (zF BK102.out 3).trans rfl, (zF BK102.out 4).trans rfl⟩ (fun hHeld => ?_); refine with_tabW backhaullaw27_RmaMakes.tab5 backhaullaw27_RmaMakes.bits5 (fun HT_ HW_ => ?_)
                  generalize w74.drew = w75 at HO114 HO123 BK101 BK102 BK103 BK116 BK125 HB hHeld ⊢; refine take_ (i := 0) (N := some 48) (v := ?_) (a' := ?_) #[o1, o0, o0, o0, o0, o0, o0, o0, o0, o0, o0, o0, o0, o0, o0, o0, o0, o0, o0, o0, o0, o0, o0, o0, o0, o0, o0, o0, o0, o0, o0, o0, o0, o0, o0, o0, o0] rfl rfl (take_ofW HT_.out HW_.out (by kernel_rfl)) (fun _ _ _ h => h) (Or.inl ⟨by rfl, ?_⟩) hHeld ?_ ?_; rotate_left
                  · rintro w' ⟨s0, s1, s2, s3, s4, s5, s6, s7, s8, s9, s10, s11, s12, s13, s14, s15, s16, s17, s18, s19, s20, s21, s22⟩
                    go_simp; with_reducible rfl
                  rotate_left
                  · simp only [Act.put, zH, zI, zJ, i64_w, i32_w]
                    rfl
                  refine take_ (i := 2) (N := some 50) (v := ?_) (a' := ?_) #[o1, o0, o1, o0, o0, o0, o0, o0, o0, o0, o0, o0, o0, o0, o0, o0, o0, o0, o0, o0, o0, o0, o0, o0, o0, o0, o0, o0, o0, o0, o0, o0, o0, o0, o0, o0, o0] rfl rfl (take_ofW HT_.out HW_.out (by kernel_rfl)) (fun _ _ _ h => h) (Or.inl ⟨by rfl, ?_⟩) hHeld ?_ ?_; rotate_left
                  · rintro w' ⟨s0, s1, s2, s3, s4, s5, s6, s7, s8, s9, s10, s11, s12, s13, s14, s15, s16, s17, s18, s19, s20, s21, s22⟩
                    go_simp; with_reducible rfl
                  rotate_left
                  · simp only [Act.put, zH, zI, zJ, i64_w, i32_w]
                    rfl
                  refine one_ (i := 1) (N := some 49) #[o1, o1, o1, o0, o0, o0, o0, o0, o0, o0, o0, o0, o0, o0, o0, o0, o0, o0, o0, o0, o0, o0, o0, o0, o0, o0, o0, o0, o0, o0, o0, o0, o0, o0, o0, o0, o0] rfl rfl (one_of HT_.out (by kernel_rfl)) (by decide) (fun K hK => ?_); refine goes_ Try.func52 (by kernel_rfl) rfl #[.agg #[.int .i64 a0_0, .int .i64 a0_1, .int .i64 a0_2, .int .i64 a0_3, .slice A0_4 l0_4.length c0_4]] (by rfl) rfl rfl (by (try simp only [zR, zS, zT]); first | done | rfl | (simp only [zP, zQ]; rfl)) ?_; with_reducible refine (rma_Check.calls kj3 a0_0 a0_1 a0_2 a0_3 _ _ l0_4 t126 _ ?side1 ?side2 A38.out).mono ?_
                  (case side1 => exact qC (Kd.C_below HR0_4.out HB.out))
                  (case side2 => exact HC0_4.out)
                  rintro e w76 ⟨rfl, hb⟩; refine ⟨_, rfl, ?_⟩; have n0_ := zA (Kd.R_below (by (with_reducible repeat (first | apply Kd.R_alloc | apply Kd.R_drewN | apply Kd.R_drew)); exact HO114.out) hb); have n1_ := zA (Kd.R_below (by (with_reducible repeat (first | apply Kd.R_alloc | apply Kd.R_drewN | apply Kd.R_drew)); exact HO123.out) hb); have n2_ := zA (qX BK101.out hb); have n3_ := zA (qX BK102.out hb); have n4_ := zA (qX BK103.out hb); have n5_ := zA (qX BK116.out hb); have n6_ := zA (qX BK125.out hb); have n7_ := zA (zV qB hb); clear HO114; clear HO123; clear BK101; clear BK102; clear BK103; clear BK116; clear BK125; clear HB; have HO114 := n0_; have HO123 := n1_; have BK101 := n2_; have BK102 := n3_; have BK103 := n4_; have BK116 := n5_; have BK125 := n6_; have HB := n7_; clear n0_ n1_ n2_ n3_ n4_ n5_ n6_ n7_; (try clear hb); (try clear hb2); (try clear hk); (try clear hi); refine hK.out _ _ ⟨(zF BK101.out 0).trans rfl, (zF BK101.out 1).trans rfl, (zF BK101.out 2).trans rfl, (zF BK101.out 3).trans rfl, (zF BK101.out 4).trans rfl, (zF BK103.out 0).trans rfl, (zF BK103.out 1).trans rfl, (zF BK103.out 2).trans rfl, (zF BK116.out 0).trans rfl, (zF BK116.out 1).trans rfl, (zF BK116.out 2).trans rfl, (zF BK116.out 3).trans rfl, (zF BK116.out 4).trans rfl, (zF BK125.out 0).trans rfl, (zF BK125.out 1).trans rfl, (zF BK125.out 2).trans rfl, (zF BK125.out 3).trans rfl, (zF BK125.out 4).trans rfl, (zF BK102.out 0).trans rfl, (zF BK102.out 1).trans rfl, (zF BK102.out 2).trans rfl, (zF BK102.out 3).trans rfl, (zF BK102.out 4).trans rfl⟩ (fun hHeld => ?_); clear hK K; refine norm_ (a' := ?_) ?_ ?_; rotate_left
                  · show Act.put _ (some 49) _ = _
                    simp only [Act.put, zH, zI, zJ, i64_w, i32_w]; rfl
                  refine one_ (i := 3) (N := some 51) #[o1, o1, o1, o1, o0, o0, o0, o0, o0, o0, o0, o0, o0, o0, o0, o0, o0, o0, o0, o0, o0, o0, o0, o0, o0, o0, o0, o0, o0, o0, o0, o0, o0, o0, o0, o0, o0] rfl rfl (one_of HT_.out (by kernel_rfl)) (by decide) (fun K hK => ?_); refine goes_ Try.func53 (by kernel_rfl) rfl #[.agg #[.int .i64 a0_0, .int .i64 a0_1, .int .i64 a0_2, .int .i64 a0_3, .slice A0_4 l0_4.length c0_4]] (by rfl) rfl rfl (by (try simp only [zR, zS, zT]); first | done | rfl | (simp only [zP, zQ]; rfl)) ?_; with_reducible refine (backhaulref27_Check.calls kj3 a0_0 a0_1 a0_2 a0_3 _ _ l0_4 t127 _ ?side1 ?side2 A39.out).mono ?_
                  (case side1 => exact qC (Kd.C_below HR0_4.out HB.out))
                  (case side2 => exact HC0_4.out)
                  rintro e w77 ⟨rfl, hb⟩; refine ⟨_, rfl, ?_⟩; have n0_ := zA (Kd.R_below (by (with_reducible repeat (first | apply Kd.R_alloc | apply Kd.R_drewN | apply Kd.R_drew)); exact HO114.out) hb); have n1_ := zA (Kd.R_below (by (with_reducible repeat (first | apply Kd.R_alloc | apply Kd.R_drewN | apply Kd.R_drew)); exact HO123.out) hb); have n2_ := zA (qX BK101.out hb); have n3_ := zA (qX BK102.out hb); have n4_ := zA (qX BK103.out hb); have n5_ := zA (qX BK116.out hb); have n6_ := zA (qX BK125.out hb); have n7_ := zA (zV qB hb); clear HO114; clear HO123; clear BK101; clear BK102; clear BK103; clear BK116; clear BK125; clear HB; have HO114 := n0_; have HO123 := n1_; have BK101 := n2_; have BK102 := n3_; have BK103 := n4_; have BK116 := n5_; have BK125 := n6_; have HB := n7_; clear n0_ n1_ n2_ n3_ n4_ n5_ n6_ n7_; (try clear hb); (try clear hb2); (try clear hk); (try clear hi); refine hK.out _ _ ⟨(zF BK101.out 0).trans rfl, (zF BK101.out 1).trans rfl, (zF BK101.out 2).trans rfl, (zF BK101.out 3).trans rfl, (zF BK101.out 4).trans rfl, (zF BK103.out 0).trans rfl, (zF BK103.out 1).trans rfl, (zF BK103.out 2).trans rfl, (zF BK116.out 0).trans rfl, (zF BK116.out 1).trans rfl, (zF BK116.out 2).trans rfl, (zF BK116.out 3).trans rfl, (zF BK116.out 4).trans rfl, (zF BK125.out 0).trans rfl, (zF BK125.out 1).trans rfl, (zF BK125.out 2).trans rfl, (zF BK125.out 3).trans rfl, (zF BK125.out 4).trans rfl, (zF BK102.out 0).trans rfl, (zF BK102.out 1).trans rfl, (zF BK102.out 2).trans rfl, (zF BK102.out 3).trans rfl, (zF BK102.out 4).trans rfl⟩ (fun hHeld => ?_); clear hK K; refine norm_ (a' := ?_) ?_ ?_; rotate_left
                  · show Act.put _ (some 51) _ = _
                    simp only [Act.put, zH, zI, zJ, i64_w, i32_w]; rfl
                  refine pure_ (i := 4) (N := some 52) #[o1, o1, o1, o1, o1, o0, o0, o0, o0, o0, o0, o0, o0, o0, o0, o0, o0, o0, o0, o0, o0, o0, o0, o0, o0, o0, o0, o0, o0, o0, o0, o0, o0, o0, o0, o0, o0] rfl rfl (any_of HT_.out (by kernel_rfl)) (fun _ _ _ h => h) (Or.inl ⟨by rfl, qy⟩) qz ?_; refine pure_ (i := 5) (N := some 53) #[o1, o1, o1, o1, o1, o1, o0, o0, o0, o0, o0, o0, o0, o0, o0, o0, o0, o0, o0, o0, o0, o0, o0, o0, o0, o0, o0, o0, o0, o0, o0, o0, o0, o0, o0, o0, o0] rfl rfl (any_of HT_.out (by kernel_rfl)) (fun _ _ _ h => h) (Or.inl ⟨by rfl, qy⟩) qz ?_; refine take_ (i := 6) (N := some 54) (v := ?_) (a' := ?_) #[o1, o1, o1, o1, o1, o1, o1, o0, o0, o0, o0, o0, o0, o0, o0, o0, o0, o0, o0, o0, o0, o0, o0, o0, o0, o0, o0, o0, o0, o0, o0, o0, o0, o0, o0, o0, o0] rfl rfl (take_ofW HT_.out HW_.out (by kernel_rfl)) (fun _ _ _ h => h) (Or.inl ⟨by rfl, ?_⟩) hHeld ?_ ?_; rotate_left
                  · rintro w' ⟨s0, s1, s2, s3, s4, s5, s6, s7, s8, s9, s10, s11, s12, s13, s14, s15, s16, s17, s18, s19, s20, s21, s22⟩
                    go_simp; with_reducible rfl
                  rotate_left
                  · simp only [Act.put, zH, zI, zJ, i64_w, i32_w]
                    rfl
                  refine take_ (i := 7) (N := some 55) (v := ?_) (a' := ?_) #[o1, o1, o1, o1, o1, o1, o1, o1, o0, o0, o0, o0, o0, o0, o0, o0, o0, o0, o0, o0, o0, o0, o0, o0, o0, o0, o0, o0, o0, o0, o0, o0, o0, o0, o0, o0, o0] rfl rfl (take_ofW HT_.out HW_.out (by kernel_rfl)) (fun _ _ _ h => h) (Or.inl ⟨by rfl, ?_⟩) hHeld ?_ ?_; rotate_left
                  · rintro w' ⟨s0, s1, s2, s3, s4, s5, s6, s7, s8, s9, s10, s11, s12, s13, s14, s15, s16, s17, s18, s19, s20, s21, s22⟩
                    go_simp; with_reducible rfl
                  rotate_left
                  · simp only [Act.put, zH, zI, zJ, i64_w, i32_w]
                    rfl
                  refine take_ (i := 9) (N := some 57) (v := ?_) (a' := ?_) #[o1, o1, o1, o1, o1, o1, o1, o1, o0, o1, o0, o0, o0, o0, o0, o0, o0, o0, o0, o0, o0, o0, o0, o0, o0, o0, o0, o0, o0, o0, o0, o0, o0, o0, o0, o0, o0] rfl rfl (take_ofW HT_.out HW_.out (by kernel_rfl)) (fun _ _ _ h => h) (Or.inl ⟨by rfl, ?_⟩) hHeld ?_ ?_; rotate_left
                  · rintro w' ⟨s0, s1, s2, s3, s4, s5, s6, s7, s8, s9, s10, s11, s12, s13, s14, s15, s16, s17, s18, s19, s20, s21, s22⟩
                    go_simp; with_reducible rfl
                  rotate_left
                  · simp only [Act.put, zH, zI, zJ, i64_w, i32_w]
                    rfl
                  refine take_ (i := 10) (N := some 58) (v := ?_) (a' := ?_) #[o1, o1, o1, o1, o1, o1, o1, o1, o0, o1, o1, o0, o0, o0, o0, o0, o0, o0, o0, o0, o0, o0, o0, o0, o0, o0, o0, o0, o0, o0, o0, o0, o0, o0, o0, o0, o0] rfl rfl (take_ofW HT_.out HW_.out (by kernel_rfl)) (fun _ _ _ h => h) (Or.inl ⟨by rfl, ?_⟩) hHeld ?_ ?_; rotate_left
                  · rintro w' ⟨s0, s1, s2, s3, s4, s5, s6, s7, s8, s9, s10, s11, s12, s13, s14, s15, s16, s17, s18, s19, s20, s21, s22⟩
                    go_simp; with_reducible rfl
                  rotate_left
                  · simp only [Act.put, zH, zI, zJ, i64_w, i32_w]
                    rfl
                  refine one_ (i := 8) (N := some 56) #[o1, o1, o1, o1, o1, o1, o1, o1, o1, o1, o1, o0, o0, o0, o0, o0, o0, o0, o0, o0, o0, o0, o0, o0, o0, o0, o0, o0, o0, o0, o0, o0, o0, o0, o0, o0, o0] rfl rfl (one_of HT_.out (by kernel_rfl)) (by decide) (fun K hK => ?_); refine goes_ Try.func54 (by kernel_rfl) rfl #[.agg #[.int .i64 a0_0, .int .i64 a0_1, .int .i64 a0_2, .int .i64 a0_3, .slice A0_4 l0_4.length c0_4], .agg #[.int .i64 a2_0, .int .i64 a2_1, .slice A2_2 l2_2.length c2_2]] (by rfl) rfl rfl (by (try simp only [zR, zS, zT]); first | done | rfl | (simp only [zP, zQ]; rfl)) ?_; with_reducible refine (rma_Fits.calls kj3 a0_0 a0_1 a0_2 a0_3 _ _ l0_4 a2_0 a2_1 _ _ l2_2 t128 _ ?side1 ?side2 ?side3 ?side4 A41.out).mono ?_
                  (case side1 => exact qC (Kd.C_below HR0_4.out HB.out))
                  (case side2 => exact HC0_4.out)
                  (case side3 => exact qC (Kd.C_below HR2_2.out HB.out))
                  (case side4 => exact HC2_2.out)
                  rintro e w78 ⟨rfl, hb⟩; refine ⟨_, rfl, ?_⟩; have n0_ := zA (Kd.R_below (by (with_reducible repeat (first | apply Kd.R_alloc | apply Kd.R_drewN | apply Kd.R_drew)); exact HO114.out) hb); have n1_ := zA (Kd.R_below (by (with_reducible repeat (first | apply Kd.R_alloc | apply Kd.R_drewN | apply Kd.R_drew)); exact HO123.out) hb); have n2_ := zA (qX BK101.out hb); have n3_ := zA (qX BK102.out hb); have n4_ := zA (qX BK103.out hb); have n5_ := zA (qX BK116.out hb); have n6_ := zA (qX BK125.out hb); have n7_ := zA (zV qB hb); clear HO114; clear HO123; clear BK101; clear BK102; clear BK103; clear BK116; clear BK125; clear HB; have HO114 := n0_; have HO123 := n1_; have BK101 := n2_; have BK102 := n3_; have BK103 := n4_; have BK116 := n5_; have BK125 := n6_; have HB := n7_; clear n0_ n1_ n2_ n3_ n4_ n5_ n6_ n7_; (try clear hb); (try clear hb2); (try clear hk); (try clear hi); refine hK.out _ _ ⟨(zF BK101.out 0).trans rfl, (zF BK101.out 1).trans rfl, (zF BK101.out 2).trans rfl, (zF BK101.out 3).trans rfl, (zF BK101.out 4).trans rfl, (zF BK103.out 0).trans rfl, (zF BK103.out 1).trans rfl, (zF BK103.out 2).trans rfl, (zF BK116.out 0).trans rfl, (zF BK116.out 1).trans rfl, (zF BK116.out 2).trans rfl, (zF BK116.out 3).trans rfl, (zF BK116.out 4).trans rfl, (zF BK125.out 0).trans rfl, (zF BK125.out 1).trans rfl, (zF BK125.out 2).trans rfl, (zF BK125.out 3).trans rfl, (zF BK125.out 4).trans rfl, (zF BK102.out 0).trans rfl, (zF BK102.out 1).trans rfl, (zF BK102.out 2).trans rfl, (zF BK102.out 3).trans rfl, (zF BK102.out 4).trans rfl⟩ (fun hHeld => ?_); clear hK K; refine norm_ (a' := ?_) ?_ ?_; rotate_left
                  · show Act.put _ (some 56) _ = _
                    simp only [Act.put, zH, zI, zJ, i64_w, i32_w]; rfl
                  refine one_ (i := 11) (N := some 59) #[o1, o1, o1, o1, o1, o1, o1, o1, o1, o1, o1, o1, o0, o0, o0, o0, o0, o0, o0, o0, o0, o0, o0, o0, o0, o0, o0, o0, o0, o0, o0, o0, o0, o0, o0, o0, o0] rfl rfl (one_of HT_.out (by kernel_rfl)) (by decide) (fun K hK => ?_); refine goes_ Try.func55 (by kernel_rfl) rfl #[.agg #[.int .i64 a0_0, .int .i64 a0_1, .int .i64 a0_2, .int .i64 a0_3, .slice A0_4 l0_4.length c0_4], .agg #[.int .i64 a2_0, .int .i64 a2_1, .slice A2_2 l2_2.length c2_2]] (by rfl) rfl rfl (by (try simp only [zR, zS, zT]); first | done | rfl | (simp only [zP, zQ]; rfl)) ?_; with_reducible refine (backhaulref27_Fits.calls kj3 a0_0 a0_1 a0_2 a0_3 _ _ l0_4 a2_0 a2_1 _ _ l2_2 t129 _ ?side1 ?side2 ?side3 ?side4 A42.out).mono ?_
                  (case side1 => exact qC (Kd.C_below HR0_4.out HB.out))
                  (case side2 => exact HC0_4.out)
                  (case side3 => exact qC (Kd.C_below HR2_2.out HB.out))
                  (case side4 => exact HC2_2.out)
                  rintro e w79 ⟨rfl, hb⟩; refine ⟨_, rfl, ?_⟩; have n0_ := zA (Kd.R_below (by (with_reducible repeat (first | apply Kd.R_alloc | apply Kd.R_drewN | apply Kd.R_drew)); exact HO114.out) hb); have n1_ := zA (Kd.R_below (by (with_reducible repeat (first | apply Kd.R_alloc | apply Kd.R_drewN | apply Kd.R_drew)); exact HO123.out) hb); have n2_ := zA (qX BK101.out hb); have n3_ := zA (qX BK102.out hb); have n4_ := zA (qX BK103.out hb); have n5_ := zA (qX BK116.out hb); have n6_ := zA (qX BK125.out hb); have n7_ := zA (zV qB hb); clear HO114; clear HO123; clear BK101; clear BK102; clear BK103; clear BK116; clear BK125; clear HB; have HO114 := n0_; have HO123 := n1_; have BK101 := n2_; have BK102 := n3_; have BK103 := n4_; have BK116 := n5_; have BK125 := n6_; have HB := n7_; clear n0_ n1_ n2_ n3_ n4_ n5_ n6_ n7_; (try clear hb); (try clear hb2); (try clear hk); (try clear hi); refine hK.out _ _ ⟨(zF BK101.out 0).trans rfl, (zF BK101.out 1).trans rfl, (zF BK101.out 2).trans rfl, (zF BK101.out 3).trans rfl, (zF BK101.out 4).trans rfl, (zF BK103.out 0).trans rfl, (zF BK103.out 1).trans rfl, (zF BK103.out 2).trans rfl, (zF BK116.out 0).trans rfl, (zF BK116.out 1).trans rfl, (zF BK116.out 2).trans rfl, (zF BK116.out 3).trans rfl, (zF BK116.out 4).trans rfl, (zF BK125.out 0).trans rfl, (zF BK125.out 1).trans rfl, (zF BK125.out 2).trans rfl, (zF BK125.out 3).trans rfl, (zF BK125.out 4).trans rfl, (zF BK102.out 0).trans rfl, (zF BK102.out 1).trans rfl, (zF BK102.out 2).trans rfl, (zF BK102.out 3).trans rfl, (zF BK102.out 4).trans rfl⟩ (fun hHeld => ?_); clear hK K; refine norm_ (a' := ?_) ?_ ?_; rotate_left
                  · show Act.put _ (some 59) _ = _
                    simp only [Act.put, zH, zI, zJ, i64_w, i32_w]; rfl
                  refine pure_ (i := 12) (N := some 60) #[o1, o1, o1, o1, o1, o1, o1, o1, o1, o1, o1, o1, o1, o0, o0, o0, o0, o0, o0, o0, o0, o0, o0, o0, o0, o0, o0, o0, o0, o0, o0, o0, o0, o0, o0, o0, o0] rfl rfl (any_of HT_.out (by kernel_rfl)) (fun _ _ _ h => h) (Or.inl ⟨by rfl, qy⟩) qz ?_; refine pure_ (i := 13) (N := some 61) #[o1, o1, o1, o1, o1, o1, o1, o1, o1, o1, o1, o1, o1, o1, o0, o0, o0, o0, o0, o0, o0, o0, o0, o0, o0, o0, o0, o0, o0, o0, o0, o0, o0, o0, o0, o0, o0] rfl rfl (any_of HT_.out (by kernel_rfl)) (fun _ _ _ h => h) (Or.inl ⟨by rfl, qy⟩) qz ?_; refine pure_ (i := 14) (N := some 62) #[o1, o1, o1, o1, o1, o1, o1, o1, o1, o1, o1, o1, o1, o1, o1, o0, o0, o0, o0, o0, o0, o0, o0, o0, o0, o0, o0, o0, o0, o0, o0, o0, o0, o0, o0, o0, o0] rfl rfl (any_of HT_.out (by kernel_rfl)) (fun _ _ _ h => h) (Or.inl ⟨by rfl, qy⟩) qz ?_; refine take_ (i := 15) (N := some 63) (v := ?_) (a' := ?_) #[o1, o1, o1, o1, o1, o1, o1, o1, o1, o1, o1, o1, o1, o1, o1, o1, o0, o0, o0, o0, o0, o0, o0, o0, o0, o0, o0, o0, o0, o0, o0, o0, o0, o0, o0, o0, o0] rfl rfl (take_ofW HT_.out HW_.out (by kernel_rfl)) (fun _ _ _ h => h) (Or.inl ⟨by rfl, ?_⟩) hHeld ?_ ?_; rotate_left
                  · rintro w' ⟨s0, s1, s2, s3, s4, s5, s6, s7, s8, s9, s10, s11, s12, s13, s14, s15, s16, s17, s18, s19, s20, s21, s22⟩
                    go_simp; with_reducible rfl
                  rotate_left
                  · simp only [Act.put, zH, zI, zJ, i64_w, i32_w]
                    rfl
                  refine take_ (i := 16) (N := some 64) (v := ?_) (a' := ?_) #[o1, o1, o1, o1, o1, o1, o1, o1, o1, o1, o1, o1, o1, o1, o1, o1, o1, o0, o0, o0, o0, o0, o0, o0, o0, o0, o0, o0, o0, o0, o0, o0, o0, o0, o0, o0, o0] rfl rfl (take_ofW HT_.out HW_.out (by kernel_rfl)) (fun _ _ _ h => h) (Or.inl ⟨by rfl, ?_⟩) hHeld ?_ ?_; rotate_left
                  · rintro w' ⟨s0, s1, s2, s3, s4, s5, s6, s7, s8, s9, s10, s11, s12, s13, s14, s15, s16, s17, s18, s19, s20, s21, s22⟩
                    go_simp; with_reducible rfl
                  rotate_left
                  · simp only [Act.put, zH, zI, zJ, i64_w, i32_w]
                    rfl
                  refine one_ (i := 17) (N := some 65) #[o1, o1, o1, o1, o1, o1, o1, o1, o1, o1, o1, o1, o1, o1, o1, o1, o1, o1, o0, o0, o0, o0, o0, o0, o0, o0, o0, o0, o0, o0, o0, o0, o0, o0, o0, o0, o0] rfl rfl (one_of HT_.out (by kernel_rfl)) (by decide) (fun K hK => ?_); refine goes_ Try.func56 (by kernel_rfl) rfl #[.agg #[.int .i64 t108, .int .i64 t109, .int .i64 t110, .int .i64 t111, .slice Ao63 t112.length co63], .agg #[.int .i64 t117, .int .i64 t118, .int .i64 t119, .int .i64 t120, .slice Ao73 t121.length co73]] (by rfl) rfl rfl (by (try simp only [zR, zS, zT]); first | done | rfl | (simp only [zP, zQ]; rfl)) ?_; with_reducible refine (backhaulref27_Same.calls kj3 t108 t109 t110 t111 _ _ t112 t117 t118 t119 t120 _ _ t121 true _ ?side1 ?side2 ?side3 ?side4 A44.out).mono ?_
                  (case side1 => repeat (first | exact (Kd.R_reads' HO114.out).2.2 | (with_reducible refine Kd.C_alloc ?_ _) | (with_reducible refine Kd.C_drewN ?_ _) | (with_reducible refine Kd.C_drew ?_)))
                  (case side2 => exact (Kd.R_reads' HO114.out).2.1)
                  (case side3 => repeat (first | exact (Kd.R_reads' HO123.out).2.2 | (with_reducible refine Kd.C_alloc ?_ _) | (with_reducible refine Kd.C_drewN ?_ _) | (with_reducible refine Kd.C_drew ?_)))
                  (case side4 => exact (Kd.R_reads' HO123.out).2.1)
                  rintro e w80 ⟨rfl, hb⟩; refine ⟨_, rfl, ?_⟩; have n0_ := zA (Kd.R_below (by (with_reducible repeat (first | apply Kd.R_alloc | apply Kd.R_drewN | apply Kd.R_drew)); exact HO114.out) hb); have n1_ := zA (Kd.R_below (by (with_reducible repeat (first | apply Kd.R_alloc | apply Kd.R_drewN | apply Kd.R_drew)); exact HO123.out) hb); have n2_ := zA (qX BK101.out hb); have n3_ := zA (qX BK102.out hb); have n4_ := zA (qX BK103.out hb); have n5_ := zA (qX BK116.out hb); have n6_ := zA (qX BK125.out hb); have n7_ := zA (zV qB hb); clear HO114; clear HO123; clear BK101; clear BK102; clear BK103; clear BK116; clear BK125; clear HB; have HO114 := n0_; have HO123 := n1_; have BK101 := n2_; have BK102 := n3_; have BK103 := n4_; have BK116 := n5_; have BK125 := n6_; have HB := n7_; clear n0_ n1_ n2_ n3_ n4_ n5_ n6_ n7_; (try clear hb); (try clear hb2); (try clear hk); (try clear hi); refine hK.out _ _ ⟨(zF BK101.out 0).trans rfl, (zF BK101.out 1).trans rfl, (zF BK101.out 2).trans rfl, (zF BK101.out 3).trans rfl, (zF BK101.out 4).trans rfl, (zF BK103.out 0).trans rfl, (zF BK103.out 1).trans rfl, (zF BK103.out 2).trans rfl, (zF BK116.out 0).trans rfl, (zF BK116.out 1).trans rfl, (zF BK116.out 2).trans rfl, (zF BK116.out 3).trans rfl, (zF BK116.out 4).trans rfl, (zF BK125.out 0).trans rfl, (zF BK125.out 1).trans rfl, (zF BK125.out 2).trans rfl, (zF BK125.out 3).trans rfl, (zF BK125.out 4).trans rfl, (zF BK102.out 0).trans rfl, (zF BK102.out 1).trans rfl, (zF BK102.out 2).trans rfl, (zF BK102.out 3).trans rfl, (zF BK102.out 4).trans rfl⟩ (fun hHeld => ?_); clear hK K; refine norm_ (a' := ?_) ?_ ?_; rotate_left
                  · show Act.put _ (some 65) _ = _
                    simp only [Act.put, zH, zI, zJ, i64_w, i32_w]; rfl
                  refine pure_ (i := 18) (N := some 66) #[o1, o1, o1, o1, o1, o1, o1, o1, o1, o1, o1, o1, o1, o1, o1, o1, o1, o1, o1, o0, o0, o0, o0, o0, o0, o0, o0, o0, o0, o0, o0, o0, o0, o0, o0, o0, o0] rfl rfl (any_of HT_.out (by kernel_rfl)) (fun _ _ _ h => h) (Or.inl ⟨by rfl, qy⟩) qz ?_; refine pure_ (i := 19) (N := some 67) #[o1, o1, o1, o1, o1, o1, o1, o1, o1, o1, o1, o1, o1, o1, o1, o1, o1, o1, o1, o1, o0, o0, o0, o0, o0, o0, o0, o0, o0, o0, o0, o0, o0, o0, o0, o0, o0] rfl rfl (any_of HT_.out (by kernel_rfl)) (fun _ _ _ h => h) (Or.inl ⟨by rfl, qy⟩) qz ?_; refine pure_ (i := 20) (N := some 68) #[o1, o1, o1, o1, o1, o1, o1, o1, o1, o1, o1, o1, o1, o1, o1, o1, o1, o1, o1, o1, o1, o0, o0, o0, o0, o0, o0, o0, o0, o0, o0, o0, o0, o0, o0, o0, o0] rfl rfl (any_of HT_.out (by kernel_rfl)) (fun _ _ _ h => h) (Or.inl ⟨by rfl, qy⟩) qz ?_; refine pure_ (i := 21) (N := some 69) #[o1, o1, o1, o1, o1, o1, o1, o1, o1, o1, o1, o1, o1, o1, o1, o1, o1, o1, o1, o1, o1, o1, o0, o0, o0, o0, o0, o0, o0, o0, o0, o0, o0, o0, o0, o0, o0] rfl rfl (any_of HT_.out (by kernel_rfl)) (fun _ _ _ h => h) (Or.inl ⟨by rfl, qy⟩) qz ?_; refine pure_ (i := 22) (N := some 70) #[o1, o1, o1, o1, o1, o1, o1, o1, o1, o1, o1, o1, o1, o1, o1, o1, o1, o1, o1, o1, o1, o1, o1, o0, o0, o0, o0, o0, o0, o0, o0, o0, o0, o0, o0, o0, o0] rfl rfl (any_of HT_.out (by kernel_rfl)) (fun _ _ _ h => h) (Or.inl ⟨by rfl, qy⟩) qz ?_; refine pure_ (i := 23) (N := some 71) #[o1, o1, o1, o1, o1, o1, o1, o1, o1, o1, o1, o1, o1, o1, o1, o1, o1, o1, o1, o1, o1, o1, o1, o1, o0, o0, o0, o0, o0, o0, o0, o0, o0, o0, o0, o0, o0] rfl rfl (any_of HT_.out (by kernel_rfl)) (fun _ _ _ h => h) (Or.inl ⟨by rfl, qy⟩) qz ?_; refine pure_ (i := 24) (N := some 72) #[o1, o1, o1, o1, o1, o1, o1, o1, o1, o1, o1, o1, o1, o1, o1, o1, o1, o1, o1, o1, o1, o1, o1, o1, o1, o0, o0, o0, o0, o0, o0, o0, o0, o0, o0, o0, o0] rfl rfl (any_of HT_.out (by kernel_rfl)) (fun _ _ _ h => h) (Or.inl ⟨by rfl, qy⟩) qz ?_; refine take_ (i := 25) (N := some 73) (v := ?_) (a' := ?_) #[o1, o1, o1, o1, o1, o1, o1, o1, o1, o1, o1, o1, o1, o1, o1, o1, o1, o1, o1, o1, o1, o1, o1, o1, o1, o1, o0, o0, o0, o0, o0, o0, o0, o0, o0, o0, o0] rfl rfl (take_ofW HT_.out HW_.out (by kernel_rfl)) (fun _ _ _ h => h) (Or.inl ⟨by rfl, ?_⟩) hHeld ?_ ?_; rotate_left
                  · rintro w' ⟨s0, s1, s2, s3, s4, s5, s6, s7, s8, s9, s10, s11, s12, s13, s14, s15, s16, s17, s18, s19, s20, s21, s22⟩
                    go_simp; with_reducible rfl
                  rotate_left
                  · simp only [Act.put, zH, zI, zJ, i64_w, i32_w]
                    rfl
                  refine take_ (i := 26) (N := some 74) (v := ?_) (a' := ?_) #[o1, o1, o1, o1, o1, o1, o1, o1, o1, o1, o1, o1, o1, o1, o1, o1, o1, o1, o1, o1, o1, o1, o1, o1, o1, o1, o1, o0, o0, o0, o0, o0, o0, o0, o0, o0, o0] rfl rfl (take_ofW HT_.out HW_.out (by kernel_rfl)) (fun _ _ _ h => h) (Or.inl ⟨by rfl, ?_⟩) hHeld ?_ ?_; rotate_left
                  · rintro w' ⟨s0, s1, s2, s3, s4, s5, s6, s7, s8, s9, s10, s11, s12, s13, s14, s15, s16, s17, s18, s19, s20, s21, s22⟩
                    go_simp; with_reducible rfl
                  rotate_left
                  · simp only [Act.put, zH, zI, zJ, i64_w, i32_w]
                    rfl
                  refine take_ (i := 28) (N := some 76) (v := ?_) (a' := ?_) #[o1, o1, o1, o1, o1, o1, o1, o1, o1, o1, o1, o1, o1, o1, o1, o1, o1, o1, o1, o1, o1, o1, o1, o1, o1, o1, o1, o0, o1, o0, o0, o0, o0, o0, o0, o0, o0] rfl rfl (take_ofW HT_.out HW_.out (by kernel_rfl)) (fun _ _ _ h => h) (Or.inl ⟨by rfl, ?_⟩) hHeld ?_ ?_; rotate_left
                  · rintro w' ⟨s0, s1, s2, s3, s4, s5, s6, s7, s8, s9, s10, s11, s12, s13, s14, s15, s16, s17, s18, s19, s20, s21, s22⟩
                    go_simp; with_reducible rfl
                  rotate_left
                  · simp only [Act.put, zH, zI, zJ, i64_w, i32_w]
                    rfl
                  refine take_ (i := 29) (N := some 77) (v := ?_) (a' := ?_) #[o1, o1, o1, o1, o1, o1, o1, o1, o1, o1, o1, o1, o1, o1, o1, o1, o1, o1, o1, o1, o1, o1, o1, o1, o1, o1, o1, o0, o1, o1, o0, o0, o0, o0, o0, o0, o0] rfl rfl (take_ofW HT_.out HW_.out (by kernel_rfl)) (fun _ _ _ h => h) (Or.inl ⟨by rfl, ?_⟩) hHeld ?_ ?_; rotate_left
                  · rintro w' ⟨s0, s1, s2, s3, s4, s5, s6, s7, s8, s9, s10, s11, s12, s13, s14, s15, s16, s17, s18, s19, s20, s21, s22⟩
                    go_simp; with_reducible rfl
                  rotate_left
                  · simp only [Act.put, zH, zI, zJ, i64_w, i32_w]
                    rfl
                  refine one_ (i := 27) (N := some 75) #[o1, o1, o1, o1, o1, o1, o1, o1, o1, o1, o1, o1, o1, o1, o1, o1, o1, o1, o1, o1, o1, o1, o1, o1, o1, o1, o1, o1, o1, o1, o0, o0, o0, o0, o0, o0, o0] rfl rfl (one_of HT_.out (by kernel_rfl)) (by decide) (fun K hK => ?_); refine goes_ Try.func57 (by kernel_rfl) rfl #[.agg #[.int .i64 a0_0, .int .i64 a0_1, .int .i64 a0_2, .int .i64 a0_3, .slice A0_4 l0_4.length c0_4], .agg #[.int .i64 a1_0, .int .i64 a1_1, .int .i64 a1_2, .int .i64 a1_3, .slice A1_4 l1_4.length c1_4]] (by rfl) rfl rfl (by (try simp only [zR, zS, zT]); first | done | rfl | (simp only [zP, zQ]; rfl)) ?_; with_reducible refine (rma_Same.calls kj3 a0_0 a0_1 a0_2 a0_3 _ _ l0_4 a1_0 a1_1 a1_2 a1_3 _ _ l1_4 t131 _ ?side1 ?side2 ?side3 ?side4 A47.out).mono ?_
                  (case side1 => exact qC (Kd.C_below HR0_4.out HB.out))
                  (case side2 => exact HC0_4.out)
                  (case side3 => exact qC (Kd.C_below HR1_4.out HB.out))
                  (case side4 => exact HC1_4.out)
                  rintro e w81 ⟨rfl, hb⟩; refine ⟨_, rfl, ?_⟩; have n0_ := zA (Kd.R_below (by (with_reducible repeat (first | apply Kd.R_alloc | apply Kd.R_drewN | apply Kd.R_drew)); exact HO114.out) hb); have n1_ := zA (Kd.R_below (by (with_reducible repeat (first | apply Kd.R_alloc | apply Kd.R_drewN | apply Kd.R_drew)); exact HO123.out) hb); have n2_ := zA (qX BK101.out hb); have n3_ := zA (qX BK102.out hb); have n4_ := zA (qX BK103.out hb); have n5_ := zA (qX BK116.out hb); have n6_ := zA (qX BK125.out hb); have n7_ := zA (zV qB hb); clear HO114; clear HO123; clear BK101; clear BK102; clear BK103; clear BK116; clear BK125; clear HB; have HO114 := n0_; have HO123 := n1_; have BK101 := n2_; have BK102 := n3_; have BK103 := n4_; have BK116 := n5_; have BK125 := n6_; have HB := n7_; clear n0_ n1_ n2_ n3_ n4_ n5_ n6_ n7_; (try clear hb); (try clear hb2); (try clear hk); (try clear hi); refine hK.out _ _ ⟨(zF BK101.out 0).trans rfl, (zF BK101.out 1).trans rfl, (zF BK101.out 2).trans rfl, (zF BK101.out 3).trans rfl, (zF BK101.out 4).trans rfl, (zF BK103.out 0).trans rfl, (zF BK103.out 1).trans rfl, (zF BK103.out 2).trans rfl, (zF BK116.out 0).trans rfl, (zF BK116.out 1).trans rfl, (zF BK116.out 2).trans rfl, (zF BK116.out 3).trans rfl, (zF BK116.out 4).trans rfl, (zF BK125.out 0).trans rfl, (zF BK125.out 1).trans rfl, (zF BK125.out 2).trans rfl, (zF BK125.out 3).trans rfl, (zF BK125.out 4).trans rfl, (zF BK102.out 0).trans rfl, (zF BK102.out 1).trans rfl, (zF BK102.out 2).trans rfl, (zF BK102.out 3).trans rfl, (zF BK102.out 4).trans rfl⟩ (fun hHeld => ?_); clear hK K; refine norm_ (a' := ?_) ?_ ?_; rotate_left
                  · show Act.put _ (some 75) _ = _
                    simp only [Act.put, zH, zI, zJ, i64_w, i32_w]; rfl
                  refine one_ (i := 30) (N := some 78) #[o1, o1, o1, o1, o1, o1, o1, o1, o1, o1, o1, o1, o1, o1, o1, o1, o1, o1, o1, o1, o1, o1, o1, o1, o1, o1, o1, o1, o1, o1, o1, o0, o0, o0, o0, o0, o0] rfl rfl (one_of HT_.out (by kernel_rfl)) (by decide) (fun K hK => ?_); refine goes_ Try.func56 (by kernel_rfl) rfl #[.agg #[.int .i64 a0_0, .int .i64 a0_1, .int .i64 a0_2, .int .i64 a0_3, .slice A0_4 l0_4.length c0_4], .agg #[.int .i64 a1_0, .int .i64 a1_1, .int .i64 a1_2, .int .i64 a1_3, .slice A1_4 l1_4.length c1_4]] (by rfl) rfl rfl (by (try simp only [zR, zS, zT]); first | done | rfl | (simp only [zP, zQ]; rfl)) ?_; with_reducible refine (backhaulref27_Same.calls kj3 a0_0 a0_1 a0_2 a0_3 _ _ l0_4 a1_0 a1_1 a1_2 a1_3 _ _ l1_4 t132 _ ?side1 ?side2 ?side3 ?side4 A48.out).mono ?_
                  (case side1 => exact qC (Kd.C_below HR0_4.out HB.out))
                  (case side2 => exact HC0_4.out)
                  (case side3 => exact qC (Kd.C_below HR1_4.out HB.out))
                  (case side4 => exact HC1_4.out)
                  rintro e w82 ⟨rfl, hb⟩; refine ⟨_, rfl, ?_⟩; have n0_ := zA (Kd.R_below (by (with_reducible repeat (first | apply Kd.R_alloc | apply Kd.R_drewN | apply Kd.R_drew)); exact HO114.out) hb); have n1_ := zA (Kd.R_below (by (with_reducible repeat (first | apply Kd.R_alloc | apply Kd.R_drewN | apply Kd.R_drew)); exact HO123.out) hb); have n2_ := zA (qX BK101.out hb); have n3_ := zA (qX BK102.out hb); have n4_ := zA (qX BK103.out hb); have n5_ := zA (qX BK116.out hb); have n6_ := zA (qX BK125.out hb); have n7_ := zA (zV qB hb); clear HO114; clear HO123; clear BK101; clear BK102; clear BK103; clear BK116; clear BK125; clear HB; have HO114 := n0_; have HO123 := n1_; have BK101 := n2_; have BK102 := n3_; have BK103 := n4_; have BK116 := n5_; have BK125 := n6_; have HB := n7_; clear n0_ n1_ n2_ n3_ n4_ n5_ n6_ n7_; (try clear hb); (try clear hb2); (try clear hk); (try clear hi); refine hK.out _ _ ⟨(zF BK101.out 0).trans rfl, (zF BK101.out 1).trans rfl, (zF BK101.out 2).trans rfl, (zF BK101.out 3).trans rfl, (zF BK101.out 4).trans rfl, (zF BK103.out 0).trans rfl, (zF BK103.out 1).trans rfl, (zF BK103.out 2).trans rfl, (zF BK116.out 0).trans rfl, (zF BK116.out 1).trans rfl, (zF BK116.out 2).trans rfl, (zF BK116.out 3).trans rfl, (zF BK116.out 4).trans rfl, (zF BK125.out 0).trans rfl, (zF BK125.out 1).trans rfl, (zF BK125.out 2).trans rfl, (zF BK125.out 3).trans rfl, (zF BK125.out 4).trans rfl, (zF BK102.out 0).trans rfl, (zF BK102.out 1).trans rfl, (zF BK102.out 2).trans rfl, (zF BK102.out 3).trans rfl, (zF BK102.out 4).trans rfl⟩ (fun hHeld => ?_); clear hK K; refine norm_ (a' := ?_) ?_ ?_; rotate_left
                  · show Act.put _ (some 78) _ = _
                    simp only [Act.put, zH, zI, zJ, i64_w, i32_w]; rfl
                  refine pure_ (i := 31) (N := some 79) #[o1, o1, o1, o1, o1, o1, o1, o1, o1, o1, o1, o1, o1, o1, o1, o1, o1, o1, o1, o1, o1, o1, o1, o1, o1, o1, o1, o1, o1, o1, o1, o1, o0, o0, o0, o0, o0] rfl rfl (any_of HT_.out (by kernel_rfl)) (fun _ _ _ h => h) (Or.inl ⟨by rfl, qy⟩) qz ?_; refine pure_ (i := 32) (N := some 80) #[o1, o1, o1, o1, o1, o1, o1, o1, o1, o1, o1, o1, o1, o1, o1, o1, o1, o1, o1, o1, o1, o1, o1, o1, o1, o1, o1, o1, o1, o1, o1, o1, o1, o0, o0, o0, o0] rfl rfl (any_of HT_.out (by kernel_rfl)) (fun _ _ _ h => h) (Or.inl ⟨by rfl, qy⟩) qz ?_; refine pure_ (i := 33) (N := some 81) #[o1, o1, o1, o1, o1, o1, o1, o1, o1, o1, o1, o1, o1, o1, o1, o1, o1, o1, o1, o1, o1, o1, o1, o1, o1, o1, o1, o1, o1, o1, o1, o1, o1, o1, o0, o0, o0] rfl rfl (any_of HT_.out (by kernel_rfl)) (fun _ _ _ h => h) (Or.inl ⟨by rfl, qy⟩) qz ?_; refine one_ (i := 34) (N := some 82) #[o1, o1, o1, o1, o1, o1, o1, o1, o1, o1, o1, o1, o1, o1, o1, o1, o1, o1, o1, o1, o1, o1, o1, o1, o1, o1, o1, o1, o1, o1, o1, o1, o1, o1, o1, o0, o0] rfl rfl (one_of HT_.out (by kernel_rfl)) (by decide) (fun K hK => ?_); refine goes_ Try.func49 (by kernel_rfl) rfl #[] (by rfl) rfl rfl (by (try simp only [zR, zS, zT]); first | done | rfl | (simp only [zP, zQ]; rfl)) ?_; with_reducible refine (backhaullaw27_awake.calls  true _ A50.out).mono ?_
                  rintro e w83 ⟨rfl, hb⟩; refine ⟨_, rfl, ?_⟩; have n0_ := zA (Kd.R_below (by (with_reducible repeat (first | apply Kd.R_alloc | apply Kd.R_drewN | apply Kd.R_drew)); exact HO114.out) hb); have n1_ := zA (Kd.R_below (by (with_reducible repeat (first | apply Kd.R_alloc | apply Kd.R_drewN | apply Kd.R_drew)); exact HO123.out) hb); have n2_ := zA (qX BK101.out hb); have n3_ := zA (qX BK102.out hb); have n4_ := zA (qX BK103.out hb); have n5_ := zA (qX BK116.out hb); have n6_ := zA (qX BK125.out hb); have n7_ := zA (zV qB hb); clear HO114; clear HO123; clear BK101; clear BK102; clear BK103; clear BK116; clear BK125; clear HB; have HO114 := n0_; have HO123 := n1_; have BK101 := n2_; have BK102 := n3_; have BK103 := n4_; have BK116 := n5_; have BK125 := n6_; have HB := n7_; clear n0_ n1_ n2_ n3_ n4_ n5_ n6_ n7_; (try clear hb); (try clear hb2); (try clear hk); (try clear hi); refine hK.out _ _ ⟨(zF BK101.out 0).trans rfl, (zF BK101.out 1).trans rfl, (zF BK101.out 2).trans rfl, (zF BK101.out 3).trans rfl, (zF BK101.out 4).trans rfl, (zF BK103.out 0).trans rfl, (zF BK103.out 1).trans rfl, (zF BK103.out 2).trans rfl, (zF BK116.out 0).trans rfl, (zF BK116.out 1).trans rfl, (zF BK116.out 2).trans rfl, (zF BK116.out 3).trans rfl, (zF BK116.out 4).trans rfl, (zF BK125.out 0).trans rfl, (zF BK125.out 1).trans rfl, (zF BK125.out 2).trans rfl, (zF BK125.out 3).trans rfl, (zF BK125.out 4).trans rfl, (zF BK102.out 0).trans rfl, (zF BK102.out 1).trans rfl, (zF BK102.out 2).trans rfl, (zF BK102.out 3).trans rfl, (zF BK102.out 4).trans rfl⟩ (fun hHeld => ?_); clear hK K; refine norm_ (a' := ?_) ?_ ?_; rotate_left
                  · show Act.put _ (some 82) _ = _
                    simp only [Act.put, zH, zI, zJ, i64_w, i32_w]; rfl
                  refine pure_ (i := 35) (N := some 83) #[o1, o1, o1, o1, o1, o1, o1, o1, o1, o1, o1, o1, o1, o1, o1, o1, o1, o1, o1, o1, o1, o1, o1, o1, o1, o1, o1, o1, o1, o1, o1, o1, o1, o1, o1, o1, o0] rfl rfl (any_of HT_.out (by kernel_rfl)) (fun _ _ _ h => h) (Or.inl ⟨by rfl, qy⟩) qz ?_; refine pure_ (i := 36) (N := some 6) #[o1, o1, o1, o1, o1, o1, o1, o1, o1, o1, o1, o1, o1, o1, o1, o1, o1, o1, o1, o1, o1, o1, o1, o1, o1, o1, o1, o1, o1, o1, o1, o1, o1, o1, o1, o1, o1] rfl rfl (any_of HT_.out (by kernel_rfl)) (fun _ _ _ h => h) (Or.inl ⟨by rfl, qy⟩) qz ?_; refine done_ (done_of HT_.out (by kernel_rfl)) ?_; try go_wp2
                  go_ret; exact ⟨qE, qB⟩
                replace c51 := Bool.eq_false_iff.mpr c51; subst c51; have H1 : (some false) = some true := by first | (rw [if_neg (show ¬ (false = true) by decide)] at H; exact H) | rfl
                clear H; have H := H1; clear H1; exact absurd H (by simp)
              rw [if_neg c49] at H; have c49b0 : (t131 == t132) = false := by simpa using c49
              (try (have c49b1 : decide (t131 = t132) = false := by simpa using c49))
              (try (have c49b2 : (t131 == t132) = false := by simpa using c49))
              (try (have c49b3 : ¬ (t131 = t132) := by simpa using c49))
              clear c49; exact absurd H (by simp)
            rw [if_neg c46] at H; have c46b0 : (t115 == t124) = false := beq_eq_false_iff_ne.mpr c46; have c46b1 : (t115 != t124) = true := bne_iff_ne.mpr c46; exact absurd H (by simp)
          replace c45 := Bool.eq_false_iff.mpr c45; subst c45; have H1 : (some false) = some true := by first | (rw [if_neg (show ¬ (false = true) by decide)] at H; exact H) | rfl
          clear H; have H := H1; clear H1; exact absurd H (by simp)
        rw [if_neg c43] at H; have c43b0 : (t128 == t129) = false := by simpa using c43
        (try (have c43b1 : decide (t128 = t129) = false := by simpa using c43))
        (try (have c43b2 : (t128 == t129) = false := by simpa using c43))
        (try (have c43b3 : ¬ (t128 = t129) := by simpa using c43))
        clear c43; exact absurd H (by simp)
      rw [if_neg c40] at H; have c40b0 : (t126 == t127) = false := beq_eq_false_iff_ne.mpr c40; have c40b1 : (t126 != t127) = true := bne_iff_ne.mpr c40; exact absurd H (by simp)
def backhaullaw27_RmaMakes.Pure : Prop := ∀ (a0_0 : Int) (a0_1 : Int) (a0_2 : Int) (a0_3 : Int) (l0_4 : List (S97)) (a1_0 : Int) (a1_1 : Int) (a1_2 : Int) (a1_3 : Int) (l1_4 : List (S97)) (a2_0 : Int) (a2_1 : Int) (l2_2 : List (S216)), (Lit.int .i64 a0_0).wf = true → (Lit.int .i64 a0_1).wf = true → (Lit.int .i64 a0_2).wf = true → (Lit.int .i64 a0_3).wf = true → (l0_4.length ≤ maxLen ∧ ∀ x ∈ l0_4, ((Lit.int .i64 x.f0).wf = true ∧ (Lit.int .i64 x.f1).wf = true ∧ (Lit.int .i64 x.f2).wf = true)) → (Lit.int .i64 a1_0).wf = true → (Lit.int .i64 a1_1).wf = true → (Lit.int .i64 a1_2).wf = true → (Lit.int .i64 a1_3).wf = true → (l1_4.length ≤ maxLen ∧ ∀ x ∈ l1_4, ((Lit.int .i64 x.f0).wf = true ∧ (Lit.int .i64 x.f1).wf = true ∧ (Lit.int .i64 x.f2).wf = true)) → (Lit.int .i64 a2_0).wf = true → (Lit.int .i64 a2_1).wf = true → (l2_2.length ≤ maxLen ∧ ∀ x ∈ l2_2, ((Lit.int .i64 x.f0).wf = true ∧ (Lit.int .i64 x.f1).wf = true ∧ (Lit.int .i64 x.f2).wf = true ∧ (Lit.int .i64 x.f3).wf = true ∧ (x.f4.length ≤ maxLen ∧ ∀ y ∈ x.f4, y.size ≤ maxLen))) → ∃ k, backhaullaw27_RmaMakes.f k a0_0 a0_1 a0_2 a0_3 l0_4 a1_0 a1_1 a1_2 a1_3 l1_4 a2_0 a2_1 l2_2 = some true
end Go.Proofs.Ytakkhomjpflkbaa.F
set_option linter.unusedVariables false
namespace Go.Proofs.Ytakkhomjpflkbaa.Q
open Go.RowKit Go.Proofs.YtakkhomjpflkbaaW.PrintWords Go.Proofs.YtakkhomjpflkbaaW.PrintLast Go.Proofs.YtakkhomjpflkbaaW.PrintMore
theorem Ev.ite {α : Type} {c : Prop} [Decidable c] {a b : Nat → Option α} {r : α} (h1 : c → Ev a r) (h2 : ¬ c → Ev b r) : Ev (fun k => if c then a k else b k) r := by
  by_cases h : c
  · simp only [if_pos h]; exact h1 h
  simp only [if_neg h]; exact h2 h
theorem Ev.pos {α : Type} {c : Prop} [Decidable c] {a b : Nat → Option α} {r : α} (h : c) (h1 : Ev a r) : Ev (fun k => if c then a k else b k) r := by
  simp only [if_pos h]; exact h1
theorem Ev.neg {α : Type} {c : Prop} [Decidable c] {a b : Nat → Option α} {r : α} (h : ¬ c) (h1 : Ev b r) : Ev (fun k => if c then a k else b k) r := by
  simp only [if_neg h]; exact h1
theorem Ev.ok {α : Type} {a b : α} (h : a = b) : Ev (fun _ => some a) b := ⟨0, fun _ _ => by rw [h]⟩
theorem Ev.const {α : Type} {o : Option α} {r : α} (h : o = some r) : Ev (fun _ => o) r := ⟨0, fun _ _ => h⟩
theorem Ev.bindc {α β : Type} {o : Option α} {f : Nat → α → Option β} {a : α} {r : β} (h : o = some a) (k : Ev (fun n => f n a) r) : Ev (fun n => o.bind (f n)) r := by
  subst h
  exact k
theorem Ev.eq {α : Type} {g : Nat → Option α} {a b : α} (h : Ev g a) (e : a = b) : Ev g b := e ▸ h
theorem i64_bounds {x : Int} (h : (Lit.int .i64 x).wf = true) : -9223372036854775808 ≤ x ∧ x ≤ 9223372036854775807 := by
  simp [Lit.wf, IntKind.min, IntKind.max, IntKind.signed, IntKind.bits] at h
  omega
theorem wrap_eq {x : Int} (h0 : -9223372036854775808 ≤ x) (h1 : x ≤ 9223372036854775807) : wrap64 x = x := by
  unfold wrap64; omega
theorem rdOf_nat {α : Type} {d : α} {l : List α} {i : Nat} (h : i < l.length) : rdOf d l (i : Int) = l[i] := by
  unfold rdOf; simp [List.getD_eq_getElem?_getD, h]
theorem drop_cons {α : Type} {l : List α} {i : Nat} (h : i < l.length) : l.drop i = l[i] :: l.drop (i + 1) := List.drop_eq_getElem_cons h
theorem bytes_ext {a b : ByteArray} : a.toList = b.toList ↔ a = b := by
  constructor
  · intro h
    rw [ByteArray.toList_eq, ByteArray.toList_eq] at h
    cases a; cases b
    simpa [Array.toList_inj] using h
  rintro rfl; rfl
end Go.Proofs.Ytakkhomjpflkbaa.Q
set_option linter.unusedVariables false
namespace Go.Proofs.Ytakkhomjpflkbaa.Q
open Go.RowKit Go.Proofs.Ytakkhomjpflkbaa.F Go.Proofs.YtakkhomjpflkbaaW.PrintWords Go.Proofs.YtakkhomjpflkbaaW.PrintLast Go.Proofs.YtakkhomjpflkbaaW.PrintMore
abbrev WT := S97
theorem rdW {l : List WT} {i : Nat} (h : i < l.length) : rd_T97 l (i : Int) = l[i] := by
  unfold rd_T97; simp [h]
def wOk (p : Int) (w : WT) : Bool := !(decide (w.f0 ≤ p) || decide (w.f0 ≥ 8) || decide (w.f1 < 1) || decide (w.f1 > 20) || decide (w.f2 < 0) || decide (w.f2 > w.f1))
theorem wOk_iff {p : Int} {w : WT} : wOk p w = true ↔ p < w.f0 ∧ w.f0 < 8 ∧ 1 ≤ w.f1 ∧ w.f1 ≤ 20 ∧ 0 ≤ w.f2 ∧ w.f2 ≤ w.f1 := by
  unfold wOk; simp only [Bool.not_eq_true', Bool.or_eq_false_iff, decide_eq_false_iff_not]; omega
def wantsOk : Int → List WT → Bool
  | _, [] => true
  | p, w :: r => wOk p w && wantsOk w.f0 r
theorem wantsOk_len : ∀ (l : List WT) (p : Int), wantsOk p l = true → p < 8 → p + l.length < 8
  | [], p, _, hp => by simpa using hp
  | w :: r, p, h, hp => by
    simp only [wantsOk, Bool.and_eq_true] at h
    have h1 := wOk_iff.1 h.1
    have := wantsOk_len r w.f0 h.2 h1.2.1
    simp only [List.length_cons, Int.natCast_add]
    omega
theorem wantsOk_mem : ∀ (l : List WT) (p : Int), wantsOk p l = true → ∀ w ∈ l, p < w.f0 ∧ w.f0 < 8 ∧ 1 ≤ w.f1 ∧ w.f1 ≤ 20 ∧ 0 ≤ w.f2 ∧ w.f2 ≤ w.f1
  | [], p, _ => fun w h => by cases h
  | w :: r, p, h => fun x hx => by
    simp only [wantsOk, Bool.and_eq_true] at h
    have h1 := wOk_iff.1 h.1
    rcases List.mem_cons.1 hx with rfl | hx
    · exact h1
    have := wantsOk_mem r w.f0 h.2 x hx
    exact ⟨by omega, this.2⟩
def openL (l : List WT) : Bool := l.any fun w => decide (w.f2 < w.f1)
def partOk (a b c : Int) (l : List WT) : Bool := decide (1 ≤ a) && decide (a ≤ 999999) && decide (1 ≤ b) && decide (b ≤ 999999) && decide (0 ≤ c) && decide (c ≤ 1000000) && wantsOk (-1) l && decide (l ≠ [])
def stOk (s : Int) (l : List WT) : Bool := (decide (s = 1) && openL l) || (decide (s = 2) && !openL l) || decide (s = 3)
def checkR (a b c s : Int) (l : List WT) : Int := if partOk a b c l = true ∧ stOk s l = true then 0 else 40
theorem check_wants {a b c s : Int} {l : List WT} (h : checkR a b c s l = 0) : wantsOk (-1) l = true := by
  unfold checkR at h
  by_cases g : partOk a b c l = true ∧ stOk s l = true
  · have := g.1; unfold partOk at this; simp only [Bool.and_eq_true] at this; exact this.1.2
  rw [if_neg g] at h; cases h
theorem wanted_l0 {l : List WT} (hl : l.length < 1000000) (d : Nat) : ∀ (i : Nat) (p : Int), l.length - i = d → i ≤ l.length → Ev (fun k => rma_wanted.l0 k l p l (l.length : Int) (i : Int)) (wantsOk p (l.drop i) && decide (l ≠ [])) := by
  induction d with
  | zero =>
    intro i p hd hi
    refine Ev.step (fun k => by simp only [rma_wanted.l0]; rfl) (Ev.neg (by omega) (Ev.ok ?_))
    rw [List.drop_eq_nil_of_le (by omega)]
    cases l <;> simp [wantsOk]
  | succ d ih =>
    intro i p hd hi
    have h : i < l.length := by omega
    refine Ev.step (fun k => by simp only [rma_wanted.l0]; rfl) (Ev.pos (by omega) (Ev.pos (by omega) (Ev.pos (by omega) ?_)))
    have ih' := ih (i + 1) l[i].f0 (by omega) (by omega)
    rw [rdW h, wrap_eq (x := (i : Int) + 1) (by omega) (by omega), drop_cons h]
    have bad : wOk p l[i] = false → (wantsOk p (l[i] :: l.drop (i + 1)) && decide (l ≠ [])) = false := fun h => by simp [wantsOk, h]
    have hb : ∀ {q : Prop} [Decidable q], q → (q → wOk p l[i] = false) → (false = (wantsOk p (l[i] :: l.drop (i + 1)) && decide (l ≠ []))) := fun hq hf => (bad (hf hq)).symm
    have hw : wOk p l[i] = false ↔ ¬ (p < l[i].f0 ∧ l[i].f0 < 8 ∧ 1 ≤ l[i].f1 ∧ l[i].f1 ≤ 20 ∧ 0 ≤ l[i].f2 ∧ l[i].f2 ≤ l[i].f1) := by rw [← wOk_iff]; simp
    refine Ev.ite (fun h1 => Ev.ok (hb h1 fun h1 => hw.2 (by omega))) (fun h1 => Ev.ite (fun h2 => Ev.ok (hb h2 fun h1 => hw.2 (by omega))) (fun h2 => Ev.ite (fun h3 => Ev.ok (hb h3 fun h1 => hw.2 (by omega))) (fun h3 => Ev.ite (fun h4 => Ev.ok (hb h4 fun h1 => hw.2 (by omega))) (fun h4 => Ev.ite (fun h5 => Ev.ok (hb h5 fun h1 => hw.2 (by omega))) (fun h5 => Ev.ite (fun h6 => Ev.ok (hb h6 fun h1 => hw.2 (by omega))) (fun h6 => ?_))))))
    refine Ev.eq ih' ?_
    rw [wantsOk, wOk_iff.2 (by omega), Bool.true_and]
theorem wanted_f {l : List WT} (hl : l.length < 1000000) : Ev (fun k => rma_wanted.f k l) (wantsOk (-1) l && decide (l ≠ [])) := by
  unfold rma_wanted.f
  exact wanted_l0 hl l.length 0 (-1) (by omega) (by omega)
theorem id_f (a : Int) : rma_id.f a = some (decide (1 ≤ a) && decide (a ≤ 999999)) := by
  unfold rma_id.f
  by_cases h : 1 ≤ a
  · rw [if_pos (by omega)]; simp [h]
  rw [if_neg (by omega)]; simp [h]
theorem time_f (a : Int) : policy_Time.f a = some (decide (0 ≤ a) && decide (a ≤ 1000000)) := by
  unfold policy_Time.f policy_span_has.f
  by_cases h : 0 ≤ a
  · rw [if_pos (by omega)]; simp [h]
  rw [if_neg (by omega)]; simp [h]
def firstI (p : WT → Bool) (l : List WT) : Int := match l.findIdx? p with
  | some i => i
  | none => -1
theorem firstI_at {p : WT → Bool} {l : List WT} {i : Nat} (h : i < l.length) (hp : p l[i] = true) (hn : ∀ j (hj : j < l.length), j < i → p l[j] = false) : firstI p l = i := by
  unfold firstI
  rw [List.findIdx?_eq_some_iff_getElem.2 ⟨h, hp, fun j hj => by simpa using hn j (by omega) hj⟩]
theorem firstI_none {p : WT → Bool} {l : List WT} (hn : ∀ j (hj : j < l.length), p l[j] = false) : firstI p l = -1 := by
  unfold firstI
  rw [List.findIdx?_eq_none_iff.2 (fun x hx => by obtain ⟨j, hj, rfl⟩ := List.mem_iff_getElem.1 hx; exact hn j hj)]
theorem firstI_cases (p : WT → Bool) (l : List WT) : (firstI p l = -1 ∧ ∀ j (hj : j < l.length), p l[j] = false) ∨ ∃ (i : Nat) (h : i < l.length), firstI p l = i ∧ p l[i] = true ∧ ∀ j (hj : j < l.length), j < i → p l[j] = false := by
  unfold firstI
  cases e : l.findIdx? p with
  | none => exact .inl ⟨rfl, fun j hj => List.findIdx?_eq_none_iff.1 e _ (List.getElem_mem hj)⟩
  | some i =>
    obtain ⟨h, hp, hn⟩ := List.findIdx?_eq_some_iff_getElem.1 e
    exact .inr ⟨i, h, rfl, hp, fun j hj hji => by simpa using hn j hji⟩
theorem waits_l0 {l : List WT} (hl : l.length < 1000000) (d : Nat) : ∀ (i : Nat), l.length - i = d → i ≤ l.length → (∀ j (hj : j < l.length), j < i → decide (l[j].f2 < l[j].f1) = false) → Ev (fun k => slices_IndexFunc_rma_waits.l0 k l (l.length : Int) (i : Int)) (firstI (fun w => decide (w.f2 < w.f1)) l) := by
  induction d with
  | zero =>
    intro i hd hi hn
    refine Ev.step (fun k => by simp only [slices_IndexFunc_rma_waits.l0]; rfl) (Ev.neg (by omega) (Ev.ok ?_))
    rw [firstI_none (fun j hj => hn j hj (by omega))]
  | succ d ih =>
    intro i hd hi hn
    have h : i < l.length := by omega
    refine Ev.step (fun k => by simp only [slices_IndexFunc_rma_waits.l0]; rfl) (Ev.pos (by omega) (Ev.pos (by omega) (Ev.pos (by omega) ?_)))
    rw [rdW h, wrap_eq (x := (i : Int) + 1) (by omega) (by omega)]
    refine Ev.bindc (a := decide (l[i].f2 < l[i].f1)) rfl (Ev.ite (fun h1 => Ev.ok ?_) (fun h1 => ih (i + 1) (by omega) (by omega) fun j hj hji => ?_))
    · rw [firstI_at h h1 hn]
    by_cases e : j = i
    · subst e; simpa using h1
    exact hn j hj (by omega)
theorem has_waits_f {l : List WT} (hl : l.length < 1000000) : Ev (fun k => slices_ContainsFunc_rma_waits.f k l) (openL l) := by
  unfold slices_ContainsFunc_rma_waits.f slices_IndexFunc_rma_waits.f
  refine Ev.bind (waits_l0 hl l.length 0 (by omega) (by omega) (fun j hj h => by omega)) (Ev.ok ?_)
  rcases firstI_cases (fun w => decide (w.f2 < w.f1)) l with ⟨h, hn⟩ | ⟨i, hi, h, hp, _⟩
  · rw [h]
    have : openL l = false := by
      unfold openL
      rw [List.any_eq_false]
      intro x hx
      obtain ⟨j, hj, rfl⟩ := List.mem_iff_getElem.1 hx
      simpa using hn j hj
    rw [this]; rfl
  rw [h]
  have : openL l = true := List.any_eq_true.2 ⟨l[i], List.getElem_mem hi, hp⟩
  rw [this]; simp
theorem part_iff {a b c : Int} {l : List WT} : partOk a b c l = true ↔ 1 ≤ a ∧ a ≤ 999999 ∧ 1 ≤ b ∧ b ≤ 999999 ∧ 0 ≤ c ∧ c ≤ 1000000 ∧ wantsOk (-1) l = true ∧ l ≠ [] := by
  unfold partOk; simp only [Bool.and_eq_true, decide_eq_true_eq, and_assoc]
theorem rma_check_f {a b c s : Int} {l : List WT} (hl : l.length < 1000000) : Ev (fun k => rma_Check.f k a b c s l) (checkR a b c s l) := by
  unfold rma_Check.f
  have bad : partOk a b c l = false → Ev (fun k => rma_Check.j0 k true a b c s l) (checkR a b c s l) := fun h =>
    Ev.step (fun k => by simp only [rma_Check.j0]; rfl) (Ev.pos (by trivial) (Ev.ok (by unfold checkR; rw [if_neg (fun g => by rw [h] at g; cases g.1)])))
  refine Ev.bindc (id_f a) (Ev.ite (fun h1 => ?_) (fun h1 => bad (Bool.eq_false_iff.2 fun g => h1 (by have := part_iff.1 g; simp; omega))))
  refine Ev.bindc (id_f b) (Ev.ite (fun h2 => ?_) (fun h2 => bad (Bool.eq_false_iff.2 fun g => h2 (by have := part_iff.1 g; simp; omega))))
  refine Ev.bindc (time_f c) (Ev.ite (fun h3 => ?_) (fun h3 => bad (Bool.eq_false_iff.2 fun g => h3 (by have := part_iff.1 g; simp; omega))))
  refine Ev.bind (wanted_f hl) ?_
  have hp : partOk a b c l = (wantsOk (-1) l && decide (l ≠ [])) := by
    simp only [Bool.and_eq_true, decide_eq_true_eq] at h1 h2 h3
    unfold partOk
    simp [h1, h2, h3]
  cases hw : (wantsOk (-1) l && decide (l ≠ [])) with
  | false => exact bad (by rw [hp, hw])
  | true =>
    rw [hw] at hp
    have ok : ∀ r : Int, r = (if stOk s l = true then 0 else 40) → r = checkR a b c s l := fun r h => by rw [h]; unfold checkR; simp [hp]
    refine Ev.step (fun k => by simp only [rma_Check.j0]; rfl) (Ev.neg (by simp) ?_)
    refine Ev.bind (has_waits_f hl) ?_
    have j2 : ∀ x : Bool, (x = true → stOk s l = true) → (x = false → stOk s l = decide (s = 3)) → Ev (fun k => rma_Check.j2 k x a b c s l) (checkR a b c s l) := fun x h1 h2 =>
      Ev.step (fun k => by simp only [rma_Check.j2]; rfl) (Ev.ite (fun h => Ev.ok (ok _ (by rw [if_pos (h1 h)]))) (fun h => Ev.ite (fun h3 => Ev.ok (ok _ (by rw [h2 (by simpa using h)]; simp [h3]))) (fun h3 => Ev.ok (ok _ (by rw [h2 (by simpa using h)]; simp [h3])))))
    have j1 : ∀ x : Bool, (x = true → stOk s l = true) → (x = false → ¬ (s = 1 ∧ openL l = true)) → Ev (fun k => rma_Check.j1 k (openL l) x a b c s l) (checkR a b c s l) := fun x h1 h2 =>
      Ev.step (fun k => by simp only [rma_Check.j1]; rfl) (Ev.ite (fun h => Ev.ok (ok _ (by rw [if_pos (h1 h)]))) (fun h => by
        have hx := h2 (by simpa using h)
        refine Ev.ite (fun h3 => j2 _ (fun h4 => ?_) (fun h4 => ?_)) (fun h3 => j2 _ (fun h4 => ?_) (fun h4 => ?_))
        · unfold stOk; simp_all
        · unfold stOk; simp_all
        · cases h4
        unfold stOk; cases ho : openL l <;> simp_all))
    refine Ev.ite (fun h4 => j1 _ (fun h5 => ?_) (fun h5 => ?_)) (fun h4 => j1 _ (fun h5 => ?_) (fun h5 => ?_))
    · unfold stOk; simp_all
    · simp_all
    · cases h5
    simp_all
def allL (l : List WT) : Bool := l.all fun w => decide (w.f2 = w.f1)
theorem all_l0 {l : List WT} (hl : l.length < 1000000) (d : Nat) : ∀ (i : Nat), l.length - i = d → i ≤ l.length → Ev (fun k => backhaulref27_all.l0 k l (i : Int)) (allL (l.drop i)) := by
  induction d with
  | zero =>
    intro i hd hi
    refine Ev.step (fun k => by simp only [backhaulref27_all.l0]; rfl) (Ev.neg (by omega) (Ev.ok ?_))
    rw [List.drop_eq_nil_of_le (by omega)]; rfl
  | succ d ih =>
    intro i hd hi
    have h : i < l.length := by omega
    refine Ev.step (fun k => by simp only [backhaulref27_all.l0]; rfl) (Ev.pos (by omega) (Ev.pos (by omega) ?_))
    rw [rdW h, wrap_eq (x := (i : Int) + 1) (by omega) (by omega), drop_cons h]
    refine Ev.ite (fun h1 => Ev.eq (ih (i + 1) (by omega) (by omega)) ?_) (fun h1 => Ev.ok ?_)
    · unfold allL; rw [List.all_cons, decide_eq_true h1, Bool.true_and]
    unfold allL; rw [List.all_cons, decide_eq_false h1, Bool.false_and]
theorem all_f {l : List WT} (hl : l.length < 1000000) : Ev (fun k => backhaulref27_all.f k l) (allL l) := by
  unfold backhaulref27_all.f
  exact all_l0 hl l.length 0 (by omega) (by omega)
theorem all_open {l : List WT} (h : ∀ w ∈ l, w.f2 ≤ w.f1) : allL l = !openL l := by
  induction l with
  | nil => rfl
  | cons w l ih =>
    have h1 := h w List.mem_cons_self
    have ih := ih fun x hx => h x (List.mem_cons_of_mem _ hx)
    unfold allL openL at *
    rw [List.all_cons, List.any_cons, ih, Bool.not_or]
    congr 1
    by_cases e : w.f2 < w.f1
    · rw [decide_eq_true e, decide_eq_false (by omega)]; rfl
    rw [decide_eq_false e, decide_eq_true (by omega)]; rfl
def stRef (s : Int) (l : List WT) : Bool := (decide (s = 1) && !allL l) || (decide (s = 2) && allL l) || decide (s = 3)
theorem ref_check_l0 {a b c s : Int} {l : List WT} (hl : l.length < 1000000) (d : Nat) : ∀ (i : Nat) (p : Int), l.length - i = d → i ≤ l.length → (i = 0 → p = -1) → (∀ h : i - 1 < l.length, 0 < i → p = l[i - 1].f0 ∧ 0 ≤ p) →
    Ev (fun k => backhaulref27_Check.l0 k (i : Int) a b c s l) (if wantsOk p (l.drop i) = true ∧ stRef s l = true then 0 else 40) := by
  induction d with
  | zero =>
    intro i p hd hi h0 hp
    refine Ev.step (fun k => by simp only [backhaulref27_Check.l0]; rfl) (Ev.neg (by omega) ?_)
    rw [List.drop_eq_nil_of_le (by omega)]
    have e : (if wantsOk p [] = true ∧ stRef s l = true then (0 : Int) else 40) = if stRef s l = true then 0 else 40 := by simp [wantsOk]
    rw [e]
    have fin : ∀ x : Int, x = (if stRef s l = true then 0 else 40) → Ev (fun _ => some x) (if stRef s l = true then (0 : Int) else 40) := fun x h => Ev.ok h
    refine Ev.ite (fun h1 => Ev.bind (all_f hl) (Ev.ite (fun h2 => fin _ ?_) (fun h2 => fin _ ?_))) (fun h1 => Ev.ite (fun h3 => Ev.bind (all_f hl) (Ev.ite (fun h2 => fin _ ?_) (fun h2 => fin _ ?_))) (fun h3 => Ev.ite (fun h4 => fin _ ?_) (fun h4 => fin _ ?_)))
    all_goals (unfold stRef; simp_all)
  | succ d ih =>
    intro i p hd hi h0 hp
    have h : i < l.length := by omega
    refine Ev.step (fun k => by simp only [backhaulref27_Check.l0]; rfl) (Ev.pos (by omega) (Ev.pos (by omega) ?_))
    rw [rdW h, wrap_eq (x := (i : Int) + 1) (by omega) (by omega), drop_cons h]
    have hw : wOk p l[i] = false ↔ ¬ (p < l[i].f0 ∧ l[i].f0 < 8 ∧ 1 ≤ l[i].f1 ∧ l[i].f1 ≤ 20 ∧ 0 ≤ l[i].f2 ∧ l[i].f2 ≤ l[i].f1) := by rw [← wOk_iff]; simp
    have hp0 : -1 ≤ p := by
      by_cases e : i = 0
      · rw [h0 e]; omega
      have := (hp (by omega) (by omega)).2; omega
    have bad : wOk p l[i] = false → (40 : Int) = if wantsOk p (l[i] :: l.drop (i + 1)) = true ∧ stRef s l = true then 0 else 40 := fun h => by rw [if_neg]; simp [wantsOk, h]
    refine Ev.ite (fun h1 => Ev.ok (bad (hw.2 (by omega)))) (fun h1 => Ev.ite (fun h2 => Ev.ok (bad (hw.2 (by omega)))) (fun h2 => Ev.ite (fun h3 => Ev.ok (bad (hw.2 (by omega)))) (fun h3 => Ev.ite (fun h4 => Ev.ok (bad (hw.2 (by omega)))) (fun h4 => Ev.ite (fun h5 => Ev.ok (bad (hw.2 (by omega)))) (fun h5 => Ev.ite (fun h6 => Ev.ok (bad (hw.2 (by omega)))) (fun h6 => ?_))))))
    have ih' := ih (i + 1) l[i].f0 (by omega) (by omega) (by omega) (fun h' _ => ⟨by simp, by omega⟩)
    refine Ev.ite (fun h7 => ?_) (fun h7 => ?_)
    · have hi' : i - 1 < l.length := by omega
      rw [wrap_eq (x := (i : Int) - 1) (by omega) (by omega), show (i : Int) - 1 = ((i - 1 : Nat) : Int) by omega, rdW hi']
      obtain ⟨e1, e2⟩ := hp hi' (by omega)
      refine Ev.pos (by omega) (Ev.pos (by omega) (Ev.ite (fun h8 => Ev.ok (bad (hw.2 (by omega)))) (fun h8 => ?_)))
      refine Ev.eq ih' ?_
      rw [wantsOk, wOk_iff.2 (by omega), Bool.true_and]
    have e0 := h0 (by omega)
    refine Ev.eq ih' ?_
    rw [wantsOk, wOk_iff.2 (by omega), Bool.true_and]
theorem stRef_eq {p s : Int} {l : List WT} (h : wantsOk p l = true) : stRef s l = stOk s l := by
  unfold stRef stOk
  rw [all_open fun w hw => (wantsOk_mem l p h w hw).2.2.2.2.2, Bool.not_not]
theorem ref_check_f {a b c s : Int} {l : List WT} (hl : l.length < 1000000) : Ev (fun k => backhaulref27_Check.f k a b c s l) (checkR a b c s l) := by
  unfold backhaulref27_Check.f
  have bad : partOk a b c l = false → Ev (fun k => backhaulref27_Check.j0 k true a b c s l) (checkR a b c s l) := fun h =>
    Ev.step (fun k => by simp only [backhaulref27_Check.j0]; rfl) (Ev.pos (by trivial) (Ev.ok (by unfold checkR; rw [if_neg (fun g => by rw [h] at g; cases g.1)])))
  have no : ∀ {q : Prop}, q → (partOk a b c l = true → ¬ q) → partOk a b c l = false := fun hq hf => by
    cases e : partOk a b c l with
    | false => rfl
    | true => exact absurd hq (hf e)
  have hpo : partOk a b c l = true → 1 ≤ a ∧ a ≤ 999999 ∧ 1 ≤ b ∧ b ≤ 999999 ∧ 0 ≤ c ∧ c ≤ 1000000 ∧ wantsOk (-1) l = true ∧ l ≠ [] := fun h => by
    unfold partOk at h; simp only [Bool.and_eq_true, decide_eq_true_eq] at h
    obtain ⟨⟨⟨⟨⟨⟨⟨h1, h2⟩, h3⟩, h4⟩, h5⟩, h6⟩, h7⟩, h8⟩ := h
    exact ⟨h1, h2, h3, h4, h5, h6, h7, h8⟩
  refine Ev.ite (fun h1 => bad (no h1 fun h => by have := hpo h; omega)) (fun h1 => Ev.ite (fun h2 => bad (no h2 fun h => by have := hpo h; omega)) (fun h2 => Ev.ite (fun h3 => bad (no h3 fun h => by have := hpo h; omega)) (fun h3 => Ev.ite (fun h4 => bad (no h4 fun h => by have := hpo h; omega)) (fun h4 => Ev.ite (fun h5 => bad (no h5 fun h => by have := hpo h; omega)) (fun h5 => Ev.ite (fun h6 => bad (no h6 fun h => by have := hpo h; omega)) (fun h6 => Ev.ite (fun h7 => bad (no h7 fun h h' => by have := (hpo h).2.2.2.2.2.2.2; exact this (List.eq_nil_of_length_eq_zero (by omega)))) (fun h7 => ?_)))))))
  by_cases h8 : (l.length : Int) > 8
  · rw [decide_eq_true h8]
    refine bad (no h8 fun h h' => ?_)
    have := wantsOk_len l (-1) (hpo h).2.2.2.2.2.2.1 (by omega)
    omega
  rw [decide_eq_false h8]
  refine Ev.step (fun k => by simp only [backhaulref27_Check.j0]; rfl) (Ev.neg (by simp) ?_)
  refine Ev.eq (ref_check_l0 hl l.length 0 (-1) (by omega) (by omega) (fun _ => rfl) (fun _ h => absurd h (by omega))) ?_
  have hne : l ≠ [] := fun e => h7 (by rw [e]; rfl)
  rw [List.drop_zero]
  unfold checkR
  by_cases hw : wantsOk (-1) l = true
  · rw [stRef_eq hw]
    have : partOk a b c l = true := by unfold partOk; simp [hw, hne]; omega
    rw [hw, this]
  have : ¬ partOk a b c l = true := fun h => hw (hpo h).2.2.2.2.2.2.1
  rw [if_neg (fun h => hw h.1), if_neg (fun h => this h.1)]
abbrev T6 := Int × Int × Int × Int × List WT × Int
def noT (e : Int) : T6 := (0, 0, 0, 0, [], e)
instance : DecidableEq WT := fun x y => decidable_of_iff (x.f0 = y.f0 ∧ x.f1 = y.f1 ∧ x.f2 = y.f2) (by cases x; cases y; simp)
theorem want_eq (x y : WT) : (!(x.f0 == y.f0) || (!(x.f1 == y.f1) || !(x.f2 == y.f2))) = decide (x ≠ y) := by
  rw [Bool.eq_iff_iff]
  cases x with | mk a b c => cases y with | mk d e f =>
  by_cases h0 : a = d <;> by_cases h1 : b = e <;> by_cases h2 : c = f <;> simp [h0, h1, h2]
def sameR (a b c s : Int) (l : List WT) (a' b' c' s' : Int) (l' : List WT) : Bool := decide (a = a' ∧ b = b' ∧ c = c' ∧ s = s' ∧ l = l')
theorem drop_eq {l l' : List WT} {i : Nat} (h : i < l.length) (h' : i < l'.length) : (l.drop i = l'.drop i) ↔ (l[i] = l'[i] ∧ l.drop (i + 1) = l'.drop (i + 1)) := by
  rw [drop_cons h, drop_cons h', List.cons.injEq]
theorem ref_same_l0 {a b c s a' b' c' s' : Int} {l l' : List WT} (hl : l.length < 1000000) (he : l.length = l'.length) (d : Nat) : ∀ (i : Nat), l.length - i = d → i ≤ l.length → Ev (fun k => backhaulref27_Same.l0 k (i : Int) a b c s l a' b' c' s' l') (decide (l.drop i = l'.drop i)) := by
  induction d with
  | zero =>
    intro i hd hi
    refine Ev.step (fun k => by simp only [backhaulref27_Same.l0]; rfl) (Ev.neg (by omega) (Ev.ok ?_))
    rw [List.drop_eq_nil_of_le (by omega), List.drop_eq_nil_of_le (by omega)]; rfl
  | succ d ih =>
    intro i hd hi
    have h : i < l.length := by omega
    have h' : i < l'.length := by omega
    refine Ev.step (fun k => by simp only [backhaulref27_Same.l0]; rfl) (Ev.pos (by omega) (Ev.pos (by omega) (Ev.pos (by omega) ?_)))
    rw [rdW h, rdW h', wrap_eq (x := (i : Int) + 1) (by omega) (by omega), want_eq]
    refine Ev.ite (fun h1 => Ev.ok ?_) (fun h1 => Ev.eq (ih (i + 1) (by omega) (by omega)) ?_)
    · have h1 : l[i] ≠ l'[i] := of_decide_eq_true h1
      rw [decide_eq_false]
      rw [drop_eq h h']
      exact fun h => h1 h.1
    have h1 : l[i] = l'[i] := by simpa using h1
    congr 1
    rw [drop_eq h h']
    exact propext ⟨fun h => ⟨h1, h⟩, fun h => h.2⟩
theorem ref_same_f {a b c s a' b' c' s' : Int} {l l' : List WT} (hl : l.length < 1000000) : Ev (fun k => backhaulref27_Same.f k a b c s l a' b' c' s' l') (sameR a b c s l a' b' c' s' l') := by
  unfold backhaulref27_Same.f
  have bad : ¬ (a = a' ∧ b = b' ∧ c = c' ∧ s = s' ∧ l = l') → Ev (fun k => backhaulref27_Same.j0 k true a b c s l a' b' c' s' l') (sameR a b c s l a' b' c' s' l') := fun h =>
    Ev.step (fun k => by simp only [backhaulref27_Same.j0]; rfl) (Ev.pos (by trivial) (Ev.ok (decide_eq_false h).symm))
  refine Ev.ite (fun h1 => Ev.ite (fun h2 => Ev.ite (fun h3 => Ev.ite (fun h4 => ?_) (fun h4 => bad fun h => h4 h.2.2.2.1)) (fun h3 => bad fun h => h3 h.2.2.1)) (fun h2 => bad fun h => h2 h.2.1)) (fun h1 => bad fun h => h1 h.1)
  by_cases he : l.length = l'.length
  · have e : ((l.length : Int) != (l'.length : Int)) = false := by simp [he]
    rw [e]
    refine Ev.step (fun k => by simp only [backhaulref27_Same.j0]; rfl) (Ev.neg (by simp) (Ev.eq (ref_same_l0 hl he l.length 0 (by omega) (by omega)) ?_))
    unfold sameR
    rw [List.drop_zero, List.drop_zero]
    congr 1
    exact propext ⟨fun h => ⟨h1, h2, h3, h4, h⟩, fun h => h.2.2.2.2⟩
  have e : ((l.length : Int) != (l'.length : Int)) = true := by simp; omega
  rw [e]
  exact bad fun h => he (by rw [h.2.2.2.2])
theorem equal_l0 {l l' : List WT} (hl : l.length < 1000000) (he : l.length = l'.length) (d : Nat) : ∀ (i : Nat), l.length - i = d → i ≤ l.length → Ev (fun k => api_Want_150.l0 k l l' (l.length : Int) (i : Int)) (decide (l.drop i = l'.drop i)) := by
  induction d with
  | zero =>
    intro i hd hi
    refine Ev.step (fun k => by simp only [api_Want_150.l0]; rfl) (Ev.neg (by omega) (Ev.ok ?_))
    rw [List.drop_eq_nil_of_le (by omega), List.drop_eq_nil_of_le (by omega)]; rfl
  | succ d ih =>
    intro i hd hi
    have h : i < l.length := by omega
    have h' : i < l'.length := by omega
    refine Ev.step (fun k => by simp only [api_Want_150.l0]; rfl) (Ev.pos (by omega) (Ev.pos (by omega) (Ev.pos (by omega) (Ev.pos (by omega) ?_))))
    rw [rdW h, rdW h', wrap_eq (x := (i : Int) + 1) (by omega) (by omega), want_eq]
    refine Ev.ite (fun h1 => Ev.ok ?_) (fun h1 => Ev.eq (ih (i + 1) (by omega) (by omega)) ?_)
    · have h1 : l[i] ≠ l'[i] := of_decide_eq_true h1
      rw [decide_eq_false]
      rw [drop_eq h h']
      exact fun h => h1 h.1
    have h1 : l[i] = l'[i] := by simpa using h1
    congr 1
    rw [drop_eq h h']
    exact propext ⟨fun h => ⟨h1, h⟩, fun h => h.2⟩
theorem same_f {a b c s a' b' c' s' : Int} {l l' : List WT} (hl : l.length < 1000000) : Ev (fun k => rma_Same.f k a b c s l a' b' c' s' l') (sameR a b c s l a' b' c' s' l') := by
  unfold rma_Same.f
  have bad : ¬ (a = a' ∧ b = b' ∧ c = c' ∧ s = s' ∧ l = l') → Ev (fun _ => some false) (sameR a b c s l a' b' c' s' l') := fun h => Ev.ok (decide_eq_false h).symm
  refine Ev.ite (fun h1 => Ev.ite (fun h2 => Ev.ite (fun h3 => Ev.ite (fun h4 => ?_) (fun h4 => bad fun h => h4 h.2.2.2.1)) (fun h3 => bad fun h => h3 h.2.2.1)) (fun h2 => bad fun h => h2 h.2.1)) (fun h1 => bad fun h => h1 h.1)
  unfold api_Want_150.f
  have fin : ∀ x : Bool, x = decide (l = l') → Ev (fun _ => some x) (sameR a b c s l a' b' c' s' l') := fun x h => Ev.ok (by
    rw [h]; unfold sameR; congr 1; exact propext ⟨fun h => ⟨h1, h2, h3, h4, h⟩, fun h => h.2.2.2.2⟩)
  by_cases he : l.length = l'.length
  · refine Ev.bind (Ev.pos (by omega) (equal_l0 hl he l.length 0 (by omega) (by omega))) (fin _ ?_)
    rw [List.drop_zero, List.drop_zero]
  refine Ev.bind (Ev.neg (by omega) (Ev.ok rfl)) (fin _ ?_)
  rw [decide_eq_false (fun h => he (by rw [h]))]
theorem sameR_self (a b c s : Int) (l : List WT) : sameR a b c s l a b c s l = true := by unfold sameR; simp
end Go.Proofs.Ytakkhomjpflkbaa.Q
set_option linter.unusedVariables false
namespace Go.Proofs.Ytakkhomjpflkbaa.Q
open Go.RowKit Go.Proofs.YtakkhomjpflkbaaW.PrintWords Go.Proofs.YtakkhomjpflkbaaW.PrintLast Go.Proofs.YtakkhomjpflkbaaW.PrintMore
def bytesB (l : List UInt8) : ByteArray := ⟨l.toArray⟩
theorem data_append (a b : ByteArray) : (a ++ b).data.toList = a.data.toList ++ b.data.toList := by simp [ByteArray.data_append]
theorem size_data (a : ByteArray) : a.data.toList.length = a.size := by rw [Array.length_toList]; rfl
theorem bt_data (s : ByteArray) (i : Nat) (h : i < s.size) : bt s (i : Int) = ((s.data.toList[i]'(by rw [size_data]; exact h)).toNat : Int) := by
  unfold bt
  rw [dif_pos (by simpa using h)]
  simp [ByteArray.getElem_eq_getElem_data]
def wide (w : Int) : Prop := w = 1 ∨ w = 2 ∨ w = 4 ∨ w = 8
instance (w : Int) : Decidable (wide w) := by unfold wide; infer_instance
end Go.Proofs.Ytakkhomjpflkbaa.Q
set_option linter.unusedVariables false
namespace Go.Proofs.Ytakkhomjpflkbaa.Q
open Go.RowKit Go.Proofs.YtakkhomjpflkbaaX Go.Proofs.YtakkhomjpflkbaaW.PrintWords Go.Proofs.YtakkhomjpflkbaaW.PrintLast Go.Proofs.YtakkhomjpflkbaaW.PrintMore
def up8 (b : UInt8) : UInt8 := if 97 ≤ b.toNat ∧ b.toNat ≤ 122 then UInt8.ofNat (b.toNat - 32) else b
theorem up8_toNat (b : UInt8) : ((up8 b).toNat : Int) = upI b.toNat := by
  unfold up8 upI
  by_cases h : 97 ≤ b.toNat ∧ b.toNat ≤ 122
  · rw [if_pos h, if_pos (by omega)]
    have : (UInt8.ofNat (b.toNat - 32)).toNat = b.toNat - 32 := by simp; omega
    rw [this]; omega
  rw [if_neg h, if_neg (by omega)]
theorem up8_of (b : UInt8) : UInt8.ofNat (upI b.toNat).toNat = up8 b := by
  apply UInt8.toNat_inj.1
  have h := up8_toNat b
  have h2 := (up8 b).toNat_lt
  have : (upI b.toNat).toNat = (up8 b).toNat := by omega
  rw [this]; simp
theorem up_runes (l : List UInt8) : ((runes l).map fun r => UInt8.ofNat (upI r).toNat) = l.map up8 := by
  simp only [runes, List.map_map]
  exact List.map_congr_left fun b _ => up8_of b
def serB (l : List UInt8) : Prop := 1 ≤ l.length ∧ l.length ≤ 16 ∧ l.getLast? ≠ some 45 ∧ okL 3 (runes l) = true
instance (l : List UInt8) : Decidable (serB l) := by unfold serB; infer_instance
theorem foldS_eq (s : ByteArray) : foldS s = if serB s.data.toList then (⟨(s.data.toList.map up8).toArray⟩, 0) else (⟨#[]⟩, 9) := by
  unfold foldS
  rw [up_runes]
  by_cases h : s.size < 1 ∨ s.size > 16 ∨ s.data.toList.getLast? = some 45 ∨ okL 3 (runes s.data.toList) = false
  · rw [if_pos h, if_neg]
    rintro ⟨h1, h2, h3, h4⟩
    rw [size_data] at h1 h2
    rcases h with h | h | h | h
    · omega
    · omega
    · exact h3 h
    rw [h] at h4; cases h4
  rw [if_neg h, if_pos]
  refine ⟨by rw [size_data]; omega, by rw [size_data]; omega, fun x => h (.inr (.inr (.inl x))), ?_⟩
  cases e : okL 3 (runes s.data.toList)
  · exact absurd (.inr (.inr (.inr e))) h
  rfl
theorem checkS_or (s : ByteArray) : checkS s = 0 ∨ checkS s = 9 := by unfold checkS; split <;> simp
def lt8 (a b : ByteArray) : Prop := Op.bytesLess a.toList b.toList = true
instance (a b : ByteArray) : Decidable (lt8 a b) := by unfold lt8; infer_instance
def notUp : Option ByteArray → ByteArray → Bool
  | none, _ => false
  | some q, s => !(Op.bytesLess q.toList s.toList)
def rowG : Option ByteArray → List ByteArray → Int
  | _, [] => 0
  | p, s :: l => if checkS s = 0 then (if notUp p s = true then 32 else rowG (some s) l) else 9
end Go.Proofs.Ytakkhomjpflkbaa.Q
set_option linter.unusedVariables false
namespace Go.Proofs.Ytakkhomjpflkbaa.Q
open Go.RowKit Go.Proofs.Ytakkhomjpflkbaa.F Go.Proofs.YtakkhomjpflkbaaW.PrintWords Go.Proofs.YtakkhomjpflkbaaW.PrintLast Go.Proofs.YtakkhomjpflkbaaW.PrintMore
def natI (l : List UInt8) : List Int := l.map (fun b => (b.toNat : Int))
theorem strOfNums_nat (l : List UInt8) : strOfNums (natI l) = bytesB l := by
  unfold strOfNums natI bytesB
  rw [List.map_map]
  congr 2
  exact (List.map_congr_left fun b _ => by simp).trans (List.map_id l)
end Go.Proofs.Ytakkhomjpflkbaa.Q
set_option linter.unusedVariables false
namespace Go.Proofs.Ytakkhomjpflkbaa.Q
open Go.RowKit Go.Proofs.Ytakkhomjpflkbaa.F Go.Proofs.YtakkhomjpflkbaaX Go.Proofs.YtakkhomjpflkbaaW.PrintWords Go.Proofs.YtakkhomjpflkbaaW.PrintLast Go.Proofs.YtakkhomjpflkbaaW.PrintMore
theorem ref01_class_f (r : Int) : backhaulref01_Class.f 20 r = some (clsI r) := by
  unfold backhaulref01_Class.f clsI
  simp only [backhaulref01_Class.j0, backhaulref01_Class.j1]
  (repeat' split) <;> simp_all <;> omega
theorem ref01_class_ev (r : Int) : Ev (fun k => backhaulref01_Class.f k r) (clsI r) := Ev.of (fun k => backhaulref01_Class.mono r k) (ref01_class_f r)
def foldRest (last : Int) (t l : List UInt8) : ByteArray × Int := if okL last (runes l) = true then (bytesB (t ++ l.map up8), 0) else (⟨#[]⟩, 9)
theorem cls_45 {b : UInt8} : clsI b.toNat = 3 ↔ b = 45 := by
  have h45 : (45 : UInt8).toNat = 45 := rfl
  have hn := b.toNat_lt
  constructor
  · intro h
    apply UInt8.toNat_inj.1
    unfold clsI at h
    (repeat' split at h) <;> omega
  rintro rfl; decide
theorem okL_iff {last : Int} {b : UInt8} {l : List UInt8} : okL last (runes (b :: l)) = true ↔ (clsI b.toNat ≠ 0 ∧ ¬ (b = 45 ∧ last = 3)) ∧ okL (clsI b.toNat) (runes l) = true := by
  show (mayB (clsI b.toNat) last && okL (clsI b.toNat) (runes l)) = true ↔ _
  rw [Bool.and_eq_true]
  have : mayB (clsI b.toNat) last = true ↔ clsI b.toNat ≠ 0 ∧ ¬ (b = 45 ∧ last = 3) := by
    unfold mayB
    rw [← cls_45]
    simp only [Bool.and_eq_true, Bool.or_eq_true, bne_iff_ne]
    omega
  rw [this]
theorem bt_nat {s : ByteArray} {i : Nat} (h : i < s.data.toList.length) : bt s (i : Int) = ((s.data.toList[i]).toNat : Int) := bt_data s i (by rw [← size_data]; exact h)
theorem bt_45 {s : ByteArray} {i : Nat} (h : i < s.data.toList.length) : bt s (i : Int) = 45 ↔ s.data.toList[i] = 45 := by
  rw [bt_nat h]
  constructor
  · intro x; apply UInt8.toNat_inj.1; show _ = 45; omega
  intro x; rw [x]; rfl
theorem ref01_fold_j2 {s : ByteArray} {i : Nat} {t : List UInt8} {b : UInt8} {r : ByteArray × Int} (ht : t.length < 100) (hi : i < 100) (h : Ev (fun k => backhaulref01_Fold.l0 k s (natI (t ++ [up8 b])) (((i + 1 : Nat)) : Int)) r) : Ev (fun k => backhaulref01_Fold.j2 k s (natI t) (i : Int) (b.toNat : Int) false) r := by
  have hl : (natI t).length = t.length := by simp [natI]
  have hn := b.toNat_lt
  have e : ∀ x : Int, x = ((up8 b).toNat : Int) → natI t ++ [x] = natI (t ++ [up8 b]) := by rintro x rfl; simp [natI]
  refine Ev.step (fun k => by simp only [backhaulref01_Fold.j2]; rfl) ?_
  rw [wrap_eq (by omega) (by omega)]
  refine Ev.neg (by decide) (Ev.ite (fun h1 => Ev.ite (fun h2 => Ev.pos (by omega) ?_) (fun h2 => Ev.pos (by omega) ?_)) (fun h1 => Ev.pos (by omega) ?_))
  · rw [e _ (by rw [up8_toNat]; unfold upI; rw [if_pos (by omega)]; omega)]; exact h
  · rw [e _ (by rw [up8_toNat]; unfold upI; rw [if_neg (by omega)])]; exact h
  rw [e _ (by rw [up8_toNat]; unfold upI; rw [if_neg (by omega)])]; exact h
theorem ref01_fold_bad {s : ByteArray} {i c : Int} {o : List Int} {last : Int} {t l : List UInt8} (h : ¬ okL last (runes l) = true) : Ev (fun k => backhaulref01_Fold.j2 k s o i c true) (foldRest last t l) := by
  refine Ev.step (fun k => by simp only [backhaulref01_Fold.j2]; rfl) ?_
  refine Ev.pos trivial (Ev.ok ?_)
  unfold foldRest
  rw [if_neg h]
theorem ref01_fold_l0 {s : ByteArray} (hs : s.size ≤ 16) (h0 : ∀ h : 0 < s.data.toList.length, s.data.toList[0] ≠ 45) (d : Nat) : ∀ (i : Nat) (t : List UInt8) (last : Int), s.size - i = d → i ≤ s.size → t.length = i → (i = 0 ∨ ∃ h : i - 1 < s.data.toList.length, last = clsI (s.data.toList[i - 1]).toNat) → Ev (fun k => backhaulref01_Fold.l0 k s (natI t) (i : Int)) (foldRest last t (s.data.toList.drop i)) := by
  have hsz := size_data s
  induction d with
  | zero =>
    intro i t last hd hi ht hla
    refine Ev.step (fun k => by simp only [backhaulref01_Fold.l0]; rfl) ?_
    refine Ev.neg (by omega) (Ev.ok ?_)
    rw [List.drop_eq_nil_of_le (by omega)]
    unfold foldRest
    rw [if_pos (show okL last (runes []) = true from rfl), strOfNums_nat, List.map_nil, List.append_nil]
  | succ d ih =>
    intro i t last hd hi ht hla
    have h : i < s.data.toList.length := by omega
    have hb : bt s (i : Int) = ((s.data.toList[i]).toNat : Int) := bt_nat h
    have hn := (s.data.toList[i]).toNat_lt
    have hw : wrap32 (((s.data.toList[i]).toNat : Int)) = ((s.data.toList[i]).toNat : Int) := by unfold wrap32; omega
    refine Ev.step (fun k => by simp only [backhaulref01_Fold.l0]; rfl) ?_
    refine Ev.pos (by omega) (Ev.pos (by omega) ?_)
    rw [drop_cons h, hb, hw]
    have hd1 : s.size - (i + 1) = d := by clear hb hw ih hla hn ht; omega
    have hd2 : i + 1 ≤ s.size := by clear hb hw ih hla hn ht; omega
    have good : okL last (runes (s.data.toList[i] :: s.data.toList.drop (i + 1))) = okL (clsI (s.data.toList[i]).toNat) (runes (s.data.toList.drop (i + 1))) → Ev (fun k => backhaulref01_Fold.j2 k s (natI t) (i : Int) ((s.data.toList[i]).toNat : Int) false) (foldRest last t (s.data.toList[i] :: s.data.toList.drop (i + 1))) := by
      intro e
      refine ref01_fold_j2 (by omega) (by omega) (Ev.eq (ih (i + 1) (t ++ [up8 s.data.toList[i]]) (clsI (s.data.toList[i]).toNat) hd1 hd2 (by simp [ht]) (.inr ⟨by simpa using h, by simp⟩)) ?_)
      unfold foldRest
      rw [e, List.map_cons, List.append_assoc]
      rfl
    have eq_of : (clsI (s.data.toList[i]).toNat ≠ 0 ∧ ¬ (s.data.toList[i] = 45 ∧ last = 3)) → okL last (runes (s.data.toList[i] :: s.data.toList.drop (i + 1))) = okL (clsI (s.data.toList[i]).toNat) (runes (s.data.toList.drop (i + 1))) := by
      intro hg
      rw [Bool.eq_iff_iff, okL_iff]
      exact ⟨fun x => x.2, fun x => ⟨hg, x⟩⟩
    refine Ev.bind (ref01_class_ev _) (Ev.ite (fun h1 => ?_) (fun h1 => ?_))
    · exact ref01_fold_bad (fun x => (okL_iff.1 x).1.1 h1)
    refine Ev.ite (fun h2 => ?_) (fun h2 => ?_)
    · have h45 : s.data.toList[i] = 45 := by apply UInt8.toNat_inj.1; show _ = 45; omega
      have hi1 : 1 ≤ i := by
        rcases Nat.eq_zero_or_pos i with h' | h'
        · subst h'; exact absurd h45 (h0 h)
        exact h'
      obtain ⟨hp, hl⟩ := hla.resolve_left (by omega)
      rw [wrap_eq (x := (i : Int) - 1) (by omega) (by omega), show (i : Int) - 1 = ((i - 1 : Nat) : Int) by omega]
      refine Ev.pos (by omega) (Ev.pos (by omega) ?_)
      by_cases h3 : s.data.toList[i - 1] = 45
      · rw [show (bt s ((i - 1 : Nat) : Int) == 45) = true from beq_iff_eq.2 ((bt_45 hp).2 h3)]
        exact ref01_fold_bad (fun x => (okL_iff.1 x).1.2 ⟨h45, by rw [hl]; exact cls_45.2 h3⟩)
      rw [show (bt s ((i - 1 : Nat) : Int) == 45) = false from beq_eq_false_iff_ne.2 (fun x => h3 ((bt_45 hp).1 x))]
      exact good (eq_of ⟨h1, fun x => h3 (cls_45.1 (by rw [← hl]; exact x.2))⟩)
    exact good (eq_of ⟨h1, fun x => h2 (by rw [x.1]; rfl)⟩)
theorem last_get {l : List UInt8} (h : l.length - 1 < l.length) : l.getLast? = some (l[l.length - 1]) := by
  rw [List.getLast?_eq_getElem?, List.getElem?_eq_getElem h]
theorem ref01_fold_f (s : ByteArray) (hs : s.size < 1099511627776) : Ev (fun k => backhaulref01_Fold.f k s) (foldS s) := by
  have hsz := size_data s
  have bad : ¬ serB s.data.toList → Ev (fun k => backhaulref01_Fold.j0 k s true) (foldS s) := by
    intro h
    refine Ev.step (fun k => by simp only [backhaulref01_Fold.j0]; rfl) ?_
    refine Ev.pos trivial (Ev.ok ?_)
    rw [foldS_eq, if_neg h]
  unfold backhaulref01_Fold.f
  refine Ev.ite (fun h => bad (fun x => by have := x.1; omega)) (fun h => Ev.ite (fun h1 => bad (fun x => by have := x.2.1; omega)) (fun h1 => Ev.pos (by omega) ?_))
  have hl0 : 0 < s.data.toList.length := by omega
  have e0 : bt s 0 = 45 ↔ s.data.toList[0] = 45 := bt_45 (i := 0) hl0
  refine Ev.ite (fun h2 => bad (fun x => ?_)) (fun h2 => ?_)
  · have h3 := x.2.2.2
    have h4 : s.data.toList = s.data.toList[0] :: s.data.toList.drop 1 := by
      have := drop_cons (l := s.data.toList) (i := 0) hl0
      simpa using this
    rw [h4] at h3
    exact (okL_iff.1 h3).1.2 ⟨e0.1 h2, rfl⟩
  have hlast : s.data.toList.length - 1 < s.data.toList.length := by omega
  rw [wrap_eq (by omega) (by omega), show (s.size : Int) - 1 = ((s.data.toList.length - 1 : Nat) : Int) by omega]
  refine Ev.pos (by omega) (Ev.pos (by omega) ?_)
  by_cases h3 : s.data.toList[s.data.toList.length - 1] = 45
  · rw [show (bt s ((s.data.toList.length - 1 : Nat) : Int) == 45) = true from beq_iff_eq.2 ((bt_45 hlast).2 h3)]
    exact bad (fun x => x.2.2.1 (by rw [last_get hlast, h3]))
  rw [show (bt s ((s.data.toList.length - 1 : Nat) : Int) == 45) = false from beq_eq_false_iff_ne.2 (fun x => h3 ((bt_45 hlast).1 x))]
  refine Ev.step (fun k => by simp only [backhaulref01_Fold.j0]; rfl) ?_
  refine Ev.neg (by decide) (Ev.eq (ref01_fold_l0 (by omega) (fun _ x => h2 (e0.2 x)) s.size 0 [] 3 (by omega) (by omega) rfl (.inl rfl)) ?_)
  rw [List.drop_zero, foldS_eq]
  unfold foldRest
  by_cases h4 : okL 3 (runes s.data.toList) = true
  · rw [if_pos h4, if_pos ⟨by omega, by omega, by rw [last_get hlast]; intro x; exact h3 (Option.some.inj x), h4⟩]; rfl
  rw [if_neg h4, if_neg (fun x => h4 x.2.2.2)]
theorem check_toList (s : ByteArray) : (if (foldS s).2 = 0 then (if (foldS s).1.toList = s.toList then some (0 : Int) else some 9) else some 9) = some (checkS s) := by
  unfold checkS
  by_cases h1 : (foldS s).2 = 0
  · rw [if_pos h1]
    by_cases h2 : (foldS s).1.toList = s.toList
    · rw [if_pos h2, if_pos ⟨h1, bytes_ext.1 h2⟩]
    rw [if_neg h2, if_neg (fun x => h2 (by rw [x.2]))]
  rw [if_neg h1, if_neg (fun x => h1 x.1)]
theorem ref01_check_f (s : ByteArray) (hs : s.size < 1099511627776) : Ev (fun k => backhaulref01_Check.f k s) (checkS s) := by
  unfold backhaulref01_Check.f
  exact Ev.bind (ref01_fold_f s hs) (Ev.const (check_toList s))
theorem serial_check_f (s : ByteArray) (hs : s.size < 9223372036854775807) : serial_Check.f s = some (checkS s) := by
  unfold serial_Check.f serial_Fold.f checkS
  rw [if_pos hs, Option.bind_some]
  have e : (foldS s).1.toList = s.toList ↔ (foldS s).1 = s := by
    constructor
    · intro h
      rw [ByteArray.toList_eq, ByteArray.toList_eq] at h
      generalize (foldS s).1 = a at *
      cases a; cases s
      simpa [Array.toList_inj] using h
    intro h; rw [h]
  by_cases h1 : (foldS s).2 = 0
  · rw [if_pos h1]
    by_cases h2 : (foldS s).1.toList = s.toList
    · rw [if_pos h2, if_pos ⟨h1, e.1 h2⟩]
    rw [if_neg h2, if_neg (fun x => h2 (e.2 x.2))]
  rw [if_neg h1, if_neg (fun x => h1 x.1)]
end Go.Proofs.Ytakkhomjpflkbaa.Q
