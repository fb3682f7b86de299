-- merged and pruned by prune.py (the session's own program); its words go back to the kit's print
import Derived.Test.YtefhljhpcpajgaaProg
import Derived.Below
import Derived.Deep.Draws
import Derived.Deep.AppendLies
import Derived.Maps.AppendAt
import Derived.OwnWalk
import Derived.Laws.BytesArg
import Derived.Laws.MakeOwn
import Derived.Laws.OwnMore
import Derived.Deep.OwnRows
import Derived.Tactics
import Derived.Lib.ConvBytes
import Derived.Laws.Slices
import Derived.WalkKit
import Derived.KernelRfl
import Derived.RowKit3
import Derived.Deep.LoopGhost
import Derived.Deep.QuietTactic
import Derived.BigQuiet
import Derived.WideLaws
import Derived.Deep.DeepCutAuto
import Derived.Deep.CutBlock
import Derived.Deep.RegionHeld3
import Derived.Laws.Rows
import Derived.Lib.AppendStr
import Derived.ArgAppend
import Derived.Laws.IdiomCopy
import Derived.OrdersHeld
import Derived.Laws.BitsLemmas
import Derived.RowKit
import Derived.Laws.StructEq
import Derived.Deep.RegionLawGrows
import Derived.Lib.SliceRun
import Derived.Maps.Own
import Derived.Maps.OwnOps
import Derived.Maps.Views
import Derived.StringKeys
import Derived.Carry
import Derived.Lib.OthersKept
import Derived.Lib.RuneCount
import Derived.Laws.Cover4
import Derived.Outline
import Derived.Shelf.Small.Bits
import Derived.Shelf.Utf8.RuneCount
import Derived.Shelf.Strconv.Itoa0
import Derived.Shelf.Strings.Prefix
import Derived.Shelf.Bits.Mul64
import Derived.Ground.SlsfProg
import Derived.Shelf.SlSortCmp.Insertion
import Derived.Shelf.SlSortCmp.Insertion1
import Derived.Sort.LotA
import Derived.Sort.OwnSortedInts
import Derived.WalkMore
import Derived.Test.YtefhljhpcpajgaaZOrderDeals5
namespace Go.Proofs.Ytefhljhpcpajgaa.F
open Go.RowKit Go.Proofs.YtefhljhpcpajgaaX Go.Proofs.YtefhljhpcpajgaaW.PrintWords Go.Proofs.YtefhljhpcpajgaaW.PrintLast Go.Proofs.YtefhljhpcpajgaaW.PrintMore
attribute [local go_sem] max2_int min2_int max_two min_two max_three min_three max_four min_four   
attribute [local go_sem high] str_geq str_leq str_gtr
set_option linter.unusedVariables false
set_option linter.unusedSimpArgs false
def order_Same_1.f (k : Nat) (a0_0 : Int) (a0_1 : Int) (a0_2 : Int) (a0_3 : Int) (l0_4 : List ByteArray) (a1_0 : Int) (a1_1 : Int) (a1_2 : Int) (a1_3 : Int) (l1_4 : List ByteArray) : Option (Bool) := if a0_0 = a1_0 then (if a0_1 = a1_1 then (if a0_2 = a1_2 then (if a0_3 = a1_3 then ((slices_Equal_string_string.f k l0_4 l1_4).bind fun t103 => (some t103)) else (some false)) else (some false)) else (some false)) else (some false)
theorem order_Same_1.mono : ∀ a0 a1 a2 a3 a4 a5 a6 a7 a8 a9 k, LeO (order_Same_1.f k a0 a1 a2 a3 a4 a5 a6 a7 a8 a9) (order_Same_1.f (k + 1) a0 a1 a2 a3 a4 a5 a6 a7 a8 a9) := by
  intro a0 a1 a2 a3 a4 a5 a6 a7 a8 a9 k
  unfold order_Same_1.f
  repeat' first
      | (with_reducible exact slices_Equal_string_string.mono _ _ _)
      | (with_reducible exact LeO.refl _)
      | (with_reducible exact LeO.none _)
      | (with_reducible refine LeO.ite ?_ ?_)
      | (with_reducible refine LeO.bind ?_ (fun _ => ?_))
      | exact slices_Equal_string_string.mono _ _ _
      | exact LeO.none _
      | refine LeO.ite ?_ ?_
      | refine LeO.bind ?_ (fun _ => ?_)
set_option maxHeartbeats 8000000 in
set_option maxRecDepth 100000 in
theorem order_Same_1.calls (k : Nat) (a0_0 : Int) (a0_1 : Int) (a0_2 : Int) (a0_3 : Int) (A0_4 : Option Addr) (c0_4 : Nat) (l0_4 : List ByteArray) (a1_0 : Int) (a1_1 : Int) (a1_2 : Int) (a1_3 : Int) (A1_4 : Option Addr) (c1_4 : Nat) (l1_4 : List ByteArray) (r : Bool) (w : World) (hr0_4 : Kd.C Kd.string w A0_4 l0_4.length l0_4) (hc0_4 : l0_4.length ≤ c0_4) (hr1_4 : Kd.C Kd.string w A1_4 l1_4.length l1_4) (hc1_4 : l1_4.length ≤ c1_4) (h : order_Same_1.f k a0_0 a0_1 a0_2 a0_3 l0_4 a1_0 a1_1 a1_2 a1_3 l1_4 = some r) :
    Calls Try.prog 134 #[.agg #[.int .i64 a0_0, .int .i64 a0_1, .int .i64 a0_2, .int .i64 a0_3, .slice A0_4 l0_4.length c0_4], .agg #[.int .i64 a1_0, .int .i64 a1_1, .int .i64 a1_2, .int .i64 a1_3, .slice A1_4 l1_4.length c1_4]] w fun e w' => e = .returned (.bool r) ∧ Below w.heap.size w w' := by
  have hu71 := Try.underlying71
  have HR0_4 := zA hr0_4
  have HC0_4 := zA hc0_4
  clear hr0_4 hc0_4
  have HR1_4 := zA hr1_4
  have HC1_4 := zA hc1_4
  clear hr1_4 hc1_4
  have HB := zA (Below.refl w.heap.size w)
  have H : (if a0_0 = a1_0 then (if a0_1 = a1_1 then (if a0_2 = a1_2 then (if a0_3 = a1_3 then ((slices_Equal_string_string.f k l0_4 l1_4).bind fun t103 => (some t103)) else (some false)) else (some false)) else (some false)) else (some false)) = some r := h
  clear h
  by_cases c3 : a0_0 = a1_0
  · rw [if_pos c3] at H
    have c3b0 : (a0_0 == a1_0) = true := beq_iff_eq.mpr c3; have c3b1 : (a0_0 != a1_0) = false := bne_eq_false_iff_eq.mpr c3; clear c3; by_cases c4 : a0_1 = a1_1
    · rw [if_pos c4] at H
      have c4b0 : (a0_1 == a1_1) = true := beq_iff_eq.mpr c4; have c4b1 : (a0_1 != a1_1) = false := bne_eq_false_iff_eq.mpr c4; clear c4; by_cases c5 : a0_2 = a1_2
      · rw [if_pos c5] at H
        have c5b0 : (a0_2 == a1_2) = true := beq_iff_eq.mpr c5; have c5b1 : (a0_2 != a1_2) = false := bne_eq_false_iff_eq.mpr c5; clear c5; by_cases c6 : a0_3 = a1_3
        · rw [if_pos c6] at H
          have c6b0 : (a0_3 == a1_3) = true := beq_iff_eq.mpr c6; have c6b1 : (a0_3 != a1_3) = false := bne_eq_false_iff_eq.mpr c6; clear c6; replace H := Option.bind_eq_some_iff.mp H; obtain ⟨t103, A70, H⟩ := H; replace H : (some t103) = some r := H; have A7 := zA A70; clear A70; obtain rfl := zKq H; go_enter Try.func134, Try.ntmps134; go_wp2_with (first | ((with_reducible refine gate_dst (N := 2) rfl ?_); refine box_event qr (N := 2) qr (cs := #[.int .i64 a0_0, .int .i64 a0_1, .int .i64 a0_2, .int .i64 a0_3, .slice A0_4 l0_4.length c0_4]) (t := 71) qg ?_; intro gb101 hg w8 hbox hb; have n0_ := zA (zV qB hb); have n1_ := zA (hbox); have n2_ := zA ((qS : w.heap.size ≤ gb101)); have n3_ := zA ((qS : w.heap.size ≤ gb101)); clear HB; have HB := n0_; have BK101 := n1_; have GW101 := n2_; have GE101 := n3_; clear n0_ n1_ n2_ n3_ hb hbox hg) | ((with_reducible refine gate_dst (N := 3) rfl ?_); refine box_event qr (N := 3) qr (cs := #[.int .i64 a1_0, .int .i64 a1_1, .int .i64 a1_2, .int .i64 a1_3, .slice A1_4 l1_4.length c1_4]) (t := 71) qg ?_; intro gb102 hg w9 hbox hb; have n0_ := zA (qX BK101.out hb); have n1_ := zA (zV qB hb); have n2_ := zA (hbox); have n3_ := zA ((qS : w.heap.size ≤ gb102)); have n4_ := zA ((qS : w.heap.size ≤ gb102)); have n5_ := zA ((by rw [hg]; exact zLq (qL BK101.out) : gb101 ≠ gb102)); have n6_ := zA ((by rw [hg]; exact zMq (qL BK101.out) : gb102 ≠ gb101)); clear BK101 HB; have BK101 := n0_; have HB := n1_; have BK102 := n2_; have GW102 := n3_; have GE102 := n4_; have NB101_102 := n5_; have NB102_101 := n6_; clear n0_ n1_ n2_ n3_ n4_ n5_ n6_ hb hbox hg; have hnb10 := NB101_102.out; have hnc10 := NB102_101.out; obtain ⟨_, _, _, _, _, _, _, _, _, _⟩ := qc5f BK101.out; obtain ⟨_, _, _, _, _, _, _, _, _, _⟩ := qc5f BK102.out) | (go_at_call 135; (with_reducible refine (slices_Equal_string_string.calls k _ _ l0_4 _ _ l1_4 t103 _ ?side1 ?side2 ?side3 ?side4 A7.out).mono ?_); (case side1 => exact qC (Kd.C_below HR0_4.out HB.out)); (case side2 => exact HC0_4.out); (case side3 => exact qC (Kd.C_below HR1_4.out HB.out)); (case side4 => exact HC1_4.out); rintro e w' ⟨rfl, ⟨nd, rfl⟩⟩)); go_ret; exact ⟨qE, qB⟩
        rw [if_neg c6] at H; have c6b0 : (a0_3 == a1_3) = false := beq_eq_false_iff_ne.mpr c6; have c6b1 : (a0_3 != a1_3) = true := bne_iff_ne.mpr c6; obtain rfl := zKq H; go_enter Try.func134, Try.ntmps134; go_wp2_with (first | ((with_reducible refine gate_dst (N := 2) rfl ?_); refine box_event qr (N := 2) qr (cs := #[.int .i64 a0_0, .int .i64 a0_1, .int .i64 a0_2, .int .i64 a0_3, .slice A0_4 l0_4.length c0_4]) (t := 71) qg ?_; intro gb101 hg w13 hbox hb; have n0_ := zA (zV qB hb); have n1_ := zA (hbox); have n2_ := zA ((qS : w.heap.size ≤ gb101)); have n3_ := zA ((qS : w.heap.size ≤ gb101)); clear HB; have HB := n0_; have BK101 := n1_; have GW101 := n2_; have GE101 := n3_; clear n0_ n1_ n2_ n3_ hb hbox hg) | ((with_reducible refine gate_dst (N := 3) rfl ?_); refine box_event qr (N := 3) qr (cs := #[.int .i64 a1_0, .int .i64 a1_1, .int .i64 a1_2, .int .i64 a1_3, .slice A1_4 l1_4.length c1_4]) (t := 71) qg ?_; intro gb102 hg w14 hbox hb; have n0_ := zA (qX BK101.out hb); have n1_ := zA (zV qB hb); have n2_ := zA (hbox); have n3_ := zA ((qS : w.heap.size ≤ gb102)); have n4_ := zA ((qS : w.heap.size ≤ gb102)); have n5_ := zA ((by rw [hg]; exact zLq (qL BK101.out) : gb101 ≠ gb102)); have n6_ := zA ((by rw [hg]; exact zMq (qL BK101.out) : gb102 ≠ gb101)); clear BK101 HB; have BK101 := n0_; have HB := n1_; have BK102 := n2_; have GW102 := n3_; have GE102 := n4_; have NB101_102 := n5_; have NB102_101 := n6_; clear n0_ n1_ n2_ n3_ n4_ n5_ n6_ hb hbox hg; have hnb15 := NB101_102.out; have hnc15 := NB102_101.out; obtain ⟨_, _, _, _, _, _, _, _, _, _⟩ := qc5f BK101.out; obtain ⟨_, _, _, _, _, _, _, _, _, _⟩ := qc5f BK102.out)); go_ret; exact ⟨qE, qB⟩
      rw [if_neg c5] at H; have c5b0 : (a0_2 == a1_2) = false := beq_eq_false_iff_ne.mpr c5; have c5b1 : (a0_2 != a1_2) = true := bne_iff_ne.mpr c5; obtain rfl := zKq H; go_enter Try.func134, Try.ntmps134; go_wp2_with (first | ((with_reducible refine gate_dst (N := 2) rfl ?_); refine box_event qr (N := 2) qr (cs := #[.int .i64 a0_0, .int .i64 a0_1, .int .i64 a0_2, .int .i64 a0_3, .slice A0_4 l0_4.length c0_4]) (t := 71) qg ?_; intro gb101 hg w18 hbox hb; have n0_ := zA (zV qB hb); have n1_ := zA (hbox); have n2_ := zA ((qS : w.heap.size ≤ gb101)); have n3_ := zA ((qS : w.heap.size ≤ gb101)); clear HB; have HB := n0_; have BK101 := n1_; have GW101 := n2_; have GE101 := n3_; clear n0_ n1_ n2_ n3_ hb hbox hg) | ((with_reducible refine gate_dst (N := 3) rfl ?_); refine box_event qr (N := 3) qr (cs := #[.int .i64 a1_0, .int .i64 a1_1, .int .i64 a1_2, .int .i64 a1_3, .slice A1_4 l1_4.length c1_4]) (t := 71) qg ?_; intro gb102 hg w19 hbox hb; have n0_ := zA (qX BK101.out hb); have n1_ := zA (zV qB hb); have n2_ := zA (hbox); have n3_ := zA ((qS : w.heap.size ≤ gb102)); have n4_ := zA ((qS : w.heap.size ≤ gb102)); have n5_ := zA ((by rw [hg]; exact zLq (qL BK101.out) : gb101 ≠ gb102)); have n6_ := zA ((by rw [hg]; exact zMq (qL BK101.out) : gb102 ≠ gb101)); clear BK101 HB; have BK101 := n0_; have HB := n1_; have BK102 := n2_; have GW102 := n3_; have GE102 := n4_; have NB101_102 := n5_; have NB102_101 := n6_; clear n0_ n1_ n2_ n3_ n4_ n5_ n6_ hb hbox hg; have hnb20 := NB101_102.out; have hnc20 := NB102_101.out; obtain ⟨_, _, _, _, _, _, _, _, _, _⟩ := qc5f BK101.out; obtain ⟨_, _, _, _, _, _, _, _, _, _⟩ := qc5f BK102.out)); go_ret; exact ⟨qE, qB⟩
    rw [if_neg c4] at H; have c4b0 : (a0_1 == a1_1) = false := beq_eq_false_iff_ne.mpr c4; have c4b1 : (a0_1 != a1_1) = true := bne_iff_ne.mpr c4; obtain rfl := zKq H; go_enter Try.func134, Try.ntmps134; go_wp2_with (first | ((with_reducible refine gate_dst (N := 2) rfl ?_); refine box_event qr (N := 2) qr (cs := #[.int .i64 a0_0, .int .i64 a0_1, .int .i64 a0_2, .int .i64 a0_3, .slice A0_4 l0_4.length c0_4]) (t := 71) qg ?_; intro gb101 hg w23 hbox hb; have n0_ := zA (zV qB hb); have n1_ := zA (hbox); have n2_ := zA ((qS : w.heap.size ≤ gb101)); have n3_ := zA ((qS : w.heap.size ≤ gb101)); clear HB; have HB := n0_; have BK101 := n1_; have GW101 := n2_; have GE101 := n3_; clear n0_ n1_ n2_ n3_ hb hbox hg) | ((with_reducible refine gate_dst (N := 3) rfl ?_); refine box_event qr (N := 3) qr (cs := #[.int .i64 a1_0, .int .i64 a1_1, .int .i64 a1_2, .int .i64 a1_3, .slice A1_4 l1_4.length c1_4]) (t := 71) qg ?_; intro gb102 hg w24 hbox hb; have n0_ := zA (qX BK101.out hb); have n1_ := zA (zV qB hb); have n2_ := zA (hbox); have n3_ := zA ((qS : w.heap.size ≤ gb102)); have n4_ := zA ((qS : w.heap.size ≤ gb102)); have n5_ := zA ((by rw [hg]; exact zLq (qL BK101.out) : gb101 ≠ gb102)); have n6_ := zA ((by rw [hg]; exact zMq (qL BK101.out) : gb102 ≠ gb101)); clear BK101 HB; have BK101 := n0_; have HB := n1_; have BK102 := n2_; have GW102 := n3_; have GE102 := n4_; have NB101_102 := n5_; have NB102_101 := n6_; clear n0_ n1_ n2_ n3_ n4_ n5_ n6_ hb hbox hg; have hnb25 := NB101_102.out; have hnc25 := NB102_101.out; obtain ⟨_, _, _, _, _, _, _, _, _, _⟩ := qc5f BK101.out; obtain ⟨_, _, _, _, _, _, _, _, _, _⟩ := qc5f BK102.out)); go_ret; exact ⟨qE, qB⟩
  rw [if_neg c3] at H
  have c3b0 : (a0_0 == a1_0) = false := beq_eq_false_iff_ne.mpr c3
  have c3b1 : (a0_0 != a1_0) = true := bne_iff_ne.mpr c3
  obtain rfl := zKq H
  go_enter Try.func134, Try.ntmps134
  go_wp2_with (first | ((with_reducible refine gate_dst (N := 2) rfl ?_); refine box_event qr (N := 2) qr (cs := #[.int .i64 a0_0, .int .i64 a0_1, .int .i64 a0_2, .int .i64 a0_3, .slice A0_4 l0_4.length c0_4]) (t := 71) qg ?_; intro gb101 hg w28 hbox hb; have n0_ := zA (zV qB hb); have n1_ := zA (hbox); have n2_ := zA ((qS : w.heap.size ≤ gb101)); have n3_ := zA ((qS : w.heap.size ≤ gb101)); clear HB; have HB := n0_; have BK101 := n1_; have GW101 := n2_; have GE101 := n3_; clear n0_ n1_ n2_ n3_ hb hbox hg) | ((with_reducible refine gate_dst (N := 3) rfl ?_); refine box_event qr (N := 3) qr (cs := #[.int .i64 a1_0, .int .i64 a1_1, .int .i64 a1_2, .int .i64 a1_3, .slice A1_4 l1_4.length c1_4]) (t := 71) qg ?_; intro gb102 hg w29 hbox hb; have n0_ := zA (qX BK101.out hb); have n1_ := zA (zV qB hb); have n2_ := zA (hbox); have n3_ := zA ((qS : w.heap.size ≤ gb102)); have n4_ := zA ((qS : w.heap.size ≤ gb102)); have n5_ := zA ((by rw [hg]; exact zLq (qL BK101.out) : gb101 ≠ gb102)); have n6_ := zA ((by rw [hg]; exact zMq (qL BK101.out) : gb102 ≠ gb101)); clear BK101 HB; have BK101 := n0_; have HB := n1_; have BK102 := n2_; have GW102 := n3_; have GE102 := n4_; have NB101_102 := n5_; have NB102_101 := n6_; clear n0_ n1_ n2_ n3_ n4_ n5_ n6_ hb hbox hg; have hnb30 := NB101_102.out; have hnc30 := NB102_101.out; obtain ⟨_, _, _, _, _, _, _, _, _, _⟩ := qc5f BK101.out; obtain ⟨_, _, _, _, _, _, _, _, _, _⟩ := qc5f BK102.out))
  go_ret
  exact ⟨qE, qB⟩
def slices_EqualFunc_order_Same_1.l0 : Nat → List (S71) → List (S71) → Int → Int → Option (Bool)
  | 0, _, _, _, _ => none
  | k + 1, x1, x15, x16, x17 => if x17 < x16 then (if 0 ≤ x17 then (if x17 < (x15.length : Int) then (if x17 < (x1.length : Int) then ((order_Same_1.f k ((rd_T71 x15 x17).f0) ((rd_T71 x15 x17).f1) ((rd_T71 x15 x17).f2) ((rd_T71 x15 x17).f3) ((rd_T71 x15 x17).f4) ((rd_T71 x1 x17).f0) ((rd_T71 x1 x17).f1) ((rd_T71 x1 x17).f2) ((rd_T71 x1 x17).f3) ((rd_T71 x1 x17).f4)).bind fun t105 => (if t105 = true then (slices_EqualFunc_order_Same_1.l0 k x1 x15 x16 (wrap64 (x17 + 1))) else (some false))) else (none)) else (none)) else (none)) else (some true)
def slices_EqualFunc_order_Same_1.f (k : Nat) (l0 : List (S71)) (l1 : List (S71))  : Option (Bool) := if (l0.length : Int) = (l1.length : Int) then (slices_EqualFunc_order_Same_1.l0 k l1 l0 (l0.length : Int) 0) else (some false)
theorem slices_EqualFunc_order_Same_1.mono_l : ∀ k, (∀ y0 y1 y2 y3, LeO (slices_EqualFunc_order_Same_1.l0 k y0 y1 y2 y3) (slices_EqualFunc_order_Same_1.l0 (k + 1) y0 y1 y2 y3))
  | 0 => fun _ _ _ _ r h => by simp [slices_EqualFunc_order_Same_1.l0] at h
  | k + 1 => by
    have ih0 := slices_EqualFunc_order_Same_1.mono_l k
    intro y0 y1 y2 y3
    unfold slices_EqualFunc_order_Same_1.l0
    repeat' first
    | (with_reducible exact ih0 _ _ _ _)
    | (with_reducible exact order_Same_1.mono _ _ _ _ _ _ _ _ _ _ _)
    | (with_reducible exact LeO.refl _)
    | (with_reducible exact LeO.none _)
    | (with_reducible refine LeO.ite ?_ ?_)
    | (with_reducible refine LeO.bind ?_ (fun _ => ?_))
    | exact ih0 _ _ _ _
    | exact order_Same_1.mono _ _ _ _ _ _ _ _ _ _ _
    | exact LeO.none _
    | refine LeO.ite ?_ ?_
    | refine LeO.bind ?_ (fun _ => ?_)
theorem slices_EqualFunc_order_Same_1.mono : ∀ a0 a1 k, LeO (slices_EqualFunc_order_Same_1.f k a0 a1) (slices_EqualFunc_order_Same_1.f (k + 1) a0 a1) := by
  intro a0 a1 k
  have ih0 := slices_EqualFunc_order_Same_1.mono_l k
  unfold slices_EqualFunc_order_Same_1.f
  repeat' first
      | (with_reducible exact ih0 _ _ _ _)
      | (with_reducible exact order_Same_1.mono _ _ _ _ _ _ _ _ _ _ _)
      | (with_reducible exact LeO.refl _)
      | (with_reducible exact LeO.none _)
      | (with_reducible refine LeO.ite ?_ ?_)
      | (with_reducible refine LeO.bind ?_ (fun _ => ?_))
      | exact ih0 _ _ _ _
      | exact order_Same_1.mono _ _ _ _ _ _ _ _ _ _ _
      | exact LeO.none _
      | refine LeO.ite ?_ ?_
      | refine LeO.bind ?_ (fun _ => ?_)
set_option maxHeartbeats 8000000 in
set_option maxRecDepth 100000 in
theorem slices_EqualFunc_order_Same_1.calls (k : Nat) (A0 : Option Addr) (c0 : Nat) (l0 : List (S71)) (A1 : Option Addr) (c1 : Nat) (l1 : List (S71))  (r : Bool) (w : World) (hr0 : Kd.C k71 w A0 l0.length l0) (hc0 : l0.length ≤ c0) (hr1 : Kd.C k71 w A1 l1.length l1) (hc1 : l1.length ≤ c1) (h : slices_EqualFunc_order_Same_1.f k l0 l1 = some r) :
    Calls Try.prog 133 #[.slice A0 l0.length c0, .slice A1 l1.length c1, .func (.func 134) #[] #[]] w fun e w' => e = .returned (.bool r) ∧ Below w.heap.size w w' := by
  have hu71 := Try.underlying71
  have HR0 := zA hr0
  have HC0 := zA hc0
  clear hr0 hc0
  have HR1 := zA hr1
  have HC1 := zA hc1
  clear hr1 hc1
  have HB := zA (Below.refl w.heap.size w)
  have H : (if (l0.length : Int) = (l1.length : Int) then (slices_EqualFunc_order_Same_1.l0 k l1 l0 (l0.length : Int) 0) else (some false)) = some r := h
  clear h
  by_cases c4 : (l0.length : Int) = (l1.length : Int)
  · rw [if_pos c4] at H
    have c4b0 : ((l0.length : Int) == (l1.length : Int)) = true := beq_iff_eq.mpr c4; have c4b1 : ((l0.length : Int) != (l1.length : Int)) = false := bne_eq_false_iff_eq.mpr c4; have c4b2 : (l0.length == l1.length) = true := by first | simpa using c4 | (simp at c4 ⊢; omega)
    clear c4; have H' := zA H; clear H; go_enter Try.func133, Try.ntmps133; go_wp2; go_loopg [17] k (fun kq v17 w' => ∃ (x17_1 : Int), v17 = .int .i64 x17_1 ∧ Aside0 (slices_EqualFunc_order_Same_1.l0 kq l1 l0 (l0.length : Int) x17_1 = some r) ∧ Aside0 (kq ≤ k) ∧ Aside0 (Below w.heap.size w w'))
    case atStart => exact ⟨(0), (by first | rfl | (simp; done) | (simp [*]; done)), H', ⟨Nat.le_refl _⟩, ⟨qB⟩⟩
    case round =>
      clear H'; try clear c1
      try clear p2
      try clear c4
      try clear c4b0
      try clear c4b1
      try clear c4b2
      obtain ⟨x17_1, rfl, HA, HK1, HB⟩ := hrel; cases gk with
      | zero => exact absurd HA.out (by simp [slices_EqualFunc_order_Same_1.l0])
      | succ k1 =>
        have H := HA.out; clear HA; simp only [slices_EqualFunc_order_Same_1.l0] at H; by_cases c5 : x17_1 < (l0.length : Int)
        · rw [if_pos c5] at H
          have c5b0 : decide (x17_1 < (l0.length : Int)) = true := zFq c5; clear c5; by_cases c6 : 0 ≤ x17_1
          · rw [if_pos c6] at H
            have c6b0 : decide (0 ≤ x17_1) = true := zFq c6; clear c6; by_cases c7 : x17_1 < (l0.length : Int)
            · rw [if_pos c7] at H
              have c7b0 : decide (x17_1 < (l0.length : Int)) = true := zFq c7; clear c7; by_cases c8 : x17_1 < (l1.length : Int)
              · rw [if_pos c8] at H
                have c8b0 : decide (x17_1 < (l1.length : Int)) = true := zFq c8; clear c8; replace H := Option.bind_eq_some_iff.mp H; obtain ⟨t105, A90, H⟩ := H; replace H : (if t105 = true then (slices_EqualFunc_order_Same_1.l0 k1 l1 l0 (l0.length : Int) (wrap64 (x17_1 + 1))) else (some false)) = some r := H; have A9 := zA A90; clear A90; by_cases c10 : t105 = true
                · subst c10
                  have H1 : (slices_EqualFunc_order_Same_1.l0 k1 l1 l0 (l0.length : Int) (wrap64 (x17_1 + 1))) = some r := by first | (rw [if_pos rfl] at H; exact H) | rfl
                  clear H; have H := H1; clear H1; have H' := zA H; clear H; have p101 : 0 ≤ (x17_1 : Int) := of_decide_eq_true qA; have q101 : x17_1 < (l0.length : Int) := of_decide_eq_true qA; obtain ⟨ad101, A101_4, c101_4, e101, hx101_0, hx101_1, hx101_2, hx101_3, hx101_4, hl101_4, hi101_4⟩ := at_T71 HR0.out x17_1 p101 q101; cases e101
                  replace hx101_0 := (HB.out.cell (zCq w _ hx101_0)).trans hx101_0; replace hx101_1 := (HB.out.cell (zCq w _ hx101_1)).trans hx101_1; replace hx101_2 := (HB.out.cell (zCq w _ hx101_2)).trans hx101_2; replace hx101_3 := (HB.out.cell (zCq w _ hx101_3)).trans hx101_3; replace hx101_4 := (HB.out.cell (zCq w _ hx101_4)).trans hx101_4; have HR101_4 := zA hi101_4; have HC101_4 := zA hl101_4; clear hi101_4 hl101_4; replace p101 := eq_true p101; replace q101 := eq_true q101; go_wp2_with (first | ((with_reducible refine gate_dst (N := 8) rfl ?_); refine box_event qr (N := 8) qr (cs := #[.int .i64 0, .int .i64 0, .int .i64 0, .int .i64 0, .slice none 0 0]) (t := 71) qg ?_; intro gb102 hg w11 hbox hb; have n0_ := zA (zV qB hb); have n1_ := zA (hbox); have n2_ := zA ((qS : w.heap.size ≤ gb102)); have n3_ := zA ((qS : w.heap.size ≤ gb102)); clear HB; have HB := n0_; have BK102 := n1_; have GW102 := n2_; have GE102 := n3_; clear n0_ n1_ n2_ n3_ hb hbox hg; obtain ⟨_, _, _, _, _, _, _, _, _, _⟩ := qc5f BK102.out; have p103 : 0 ≤ (x17_1 : Int) := of_decide_eq_true qA; have q103 : x17_1 < (l1.length : Int) := of_decide_eq_true qA; obtain ⟨ad103, A103_4, c103_4, e103, hx103_0, hx103_1, hx103_2, hx103_3, hx103_4, hl103_4, hi103_4⟩ := at_T71 HR1.out x17_1 p103 q103; cases e103; have hn103_0 : ad103.block ≠ gb102 := zLq (Nat.lt_of_lt_of_le (by have := zCq _ _ hx103_0; first | rwa [add_block] at this | exact this) GW102.out); have hn103_1 : ad103.block ≠ gb102 := zLq (Nat.lt_of_lt_of_le (by have := zCq _ _ hx103_0; first | rwa [add_block] at this | exact this) GW102.out); have hn103_2 : ad103.block ≠ gb102 := zLq (Nat.lt_of_lt_of_le (by have := zCq _ _ hx103_0; first | rwa [add_block] at this | exact this) GW102.out); have hn103_3 : ad103.block ≠ gb102 := zLq (Nat.lt_of_lt_of_le (by have := zCq _ _ hx103_0; first | rwa [add_block] at this | exact this) GW102.out); have hn103_4 : ad103.block ≠ gb102 := zLq (Nat.lt_of_lt_of_le (by have := zCq _ _ hx103_0; first | rwa [add_block] at this | exact this) GW102.out); replace hx103_0 := (HB.out.cell (zCq w _ hx103_0)).trans hx103_0; replace hx103_1 := (HB.out.cell (zCq w _ hx103_1)).trans hx103_1; replace hx103_2 := (HB.out.cell (zCq w _ hx103_2)).trans hx103_2; replace hx103_3 := (HB.out.cell (zCq w _ hx103_3)).trans hx103_3; replace hx103_4 := (HB.out.cell (zCq w _ hx103_4)).trans hx103_4; have HR103_4 := zA hi103_4; have HC103_4 := zA hl103_4; clear hi103_4 hl103_4; replace hx103_0 := (cell_far (p := ⟨gb102, 0, none⟩) (by first | (rw [add_block]; exact hn103_0) | (show (Addr.add _ _).block ≠ _; rw [add_block]; exact hn103_0) | exact hn103_0) (.int .i64 ((rd_T71 l0 x17_1).f0))).trans hx103_0; replace hx103_1 := (cell_far (p := ⟨gb102, 0, none⟩) (by first | (rw [add_block]; exact hn103_0) | (show (Addr.add _ _).block ≠ _; rw [add_block]; exact hn103_0) | exact hn103_0) (.int .i64 ((rd_T71 l0 x17_1).f0))).trans hx103_1; replace hx103_2 := (cell_far (p := ⟨gb102, 0, none⟩) (by first | (rw [add_block]; exact hn103_0) | (show (Addr.add _ _).block ≠ _; rw [add_block]; exact hn103_0) | exact hn103_0) (.int .i64 ((rd_T71 l0 x17_1).f0))).trans hx103_2; replace hx103_3 := (cell_far (p := ⟨gb102, 0, none⟩) (by first | (rw [add_block]; exact hn103_0) | (show (Addr.add _ _).block ≠ _; rw [add_block]; exact hn103_0) | exact hn103_0) (.int .i64 ((rd_T71 l0 x17_1).f0))).trans hx103_3; replace hx103_4 := (cell_far (p := ⟨gb102, 0, none⟩) (by first | (rw [add_block]; exact hn103_0) | (show (Addr.add _ _).block ≠ _; rw [add_block]; exact hn103_0) | exact hn103_0) (.int .i64 ((rd_T71 l0 x17_1).f0))).trans hx103_4; replace hx103_0 := (cell_far (p := ⟨gb102, 1, none⟩) (by first | (rw [add_block]; exact hn103_1) | (show (Addr.add _ _).block ≠ _; rw [add_block]; exact hn103_1) | exact hn103_1) (.int .i64 ((rd_T71 l0 x17_1).f1))).trans hx103_0; replace hx103_1 := (cell_far (p := ⟨gb102, 1, none⟩) (by first | (rw [add_block]; exact hn103_1) | (show (Addr.add _ _).block ≠ _; rw [add_block]; exact hn103_1) | exact hn103_1) (.int .i64 ((rd_T71 l0 x17_1).f1))).trans hx103_1; replace hx103_2 := (cell_far (p := ⟨gb102, 1, none⟩) (by first | (rw [add_block]; exact hn103_1) | (show (Addr.add _ _).block ≠ _; rw [add_block]; exact hn103_1) | exact hn103_1) (.int .i64 ((rd_T71 l0 x17_1).f1))).trans hx103_2; replace hx103_3 := (cell_far (p := ⟨gb102, 1, none⟩) (by first | (rw [add_block]; exact hn103_1) | (show (Addr.add _ _).block ≠ _; rw [add_block]; exact hn103_1) | exact hn103_1) (.int .i64 ((rd_T71 l0 x17_1).f1))).trans hx103_3; replace hx103_4 := (cell_far (p := ⟨gb102, 1, none⟩) (by first | (rw [add_block]; exact hn103_1) | (show (Addr.add _ _).block ≠ _; rw [add_block]; exact hn103_1) | exact hn103_1) (.int .i64 ((rd_T71 l0 x17_1).f1))).trans hx103_4; replace hx103_0 := (cell_far (p := ⟨gb102, 2, none⟩) (by first | (rw [add_block]; exact hn103_2) | (show (Addr.add _ _).block ≠ _; rw [add_block]; exact hn103_2) | exact hn103_2) (.int .i64 ((rd_T71 l0 x17_1).f2))).trans hx103_0; replace hx103_1 := (cell_far (p := ⟨gb102, 2, none⟩) (by first | (rw [add_block]; exact hn103_2) | (show (Addr.add _ _).block ≠ _; rw [add_block]; exact hn103_2) | exact hn103_2) (.int .i64 ((rd_T71 l0 x17_1).f2))).trans hx103_1; replace hx103_2 := (cell_far (p := ⟨gb102, 2, none⟩) (by first | (rw [add_block]; exact hn103_2) | (show (Addr.add _ _).block ≠ _; rw [add_block]; exact hn103_2) | exact hn103_2) (.int .i64 ((rd_T71 l0 x17_1).f2))).trans hx103_2; replace hx103_3 := (cell_far (p := ⟨gb102, 2, none⟩) (by first | (rw [add_block]; exact hn103_2) | (show (Addr.add _ _).block ≠ _; rw [add_block]; exact hn103_2) | exact hn103_2) (.int .i64 ((rd_T71 l0 x17_1).f2))).trans hx103_3; replace hx103_4 := (cell_far (p := ⟨gb102, 2, none⟩) (by first | (rw [add_block]; exact hn103_2) | (show (Addr.add _ _).block ≠ _; rw [add_block]; exact hn103_2) | exact hn103_2) (.int .i64 ((rd_T71 l0 x17_1).f2))).trans hx103_4; replace hx103_0 := (cell_far (p := ⟨gb102, 3, none⟩) (by first | (rw [add_block]; exact hn103_3) | (show (Addr.add _ _).block ≠ _; rw [add_block]; exact hn103_3) | exact hn103_3) (.int .i64 ((rd_T71 l0 x17_1).f3))).trans hx103_0; replace hx103_1 := (cell_far (p := ⟨gb102, 3, none⟩) (by first | (rw [add_block]; exact hn103_3) | (show (Addr.add _ _).block ≠ _; rw [add_block]; exact hn103_3) | exact hn103_3) (.int .i64 ((rd_T71 l0 x17_1).f3))).trans hx103_1; replace hx103_2 := (cell_far (p := ⟨gb102, 3, none⟩) (by first | (rw [add_block]; exact hn103_3) | (show (Addr.add _ _).block ≠ _; rw [add_block]; exact hn103_3) | exact hn103_3) (.int .i64 ((rd_T71 l0 x17_1).f3))).trans hx103_2; replace hx103_3 := (cell_far (p := ⟨gb102, 3, none⟩) (by first | (rw [add_block]; exact hn103_3) | (show (Addr.add _ _).block ≠ _; rw [add_block]; exact hn103_3) | exact hn103_3) (.int .i64 ((rd_T71 l0 x17_1).f3))).trans hx103_3; replace hx103_4 := (cell_far (p := ⟨gb102, 3, none⟩) (by first | (rw [add_block]; exact hn103_3) | (show (Addr.add _ _).block ≠ _; rw [add_block]; exact hn103_3) | exact hn103_3) (.int .i64 ((rd_T71 l0 x17_1).f3))).trans hx103_4; replace hx103_0 := (cell_far (p := ⟨gb102, 4, none⟩) (by first | (rw [add_block]; exact hn103_4) | (show (Addr.add _ _).block ≠ _; rw [add_block]; exact hn103_4) | exact hn103_4) (.slice A101_4 ((rd_T71 l0 x17_1).f4).length c101_4)).trans hx103_0; replace hx103_1 := (cell_far (p := ⟨gb102, 4, none⟩) (by first | (rw [add_block]; exact hn103_4) | (show (Addr.add _ _).block ≠ _; rw [add_block]; exact hn103_4) | exact hn103_4) (.slice A101_4 ((rd_T71 l0 x17_1).f4).length c101_4)).trans hx103_1; replace hx103_2 := (cell_far (p := ⟨gb102, 4, none⟩) (by first | (rw [add_block]; exact hn103_4) | (show (Addr.add _ _).block ≠ _; rw [add_block]; exact hn103_4) | exact hn103_4) (.slice A101_4 ((rd_T71 l0 x17_1).f4).length c101_4)).trans hx103_2; replace hx103_3 := (cell_far (p := ⟨gb102, 4, none⟩) (by first | (rw [add_block]; exact hn103_4) | (show (Addr.add _ _).block ≠ _; rw [add_block]; exact hn103_4) | exact hn103_4) (.slice A101_4 ((rd_T71 l0 x17_1).f4).length c101_4)).trans hx103_3; replace hx103_4 := (cell_far (p := ⟨gb102, 4, none⟩) (by first | (rw [add_block]; exact hn103_4) | (show (Addr.add _ _).block ≠ _; rw [add_block]; exact hn103_4) | exact hn103_4) (.slice A101_4 ((rd_T71 l0 x17_1).f4).length c101_4)).trans hx103_4; clear hn103_0 hn103_1 hn103_2 hn103_3 hn103_4; replace p103 := eq_true p103; replace q103 := eq_true q103) | ((with_reducible refine gate_dst (N := 9) rfl ?_); refine box_event qr (N := 9) qr (cs := #[.int .i64 0, .int .i64 0, .int .i64 0, .int .i64 0, .slice none 0 0]) (t := 71) qg ?_; intro gb104 hg w13 hbox hb; have n0_ := zA (zX (g := gb102) (o := .cells #[.int .i64 ((rd_T71 l0 x17_1).f0), .int .i64 ((rd_T71 l0 x17_1).f1), .int .i64 ((rd_T71 l0 x17_1).f2), .int .i64 ((rd_T71 l0 x17_1).f3), .slice A101_4 ((rd_T71 l0 x17_1).f4).length c101_4] 71 (0, 0)) (qV BK102.out) hb); have n1_ := zA (zV qB hb); have n2_ := zA (hbox); have n3_ := zA ((qS : w.heap.size ≤ gb104)); have n4_ := zA ((qS : w.heap.size ≤ gb104)); have n5_ := zA ((by rw [hg]; exact zLq (blk_lt (g := gb102) (o := .cells #[.int .i64 ((rd_T71 l0 x17_1).f0), .int .i64 ((rd_T71 l0 x17_1).f1), .int .i64 ((rd_T71 l0 x17_1).f2), .int .i64 ((rd_T71 l0 x17_1).f3), .slice A101_4 ((rd_T71 l0 x17_1).f4).length c101_4] 71 (0, 0)) (qV BK102.out)) : gb102 ≠ gb104)); have n6_ := zA ((by rw [hg]; exact zMq (blk_lt (g := gb102) (o := .cells #[.int .i64 ((rd_T71 l0 x17_1).f0), .int .i64 ((rd_T71 l0 x17_1).f1), .int .i64 ((rd_T71 l0 x17_1).f2), .int .i64 ((rd_T71 l0 x17_1).f3), .slice A101_4 ((rd_T71 l0 x17_1).f4).length c101_4] 71 (0, 0)) (qV BK102.out)) : gb104 ≠ gb102)); clear BK102 HB; have BK102 := n0_; have HB := n1_; have BK104 := n2_; have GW104 := n3_; have GE104 := n4_; have NB102_104 := n5_; have NB104_102 := n6_; clear n0_ n1_ n2_ n3_ n4_ n5_ n6_ hb hbox hg; have hnb14 := NB104_102.out; have hnc14 := NB102_104.out; obtain ⟨_, _, _, _, _, _, _, _, _, _⟩ := qc5f BK104.out; obtain ⟨_, _, _, _, _, _, _, _, _, _⟩ := qc5f BK102.out) | (go_at_call 134; (with_reducible refine (order_Same_1.calls k1 ((rd_T71 l0 x17_1).f0) ((rd_T71 l0 x17_1).f1) ((rd_T71 l0 x17_1).f2) ((rd_T71 l0 x17_1).f3) _ _ ((rd_T71 l0 x17_1).f4) ((rd_T71 l1 x17_1).f0) ((rd_T71 l1 x17_1).f1) ((rd_T71 l1 x17_1).f2) ((rd_T71 l1 x17_1).f3) _ _ ((rd_T71 l1 x17_1).f4) true _ ?side1 ?side2 ?side3 ?side4 A9.out).mono ?_); (case side1 => exact Kd.C_below HR101_4.out qB); (case side2 => exact HC101_4.out); (case side3 => exact Kd.C_below HR103_4.out qB); (case side4 => exact HC103_4.out); rintro e w17 ⟨rfl, hb⟩; have n0_ := zA (qX BK102.out hb); have n1_ := zA (zX (g := gb104) (o := .cells #[.int .i64 ((rd_T71 l1 x17_1).f0), .int .i64 ((rd_T71 l1 x17_1).f1), .int .i64 ((rd_T71 l1 x17_1).f2), .int .i64 ((rd_T71 l1 x17_1).f3), .slice A103_4 ((rd_T71 l1 x17_1).f4).length c103_4] 71 (0, 0)) (qV BK104.out) hb); have n2_ := zA (zV qB hb); clear BK102 BK104 HB; have BK102 := n0_; have BK104 := n1_; have HB := n2_; clear n0_ n1_ n2_; (try clear hb); (try clear hb2); (try clear hk); (try clear hi)))
                  go_roundg k1
                  case measure => have := HK1.out; omega
                  case rel => exact ⟨(wrap64 (x17_1 + 1)), (by first | rfl | (simp; done) | (simp [*]; done)), H', ⟨by have := HK1.out; omega⟩, ⟨qB⟩⟩
                replace c10 := Bool.eq_false_iff.mpr c10; subst c10; have H1 : (some false) = some r := by first | (rw [if_neg (show ¬ (false = true) by decide)] at H; exact H) | rfl
                clear H; have H := H1; clear H1; obtain rfl := zKq H; have p101 : 0 ≤ (x17_1 : Int) := of_decide_eq_true qA; have q101 : x17_1 < (l0.length : Int) := of_decide_eq_true qA; obtain ⟨ad101, A101_4, c101_4, e101, hx101_0, hx101_1, hx101_2, hx101_3, hx101_4, hl101_4, hi101_4⟩ := at_T71 HR0.out x17_1 p101 q101; cases e101
                replace hx101_0 := (HB.out.cell (zCq w _ hx101_0)).trans hx101_0; replace hx101_1 := (HB.out.cell (zCq w _ hx101_1)).trans hx101_1; replace hx101_2 := (HB.out.cell (zCq w _ hx101_2)).trans hx101_2; replace hx101_3 := (HB.out.cell (zCq w _ hx101_3)).trans hx101_3; replace hx101_4 := (HB.out.cell (zCq w _ hx101_4)).trans hx101_4; have HR101_4 := zA hi101_4; have HC101_4 := zA hl101_4; clear hi101_4 hl101_4; replace p101 := eq_true p101; replace q101 := eq_true q101; go_wp2_with (first | ((with_reducible refine gate_dst (N := 8) rfl ?_); refine box_event qr (N := 8) qr (cs := #[.int .i64 0, .int .i64 0, .int .i64 0, .int .i64 0, .slice none 0 0]) (t := 71) qg ?_; intro gb102 hg w18 hbox hb; have n0_ := zA (zV qB hb); have n1_ := zA (hbox); have n2_ := zA ((qS : w.heap.size ≤ gb102)); have n3_ := zA ((qS : w.heap.size ≤ gb102)); clear HB; have HB := n0_; have BK102 := n1_; have GW102 := n2_; have GE102 := n3_; clear n0_ n1_ n2_ n3_ hb hbox hg; obtain ⟨_, _, _, _, _, _, _, _, _, _⟩ := qc5f BK102.out; have p103 : 0 ≤ (x17_1 : Int) := of_decide_eq_true qA; have q103 : x17_1 < (l1.length : Int) := of_decide_eq_true qA; obtain ⟨ad103, A103_4, c103_4, e103, hx103_0, hx103_1, hx103_2, hx103_3, hx103_4, hl103_4, hi103_4⟩ := at_T71 HR1.out x17_1 p103 q103; cases e103; have hn103_0 : ad103.block ≠ gb102 := zLq (Nat.lt_of_lt_of_le (by have := zCq _ _ hx103_0; first | rwa [add_block] at this | exact this) GW102.out); have hn103_1 : ad103.block ≠ gb102 := zLq (Nat.lt_of_lt_of_le (by have := zCq _ _ hx103_0; first | rwa [add_block] at this | exact this) GW102.out); have hn103_2 : ad103.block ≠ gb102 := zLq (Nat.lt_of_lt_of_le (by have := zCq _ _ hx103_0; first | rwa [add_block] at this | exact this) GW102.out); have hn103_3 : ad103.block ≠ gb102 := zLq (Nat.lt_of_lt_of_le (by have := zCq _ _ hx103_0; first | rwa [add_block] at this | exact this) GW102.out); have hn103_4 : ad103.block ≠ gb102 := zLq (Nat.lt_of_lt_of_le (by have := zCq _ _ hx103_0; first | rwa [add_block] at this | exact this) GW102.out); replace hx103_0 := (HB.out.cell (zCq w _ hx103_0)).trans hx103_0; replace hx103_1 := (HB.out.cell (zCq w _ hx103_1)).trans hx103_1; replace hx103_2 := (HB.out.cell (zCq w _ hx103_2)).trans hx103_2; replace hx103_3 := (HB.out.cell (zCq w _ hx103_3)).trans hx103_3; replace hx103_4 := (HB.out.cell (zCq w _ hx103_4)).trans hx103_4; have HR103_4 := zA hi103_4; have HC103_4 := zA hl103_4; clear hi103_4 hl103_4; replace hx103_0 := (cell_far (p := ⟨gb102, 0, none⟩) (by first | (rw [add_block]; exact hn103_0) | (show (Addr.add _ _).block ≠ _; rw [add_block]; exact hn103_0) | exact hn103_0) (.int .i64 ((rd_T71 l0 x17_1).f0))).trans hx103_0; replace hx103_1 := (cell_far (p := ⟨gb102, 0, none⟩) (by first | (rw [add_block]; exact hn103_0) | (show (Addr.add _ _).block ≠ _; rw [add_block]; exact hn103_0) | exact hn103_0) (.int .i64 ((rd_T71 l0 x17_1).f0))).trans hx103_1; replace hx103_2 := (cell_far (p := ⟨gb102, 0, none⟩) (by first | (rw [add_block]; exact hn103_0) | (show (Addr.add _ _).block ≠ _; rw [add_block]; exact hn103_0) | exact hn103_0) (.int .i64 ((rd_T71 l0 x17_1).f0))).trans hx103_2; replace hx103_3 := (cell_far (p := ⟨gb102, 0, none⟩) (by first | (rw [add_block]; exact hn103_0) | (show (Addr.add _ _).block ≠ _; rw [add_block]; exact hn103_0) | exact hn103_0) (.int .i64 ((rd_T71 l0 x17_1).f0))).trans hx103_3; replace hx103_4 := (cell_far (p := ⟨gb102, 0, none⟩) (by first | (rw [add_block]; exact hn103_0) | (show (Addr.add _ _).block ≠ _; rw [add_block]; exact hn103_0) | exact hn103_0) (.int .i64 ((rd_T71 l0 x17_1).f0))).trans hx103_4; replace hx103_0 := (cell_far (p := ⟨gb102, 1, none⟩) (by first | (rw [add_block]; exact hn103_1) | (show (Addr.add _ _).block ≠ _; rw [add_block]; exact hn103_1) | exact hn103_1) (.int .i64 ((rd_T71 l0 x17_1).f1))).trans hx103_0; replace hx103_1 := (cell_far (p := ⟨gb102, 1, none⟩) (by first | (rw [add_block]; exact hn103_1) | (show (Addr.add _ _).block ≠ _; rw [add_block]; exact hn103_1) | exact hn103_1) (.int .i64 ((rd_T71 l0 x17_1).f1))).trans hx103_1; replace hx103_2 := (cell_far (p := ⟨gb102, 1, none⟩) (by first | (rw [add_block]; exact hn103_1) | (show (Addr.add _ _).block ≠ _; rw [add_block]; exact hn103_1) | exact hn103_1) (.int .i64 ((rd_T71 l0 x17_1).f1))).trans hx103_2; replace hx103_3 := (cell_far (p := ⟨gb102, 1, none⟩) (by first | (rw [add_block]; exact hn103_1) | (show (Addr.add _ _).block ≠ _; rw [add_block]; exact hn103_1) | exact hn103_1) (.int .i64 ((rd_T71 l0 x17_1).f1))).trans hx103_3; replace hx103_4 := (cell_far (p := ⟨gb102, 1, none⟩) (by first | (rw [add_block]; exact hn103_1) | (show (Addr.add _ _).block ≠ _; rw [add_block]; exact hn103_1) | exact hn103_1) (.int .i64 ((rd_T71 l0 x17_1).f1))).trans hx103_4; replace hx103_0 := (cell_far (p := ⟨gb102, 2, none⟩) (by first | (rw [add_block]; exact hn103_2) | (show (Addr.add _ _).block ≠ _; rw [add_block]; exact hn103_2) | exact hn103_2) (.int .i64 ((rd_T71 l0 x17_1).f2))).trans hx103_0; replace hx103_1 := (cell_far (p := ⟨gb102, 2, none⟩) (by first | (rw [add_block]; exact hn103_2) | (show (Addr.add _ _).block ≠ _; rw [add_block]; exact hn103_2) | exact hn103_2) (.int .i64 ((rd_T71 l0 x17_1).f2))).trans hx103_1; replace hx103_2 := (cell_far (p := ⟨gb102, 2, none⟩) (by first | (rw [add_block]; exact hn103_2) | (show (Addr.add _ _).block ≠ _; rw [add_block]; exact hn103_2) | exact hn103_2) (.int .i64 ((rd_T71 l0 x17_1).f2))).trans hx103_2; replace hx103_3 := (cell_far (p := ⟨gb102, 2, none⟩) (by first | (rw [add_block]; exact hn103_2) | (show (Addr.add _ _).block ≠ _; rw [add_block]; exact hn103_2) | exact hn103_2) (.int .i64 ((rd_T71 l0 x17_1).f2))).trans hx103_3; replace hx103_4 := (cell_far (p := ⟨gb102, 2, none⟩) (by first | (rw [add_block]; exact hn103_2) | (show (Addr.add _ _).block ≠ _; rw [add_block]; exact hn103_2) | exact hn103_2) (.int .i64 ((rd_T71 l0 x17_1).f2))).trans hx103_4; replace hx103_0 := (cell_far (p := ⟨gb102, 3, none⟩) (by first | (rw [add_block]; exact hn103_3) | (show (Addr.add _ _).block ≠ _; rw [add_block]; exact hn103_3) | exact hn103_3) (.int .i64 ((rd_T71 l0 x17_1).f3))).trans hx103_0; replace hx103_1 := (cell_far (p := ⟨gb102, 3, none⟩) (by first | (rw [add_block]; exact hn103_3) | (show (Addr.add _ _).block ≠ _; rw [add_block]; exact hn103_3) | exact hn103_3) (.int .i64 ((rd_T71 l0 x17_1).f3))).trans hx103_1; replace hx103_2 := (cell_far (p := ⟨gb102, 3, none⟩) (by first | (rw [add_block]; exact hn103_3) | (show (Addr.add _ _).block ≠ _; rw [add_block]; exact hn103_3) | exact hn103_3) (.int .i64 ((rd_T71 l0 x17_1).f3))).trans hx103_2; replace hx103_3 := (cell_far (p := ⟨gb102, 3, none⟩) (by first | (rw [add_block]; exact hn103_3) | (show (Addr.add _ _).block ≠ _; rw [add_block]; exact hn103_3) | exact hn103_3) (.int .i64 ((rd_T71 l0 x17_1).f3))).trans hx103_3; replace hx103_4 := (cell_far (p := ⟨gb102, 3, none⟩) (by first | (rw [add_block]; exact hn103_3) | (show (Addr.add _ _).block ≠ _; rw [add_block]; exact hn103_3) | exact hn103_3) (.int .i64 ((rd_T71 l0 x17_1).f3))).trans hx103_4; replace hx103_0 := (cell_far (p := ⟨gb102, 4, none⟩) (by first | (rw [add_block]; exact hn103_4) | (show (Addr.add _ _).block ≠ _; rw [add_block]; exact hn103_4) | exact hn103_4) (.slice A101_4 ((rd_T71 l0 x17_1).f4).length c101_4)).trans hx103_0; replace hx103_1 := (cell_far (p := ⟨gb102, 4, none⟩) (by first | (rw [add_block]; exact hn103_4) | (show (Addr.add _ _).block ≠ _; rw [add_block]; exact hn103_4) | exact hn103_4) (.slice A101_4 ((rd_T71 l0 x17_1).f4).length c101_4)).trans hx103_1; replace hx103_2 := (cell_far (p := ⟨gb102, 4, none⟩) (by first | (rw [add_block]; exact hn103_4) | (show (Addr.add _ _).block ≠ _; rw [add_block]; exact hn103_4) | exact hn103_4) (.slice A101_4 ((rd_T71 l0 x17_1).f4).length c101_4)).trans hx103_2; replace hx103_3 := (cell_far (p := ⟨gb102, 4, none⟩) (by first | (rw [add_block]; exact hn103_4) | (show (Addr.add _ _).block ≠ _; rw [add_block]; exact hn103_4) | exact hn103_4) (.slice A101_4 ((rd_T71 l0 x17_1).f4).length c101_4)).trans hx103_3; replace hx103_4 := (cell_far (p := ⟨gb102, 4, none⟩) (by first | (rw [add_block]; exact hn103_4) | (show (Addr.add _ _).block ≠ _; rw [add_block]; exact hn103_4) | exact hn103_4) (.slice A101_4 ((rd_T71 l0 x17_1).f4).length c101_4)).trans hx103_4; clear hn103_0 hn103_1 hn103_2 hn103_3 hn103_4; replace p103 := eq_true p103; replace q103 := eq_true q103) | ((with_reducible refine gate_dst (N := 9) rfl ?_); refine box_event qr (N := 9) qr (cs := #[.int .i64 0, .int .i64 0, .int .i64 0, .int .i64 0, .slice none 0 0]) (t := 71) qg ?_; intro gb104 hg w20 hbox hb; have n0_ := zA (zX (g := gb102) (o := .cells #[.int .i64 ((rd_T71 l0 x17_1).f0), .int .i64 ((rd_T71 l0 x17_1).f1), .int .i64 ((rd_T71 l0 x17_1).f2), .int .i64 ((rd_T71 l0 x17_1).f3), .slice A101_4 ((rd_T71 l0 x17_1).f4).length c101_4] 71 (0, 0)) (qV BK102.out) hb); have n1_ := zA (zV qB hb); have n2_ := zA (hbox); have n3_ := zA ((qS : w.heap.size ≤ gb104)); have n4_ := zA ((qS : w.heap.size ≤ gb104)); have n5_ := zA ((by rw [hg]; exact zLq (blk_lt (g := gb102) (o := .cells #[.int .i64 ((rd_T71 l0 x17_1).f0), .int .i64 ((rd_T71 l0 x17_1).f1), .int .i64 ((rd_T71 l0 x17_1).f2), .int .i64 ((rd_T71 l0 x17_1).f3), .slice A101_4 ((rd_T71 l0 x17_1).f4).length c101_4] 71 (0, 0)) (qV BK102.out)) : gb102 ≠ gb104)); have n6_ := zA ((by rw [hg]; exact zMq (blk_lt (g := gb102) (o := .cells #[.int .i64 ((rd_T71 l0 x17_1).f0), .int .i64 ((rd_T71 l0 x17_1).f1), .int .i64 ((rd_T71 l0 x17_1).f2), .int .i64 ((rd_T71 l0 x17_1).f3), .slice A101_4 ((rd_T71 l0 x17_1).f4).length c101_4] 71 (0, 0)) (qV BK102.out)) : gb104 ≠ gb102)); clear BK102 HB; have BK102 := n0_; have HB := n1_; have BK104 := n2_; have GW104 := n3_; have GE104 := n4_; have NB102_104 := n5_; have NB104_102 := n6_; clear n0_ n1_ n2_ n3_ n4_ n5_ n6_ hb hbox hg; have hnb21 := NB104_102.out; have hnc21 := NB102_104.out; obtain ⟨_, _, _, _, _, _, _, _, _, _⟩ := qc5f BK104.out; obtain ⟨_, _, _, _, _, _, _, _, _, _⟩ := qc5f BK102.out) | (go_at_call 134; (with_reducible refine (order_Same_1.calls k1 ((rd_T71 l0 x17_1).f0) ((rd_T71 l0 x17_1).f1) ((rd_T71 l0 x17_1).f2) ((rd_T71 l0 x17_1).f3) _ _ ((rd_T71 l0 x17_1).f4) ((rd_T71 l1 x17_1).f0) ((rd_T71 l1 x17_1).f1) ((rd_T71 l1 x17_1).f2) ((rd_T71 l1 x17_1).f3) _ _ ((rd_T71 l1 x17_1).f4) false _ ?side1 ?side2 ?side3 ?side4 A9.out).mono ?_); (case side1 => exact Kd.C_below HR101_4.out qB); (case side2 => exact HC101_4.out); (case side3 => exact Kd.C_below HR103_4.out qB); (case side4 => exact HC103_4.out); rintro e w24 ⟨rfl, hb⟩; have n0_ := zA (qX BK102.out hb); have n1_ := zA (zX (g := gb104) (o := .cells #[.int .i64 ((rd_T71 l1 x17_1).f0), .int .i64 ((rd_T71 l1 x17_1).f1), .int .i64 ((rd_T71 l1 x17_1).f2), .int .i64 ((rd_T71 l1 x17_1).f3), .slice A103_4 ((rd_T71 l1 x17_1).f4).length c103_4] 71 (0, 0)) (qV BK104.out) hb); have n2_ := zA (zV qB hb); clear BK102 BK104 HB; have BK102 := n0_; have BK104 := n1_; have HB := n2_; clear n0_ n1_ n2_; (try clear hb); (try clear hb2); (try clear hk); (try clear hi)))
                go_ret; exact ⟨qE, qB⟩
              rw [if_neg c8] at H; exact absurd H (by simp)
            rw [if_neg c7] at H; exact absurd H (by simp)
          rw [if_neg c6] at H; exact absurd H (by simp)
        rw [if_neg c5] at H; have c5b0 : decide (x17_1 < (l0.length : Int)) = false := zGq c5; clear c5; obtain rfl := zKq H; go_wp2; go_ret; exact ⟨qE, qB⟩
  rw [if_neg c4] at H
  have c4b0 : ((l0.length : Int) == (l1.length : Int)) = false := beq_eq_false_iff_ne.mpr c4
  have c4b1 : ((l0.length : Int) != (l1.length : Int)) = true := bne_iff_ne.mpr c4
  have c4b2 : (l0.length == l1.length) = false := by first | simpa using c4 | (simp at c4 ⊢; omega)
  obtain rfl := zKq H
  go_enter Try.func133, Try.ntmps133
  go_wp2
  go_ret
  exact ⟨qE, qB⟩
def order_Same.f (k : Nat) (a0_0 : Int) (a0_1 : Int) (l0_2 : List (S71)) (a1_0 : Int) (a1_1 : Int) (l1_2 : List (S71)) : Option (Bool) := if a0_0 = a1_0 then (if a0_1 = a1_1 then ((slices_EqualFunc_order_Same_1.f k l0_2 l1_2).bind fun t103 => (some t103)) else (some false)) else (some false)
theorem order_Same.mono : ∀ a0 a1 a2 a3 a4 a5 k, LeO (order_Same.f k a0 a1 a2 a3 a4 a5) (order_Same.f (k + 1) a0 a1 a2 a3 a4 a5) := by
  intro a0 a1 a2 a3 a4 a5 k
  unfold order_Same.f
  repeat' first
      | (with_reducible exact slices_EqualFunc_order_Same_1.mono _ _ _)
      | (with_reducible exact LeO.refl _)
      | (with_reducible exact LeO.none _)
      | (with_reducible refine LeO.ite ?_ ?_)
      | (with_reducible refine LeO.bind ?_ (fun _ => ?_))
      | exact slices_EqualFunc_order_Same_1.mono _ _ _
      | exact LeO.none _
      | refine LeO.ite ?_ ?_
      | refine LeO.bind ?_ (fun _ => ?_)
set_option maxHeartbeats 8000000 in
set_option maxRecDepth 100000 in
theorem order_Same.calls (k : Nat) (a0_0 : Int) (a0_1 : Int) (A0_2 : Option Addr) (c0_2 : Nat) (l0_2 : List (S71)) (a1_0 : Int) (a1_1 : Int) (A1_2 : Option Addr) (c1_2 : Nat) (l1_2 : List (S71)) (r : Bool) (w : World) (hr0_2 : Kd.C k71 w A0_2 l0_2.length l0_2) (hc0_2 : l0_2.length ≤ c0_2) (hr1_2 : Kd.C k71 w A1_2 l1_2.length l1_2) (hc1_2 : l1_2.length ≤ c1_2) (h : order_Same.f k a0_0 a0_1 l0_2 a1_0 a1_1 l1_2 = some r) :
    Calls Try.prog 95 #[.agg #[.int .i64 a0_0, .int .i64 a0_1, .slice A0_2 l0_2.length c0_2], .agg #[.int .i64 a1_0, .int .i64 a1_1, .slice A1_2 l1_2.length c1_2]] w fun e w' => e = .returned (.bool r) ∧ Below w.heap.size w w' := by
  have hu99 := Try.underlying99
  have HR0_2 := zA hr0_2
  have HC0_2 := zA hc0_2
  clear hr0_2 hc0_2
  have HR1_2 := zA hr1_2
  have HC1_2 := zA hc1_2
  clear hr1_2 hc1_2
  have HB := zA (Below.refl w.heap.size w)
  have H : (if a0_0 = a1_0 then (if a0_1 = a1_1 then ((slices_EqualFunc_order_Same_1.f k l0_2 l1_2).bind fun t103 => (some t103)) else (some false)) else (some false)) = some r := h
  clear h
  by_cases c3 : a0_0 = a1_0
  · rw [if_pos c3] at H
    have c3b0 : (a0_0 == a1_0) = true := beq_iff_eq.mpr c3; have c3b1 : (a0_0 != a1_0) = false := bne_eq_false_iff_eq.mpr c3; clear c3; by_cases c4 : a0_1 = a1_1
    · rw [if_pos c4] at H
      have c4b0 : (a0_1 == a1_1) = true := beq_iff_eq.mpr c4; have c4b1 : (a0_1 != a1_1) = false := bne_eq_false_iff_eq.mpr c4; clear c4; replace H := Option.bind_eq_some_iff.mp H; obtain ⟨t103, A50, H⟩ := H; replace H : (some t103) = some r := H; have A5 := zA A50; clear A50; obtain rfl := zKq H; go_enter Try.func95, Try.ntmps95; go_wp2_with (first | ((with_reducible refine gate_dst (N := 2) rfl ?_); refine box_event qr (N := 2) qr (cs := #[.int .i64 a0_0, .int .i64 a0_1, .slice A0_2 l0_2.length c0_2]) (t := 99) qg ?_; intro gb101 hg w6 hbox hb; have n0_ := zA (zV qB hb); have n1_ := zA (hbox); have n2_ := zA ((qS : w.heap.size ≤ gb101)); have n3_ := zA ((qS : w.heap.size ≤ gb101)); clear HB; have HB := n0_; have BK101 := n1_; have GW101 := n2_; have GE101 := n3_; clear n0_ n1_ n2_ n3_ hb hbox hg) | ((with_reducible refine gate_dst (N := 3) rfl ?_); refine box_event qr (N := 3) qr (cs := #[.int .i64 a1_0, .int .i64 a1_1, .slice A1_2 l1_2.length c1_2]) (t := 99) qg ?_; intro gb102 hg w7 hbox hb; have n0_ := zA (qX BK101.out hb); have n1_ := zA (zV qB hb); have n2_ := zA (hbox); have n3_ := zA ((qS : w.heap.size ≤ gb102)); have n4_ := zA ((qS : w.heap.size ≤ gb102)); have n5_ := zA ((by rw [hg]; exact zLq (qL BK101.out) : gb101 ≠ gb102)); have n6_ := zA ((by rw [hg]; exact zMq (qL BK101.out) : gb102 ≠ gb101)); clear BK101 HB; have BK101 := n0_; have HB := n1_; have BK102 := n2_; have GW102 := n3_; have GE102 := n4_; have NB101_102 := n5_; have NB102_101 := n6_; clear n0_ n1_ n2_ n3_ n4_ n5_ n6_ hb hbox hg; have hnb8 := NB101_102.out; have hnc8 := NB102_101.out; obtain ⟨_, _, _, _, _, _⟩ := qc3f BK101.out; obtain ⟨_, _, _, _, _, _⟩ := qc3f BK102.out) | (go_at_call 133; (with_reducible refine (slices_EqualFunc_order_Same_1.calls k _ _ l0_2 _ _ l1_2  t103 _ ?side1 ?side2 ?side3 ?side4 A5.out).mono ?_); (case side1 => exact qC (Kd.C_below HR0_2.out HB.out)); (case side2 => exact HC0_2.out); (case side3 => exact qC (Kd.C_below HR1_2.out HB.out)); (case side4 => exact HC1_2.out); rintro e w11 ⟨rfl, hb⟩; have n0_ := zA (qX BK101.out hb); have n1_ := zA (qX BK102.out hb); have n2_ := zA (zV qB hb); clear BK101 BK102 HB; have BK101 := n0_; have BK102 := n1_; have HB := n2_; clear n0_ n1_ n2_; (try clear hb); (try clear hb2); (try clear hk); (try clear hi))); go_ret; exact ⟨qE, qB⟩
    rw [if_neg c4] at H; have c4b0 : (a0_1 == a1_1) = false := beq_eq_false_iff_ne.mpr c4; have c4b1 : (a0_1 != a1_1) = true := bne_iff_ne.mpr c4; obtain rfl := zKq H; go_enter Try.func95, Try.ntmps95; go_wp2_with (first | ((with_reducible refine gate_dst (N := 2) rfl ?_); refine box_event qr (N := 2) qr (cs := #[.int .i64 a0_0, .int .i64 a0_1, .slice A0_2 l0_2.length c0_2]) (t := 99) qg ?_; intro gb101 hg w12 hbox hb; have n0_ := zA (zV qB hb); have n1_ := zA (hbox); have n2_ := zA ((qS : w.heap.size ≤ gb101)); have n3_ := zA ((qS : w.heap.size ≤ gb101)); clear HB; have HB := n0_; have BK101 := n1_; have GW101 := n2_; have GE101 := n3_; clear n0_ n1_ n2_ n3_ hb hbox hg) | ((with_reducible refine gate_dst (N := 3) rfl ?_); refine box_event qr (N := 3) qr (cs := #[.int .i64 a1_0, .int .i64 a1_1, .slice A1_2 l1_2.length c1_2]) (t := 99) qg ?_; intro gb102 hg w13 hbox hb; have n0_ := zA (qX BK101.out hb); have n1_ := zA (zV qB hb); have n2_ := zA (hbox); have n3_ := zA ((qS : w.heap.size ≤ gb102)); have n4_ := zA ((qS : w.heap.size ≤ gb102)); have n5_ := zA ((by rw [hg]; exact zLq (qL BK101.out) : gb101 ≠ gb102)); have n6_ := zA ((by rw [hg]; exact zMq (qL BK101.out) : gb102 ≠ gb101)); clear BK101 HB; have BK101 := n0_; have HB := n1_; have BK102 := n2_; have GW102 := n3_; have GE102 := n4_; have NB101_102 := n5_; have NB102_101 := n6_; clear n0_ n1_ n2_ n3_ n4_ n5_ n6_ hb hbox hg; have hnb14 := NB101_102.out; have hnc14 := NB102_101.out; obtain ⟨_, _, _, _, _, _⟩ := qc3f BK101.out; obtain ⟨_, _, _, _, _, _⟩ := qc3f BK102.out)); go_ret; exact ⟨qE, qB⟩
  rw [if_neg c3] at H
  have c3b0 : (a0_0 == a1_0) = false := beq_eq_false_iff_ne.mpr c3
  have c3b1 : (a0_0 != a1_0) = true := bne_iff_ne.mpr c3
  obtain rfl := zKq H
  go_enter Try.func95, Try.ntmps95
  go_wp2_with (first | ((with_reducible refine gate_dst (N := 2) rfl ?_); refine box_event qr (N := 2) qr (cs := #[.int .i64 a0_0, .int .i64 a0_1, .slice A0_2 l0_2.length c0_2]) (t := 99) qg ?_; intro gb101 hg w17 hbox hb; have n0_ := zA (zV qB hb); have n1_ := zA (hbox); have n2_ := zA ((qS : w.heap.size ≤ gb101)); have n3_ := zA ((qS : w.heap.size ≤ gb101)); clear HB; have HB := n0_; have BK101 := n1_; have GW101 := n2_; have GE101 := n3_; clear n0_ n1_ n2_ n3_ hb hbox hg) | ((with_reducible refine gate_dst (N := 3) rfl ?_); refine box_event qr (N := 3) qr (cs := #[.int .i64 a1_0, .int .i64 a1_1, .slice A1_2 l1_2.length c1_2]) (t := 99) qg ?_; intro gb102 hg w18 hbox hb; have n0_ := zA (qX BK101.out hb); have n1_ := zA (zV qB hb); have n2_ := zA (hbox); have n3_ := zA ((qS : w.heap.size ≤ gb102)); have n4_ := zA ((qS : w.heap.size ≤ gb102)); have n5_ := zA ((by rw [hg]; exact zLq (qL BK101.out) : gb101 ≠ gb102)); have n6_ := zA ((by rw [hg]; exact zMq (qL BK101.out) : gb102 ≠ gb101)); clear BK101 HB; have BK101 := n0_; have HB := n1_; have BK102 := n2_; have GW102 := n3_; have GE102 := n4_; have NB101_102 := n5_; have NB102_101 := n6_; clear n0_ n1_ n2_ n3_ n4_ n5_ n6_ hb hbox hg; have hnb19 := NB101_102.out; have hnc19 := NB102_101.out; obtain ⟨_, _, _, _, _, _⟩ := qc3f BK101.out; obtain ⟨_, _, _, _, _, _⟩ := qc3f BK102.out))
  go_ret
  exact ⟨qE, qB⟩
def backhaullaw26_awake.f  : Option (Bool) := some true
set_option maxHeartbeats 8000000 in
set_option maxRecDepth 100000 in
theorem backhaullaw26_awake.calls (r : Bool)  (w : World) (h : backhaullaw26_awake.f  = some r) :
    Calls Try.prog 82 #[] w fun e w' => e = .returned (.bool r) ∧ Below w.heap.size w w' := by
  obtain rfl : r = true := by injection h with h; exact h.symm
  have hu99 := Try.underlying99
  have HB := zA (Below.refl w.heap.size w)
  have H : ((backhaullaw26_two.f (⟨#[66]⟩ : ByteArray)).bind fun t101 => ((order_Make.f 1000 5 9 t101 10 29).bind fun bt104 => ((backhaullaw26_two.f (⟨#[65]⟩ : ByteArray)).bind fun t111 => ((order_Make.f 1000 5 9 t111 10 29).bind fun bt114 => ((backhaullaw26_two.f (⟨#[66]⟩ : ByteArray)).bind fun t121 => ((order_Make.f 1000 0 9 t121 10 29).bind fun bt124 => ((order_Find.f 1000 bt104.1 bt104.2.1 bt104.2.2.1 (⟨#[67]⟩ : ByteArray)).bind fun bt131 => ((order_Find.f 1000 bt104.1 bt104.2.1 bt104.2.2.1 (⟨#[68]⟩ : ByteArray)).bind fun bt134 => ((order_Paid.f 1000 bt104.1 bt104.2.1 bt104.2.2.1).bind fun bt137 => (if bt104.2.2.2 = 0 then (if bt114.2.2.2 = 32 then (if bt124.2.2.2 = 2 then (if bt131.1 = 1 then (if bt131.2.1 = 1 then (if bt131.2.2 = true then (if bt134.2.2 = true then (some false) else (if bt137.1 = 319 then (if bt137.2 = 0 then ((order_Serials.f 1000 bt104.1 bt104.2.1 bt104.2.2.1).bind fun t139 => ((backhaulref01_SameTexts.f 1000 t139 (([(⟨#[65]⟩ : ByteArray), (⟨#[66]⟩ : ByteArray), (⟨#[67]⟩ : ByteArray)] : List ByteArray))).bind fun t145 => (if t145 = true then ((order_Check.f 1000 bt104.1 bt104.2.1 bt104.2.2.1).bind fun t146 => (if t146 = 0 then ((order_Same.f 1000 bt104.1 bt104.2.1 bt104.2.2.1 bt104.1 bt104.2.1 bt104.2.2.1).bind fun t147 => (if t147 = true then ((order_Check.f 1000 0 0 ([] : List (S71))).bind fun t148 => (if t148 = 40 then (some true) else (some false))) else (some false))) else (some false))) else (some false)))) else (some false)) else (some false))) else (some false)) else (some false)) else (some false)) else (some false)) else (some false)) else (some false))))))))))) = some true := by decide +kernel
  replace H := Option.bind_eq_some_iff.mp H
  obtain ⟨t101, A10, H⟩ := H
  replace H : ((order_Make.f 1000 5 9 t101 10 29).bind fun bt104 => ((backhaullaw26_two.f (⟨#[65]⟩ : ByteArray)).bind fun t111 => ((order_Make.f 1000 5 9 t111 10 29).bind fun bt114 => ((backhaullaw26_two.f (⟨#[66]⟩ : ByteArray)).bind fun t121 => ((order_Make.f 1000 0 9 t121 10 29).bind fun bt124 => ((order_Find.f 1000 bt104.1 bt104.2.1 bt104.2.2.1 (⟨#[67]⟩ : ByteArray)).bind fun bt131 => ((order_Find.f 1000 bt104.1 bt104.2.1 bt104.2.2.1 (⟨#[68]⟩ : ByteArray)).bind fun bt134 => ((order_Paid.f 1000 bt104.1 bt104.2.1 bt104.2.2.1).bind fun bt137 => (if bt104.2.2.2 = 0 then (if bt114.2.2.2 = 32 then (if bt124.2.2.2 = 2 then (if bt131.1 = 1 then (if bt131.2.1 = 1 then (if bt131.2.2 = true then (if bt134.2.2 = true then (some false) else (if bt137.1 = 319 then (if bt137.2 = 0 then ((order_Serials.f 1000 bt104.1 bt104.2.1 bt104.2.2.1).bind fun t139 => ((backhaulref01_SameTexts.f 1000 t139 (([(⟨#[65]⟩ : ByteArray), (⟨#[66]⟩ : ByteArray), (⟨#[67]⟩ : ByteArray)] : List ByteArray))).bind fun t145 => (if t145 = true then ((order_Check.f 1000 bt104.1 bt104.2.1 bt104.2.2.1).bind fun t146 => (if t146 = 0 then ((order_Same.f 1000 bt104.1 bt104.2.1 bt104.2.2.1 bt104.1 bt104.2.1 bt104.2.2.1).bind fun t147 => (if t147 = true then ((order_Check.f 1000 0 0 ([] : List (S71))).bind fun t148 => (if t148 = 40 then (some true) else (some false))) else (some false))) else (some false))) else (some false)))) else (some false)) else (some false))) else (some false)) else (some false)) else (some false)) else (some false)) else (some false)) else (some false)))))))))) = some true := H
  have A1 := zA A10
  clear A10
  replace H := Option.bind_eq_some_iff.mp H
  obtain ⟨⟨t104, t105, t106, t109⟩, A20, H⟩ := H
  replace H : ((backhaullaw26_two.f (⟨#[65]⟩ : ByteArray)).bind fun t111 => ((order_Make.f 1000 5 9 t111 10 29).bind fun bt114 => ((backhaullaw26_two.f (⟨#[66]⟩ : ByteArray)).bind fun t121 => ((order_Make.f 1000 0 9 t121 10 29).bind fun bt124 => ((order_Find.f 1000 t104 t105 t106 (⟨#[67]⟩ : ByteArray)).bind fun bt131 => ((order_Find.f 1000 t104 t105 t106 (⟨#[68]⟩ : ByteArray)).bind fun bt134 => ((order_Paid.f 1000 t104 t105 t106).bind fun bt137 => (if t109 = 0 then (if bt114.2.2.2 = 32 then (if bt124.2.2.2 = 2 then (if bt131.1 = 1 then (if bt131.2.1 = 1 then (if bt131.2.2 = true then (if bt134.2.2 = true then (some false) else (if bt137.1 = 319 then (if bt137.2 = 0 then ((order_Serials.f 1000 t104 t105 t106).bind fun t139 => ((backhaulref01_SameTexts.f 1000 t139 (([(⟨#[65]⟩ : ByteArray), (⟨#[66]⟩ : ByteArray), (⟨#[67]⟩ : ByteArray)] : List ByteArray))).bind fun t145 => (if t145 = true then ((order_Check.f 1000 t104 t105 t106).bind fun t146 => (if t146 = 0 then ((order_Same.f 1000 t104 t105 t106 t104 t105 t106).bind fun t147 => (if t147 = true then ((order_Check.f 1000 0 0 ([] : List (S71))).bind fun t148 => (if t148 = 40 then (some true) else (some false))) else (some false))) else (some false))) else (some false)))) else (some false)) else (some false))) else (some false)) else (some false)) else (some false)) else (some false)) else (some false)) else (some false))))))))) = some true := H
  have A2 := zA A20
  clear A20
  replace H := Option.bind_eq_some_iff.mp H
  obtain ⟨t111, A30, H⟩ := H
  replace H : ((order_Make.f 1000 5 9 t111 10 29).bind fun bt114 => ((backhaullaw26_two.f (⟨#[66]⟩ : ByteArray)).bind fun t121 => ((order_Make.f 1000 0 9 t121 10 29).bind fun bt124 => ((order_Find.f 1000 t104 t105 t106 (⟨#[67]⟩ : ByteArray)).bind fun bt131 => ((order_Find.f 1000 t104 t105 t106 (⟨#[68]⟩ : ByteArray)).bind fun bt134 => ((order_Paid.f 1000 t104 t105 t106).bind fun bt137 => (if t109 = 0 then (if bt114.2.2.2 = 32 then (if bt124.2.2.2 = 2 then (if bt131.1 = 1 then (if bt131.2.1 = 1 then (if bt131.2.2 = true then (if bt134.2.2 = true then (some false) else (if bt137.1 = 319 then (if bt137.2 = 0 then ((order_Serials.f 1000 t104 t105 t106).bind fun t139 => ((backhaulref01_SameTexts.f 1000 t139 (([(⟨#[65]⟩ : ByteArray), (⟨#[66]⟩ : ByteArray), (⟨#[67]⟩ : ByteArray)] : List ByteArray))).bind fun t145 => (if t145 = true then ((order_Check.f 1000 t104 t105 t106).bind fun t146 => (if t146 = 0 then ((order_Same.f 1000 t104 t105 t106 t104 t105 t106).bind fun t147 => (if t147 = true then ((order_Check.f 1000 0 0 ([] : List (S71))).bind fun t148 => (if t148 = 40 then (some true) else (some false))) else (some false))) else (some false))) else (some false)))) else (some false)) else (some false))) else (some false)) else (some false)) else (some false)) else (some false)) else (some false)) else (some false)))))))) = some true := H
  have A3 := zA A30
  clear A30
  replace H := Option.bind_eq_some_iff.mp H
  obtain ⟨⟨t114, t115, t116, t119⟩, A40, H⟩ := H
  replace H : ((backhaullaw26_two.f (⟨#[66]⟩ : ByteArray)).bind fun t121 => ((order_Make.f 1000 0 9 t121 10 29).bind fun bt124 => ((order_Find.f 1000 t104 t105 t106 (⟨#[67]⟩ : ByteArray)).bind fun bt131 => ((order_Find.f 1000 t104 t105 t106 (⟨#[68]⟩ : ByteArray)).bind fun bt134 => ((order_Paid.f 1000 t104 t105 t106).bind fun bt137 => (if t109 = 0 then (if t119 = 32 then (if bt124.2.2.2 = 2 then (if bt131.1 = 1 then (if bt131.2.1 = 1 then (if bt131.2.2 = true then (if bt134.2.2 = true then (some false) else (if bt137.1 = 319 then (if bt137.2 = 0 then ((order_Serials.f 1000 t104 t105 t106).bind fun t139 => ((backhaulref01_SameTexts.f 1000 t139 (([(⟨#[65]⟩ : ByteArray), (⟨#[66]⟩ : ByteArray), (⟨#[67]⟩ : ByteArray)] : List ByteArray))).bind fun t145 => (if t145 = true then ((order_Check.f 1000 t104 t105 t106).bind fun t146 => (if t146 = 0 then ((order_Same.f 1000 t104 t105 t106 t104 t105 t106).bind fun t147 => (if t147 = true then ((order_Check.f 1000 0 0 ([] : List (S71))).bind fun t148 => (if t148 = 40 then (some true) else (some false))) else (some false))) else (some false))) else (some false)))) else (some false)) else (some false))) else (some false)) else (some false)) else (some false)) else (some false)) else (some false)) else (some false))))))) = some true := H
  have A4 := zA A40
  clear A40
  replace H := Option.bind_eq_some_iff.mp H
  obtain ⟨t121, A50, H⟩ := H
  replace H : ((order_Make.f 1000 0 9 t121 10 29).bind fun bt124 => ((order_Find.f 1000 t104 t105 t106 (⟨#[67]⟩ : ByteArray)).bind fun bt131 => ((order_Find.f 1000 t104 t105 t106 (⟨#[68]⟩ : ByteArray)).bind fun bt134 => ((order_Paid.f 1000 t104 t105 t106).bind fun bt137 => (if t109 = 0 then (if t119 = 32 then (if bt124.2.2.2 = 2 then (if bt131.1 = 1 then (if bt131.2.1 = 1 then (if bt131.2.2 = true then (if bt134.2.2 = true then (some false) else (if bt137.1 = 319 then (if bt137.2 = 0 then ((order_Serials.f 1000 t104 t105 t106).bind fun t139 => ((backhaulref01_SameTexts.f 1000 t139 (([(⟨#[65]⟩ : ByteArray), (⟨#[66]⟩ : ByteArray), (⟨#[67]⟩ : ByteArray)] : List ByteArray))).bind fun t145 => (if t145 = true then ((order_Check.f 1000 t104 t105 t106).bind fun t146 => (if t146 = 0 then ((order_Same.f 1000 t104 t105 t106 t104 t105 t106).bind fun t147 => (if t147 = true then ((order_Check.f 1000 0 0 ([] : List (S71))).bind fun t148 => (if t148 = 40 then (some true) else (some false))) else (some false))) else (some false))) else (some false)))) else (some false)) else (some false))) else (some false)) else (some false)) else (some false)) else (some false)) else (some false)) else (some false)))))) = some true := H
  have A5 := zA A50
  clear A50
  replace H := Option.bind_eq_some_iff.mp H
  obtain ⟨⟨t124, t125, t126, t129⟩, A60, H⟩ := H
  replace H : ((order_Find.f 1000 t104 t105 t106 (⟨#[67]⟩ : ByteArray)).bind fun bt131 => ((order_Find.f 1000 t104 t105 t106 (⟨#[68]⟩ : ByteArray)).bind fun bt134 => ((order_Paid.f 1000 t104 t105 t106).bind fun bt137 => (if t109 = 0 then (if t119 = 32 then (if t129 = 2 then (if bt131.1 = 1 then (if bt131.2.1 = 1 then (if bt131.2.2 = true then (if bt134.2.2 = true then (some false) else (if bt137.1 = 319 then (if bt137.2 = 0 then ((order_Serials.f 1000 t104 t105 t106).bind fun t139 => ((backhaulref01_SameTexts.f 1000 t139 (([(⟨#[65]⟩ : ByteArray), (⟨#[66]⟩ : ByteArray), (⟨#[67]⟩ : ByteArray)] : List ByteArray))).bind fun t145 => (if t145 = true then ((order_Check.f 1000 t104 t105 t106).bind fun t146 => (if t146 = 0 then ((order_Same.f 1000 t104 t105 t106 t104 t105 t106).bind fun t147 => (if t147 = true then ((order_Check.f 1000 0 0 ([] : List (S71))).bind fun t148 => (if t148 = 40 then (some true) else (some false))) else (some false))) else (some false))) else (some false)))) else (some false)) else (some false))) else (some false)) else (some false)) else (some false)) else (some false)) else (some false)) else (some false))))) = some true := H
  have A6 := zA A60
  clear A60
  replace H := Option.bind_eq_some_iff.mp H
  obtain ⟨⟨t131, t132, t133⟩, A70, H⟩ := H
  replace H : ((order_Find.f 1000 t104 t105 t106 (⟨#[68]⟩ : ByteArray)).bind fun bt134 => ((order_Paid.f 1000 t104 t105 t106).bind fun bt137 => (if t109 = 0 then (if t119 = 32 then (if t129 = 2 then (if t131 = 1 then (if t132 = 1 then (if t133 = true then (if bt134.2.2 = true then (some false) else (if bt137.1 = 319 then (if bt137.2 = 0 then ((order_Serials.f 1000 t104 t105 t106).bind fun t139 => ((backhaulref01_SameTexts.f 1000 t139 (([(⟨#[65]⟩ : ByteArray), (⟨#[66]⟩ : ByteArray), (⟨#[67]⟩ : ByteArray)] : List ByteArray))).bind fun t145 => (if t145 = true then ((order_Check.f 1000 t104 t105 t106).bind fun t146 => (if t146 = 0 then ((order_Same.f 1000 t104 t105 t106 t104 t105 t106).bind fun t147 => (if t147 = true then ((order_Check.f 1000 0 0 ([] : List (S71))).bind fun t148 => (if t148 = 40 then (some true) else (some false))) else (some false))) else (some false))) else (some false)))) else (some false)) else (some false))) else (some false)) else (some false)) else (some false)) else (some false)) else (some false)) else (some false)))) = some true := H
  have A7 := zA A70
  clear A70
  replace H := Option.bind_eq_some_iff.mp H
  obtain ⟨⟨t134, t135, t136⟩, A80, H⟩ := H
  replace H : ((order_Paid.f 1000 t104 t105 t106).bind fun bt137 => (if t109 = 0 then (if t119 = 32 then (if t129 = 2 then (if t131 = 1 then (if t132 = 1 then (if t133 = true then (if t136 = true then (some false) else (if bt137.1 = 319 then (if bt137.2 = 0 then ((order_Serials.f 1000 t104 t105 t106).bind fun t139 => ((backhaulref01_SameTexts.f 1000 t139 (([(⟨#[65]⟩ : ByteArray), (⟨#[66]⟩ : ByteArray), (⟨#[67]⟩ : ByteArray)] : List ByteArray))).bind fun t145 => (if t145 = true then ((order_Check.f 1000 t104 t105 t106).bind fun t146 => (if t146 = 0 then ((order_Same.f 1000 t104 t105 t106 t104 t105 t106).bind fun t147 => (if t147 = true then ((order_Check.f 1000 0 0 ([] : List (S71))).bind fun t148 => (if t148 = 40 then (some true) else (some false))) else (some false))) else (some false))) else (some false)))) else (some false)) else (some false))) else (some false)) else (some false)) else (some false)) else (some false)) else (some false)) else (some false))) = some true := H
  have A8 := zA A80
  clear A80
  replace H := Option.bind_eq_some_iff.mp H
  obtain ⟨⟨t137, t138⟩, A90, H⟩ := H
  replace H : (if t109 = 0 then (if t119 = 32 then (if t129 = 2 then (if t131 = 1 then (if t132 = 1 then (if t133 = true then (if t136 = true then (some false) else (if t137 = 319 then (if t138 = 0 then ((order_Serials.f 1000 t104 t105 t106).bind fun t139 => ((backhaulref01_SameTexts.f 1000 t139 (([(⟨#[65]⟩ : ByteArray), (⟨#[66]⟩ : ByteArray), (⟨#[67]⟩ : ByteArray)] : List ByteArray))).bind fun t145 => (if t145 = true then ((order_Check.f 1000 t104 t105 t106).bind fun t146 => (if t146 = 0 then ((order_Same.f 1000 t104 t105 t106 t104 t105 t106).bind fun t147 => (if t147 = true then ((order_Check.f 1000 0 0 ([] : List (S71))).bind fun t148 => (if t148 = 40 then (some true) else (some false))) else (some false))) else (some false))) else (some false)))) else (some false)) else (some false))) else (some false)) else (some false)) else (some false)) else (some false)) else (some false)) else (some false)) = some true := H
  have A9 := zA A90
  clear A90
  by_cases c10 : t109 = 0
  · rw [if_pos c10] at H
    have c10b0 : (t109 == 0) = true := beq_iff_eq.mpr c10; have c10b1 : (t109 != 0) = false := bne_eq_false_iff_eq.mpr c10; clear c10; by_cases c11 : t119 = 32
    · rw [if_pos c11] at H
      have c11b0 : (t119 == 32) = true := beq_iff_eq.mpr c11; have c11b1 : (t119 != 32) = false := bne_eq_false_iff_eq.mpr c11; clear c11; by_cases c12 : t129 = 2
      · rw [if_pos c12] at H
        have c12b0 : (t129 == 2) = true := beq_iff_eq.mpr c12; have c12b1 : (t129 != 2) = false := bne_eq_false_iff_eq.mpr c12; clear c12; by_cases c13 : t131 = 1
        · rw [if_pos c13] at H
          have c13b0 : (t131 == 1) = true := beq_iff_eq.mpr c13; have c13b1 : (t131 != 1) = false := bne_eq_false_iff_eq.mpr c13; clear c13; by_cases c14 : t132 = 1
          · rw [if_pos c14] at H
            have c14b0 : (t132 == 1) = true := beq_iff_eq.mpr c14; have c14b1 : (t132 != 1) = false := bne_eq_false_iff_eq.mpr c14; clear c14; by_cases c15 : t133 = true
            · subst c15
              have H1 : (if t136 = true then (some false) else (if t137 = 319 then (if t138 = 0 then ((order_Serials.f 1000 t104 t105 t106).bind fun t139 => ((backhaulref01_SameTexts.f 1000 t139 (([(⟨#[65]⟩ : ByteArray), (⟨#[66]⟩ : ByteArray), (⟨#[67]⟩ : ByteArray)] : List ByteArray))).bind fun t145 => (if t145 = true then ((order_Check.f 1000 t104 t105 t106).bind fun t146 => (if t146 = 0 then ((order_Same.f 1000 t104 t105 t106 t104 t105 t106).bind fun t147 => (if t147 = true then ((order_Check.f 1000 0 0 ([] : List (S71))).bind fun t148 => (if t148 = 40 then (some true) else (some false))) else (some false))) else (some false))) else (some false)))) else (some false)) else (some false))) = some true := by first | (rw [if_pos rfl] at H; exact H) | rfl
              clear H; have H := H1; clear H1; by_cases c16 : t136 = true
              · subst c16
                have H1 : (some false) = some true := by first | (rw [if_pos rfl] at H; exact H) | rfl
                clear H; have H := H1; clear H1; exact absurd H (by simp)
              replace c16 := Bool.eq_false_iff.mpr c16; subst c16; have H1 : (if t137 = 319 then (if t138 = 0 then ((order_Serials.f 1000 t104 t105 t106).bind fun t139 => ((backhaulref01_SameTexts.f 1000 t139 (([(⟨#[65]⟩ : ByteArray), (⟨#[66]⟩ : ByteArray), (⟨#[67]⟩ : ByteArray)] : List ByteArray))).bind fun t145 => (if t145 = true then ((order_Check.f 1000 t104 t105 t106).bind fun t146 => (if t146 = 0 then ((order_Same.f 1000 t104 t105 t106 t104 t105 t106).bind fun t147 => (if t147 = true then ((order_Check.f 1000 0 0 ([] : List (S71))).bind fun t148 => (if t148 = 40 then (some true) else (some false))) else (some false))) else (some false))) else (some false)))) else (some false)) else (some false)) = some true := by first | (rw [if_neg (show ¬ (false = true) by decide)] at H; exact H) | rfl
              clear H; have H := H1; clear H1; by_cases c17 : t137 = 319
              · rw [if_pos c17] at H
                have c17b0 : (t137 == 319) = true := beq_iff_eq.mpr c17; have c17b1 : (t137 != 319) = false := bne_eq_false_iff_eq.mpr c17; clear c17; by_cases c18 : t138 = 0
                · rw [if_pos c18] at H
                  have c18b0 : (t138 == 0) = true := beq_iff_eq.mpr c18; have c18b1 : (t138 != 0) = false := bne_eq_false_iff_eq.mpr c18; clear c18; replace H := Option.bind_eq_some_iff.mp H; obtain ⟨t139, A190, H⟩ := H; replace H : ((backhaulref01_SameTexts.f 1000 t139 (([(⟨#[65]⟩ : ByteArray), (⟨#[66]⟩ : ByteArray), (⟨#[67]⟩ : ByteArray)] : List ByteArray))).bind fun t145 => (if t145 = true then ((order_Check.f 1000 t104 t105 t106).bind fun t146 => (if t146 = 0 then ((order_Same.f 1000 t104 t105 t106 t104 t105 t106).bind fun t147 => (if t147 = true then ((order_Check.f 1000 0 0 ([] : List (S71))).bind fun t148 => (if t148 = 40 then (some true) else (some false))) else (some false))) else (some false))) else (some false))) = some true := H; have A19 := zA A190; clear A190; obtain ⟨y142, hy142⟩ : ∃ y_ : List ByteArray, y_ = (([(⟨#[65]⟩ : ByteArray), (⟨#[66]⟩ : ByteArray), (⟨#[67]⟩ : ByteArray)] : List ByteArray)) := ⟨_, rfl⟩
                  replace H : ((backhaulref01_SameTexts.f 1000 t139 y142).bind fun t145 => (if t145 = true then ((order_Check.f 1000 t104 t105 t106).bind fun t146 => (if t146 = 0 then ((order_Same.f 1000 t104 t105 t106 t104 t105 t106).bind fun t147 => (if t147 = true then ((order_Check.f 1000 0 0 ([] : List (S71))).bind fun t148 => (if t148 = 40 then (some true) else (some false))) else (some false))) else (some false))) else (some false))) = some true := by first | (rw [hy142]; with_reducible exact H) | (have H2_ := (Option.bind_some _ _).symm.trans H; rw [hy142]; with_reducible exact H2_) | (have H2_ := (Option.bind_some _ _).symm.trans H; with_reducible exact H2_) | with_reducible exact H | (rw [hy142]; exact H) | exact H
                  have Ny142 := zA hy142; clear hy142; replace H := Option.bind_eq_some_iff.mp H; obtain ⟨t145, A200, H⟩ := H; replace H : (if t145 = true then ((order_Check.f 1000 t104 t105 t106).bind fun t146 => (if t146 = 0 then ((order_Same.f 1000 t104 t105 t106 t104 t105 t106).bind fun t147 => (if t147 = true then ((order_Check.f 1000 0 0 ([] : List (S71))).bind fun t148 => (if t148 = 40 then (some true) else (some false))) else (some false))) else (some false))) else (some false)) = some true := H; have A20 := zA A200; clear A200; by_cases c21 : t145 = true
                  · subst c21
                    have H1 : ((order_Check.f 1000 t104 t105 t106).bind fun t146 => (if t146 = 0 then ((order_Same.f 1000 t104 t105 t106 t104 t105 t106).bind fun t147 => (if t147 = true then ((order_Check.f 1000 0 0 ([] : List (S71))).bind fun t148 => (if t148 = 40 then (some true) else (some false))) else (some false))) else (some false))) = some true := by first | (rw [if_pos rfl] at H; exact H) | rfl
                    clear H; have H := H1; clear H1; replace H := Option.bind_eq_some_iff.mp H; obtain ⟨t146, A220, H⟩ := H; replace H : (if t146 = 0 then ((order_Same.f 1000 t104 t105 t106 t104 t105 t106).bind fun t147 => (if t147 = true then ((order_Check.f 1000 0 0 ([] : List (S71))).bind fun t148 => (if t148 = 40 then (some true) else (some false))) else (some false))) else (some false)) = some true := H; have A22 := zA A220; clear A220; by_cases c23 : t146 = 0
                    · rw [if_pos c23] at H
                      have c23b0 : (t146 == 0) = true := beq_iff_eq.mpr c23; have c23b1 : (t146 != 0) = false := bne_eq_false_iff_eq.mpr c23; clear c23; replace H := Option.bind_eq_some_iff.mp H; obtain ⟨t147, A240, H⟩ := H; replace H : (if t147 = true then ((order_Check.f 1000 0 0 ([] : List (S71))).bind fun t148 => (if t148 = 40 then (some true) else (some false))) else (some false)) = some true := H; have A24 := zA A240; clear A240; by_cases c25 : t147 = true
                      · subst c25
                        have H1 : ((order_Check.f 1000 0 0 ([] : List (S71))).bind fun t148 => (if t148 = 40 then (some true) else (some false))) = some true := by first | (rw [if_pos rfl] at H; exact H) | rfl
                        clear H; have H := H1; clear H1; replace H := Option.bind_eq_some_iff.mp H; obtain ⟨t148, A260, H⟩ := H; replace H : (if t148 = 40 then (some true) else (some false)) = some true := H; have A26 := zA A260; clear A260; by_cases c27 : t148 = 40
                        · rw [if_pos c27] at H
                          have c27b0 : (t148 == 40) = true := beq_iff_eq.mpr c27; have c27b1 : (t148 != 40) = false := bne_eq_false_iff_eq.mpr c27; clear c27; clear H; go_enter Try.func82, Try.ntmps82; go_wp2_with (first | ((with_reducible refine zJq (f := 124) rfl ?_); refine goesL_ (some 16) rfl rfl Try.func124 (by kernel_rfl) rfl #[.string (⟨#[66]⟩ : ByteArray)] rfl (by (try simp only [zR, zS, zT]); first | done | rfl | (simp only [zP, zQ]; rfl)) ?_; (with_reducible refine (backhaullaw26_two.calls (⟨#[66]⟩ : ByteArray) t101 _ A1.out).mono ?_); rintro e w28 ⟨v102, rfl, ho0, hb⟩; refine ⟨_, rfl, ?_⟩; have n0_ := zA (Kd.N_lower (Kd.N_mono (ok' := fun k_ => True) ho0 (fun k_ hk_ => trivial)) (zW qB)); have n1_ := zA (zV qB hb); clear HB; have HO103 := n0_; have HB := n1_; clear n0_ n1_; (try clear hb); (try clear hb2); (try clear hk); (try clear hi); (try clear ho0); obtain ⟨Ao29, co29, eo29⟩ := Kd.N_slice HO103.out; subst eo29) | ((with_reducible refine zJq (f := 83) rfl ?_); refine goesL_ (some 17) rfl rfl Try.func83 (by kernel_rfl) rfl #[.int .i64 5, .int .i64 9, .slice Ao29 t101.length co29, .int .i64 10, .int .i64 29] rfl (by (try simp only [zR, zS, zT]); first | done | rfl | (simp only [zP, zQ]; rfl)) ?_; (with_reducible refine (order_Make.calls 1000 5 9 (fun k_ => True) _ _ t101 10 29 t104 t105 t106 t109 _ ?side1 A2.out).mono ?_); (case side1 => exact Kd.N_V (HO103.out)); rintro e w30 ⟨v107, rfl, ho0, hb⟩; refine ⟨_, rfl, ?_⟩; have n0_ := zA (Kd.N_elder' (by (with_reducible repeat (first | apply Kd.N_alloc | apply Kd.N_drewN | apply Kd.N_drew)); exact HO103.out) (Kd.N_base ho0) hb); have n1_ := zA (Kd.N_lower (Kd.N_mono (ok' := fun k_ => True) ho0 (fun k_ hk_ => trivial)) (zW qB)); have n2_ := zA (zV qB hb); clear HO103 HB; have HO103 := n0_; have HO108 := n1_; have HB := n2_; clear n0_ n1_ n2_; (try clear hb); (try clear hb2); (try clear hk); (try clear hi); (try clear ho0)) | ((with_reducible refine gate_dst (N := 1) rfl ?_); (try (refine gate_guard (by rfl) ?_; dsimp only)); refine box_event qr (N := 1) qr (cs := #[.int .i64 0, .int .i64 0, .slice none 0 0]) (t := 99) qg ?_; intro gb110 hg w31 hbox hb; have n0_ := zA (Kd.N_below (Kd.N_elderB (by (with_reducible repeat (first | apply Kd.N_alloc | apply Kd.N_drewN | apply Kd.N_drew)); exact HO103.out) gb110 (Nat.le_of_eq hg.symm)) hb); have n1_ := zA (Kd.N_below (Kd.N_elderB (by (with_reducible repeat (first | apply Kd.N_alloc | apply Kd.N_drewN | apply Kd.N_drew)); exact HO108.out) gb110 (Nat.le_of_eq hg.symm)) hb); have n2_ := zA (zV qB hb); have n3_ := zA (hbox); have n4_ := zA ((qS : w.heap.size ≤ gb110)); have n5_ := zA ((qS : w.heap.size ≤ gb110)); clear HO103 HO108 HB; have HO103 := n0_; have HO108 := n1_; have HB := n2_; have BK110 := n3_; have GW110 := n4_; have GE110 := n5_; clear n0_ n1_ n2_ n3_ n4_ n5_ hb hbox hg; obtain ⟨_, _, _, _, _, _⟩ := qc3f BK110.out; obtain ⟨Ao33, co33, eo33⟩ := Kd.N_slice HO108.out; subst eo33) | ((with_reducible refine zJq (f := 124) rfl ?_); refine goesL_ (some 21) rfl rfl Try.func124 (by kernel_rfl) rfl #[.string (⟨#[65]⟩ : ByteArray)] rfl (by (try simp only [zR, zS, zT]); first | done | rfl | (simp only [zP, zQ]; rfl)) ?_; (with_reducible refine (backhaullaw26_two.calls (⟨#[65]⟩ : ByteArray) t111 _ A3.out).mono ?_); rintro e w34 ⟨v112, rfl, ho0, hb⟩; refine ⟨_, rfl, ?_⟩; have n0_ := zA (Kd.N_elder' (by (with_reducible repeat (first | apply Kd.N_alloc | apply Kd.N_drewN | apply Kd.N_drew)); exact (Kd.N_mono (Kd.N_far (p := ⟨gb110, 2, none⟩) (Kd.N_far (p := ⟨gb110, 1, none⟩) (Kd.N_far (p := ⟨gb110, 0, none⟩) (Kd.N_mono HO103.out (fun k_ hk => (⟨hk, hk.2⟩ : _ ∧ k_ ≠ gb110))) (fun _ hk => hk.2) (.int .i64 t104)) (fun _ hk => hk.2) (.int .i64 t105)) (fun _ hk => hk.2) (.slice Ao33 t106.length co33)) (fun _ h_ => h_.1))) (Kd.N_base ho0) hb); have n1_ := zA (Kd.N_elder' (by (with_reducible repeat (first | apply Kd.N_alloc | apply Kd.N_drewN | apply Kd.N_drew)); exact (Kd.N_mono (Kd.N_far (p := ⟨gb110, 2, none⟩) (Kd.N_far (p := ⟨gb110, 1, none⟩) (Kd.N_far (p := ⟨gb110, 0, none⟩) (Kd.N_mono HO108.out (fun k_ hk => (⟨hk, hk.2⟩ : _ ∧ k_ ≠ gb110))) (fun _ hk => hk.2) (.int .i64 t104)) (fun _ hk => hk.2) (.int .i64 t105)) (fun _ hk => hk.2) (.slice Ao33 t106.length co33)) (fun _ h_ => h_.1))) (Kd.N_base ho0) hb); have n2_ := zA (Kd.N_lower (Kd.N_mono (ok' := fun k_ => some k_ ≠ (.slice Ao29 t101.length co29 : Value).ownBlock ∧ some k_ ≠ (.slice Ao33 t106.length co33 : Value).ownBlock ∧ k_ ≠ gb110) ho0 (fun k_ hk_ => ⟨(Kd.fresh' (Kd.N_lt (by (with_reducible repeat (first | apply Kd.N_alloc | apply Kd.N_drewN | apply Kd.N_drew)); exact (Kd.N_mono (Kd.N_far (p := ⟨gb110, 2, none⟩) (Kd.N_far (p := ⟨gb110, 1, none⟩) (Kd.N_far (p := ⟨gb110, 0, none⟩) (Kd.N_mono HO103.out (fun k_ hk => (⟨hk, hk.2⟩ : _ ∧ k_ ≠ gb110))) (fun _ hk => hk.2) (.int .i64 t104)) (fun _ hk => hk.2) (.int .i64 t105)) (fun _ hk => hk.2) (.slice Ao33 t106.length co33)) (fun _ h_ => h_.1)))) k_ hk_), (Kd.fresh' (Kd.N_lt (by (with_reducible repeat (first | apply Kd.N_alloc | apply Kd.N_drewN | apply Kd.N_drew)); exact (Kd.N_mono (Kd.N_far (p := ⟨gb110, 2, none⟩) (Kd.N_far (p := ⟨gb110, 1, none⟩) (Kd.N_far (p := ⟨gb110, 0, none⟩) (Kd.N_mono HO108.out (fun k_ hk => (⟨hk, hk.2⟩ : _ ∧ k_ ≠ gb110))) (fun _ hk => hk.2) (.int .i64 t104)) (fun _ hk => hk.2) (.int .i64 t105)) (fun _ hk => hk.2) (.slice Ao33 t106.length co33)) (fun _ h_ => h_.1)))) k_ hk_), (Kd.freshB (g := gb110) (o := .cells #[.int .i64 t104, .int .i64 t105, .slice Ao33 t106.length co33] 99 (0, 0)) (qV BK110.out) k_ hk_)⟩)) (zW qB)); have n3_ := zA (zX (g := gb110) (o := .cells #[.int .i64 t104, .int .i64 t105, .slice Ao33 t106.length co33] 99 (0, 0)) (qV BK110.out) hb); have n4_ := zA (zV qB hb); clear HO103 HO108 BK110 HB; have HO103 := n0_; have HO108 := n1_; have HO113 := n2_; have BK110 := n3_; have HB := n4_; clear n0_ n1_ n2_ n3_ n4_; (try clear hb); (try clear hb2); (try clear hk); (try clear hi); (try clear ho0); obtain ⟨Ao35, co35, eo35⟩ := Kd.N_slice HO113.out; subst eo35) | ((with_reducible refine zJq (f := 83) rfl ?_); refine goesL_ (some 22) rfl rfl Try.func83 (by kernel_rfl) rfl #[.int .i64 5, .int .i64 9, .slice Ao35 t111.length co35, .int .i64 10, .int .i64 29] rfl (by (try simp only [zR, zS, zT]); first | done | rfl | (simp only [zP, zQ]; rfl)) ?_; (with_reducible refine (order_Make.calls 1000 5 9 (fun k_ => (some k_ ≠ (.slice Ao29 t101.length co29 : Value).ownBlock ∧ (some k_ ≠ (.slice Ao33 t106.length co33 : Value).ownBlock ∧ k_ ≠ gb110))) _ _ t111 10 29 t114 t115 t116 t119 _ ?side1 A4.out).mono ?_); (case side1 => exact Kd.N_V (HO113.out)); rintro e w36 ⟨v117, rfl, ho0, hb⟩; refine ⟨_, rfl, ?_⟩; have n0_ := zA (Kd.N_elder' (by (with_reducible repeat (first | apply Kd.N_alloc | apply Kd.N_drewN | apply Kd.N_drew)); exact HO103.out) (Kd.N_base ho0) hb); have n1_ := zA (Kd.N_elder' (by (with_reducible repeat (first | apply Kd.N_alloc | apply Kd.N_drewN | apply Kd.N_drew)); exact HO108.out) (Kd.N_base ho0) hb); have n2_ := zA (Kd.N_elder' (by (with_reducible repeat (first | apply Kd.N_alloc | apply Kd.N_drewN | apply Kd.N_drew)); exact HO113.out) (Kd.N_base ho0) hb); have n3_ := zA (Kd.N_lower (Kd.N_mono (ok' := fun k_ => some k_ ≠ (.slice Ao29 t101.length co29 : Value).ownBlock ∧ some k_ ≠ (.slice Ao33 t106.length co33 : Value).ownBlock ∧ k_ ≠ gb110) ho0 (fun k_ hk_ => ⟨Or.elim hk_ (fun hs_ => hs_.1) (fun hn_ => (Kd.fresh' (Kd.N_lt (by (with_reducible repeat (first | apply Kd.N_alloc | apply Kd.N_drewN | apply Kd.N_drew)); exact HO103.out)) k_ hn_)), Or.elim hk_ (fun hs_ => hs_.2.1) (fun hn_ => (Kd.fresh' (Kd.N_lt (by (with_reducible repeat (first | apply Kd.N_alloc | apply Kd.N_drewN | apply Kd.N_drew)); exact HO108.out)) k_ hn_)), Or.elim hk_ (fun hs_ => hs_.2.2) (fun hn_ => (Kd.freshB (g := gb110) (o := .cells #[.int .i64 t104, .int .i64 t105, .slice Ao33 t106.length co33] 99 (0, 0)) (qW BK110.out) k_ hn_))⟩)) (zW qB)); have n4_ := zA (qX BK110.out hb); have n5_ := zA (zV qB hb); clear HO103 HO108 HO113 BK110 HB; have HO103 := n0_; have HO108 := n1_; have HO113 := n2_; have HO118 := n3_; have BK110 := n4_; have HB := n5_; clear n0_ n1_ n2_ n3_ n4_ n5_; (try clear hb); (try clear hb2); (try clear hk); (try clear hi); (try clear ho0)) | ((with_reducible refine gate_dst (N := 3) rfl ?_); (try (refine gate_guard (by rfl) ?_; dsimp only)); refine box_event qr (N := 3) qr (cs := #[.int .i64 0, .int .i64 0, .slice none 0 0]) (t := 99) qg ?_; intro gb120 hg w37 hbox hb; have n0_ := zA (Kd.N_below (Kd.N_elderB (by (with_reducible repeat (first | apply Kd.N_alloc | apply Kd.N_drewN | apply Kd.N_drew)); exact HO103.out) gb120 (Nat.le_of_eq hg.symm)) hb); have n1_ := zA (Kd.N_below (Kd.N_elderB (by (with_reducible repeat (first | apply Kd.N_alloc | apply Kd.N_drewN | apply Kd.N_drew)); exact HO108.out) gb120 (Nat.le_of_eq hg.symm)) hb); have n2_ := zA (Kd.N_below (Kd.N_elderB (by (with_reducible repeat (first | apply Kd.N_alloc | apply Kd.N_drewN | apply Kd.N_drew)); exact HO113.out) gb120 (Nat.le_of_eq hg.symm)) hb); have n3_ := zA (Kd.N_below (Kd.N_elderB (by (with_reducible repeat (first | apply Kd.N_alloc | apply Kd.N_drewN | apply Kd.N_drew)); exact HO118.out) gb120 (Nat.le_of_eq hg.symm)) hb); have n4_ := zA (qX BK110.out hb); have n5_ := zA (zV qB hb); have n6_ := zA (hbox); have n7_ := zA ((qS : w.heap.size ≤ gb120)); have n8_ := zA ((qS : w.heap.size ≤ gb120)); have n9_ := zA ((by rw [hg]; exact zLq (qL BK110.out) : gb110 ≠ gb120)); have n10_ := zA ((by rw [hg]; exact zMq (qL BK110.out) : gb120 ≠ gb110)); clear HO103 HO108 HO113 HO118 BK110 HB; have HO103 := n0_; have HO108 := n1_; have HO113 := n2_; have HO118 := n3_; have BK110 := n4_; have HB := n5_; have BK120 := n6_; have GW120 := n7_; have GE120 := n8_; have NB110_120 := n9_; have NB120_110 := n10_; clear n0_ n1_ n2_ n3_ n4_ n5_ n6_ n7_ n8_ n9_ n10_ hb hbox hg; have hnb38 := NB120_110.out; have hnc38 := NB110_120.out; obtain ⟨_, _, _, _, _, _⟩ := qc3f BK120.out; obtain ⟨Ao40, co40, eo40⟩ := Kd.N_slice HO118.out; subst eo40) | ((with_reducible refine zJq (f := 124) rfl ?_); refine goesL_ (some 26) rfl rfl Try.func124 (by kernel_rfl) rfl #[.string (⟨#[66]⟩ : ByteArray)] rfl (by (try simp only [zR, zS, zT]); first | done | rfl | (simp only [zP, zQ]; rfl)) ?_; (with_reducible refine (backhaullaw26_two.calls (⟨#[66]⟩ : ByteArray) t121 _ A5.out).mono ?_); rintro e w41 ⟨v122, rfl, ho0, hb⟩; refine ⟨_, rfl, ?_⟩; have n0_ := zA (Kd.N_elder' (by (with_reducible repeat (first | apply Kd.N_alloc | apply Kd.N_drewN | apply Kd.N_drew)); exact (Kd.N_mono (Kd.N_far (p := ⟨gb120, 2, none⟩) (Kd.N_far (p := ⟨gb120, 1, none⟩) (Kd.N_far (p := ⟨gb120, 0, none⟩) (Kd.N_mono HO103.out (fun k_ hk => (⟨hk, hk.2⟩ : _ ∧ k_ ≠ gb120))) (fun _ hk => hk.2) (.int .i64 t114)) (fun _ hk => hk.2) (.int .i64 t115)) (fun _ hk => hk.2) (.slice Ao40 t116.length co40)) (fun _ h_ => h_.1))) (Kd.N_base ho0) hb); have n1_ := zA (Kd.N_elder' (by (with_reducible repeat (first | apply Kd.N_alloc | apply Kd.N_drewN | apply Kd.N_drew)); exact (Kd.N_mono (Kd.N_far (p := ⟨gb120, 2, none⟩) (Kd.N_far (p := ⟨gb120, 1, none⟩) (Kd.N_far (p := ⟨gb120, 0, none⟩) (Kd.N_mono HO108.out (fun k_ hk => (⟨hk, hk.2⟩ : _ ∧ k_ ≠ gb120))) (fun _ hk => hk.2) (.int .i64 t114)) (fun _ hk => hk.2) (.int .i64 t115)) (fun _ hk => hk.2) (.slice Ao40 t116.length co40)) (fun _ h_ => h_.1))) (Kd.N_base ho0) hb); have n2_ := zA (Kd.N_elder' (by (with_reducible repeat (first | apply Kd.N_alloc | apply Kd.N_drewN | apply Kd.N_drew)); exact (Kd.N_mono (Kd.N_far (p := ⟨gb120, 2, none⟩) (Kd.N_far (p := ⟨gb120, 1, none⟩) (Kd.N_far (p := ⟨gb120, 0, none⟩) (Kd.N_mono HO113.out (fun k_ hk => (⟨hk, hk.2⟩ : _ ∧ k_ ≠ gb120))) (fun _ hk => hk.2) (.int .i64 t114)) (fun _ hk => hk.2) (.int .i64 t115)) (fun _ hk => hk.2) (.slice Ao40 t116.length co40)) (fun _ h_ => h_.1))) (Kd.N_base ho0) hb); have n3_ := zA (Kd.N_elder' (by (with_reducible repeat (first | apply Kd.N_alloc | apply Kd.N_drewN | apply Kd.N_drew)); exact (Kd.N_mono (Kd.N_far (p := ⟨gb120, 2, none⟩) (Kd.N_far (p := ⟨gb120, 1, none⟩) (Kd.N_far (p := ⟨gb120, 0, none⟩) (Kd.N_mono HO118.out (fun k_ hk => (⟨hk, hk.2⟩ : _ ∧ k_ ≠ gb120))) (fun _ hk => hk.2) (.int .i64 t114)) (fun _ hk => hk.2) (.int .i64 t115)) (fun _ hk => hk.2) (.slice Ao40 t116.length co40)) (fun _ h_ => h_.1))) (Kd.N_base ho0) hb); have n4_ := zA (Kd.N_lower (Kd.N_mono (ok' := fun k_ => some k_ ≠ (.slice Ao29 t101.length co29 : Value).ownBlock ∧ some k_ ≠ (.slice Ao33 t106.length co33 : Value).ownBlock ∧ some k_ ≠ (.slice Ao35 t111.length co35 : Value).ownBlock ∧ some k_ ≠ (.slice Ao40 t116.length co40 : Value).ownBlock ∧ k_ ≠ gb110 ∧ k_ ≠ gb120) ho0 (fun k_ hk_ => ⟨(Kd.fresh' (Kd.N_lt (by (with_reducible repeat (first | apply Kd.N_alloc | apply Kd.N_drewN | apply Kd.N_drew)); exact (Kd.N_mono (Kd.N_far (p := ⟨gb120, 2, none⟩) (Kd.N_far (p := ⟨gb120, 1, none⟩) (Kd.N_far (p := ⟨gb120, 0, none⟩) (Kd.N_mono HO103.out (fun k_ hk => (⟨hk, hk.2⟩ : _ ∧ k_ ≠ gb120))) (fun _ hk => hk.2) (.int .i64 t114)) (fun _ hk => hk.2) (.int .i64 t115)) (fun _ hk => hk.2) (.slice Ao40 t116.length co40)) (fun _ h_ => h_.1)))) k_ hk_), (Kd.fresh' (Kd.N_lt (by (with_reducible repeat (first | apply Kd.N_alloc | apply Kd.N_drewN | apply Kd.N_drew)); exact (Kd.N_mono (Kd.N_far (p := ⟨gb120, 2, none⟩) (Kd.N_far (p := ⟨gb120, 1, none⟩) (Kd.N_far (p := ⟨gb120, 0, none⟩) (Kd.N_mono HO108.out (fun k_ hk => (⟨hk, hk.2⟩ : _ ∧ k_ ≠ gb120))) (fun _ hk => hk.2) (.int .i64 t114)) (fun _ hk => hk.2) (.int .i64 t115)) (fun _ hk => hk.2) (.slice Ao40 t116.length co40)) (fun _ h_ => h_.1)))) k_ hk_), (Kd.fresh' (Kd.N_lt (by (with_reducible repeat (first | apply Kd.N_alloc | apply Kd.N_drewN | apply Kd.N_drew)); exact (Kd.N_mono (Kd.N_far (p := ⟨gb120, 2, none⟩) (Kd.N_far (p := ⟨gb120, 1, none⟩) (Kd.N_far (p := ⟨gb120, 0, none⟩) (Kd.N_mono HO113.out (fun k_ hk => (⟨hk, hk.2⟩ : _ ∧ k_ ≠ gb120))) (fun _ hk => hk.2) (.int .i64 t114)) (fun _ hk => hk.2) (.int .i64 t115)) (fun _ hk => hk.2) (.slice Ao40 t116.length co40)) (fun _ h_ => h_.1)))) k_ hk_), (Kd.fresh' (Kd.N_lt (by (with_reducible repeat (first | apply Kd.N_alloc | apply Kd.N_drewN | apply Kd.N_drew)); exact (Kd.N_mono (Kd.N_far (p := ⟨gb120, 2, none⟩) (Kd.N_far (p := ⟨gb120, 1, none⟩) (Kd.N_far (p := ⟨gb120, 0, none⟩) (Kd.N_mono HO118.out (fun k_ hk => (⟨hk, hk.2⟩ : _ ∧ k_ ≠ gb120))) (fun _ hk => hk.2) (.int .i64 t114)) (fun _ hk => hk.2) (.int .i64 t115)) (fun _ hk => hk.2) (.slice Ao40 t116.length co40)) (fun _ h_ => h_.1)))) k_ hk_), (Kd.freshB (g := gb110) (o := .cells #[.int .i64 t104, .int .i64 t105, .slice Ao33 t106.length co33] 99 (0, 0)) (qW BK110.out) k_ hk_), (Kd.freshB (g := gb120) (o := .cells #[.int .i64 t114, .int .i64 t115, .slice Ao40 t116.length co40] 99 (0, 0)) (qV BK120.out) k_ hk_)⟩)) (zW qB)); have n5_ := zA (qX BK110.out hb); have n6_ := zA (zX (g := gb120) (o := .cells #[.int .i64 t114, .int .i64 t115, .slice Ao40 t116.length co40] 99 (0, 0)) (qV BK120.out) hb); have n7_ := zA (zV qB hb); clear HO103 HO108 HO113 HO118 BK110 BK120 HB; have HO103 := n0_; have HO108 := n1_; have HO113 := n2_; have HO118 := n3_; have HO123 := n4_; have BK110 := n5_; have BK120 := n6_; have HB := n7_; clear n0_ n1_ n2_ n3_ n4_ n5_ n6_ n7_; (try clear hb); (try clear hb2); (try clear hk); (try clear hi); (try clear ho0); obtain ⟨Ao42, co42, eo42⟩ := Kd.N_slice HO123.out; subst eo42) | ((with_reducible refine zJq (f := 83) rfl ?_); refine goesL_ (some 27) rfl rfl Try.func83 (by kernel_rfl) rfl #[.int .i64 0, .int .i64 9, .slice Ao42 t121.length co42, .int .i64 10, .int .i64 29] rfl (by (try simp only [zR, zS, zT]); first | done | rfl | (simp only [zP, zQ]; rfl)) ?_; (with_reducible refine (order_Make.calls 1000 0 9 (fun k_ => (some k_ ≠ (.slice Ao29 t101.length co29 : Value).ownBlock ∧ (some k_ ≠ (.slice Ao33 t106.length co33 : Value).ownBlock ∧ (some k_ ≠ (.slice Ao35 t111.length co35 : Value).ownBlock ∧ (some k_ ≠ (.slice Ao40 t116.length co40 : Value).ownBlock ∧ (k_ ≠ gb110 ∧ k_ ≠ gb120)))))) _ _ t121 10 29 t124 t125 t126 t129 _ ?side1 A6.out).mono ?_); (case side1 => exact Kd.N_V (HO123.out)); rintro e w43 ⟨v127, rfl, ho0, hb⟩; refine ⟨_, rfl, ?_⟩; have n0_ := zA (Kd.N_elder' (by (with_reducible repeat (first | apply Kd.N_alloc | apply Kd.N_drewN | apply Kd.N_drew)); exact HO103.out) (Kd.N_base ho0) hb); have n1_ := zA (Kd.N_elder' (by (with_reducible repeat (first | apply Kd.N_alloc | apply Kd.N_drewN | apply Kd.N_drew)); exact HO108.out) (Kd.N_base ho0) hb); have n2_ := zA (Kd.N_elder' (by (with_reducible repeat (first | apply Kd.N_alloc | apply Kd.N_drewN | apply Kd.N_drew)); exact HO113.out) (Kd.N_base ho0) hb); have n3_ := zA (Kd.N_elder' (by (with_reducible repeat (first | apply Kd.N_alloc | apply Kd.N_drewN | apply Kd.N_drew)); exact HO118.out) (Kd.N_base ho0) hb); have n4_ := zA (Kd.N_elder' (by (with_reducible repeat (first | apply Kd.N_alloc | apply Kd.N_drewN | apply Kd.N_drew)); exact HO123.out) (Kd.N_base ho0) hb); have n5_ := zA (Kd.N_lower (Kd.N_mono (ok' := fun k_ => some k_ ≠ (.slice Ao29 t101.length co29 : Value).ownBlock ∧ some k_ ≠ (.slice Ao33 t106.length co33 : Value).ownBlock ∧ some k_ ≠ (.slice Ao35 t111.length co35 : Value).ownBlock ∧ some k_ ≠ (.slice Ao40 t116.length co40 : Value).ownBlock ∧ k_ ≠ gb110 ∧ k_ ≠ gb120) ho0 (fun k_ hk_ => ⟨Or.elim hk_ (fun hs_ => hs_.1) (fun hn_ => (Kd.fresh' (Kd.N_lt (by (with_reducible repeat (first | apply Kd.N_alloc | apply Kd.N_drewN | apply Kd.N_drew)); exact HO103.out)) k_ hn_)), Or.elim hk_ (fun hs_ => hs_.2.1) (fun hn_ => (Kd.fresh' (Kd.N_lt (by (with_reducible repeat (first | apply Kd.N_alloc | apply Kd.N_drewN | apply Kd.N_drew)); exact HO108.out)) k_ hn_)), Or.elim hk_ (fun hs_ => hs_.2.2.1) (fun hn_ => (Kd.fresh' (Kd.N_lt (by (with_reducible repeat (first | apply Kd.N_alloc | apply Kd.N_drewN | apply Kd.N_drew)); exact HO113.out)) k_ hn_)), Or.elim hk_ (fun hs_ => hs_.2.2.2.1) (fun hn_ => (Kd.fresh' (Kd.N_lt (by (with_reducible repeat (first | apply Kd.N_alloc | apply Kd.N_drewN | apply Kd.N_drew)); exact HO118.out)) k_ hn_)), Or.elim hk_ (fun hs_ => hs_.2.2.2.2.1) (fun hn_ => (Kd.freshB (g := gb110) (o := .cells #[.int .i64 t104, .int .i64 t105, .slice Ao33 t106.length co33] 99 (0, 0)) (qW BK110.out) k_ hn_)), Or.elim hk_ (fun hs_ => hs_.2.2.2.2.2) (fun hn_ => (Kd.freshB (g := gb120) (o := .cells #[.int .i64 t114, .int .i64 t115, .slice Ao40 t116.length co40] 99 (0, 0)) (qW BK120.out) k_ hn_))⟩)) (zW qB)); have n6_ := zA (qX BK110.out hb); have n7_ := zA (qX BK120.out hb); have n8_ := zA (zV qB hb); clear HO103 HO108 HO113 HO118 HO123 BK110 BK120 HB; have HO103 := n0_; have HO108 := n1_; have HO113 := n2_; have HO118 := n3_; have HO123 := n4_; have HO128 := n5_; have BK110 := n6_; have BK120 := n7_; have HB := n8_; clear n0_ n1_ n2_ n3_ n4_ n5_ n6_ n7_ n8_; (try clear hb); (try clear hb2); (try clear hk); (try clear hi); (try clear ho0)) | ((with_reducible refine gate_dst (N := 5) rfl ?_); (try (refine gate_guard (by rfl) ?_; dsimp only)); refine box_event qr (N := 5) qr (cs := #[.int .i64 0, .int .i64 0, .slice none 0 0]) (t := 99) qg ?_; intro gb130 hg w44 hbox hb; have n0_ := zA (Kd.N_below (Kd.N_elderB (by (with_reducible repeat (first | apply Kd.N_alloc | apply Kd.N_drewN | apply Kd.N_drew)); exact HO103.out) gb130 (Nat.le_of_eq hg.symm)) hb); have n1_ := zA (Kd.N_below (Kd.N_elderB (by (with_reducible repeat (first | apply Kd.N_alloc | apply Kd.N_drewN | apply Kd.N_drew)); exact HO108.out) gb130 (Nat.le_of_eq hg.symm)) hb); have n2_ := zA (Kd.N_below (Kd.N_elderB (by (with_reducible repeat (first | apply Kd.N_alloc | apply Kd.N_drewN | apply Kd.N_drew)); exact HO113.out) gb130 (Nat.le_of_eq hg.symm)) hb); have n3_ := zA (Kd.N_below (Kd.N_elderB (by (with_reducible repeat (first | apply Kd.N_alloc | apply Kd.N_drewN | apply Kd.N_drew)); exact HO118.out) gb130 (Nat.le_of_eq hg.symm)) hb); have n4_ := zA (Kd.N_below (Kd.N_elderB (by (with_reducible repeat (first | apply Kd.N_alloc | apply Kd.N_drewN | apply Kd.N_drew)); exact HO123.out) gb130 (Nat.le_of_eq hg.symm)) hb); have n5_ := zA (Kd.N_below (Kd.N_elderB (by (with_reducible repeat (first | apply Kd.N_alloc | apply Kd.N_drewN | apply Kd.N_drew)); exact HO128.out) gb130 (Nat.le_of_eq hg.symm)) hb); have n6_ := zA (qX BK110.out hb); have n7_ := zA (qX BK120.out hb); have n8_ := zA (zV qB hb); have n9_ := zA (hbox); have n10_ := zA ((qS : w.heap.size ≤ gb130)); have n11_ := zA ((qS : w.heap.size ≤ gb130)); have n12_ := zA ((by rw [hg]; exact zLq (qL BK110.out) : gb110 ≠ gb130)); have n13_ := zA ((by rw [hg]; exact zMq (qL BK110.out) : gb130 ≠ gb110)); have n14_ := zA ((by rw [hg]; exact zLq (qL BK120.out) : gb120 ≠ gb130)); have n15_ := zA ((by rw [hg]; exact zMq (qL BK120.out) : gb130 ≠ gb120)); clear HO103 HO108 HO113 HO118 HO123 HO128 BK110 BK120 HB; have HO103 := n0_; have HO108 := n1_; have HO113 := n2_; have HO118 := n3_; have HO123 := n4_; have HO128 := n5_; have BK110 := n6_; have BK120 := n7_; have HB := n8_; have BK130 := n9_; have GW130 := n10_; have GE130 := n11_; have NB110_130 := n12_; have NB130_110 := n13_; have NB120_130 := n14_; have NB130_120 := n15_; clear n0_ n1_ n2_ n3_ n4_ n5_ n6_ n7_ n8_ n9_ n10_ n11_ n12_ n13_ n14_ n15_ hb hbox hg; have hnb45 := NB130_110.out; have hnc45 := NB110_130.out; have hnb46 := NB130_120.out; have hnc46 := NB120_130.out; obtain ⟨_, _, _, _, _, _⟩ := qc3f BK130.out; obtain ⟨Ao48, co48, eo48⟩ := Kd.N_slice HO128.out; subst eo48; obtain ⟨_, _, _, _, _, _⟩ := qc3f BK110.out) | ((with_reducible refine zJq (f := 86) rfl ?_); refine goesL_ (some 32) rfl rfl Try.func86 (by kernel_rfl) rfl #[.agg #[.int .i64 t104, .int .i64 t105, .slice Ao33 t106.length co33], .string (⟨#[67]⟩ : ByteArray)] rfl (by (try simp only [zR, zS, zT]); first | done | rfl | (simp only [zP, zQ]; rfl)) ?_; (with_reducible refine (order_Find.calls 1000 t104 t105 _ _ t106 (⟨#[67]⟩ : ByteArray) t131 t132 true _ ?side1 ?side2 A7.out).mono ?_); (case side1 => refine (Kd.N_reads' (e := 71) (base := w.heap.size) (ok := fun k_ => (((((((True ∧ k_ ≠ gb110) ∧ some k_ ≠ (.slice Ao35 t111.length co35 : Value).ownBlock) ∧ some k_ ≠ (.slice Ao40 t116.length co40 : Value).ownBlock) ∧ k_ ≠ gb120) ∧ some k_ ≠ (.slice Ao42 t121.length co42 : Value).ownBlock) ∧ some k_ ≠ (.slice Ao48 t126.length co48 : Value).ownBlock) ∧ k_ ≠ gb130)) (n := t106.length) (c := co33) ?_).2.2; exact (by (with_reducible repeat (first | apply Kd.N_alloc | apply Kd.N_drewN | apply Kd.N_drew)); exact (Kd.N_mono (Kd.N_far (p := ⟨gb130, 2, none⟩) (Kd.N_far (p := ⟨gb130, 1, none⟩) (Kd.N_far (p := ⟨gb130, 0, none⟩) (Kd.N_mono HO108.out (fun k_ hk => (⟨hk, hk.2⟩ : _ ∧ k_ ≠ gb130))) (fun _ hk => hk.2) (.int .i64 t124)) (fun _ hk => hk.2) (.int .i64 t125)) (fun _ hk => hk.2) (.slice Ao48 t126.length co48)) (fun _ h_ => h_.1)))); (case side2 => exact (Kd.N_reads' HO108.out).2.1); rintro e w50 ⟨rfl, hb⟩; refine ⟨_, rfl, ?_⟩; have n0_ := zA (Kd.N_below (by (with_reducible repeat (first | apply Kd.N_alloc | apply Kd.N_drewN | apply Kd.N_drew)); exact (Kd.N_mono (Kd.N_far (p := ⟨gb130, 2, none⟩) (Kd.N_far (p := ⟨gb130, 1, none⟩) (Kd.N_far (p := ⟨gb130, 0, none⟩) (Kd.N_mono HO103.out (fun k_ hk => (⟨hk, hk.2⟩ : _ ∧ k_ ≠ gb130))) (fun _ hk => hk.2) (.int .i64 t124)) (fun _ hk => hk.2) (.int .i64 t125)) (fun _ hk => hk.2) (.slice Ao48 t126.length co48)) (fun _ h_ => h_.1))) hb); have n1_ := zA (Kd.N_below (by (with_reducible repeat (first | apply Kd.N_alloc | apply Kd.N_drewN | apply Kd.N_drew)); exact (Kd.N_mono (Kd.N_far (p := ⟨gb130, 2, none⟩) (Kd.N_far (p := ⟨gb130, 1, none⟩) (Kd.N_far (p := ⟨gb130, 0, none⟩) (Kd.N_mono HO108.out (fun k_ hk => (⟨hk, hk.2⟩ : _ ∧ k_ ≠ gb130))) (fun _ hk => hk.2) (.int .i64 t124)) (fun _ hk => hk.2) (.int .i64 t125)) (fun _ hk => hk.2) (.slice Ao48 t126.length co48)) (fun _ h_ => h_.1))) hb); have n2_ := zA (Kd.N_below (by (with_reducible repeat (first | apply Kd.N_alloc | apply Kd.N_drewN | apply Kd.N_drew)); exact (Kd.N_mono (Kd.N_far (p := ⟨gb130, 2, none⟩) (Kd.N_far (p := ⟨gb130, 1, none⟩) (Kd.N_far (p := ⟨gb130, 0, none⟩) (Kd.N_mono HO113.out (fun k_ hk => (⟨hk, hk.2⟩ : _ ∧ k_ ≠ gb130))) (fun _ hk => hk.2) (.int .i64 t124)) (fun _ hk => hk.2) (.int .i64 t125)) (fun _ hk => hk.2) (.slice Ao48 t126.length co48)) (fun _ h_ => h_.1))) hb); have n3_ := zA (Kd.N_below (by (with_reducible repeat (first | apply Kd.N_alloc | apply Kd.N_drewN | apply Kd.N_drew)); exact (Kd.N_mono (Kd.N_far (p := ⟨gb130, 2, none⟩) (Kd.N_far (p := ⟨gb130, 1, none⟩) (Kd.N_far (p := ⟨gb130, 0, none⟩) (Kd.N_mono HO118.out (fun k_ hk => (⟨hk, hk.2⟩ : _ ∧ k_ ≠ gb130))) (fun _ hk => hk.2) (.int .i64 t124)) (fun _ hk => hk.2) (.int .i64 t125)) (fun _ hk => hk.2) (.slice Ao48 t126.length co48)) (fun _ h_ => h_.1))) hb); have n4_ := zA (Kd.N_below (by (with_reducible repeat (first | apply Kd.N_alloc | apply Kd.N_drewN | apply Kd.N_drew)); exact (Kd.N_mono (Kd.N_far (p := ⟨gb130, 2, none⟩) (Kd.N_far (p := ⟨gb130, 1, none⟩) (Kd.N_far (p := ⟨gb130, 0, none⟩) (Kd.N_mono HO123.out (fun k_ hk => (⟨hk, hk.2⟩ : _ ∧ k_ ≠ gb130))) (fun _ hk => hk.2) (.int .i64 t124)) (fun _ hk => hk.2) (.int .i64 t125)) (fun _ hk => hk.2) (.slice Ao48 t126.length co48)) (fun _ h_ => h_.1))) hb); have n5_ := zA (Kd.N_below (by (with_reducible repeat (first | apply Kd.N_alloc | apply Kd.N_drewN | apply Kd.N_drew)); exact (Kd.N_mono (Kd.N_far (p := ⟨gb130, 2, none⟩) (Kd.N_far (p := ⟨gb130, 1, none⟩) (Kd.N_far (p := ⟨gb130, 0, none⟩) (Kd.N_mono HO128.out (fun k_ hk => (⟨hk, hk.2⟩ : _ ∧ k_ ≠ gb130))) (fun _ hk => hk.2) (.int .i64 t124)) (fun _ hk => hk.2) (.int .i64 t125)) (fun _ hk => hk.2) (.slice Ao48 t126.length co48)) (fun _ h_ => h_.1))) hb); have n6_ := zA (qX BK110.out hb); have n7_ := zA (qX BK120.out hb); have n8_ := zA (zX (g := gb130) (o := .cells #[.int .i64 t124, .int .i64 t125, .slice Ao48 t126.length co48] 99 (0, 0)) (qV BK130.out) hb); have n9_ := zA (zV qB hb); clear HO103 HO108 HO113 HO118 HO123 HO128 BK110 BK120 BK130 HB; have HO103 := n0_; have HO108 := n1_; have HO113 := n2_; have HO118 := n3_; have HO123 := n4_; have HO128 := n5_; have BK110 := n6_; have BK120 := n7_; have BK130 := n8_; have HB := n9_; clear n0_ n1_ n2_ n3_ n4_ n5_ n6_ n7_ n8_ n9_; (try clear hb); (try clear hb2); (try clear hk); (try clear hi); obtain ⟨_, _, _, _, _, _⟩ := qc3f BK110.out) | ((with_reducible refine zJq (f := 86) rfl ?_); refine goesL_ (some 38) rfl rfl Try.func86 (by kernel_rfl) rfl #[.agg #[.int .i64 t104, .int .i64 t105, .slice Ao33 t106.length co33], .string (⟨#[68]⟩ : ByteArray)] rfl (by (try simp only [zR, zS, zT]); first | done | rfl | (simp only [zP, zQ]; rfl)) ?_; (with_reducible refine (order_Find.calls 1000 t104 t105 _ _ t106 (⟨#[68]⟩ : ByteArray) t134 t135 false _ ?side1 ?side2 A8.out).mono ?_); (case side1 => repeat (first | exact (Kd.N_reads' HO108.out).2.2 | (with_reducible refine Kd.C_alloc ?_ _) | (with_reducible refine Kd.C_drewN ?_ _) | (with_reducible refine Kd.C_drew ?_))); (case side2 => exact (Kd.N_reads' HO108.out).2.1); rintro e w52 ⟨rfl, hb⟩; refine ⟨_, rfl, ?_⟩; have n0_ := zA (Kd.N_below (by (with_reducible repeat (first | apply Kd.N_alloc | apply Kd.N_drewN | apply Kd.N_drew)); exact HO103.out) hb); have n1_ := zA (Kd.N_below (by (with_reducible repeat (first | apply Kd.N_alloc | apply Kd.N_drewN | apply Kd.N_drew)); exact HO108.out) hb); have n2_ := zA (Kd.N_below (by (with_reducible repeat (first | apply Kd.N_alloc | apply Kd.N_drewN | apply Kd.N_drew)); exact HO113.out) hb); have n3_ := zA (Kd.N_below (by (with_reducible repeat (first | apply Kd.N_alloc | apply Kd.N_drewN | apply Kd.N_drew)); exact HO118.out) hb); have n4_ := zA (Kd.N_below (by (with_reducible repeat (first | apply Kd.N_alloc | apply Kd.N_drewN | apply Kd.N_drew)); exact HO123.out) hb); have n5_ := zA (Kd.N_below (by (with_reducible repeat (first | apply Kd.N_alloc | apply Kd.N_drewN | apply Kd.N_drew)); exact HO128.out) hb); have n6_ := zA (qX BK110.out hb); have n7_ := zA (qX BK120.out hb); have n8_ := zA (qX BK130.out hb); have n9_ := zA (zV qB hb); clear HO103 HO108 HO113 HO118 HO123 HO128 BK110 BK120 BK130 HB; have HO103 := n0_; have HO108 := n1_; have HO113 := n2_; have HO118 := n3_; have HO123 := n4_; have HO128 := n5_; have BK110 := n6_; have BK120 := n7_; have BK130 := n8_; have HB := n9_; clear n0_ n1_ n2_ n3_ n4_ n5_ n6_ n7_ n8_ n9_; (try clear hb); (try clear hb2); (try clear hk); (try clear hi); obtain ⟨_, _, _, _, _, _⟩ := qc3f BK110.out) | ((with_reducible refine zJq (f := 88) rfl ?_); refine goesL_ (some 44) rfl rfl Try.func88 (by kernel_rfl) rfl #[.agg #[.int .i64 t104, .int .i64 t105, .slice Ao33 t106.length co33]] rfl (by (try simp only [zR, zS, zT]); first | done | rfl | (simp only [zP, zQ]; rfl)) ?_; (with_reducible refine (order_Paid.calls 1000 t104 t105 _ _ t106 t137 t138 _ ?side1 ?side2 A9.out).mono ?_); (case side1 => repeat (first | exact (Kd.N_reads' HO108.out).2.2 | (with_reducible refine Kd.C_alloc ?_ _) | (with_reducible refine Kd.C_drewN ?_ _) | (with_reducible refine Kd.C_drew ?_))); (case side2 => exact (Kd.N_reads' HO108.out).2.1); rintro e w54 ⟨rfl, hb⟩; refine ⟨_, rfl, ?_⟩; have n0_ := zA (Kd.N_below (by (with_reducible repeat (first | apply Kd.N_alloc | apply Kd.N_drewN | apply Kd.N_drew)); exact HO103.out) hb); have n1_ := zA (Kd.N_below (by (with_reducible repeat (first | apply Kd.N_alloc | apply Kd.N_drewN | apply Kd.N_drew)); exact HO108.out) hb); have n2_ := zA (Kd.N_below (by (with_reducible repeat (first | apply Kd.N_alloc | apply Kd.N_drewN | apply Kd.N_drew)); exact HO113.out) hb); have n3_ := zA (Kd.N_below (by (with_reducible repeat (first | apply Kd.N_alloc | apply Kd.N_drewN | apply Kd.N_drew)); exact HO118.out) hb); have n4_ := zA (Kd.N_below (by (with_reducible repeat (first | apply Kd.N_alloc | apply Kd.N_drewN | apply Kd.N_drew)); exact HO123.out) hb); have n5_ := zA (Kd.N_below (by (with_reducible repeat (first | apply Kd.N_alloc | apply Kd.N_drewN | apply Kd.N_drew)); exact HO128.out) hb); have n6_ := zA (qX BK110.out hb); have n7_ := zA (qX BK120.out hb); have n8_ := zA (qX BK130.out hb); have n9_ := zA (zV qB hb); clear HO103 HO108 HO113 HO118 HO123 HO128 BK110 BK120 BK130 HB; have HO103 := n0_; have HO108 := n1_; have HO113 := n2_; have HO118 := n3_; have HO123 := n4_; have HO128 := n5_; have BK110 := n6_; have BK120 := n7_; have BK130 := n8_; have HB := n9_; clear n0_ n1_ n2_ n3_ n4_ n5_ n6_ n7_ n8_ n9_; (try clear hb); (try clear hb2); (try clear hk); (try clear hi); obtain ⟨_, _, _, _, _, _⟩ := qc3f BK110.out) | (go_at_call 93; (with_reducible refine (order_Serials.calls 1000 t104 t105 _ _ t106 t139 _ ?side1 ?side2 A19.out).mono ?_); (case side1 => repeat (first | exact (Kd.N_reads' HO108.out).2.2 | (with_reducible refine Kd.C_alloc ?_ _) | (with_reducible refine Kd.C_drewN ?_ _) | (with_reducible refine Kd.C_drew ?_))); (case side2 => exact (Kd.N_reads' HO108.out).2.1); rintro e w56 ⟨v140, rfl, ho0, hb⟩; have n0_ := zA (Kd.N_elder' (by (with_reducible repeat (first | apply Kd.N_alloc | apply Kd.N_drewN | apply Kd.N_drew)); exact HO103.out) (Kd.R_base ho0) hb); have n1_ := zA (Kd.N_elder' (by (with_reducible repeat (first | apply Kd.N_alloc | apply Kd.N_drewN | apply Kd.N_drew)); exact HO108.out) (Kd.R_base ho0) hb); have n2_ := zA (Kd.N_elder' (by (with_reducible repeat (first | apply Kd.N_alloc | apply Kd.N_drewN | apply Kd.N_drew)); exact HO113.out) (Kd.R_base ho0) hb); have n3_ := zA (Kd.N_elder' (by (with_reducible repeat (first | apply Kd.N_alloc | apply Kd.N_drewN | apply Kd.N_drew)); exact HO118.out) (Kd.R_base ho0) hb); have n4_ := zA (Kd.N_elder' (by (with_reducible repeat (first | apply Kd.N_alloc | apply Kd.N_drewN | apply Kd.N_drew)); exact HO123.out) (Kd.R_base ho0) hb); have n5_ := zA (Kd.N_elder' (by (with_reducible repeat (first | apply Kd.N_alloc | apply Kd.N_drewN | apply Kd.N_drew)); exact HO128.out) (Kd.R_base ho0) hb); have n6_ := zA (Kd.R_lower ho0 (zW qB)); have n7_ := zA (qX BK110.out hb); have n8_ := zA (qX BK120.out hb); have n9_ := zA (qX BK130.out hb); have n10_ := zA (zV qB hb); clear HO103 HO108 HO113 HO118 HO123 HO128 BK110 BK120 BK130 HB; have HO103 := n0_; have HO108 := n1_; have HO113 := n2_; have HO118 := n3_; have HO123 := n4_; have HO128 := n5_; have HO141 := n6_; have BK110 := n7_; have BK120 := n8_; have BK130 := n9_; have HB := n10_; clear n0_ n1_ n2_ n3_ n4_ n5_ n6_ n7_ n8_ n9_ n10_; (try clear hb); (try clear hb2); (try clear hk); (try clear hi); (try clear ho0)) | ((with_reducible refine gate_dst (N := 83) rfl ?_); (try (refine gate_guard (by rfl) ?_; dsimp only)); refine Kd.R_lit Kd.string _ 9 ?hg (N := 83) ?hd (xs := ([(⟨#[65]⟩ : ByteArray), (⟨#[66]⟩ : ByteArray), (⟨#[67]⟩ : ByteArray)] : List ByteArray)) (inner := [.string (⟨#[65]⟩ : ByteArray), .string (⟨#[66]⟩ : ByteArray), .string (⟨#[67]⟩ : ByteArray)]) (ok := fun _ => True) (okp := fun _ => True) ?hr ?hp (fun _ hk => hk) trivial (Below.refl _ _) (Nat.le_refl _) (by simp) ?_; (case hd => rfl); (case hg => rfl); (case hr => first | (go_simp; done) | (go_simp; rfl)); (case hp => exact (Reps.one (show Kd.M Kd.string _ _ _ (⟨#[65]⟩ : ByteArray) [.string (⟨#[65]⟩ : ByteArray)] from rfl) (Reps.one (show Kd.M Kd.string _ _ _ (⟨#[66]⟩ : ByteArray) [.string (⟨#[66]⟩ : ByteArray)] from rfl) (Reps.one (show Kd.M Kd.string _ _ _ (⟨#[67]⟩ : ByteArray) [.string (⟨#[67]⟩ : ByteArray)] from rfl) (Reps.none _ _))))); intro v143 w57 ho58 hb hg_ hnew_; clear hg_ hnew_; (first | rw [← Ny142.out] at ho58 | (simp only [Int.reduceToNat] at ho58; rw [← Ny142.out] at ho58)); have n0_ := zA (Kd.N_elder' (by (with_reducible repeat (first | apply Kd.N_alloc | apply Kd.N_drewN | apply Kd.N_drew)); exact HO103.out) (Kd.R_base ho58) hb); have n1_ := zA (Kd.N_elder' (by (with_reducible repeat (first | apply Kd.N_alloc | apply Kd.N_drewN | apply Kd.N_drew)); exact HO108.out) (Kd.R_base ho58) hb); have n2_ := zA (Kd.N_elder' (by (with_reducible repeat (first | apply Kd.N_alloc | apply Kd.N_drewN | apply Kd.N_drew)); exact HO113.out) (Kd.R_base ho58) hb); have n3_ := zA (Kd.N_elder' (by (with_reducible repeat (first | apply Kd.N_alloc | apply Kd.N_drewN | apply Kd.N_drew)); exact HO118.out) (Kd.R_base ho58) hb); have n4_ := zA (Kd.N_elder' (by (with_reducible repeat (first | apply Kd.N_alloc | apply Kd.N_drewN | apply Kd.N_drew)); exact HO123.out) (Kd.R_base ho58) hb); have n5_ := zA (Kd.N_elder' (by (with_reducible repeat (first | apply Kd.N_alloc | apply Kd.N_drewN | apply Kd.N_drew)); exact HO128.out) (Kd.R_base ho58) hb); have n6_ := zA (Kd.R_elder' (by (with_reducible repeat (first | apply Kd.R_alloc | apply Kd.R_drewN | apply Kd.R_drew)); exact HO141.out) (Kd.R_base ho58) hb); have n7_ := zA (Kd.R_lower (Kd.R_new' ho58 (Kd.R_lt (by (with_reducible repeat (first | apply Kd.R_alloc | apply Kd.R_drewN | apply Kd.R_drew)); exact HO141.out))) (zW qB)); have n8_ := zA (qX BK110.out hb); have n9_ := zA (qX BK120.out hb); have n10_ := zA (qX BK130.out hb); have n11_ := zA (zV qB hb); clear HO103 HO108 HO113 HO118 HO123 HO128 HO141 BK110 BK120 BK130 HB; have HO103 := n0_; have HO108 := n1_; have HO113 := n2_; have HO118 := n3_; have HO123 := n4_; have HO128 := n5_; have HO141 := n6_; have HO144 := n7_; have BK110 := n8_; have BK120 := n9_; have BK130 := n10_; have HB := n11_; clear n0_ n1_ n2_ n3_ n4_ n5_ n6_ n7_ n8_ n9_ n10_ n11_ hb ho58; obtain ⟨Ao59, co59, eo59⟩ := Kd.R_slice HO141.out; subst eo59; obtain ⟨Ao60, co60, eo60⟩ := Kd.R_slice HO144.out; subst eo60) | (go_at_call 92; (with_reducible refine (backhaulref01_SameTexts.calls 1000 _ _ t139 _ _ y142 true _ ?side1 ?side2 ?side3 ?side4 A20.out).mono ?_); (case side1 => repeat (first | exact (Kd.R_reads' HO141.out).2.2 | (with_reducible refine Kd.C_alloc ?_ _) | (with_reducible refine Kd.C_drewN ?_ _) | (with_reducible refine Kd.C_drew ?_))); (case side2 => exact (Kd.R_reads' HO141.out).2.1); (case side3 => repeat (first | exact (Kd.R_reads' HO144.out).2.2 | (with_reducible refine Kd.C_alloc ?_ _) | (with_reducible refine Kd.C_drewN ?_ _) | (with_reducible refine Kd.C_drew ?_))); (case side4 => exact (Kd.R_reads' HO144.out).2.1); rintro e w' ⟨rfl, ⟨nd, rfl⟩⟩; obtain ⟨_, _, _, _, _, _⟩ := qc3f BK110.out) | (go_at_call 90; (with_reducible refine (order_Check.calls 1000 t104 t105 _ _ t106 t146 _ ?side1 ?side2 A22.out).mono ?_); (case side1 => repeat (first | exact (Kd.N_reads' HO108.out).2.2 | (with_reducible refine Kd.C_alloc ?_ _) | (with_reducible refine Kd.C_drewN ?_ _) | (with_reducible refine Kd.C_drew ?_))); (case side2 => exact (Kd.N_reads' HO108.out).2.1); rintro e w62 ⟨rfl, hb⟩; have n0_ := zA (Kd.N_below (by (with_reducible repeat (first | apply Kd.N_alloc | apply Kd.N_drewN | apply Kd.N_drew)); exact HO103.out) hb); have n1_ := zA (Kd.N_below (by (with_reducible repeat (first | apply Kd.N_alloc | apply Kd.N_drewN | apply Kd.N_drew)); exact HO108.out) hb); have n2_ := zA (Kd.N_below (by (with_reducible repeat (first | apply Kd.N_alloc | apply Kd.N_drewN | apply Kd.N_drew)); exact HO113.out) hb); have n3_ := zA (Kd.N_below (by (with_reducible repeat (first | apply Kd.N_alloc | apply Kd.N_drewN | apply Kd.N_drew)); exact HO118.out) hb); have n4_ := zA (Kd.N_below (by (with_reducible repeat (first | apply Kd.N_alloc | apply Kd.N_drewN | apply Kd.N_drew)); exact HO123.out) hb); have n5_ := zA (Kd.N_below (by (with_reducible repeat (first | apply Kd.N_alloc | apply Kd.N_drewN | apply Kd.N_drew)); exact HO128.out) hb); have n6_ := zA (Kd.R_below (by (with_reducible repeat (first | apply Kd.R_alloc | apply Kd.R_drewN | apply Kd.R_drew)); exact HO141.out) hb); have n7_ := zA (Kd.R_below (by (with_reducible repeat (first | apply Kd.R_alloc | apply Kd.R_drewN | apply Kd.R_drew)); exact HO144.out) hb); have n8_ := zA (qX BK110.out hb); have n9_ := zA (qX BK120.out hb); have n10_ := zA (qX BK130.out hb); have n11_ := zA (zV qB hb); clear HO103 HO108 HO113 HO118 HO123 HO128 HO141 HO144 BK110 BK120 BK130 HB; have HO103 := n0_; have HO108 := n1_; have HO113 := n2_; have HO118 := n3_; have HO123 := n4_; have HO128 := n5_; have HO141 := n6_; have HO144 := n7_; have BK110 := n8_; have BK120 := n9_; have BK130 := n10_; have HB := n11_; clear n0_ n1_ n2_ n3_ n4_ n5_ n6_ n7_ n8_ n9_ n10_ n11_; (try clear hb); (try clear hb2); (try clear hk); (try clear hi); obtain ⟨_, _, _, _, _, _⟩ := qc3f BK110.out) | (go_at_call 95; (with_reducible refine (order_Same.calls 1000 t104 t105 _ _ t106 t104 t105 _ _ t106 true _ ?side1 ?side2 ?side3 ?side4 A24.out).mono ?_); (case side1 => repeat (first | exact (Kd.N_reads' HO108.out).2.2 | (with_reducible refine Kd.C_alloc ?_ _) | (with_reducible refine Kd.C_drewN ?_ _) | (with_reducible refine Kd.C_drew ?_))); (case side2 => exact (Kd.N_reads' HO108.out).2.1); (case side3 => repeat (first | exact (Kd.N_reads' HO108.out).2.2 | (with_reducible refine Kd.C_alloc ?_ _) | (with_reducible refine Kd.C_drewN ?_ _) | (with_reducible refine Kd.C_drew ?_))); (case side4 => exact (Kd.N_reads' HO108.out).2.1); rintro e w64 ⟨rfl, hb⟩; have n0_ := zA (Kd.N_below (by (with_reducible repeat (first | apply Kd.N_alloc | apply Kd.N_drewN | apply Kd.N_drew)); exact HO103.out) hb); have n1_ := zA (Kd.N_below (by (with_reducible repeat (first | apply Kd.N_alloc | apply Kd.N_drewN | apply Kd.N_drew)); exact HO108.out) hb); have n2_ := zA (Kd.N_below (by (with_reducible repeat (first | apply Kd.N_alloc | apply Kd.N_drewN | apply Kd.N_drew)); exact HO113.out) hb); have n3_ := zA (Kd.N_below (by (with_reducible repeat (first | apply Kd.N_alloc | apply Kd.N_drewN | apply Kd.N_drew)); exact HO118.out) hb); have n4_ := zA (Kd.N_below (by (with_reducible repeat (first | apply Kd.N_alloc | apply Kd.N_drewN | apply Kd.N_drew)); exact HO123.out) hb); have n5_ := zA (Kd.N_below (by (with_reducible repeat (first | apply Kd.N_alloc | apply Kd.N_drewN | apply Kd.N_drew)); exact HO128.out) hb); have n6_ := zA (Kd.R_below (by (with_reducible repeat (first | apply Kd.R_alloc | apply Kd.R_drewN | apply Kd.R_drew)); exact HO141.out) hb); have n7_ := zA (Kd.R_below (by (with_reducible repeat (first | apply Kd.R_alloc | apply Kd.R_drewN | apply Kd.R_drew)); exact HO144.out) hb); have n8_ := zA (qX BK110.out hb); have n9_ := zA (qX BK120.out hb); have n10_ := zA (qX BK130.out hb); have n11_ := zA (zV qB hb); clear HO103 HO108 HO113 HO118 HO123 HO128 HO141 HO144 BK110 BK120 BK130 HB; have HO103 := n0_; have HO108 := n1_; have HO113 := n2_; have HO118 := n3_; have HO123 := n4_; have HO128 := n5_; have HO141 := n6_; have HO144 := n7_; have BK110 := n8_; have BK120 := n9_; have BK130 := n10_; have HB := n11_; clear n0_ n1_ n2_ n3_ n4_ n5_ n6_ n7_ n8_ n9_ n10_ n11_; (try clear hb); (try clear hb2); (try clear hk); (try clear hi)) | (go_at_call 90; (refine (order_Check.calls 1000 0 0 _ _ ([] : List (S71)) t148 _ ?side1 ?side2 A26.out).mono ?_); (case side1 => exact Kd.C_nil _ _); (case side2 => exact Nat.le_refl _); rintro e w65 ⟨rfl, hb⟩; have n0_ := zA (Kd.N_below (by (with_reducible repeat (first | apply Kd.N_alloc | apply Kd.N_drewN | apply Kd.N_drew)); exact HO103.out) hb); have n1_ := zA (Kd.N_below (by (with_reducible repeat (first | apply Kd.N_alloc | apply Kd.N_drewN | apply Kd.N_drew)); exact HO108.out) hb); have n2_ := zA (Kd.N_below (by (with_reducible repeat (first | apply Kd.N_alloc | apply Kd.N_drewN | apply Kd.N_drew)); exact HO113.out) hb); have n3_ := zA (Kd.N_below (by (with_reducible repeat (first | apply Kd.N_alloc | apply Kd.N_drewN | apply Kd.N_drew)); exact HO118.out) hb); have n4_ := zA (Kd.N_below (by (with_reducible repeat (first | apply Kd.N_alloc | apply Kd.N_drewN | apply Kd.N_drew)); exact HO123.out) hb); have n5_ := zA (Kd.N_below (by (with_reducible repeat (first | apply Kd.N_alloc | apply Kd.N_drewN | apply Kd.N_drew)); exact HO128.out) hb); have n6_ := zA (Kd.R_below (by (with_reducible repeat (first | apply Kd.R_alloc | apply Kd.R_drewN | apply Kd.R_drew)); exact HO141.out) hb); have n7_ := zA (Kd.R_below (by (with_reducible repeat (first | apply Kd.R_alloc | apply Kd.R_drewN | apply Kd.R_drew)); exact HO144.out) hb); have n8_ := zA (qX BK110.out hb); have n9_ := zA (qX BK120.out hb); have n10_ := zA (qX BK130.out hb); have n11_ := zA (zV qB hb); clear HO103 HO108 HO113 HO118 HO123 HO128 HO141 HO144 BK110 BK120 BK130 HB; have HO103 := n0_; have HO108 := n1_; have HO113 := n2_; have HO118 := n3_; have HO123 := n4_; have HO128 := n5_; have HO141 := n6_; have HO144 := n7_; have BK110 := n8_; have BK120 := n9_; have BK130 := n10_; have HB := n11_; clear n0_ n1_ n2_ n3_ n4_ n5_ n6_ n7_ n8_ n9_ n10_ n11_; (try clear hb); (try clear hb2); (try clear hk); (try clear hi)))
                          go_ret; exact ⟨qE, qB⟩
                        rw [if_neg c27] at H; have c27b0 : (t148 == 40) = false := beq_eq_false_iff_ne.mpr c27; have c27b1 : (t148 != 40) = true := bne_iff_ne.mpr c27; exact absurd H (by simp)
                      replace c25 := Bool.eq_false_iff.mpr c25; subst c25; have H1 : (some false) = some true := by first | (rw [if_neg (show ¬ (false = true) by decide)] at H; exact H) | rfl
                      clear H; have H := H1; clear H1; exact absurd H (by simp)
                    rw [if_neg c23] at H; have c23b0 : (t146 == 0) = false := beq_eq_false_iff_ne.mpr c23; have c23b1 : (t146 != 0) = true := bne_iff_ne.mpr c23; exact absurd H (by simp)
                  replace c21 := Bool.eq_false_iff.mpr c21; subst c21; have H1 : (some false) = some true := by first | (rw [if_neg (show ¬ (false = true) by decide)] at H; exact H) | rfl
                  clear H; have H := H1; clear H1; exact absurd H (by simp)
                rw [if_neg c18] at H; have c18b0 : (t138 == 0) = false := beq_eq_false_iff_ne.mpr c18; have c18b1 : (t138 != 0) = true := bne_iff_ne.mpr c18; exact absurd H (by simp)
              rw [if_neg c17] at H; have c17b0 : (t137 == 319) = false := beq_eq_false_iff_ne.mpr c17; have c17b1 : (t137 != 319) = true := bne_iff_ne.mpr c17; exact absurd H (by simp)
            replace c15 := Bool.eq_false_iff.mpr c15; subst c15; have H1 : (some false) = some true := by first | (rw [if_neg (show ¬ (false = true) by decide)] at H; exact H) | rfl
            clear H; have H := H1; clear H1; exact absurd H (by simp)
          rw [if_neg c14] at H; have c14b0 : (t132 == 1) = false := beq_eq_false_iff_ne.mpr c14; have c14b1 : (t132 != 1) = true := bne_iff_ne.mpr c14; exact absurd H (by simp)
        rw [if_neg c13] at H; have c13b0 : (t131 == 1) = false := beq_eq_false_iff_ne.mpr c13; have c13b1 : (t131 != 1) = true := bne_iff_ne.mpr c13; exact absurd H (by simp)
      rw [if_neg c12] at H; have c12b0 : (t129 == 2) = false := beq_eq_false_iff_ne.mpr c12; have c12b1 : (t129 != 2) = true := bne_iff_ne.mpr c12; exact absurd H (by simp)
    rw [if_neg c11] at H; have c11b0 : (t119 == 32) = false := beq_eq_false_iff_ne.mpr c11; have c11b1 : (t119 != 32) = true := bne_iff_ne.mpr c11; exact absurd H (by simp)
  rw [if_neg c10] at H
  have c10b0 : (t109 == 0) = false := beq_eq_false_iff_ne.mpr c10
  have c10b1 : (t109 != 0) = true := bne_iff_ne.mpr c10
  exact absurd H (by simp)
def backhaullaw26_OrderDeals.l0 : Nat → List (S71) → Int → Int → Int → Int → Int → Int → Int → Int → List (S71) → Option (Bool)
  | 0, _, _, _, _, _, _, _, _, _, _ => none
  | k + 1, x0, x7, x8, x102000, x102001, x102002, x102003, x111000, x111001, x111002 => if x8 < (x0.length : Int) then (if 0 ≤ x8 then (backhaullaw26_OrderDeals.l0 k x0 (wrap64 (x7 + ((rd_T71 x0 x8).f1))) (wrap64 (x8 + 1)) x102000 x102001 x102002 x102003 x111000 x111001 x111002) else (none)) else ((order_Paid.f k x111000 x111001 x111002).bind fun bt113 => ((order_Check.f k x111000 x111001 x111002).bind fun t115 => (if t115 = 0 then (if bt113.2 = 0 then (if bt113.1 = (wrap64 ((wrap64 (x7 - x102000)) + x102001)) then (if x111000 = x102002 then (if x111001 = x102003 then (if (x111002.length : Int) = (x0.length : Int) then ((backhaullaw26_awake.f).bind fun t116 => (if t116 = true then (some true) else (some false))) else (some false)) else (some false)) else (some false)) else (some false)) else (some false)) else (some false))))
def backhaullaw26_OrderDeals.f (k : Nat) (l0 : List (S71)) (a1_0 : Int) (a1_1 : Int) (a1_2 : Int) (a1_3 : Int) : Option (Bool) := (backhaullaw21_Few.f k l0).bind fun t102 => (if t102 = true then ((order_Make.f k a1_2 a1_3 l0 a1_0 a1_1).bind fun bt104 => (if bt104.2.2.2 = 0 then (backhaullaw26_OrderDeals.l0 k l0 0 0 a1_0 a1_1 a1_2 a1_3 bt104.1 bt104.2.1 bt104.2.2.1) else (if (bt104.2.2.1.length : Int) = 0 then (if bt104.1 = 0 then ((backhaullaw26_awake.f).bind fun t111 => (if t111 = true then (some true) else (some false))) else (some false)) else (some false)))) else ((backhaullaw26_awake.f).bind fun t103 => (if t103 = true then (some true) else (some false))))
theorem backhaullaw26_OrderDeals.mono_l : ∀ k, (∀ y0 y1 y2 y3 y4 y5 y6 y7 y8 y9, LeO (backhaullaw26_OrderDeals.l0 k y0 y1 y2 y3 y4 y5 y6 y7 y8 y9) (backhaullaw26_OrderDeals.l0 (k + 1) y0 y1 y2 y3 y4 y5 y6 y7 y8 y9))
  | 0 => fun _ _ _ _ _ _ _ _ _ _ r h => by simp [backhaullaw26_OrderDeals.l0] at h
  | k + 1 => by
    have ih0 := backhaullaw26_OrderDeals.mono_l k
    intro y0 y1 y2 y3 y4 y5 y6 y7 y8 y9
    unfold backhaullaw26_OrderDeals.l0
    repeat' first
    | (with_reducible exact ih0 _ _ _ _ _ _ _ _ _ _)
    | (with_reducible exact backhaullaw21_Few.mono _ _)
    | (with_reducible exact order_Check.mono _ _ _ _)
    | (with_reducible exact order_Make.mono _ _ _ _ _ _)
    | (with_reducible exact order_Paid.mono _ _ _ _)
    | (with_reducible exact LeO.refl _)
    | (with_reducible exact LeO.none _)
    | (with_reducible refine LeO.ite ?_ ?_)
    | (with_reducible refine LeO.bind ?_ (fun _ => ?_))
    | exact ih0 _ _ _ _ _ _ _ _ _ _
    | exact backhaullaw21_Few.mono _ _
    | exact order_Check.mono _ _ _ _
    | exact order_Make.mono _ _ _ _ _ _
    | exact order_Paid.mono _ _ _ _
    | exact LeO.none _
    | refine LeO.ite ?_ ?_
    | refine LeO.bind ?_ (fun _ => ?_)
theorem backhaullaw26_OrderDeals.mono : ∀ a0 a1 a2 a3 a4 k, LeO (backhaullaw26_OrderDeals.f k a0 a1 a2 a3 a4) (backhaullaw26_OrderDeals.f (k + 1) a0 a1 a2 a3 a4) := by
  intro a0 a1 a2 a3 a4 k
  have ih0 := backhaullaw26_OrderDeals.mono_l k
  unfold backhaullaw26_OrderDeals.f
  repeat' first
      | (with_reducible exact ih0 _ _ _ _ _ _ _ _ _ _)
      | (with_reducible exact backhaullaw21_Few.mono _ _)
      | (with_reducible exact order_Check.mono _ _ _ _)
      | (with_reducible exact order_Make.mono _ _ _ _ _ _)
      | (with_reducible exact order_Paid.mono _ _ _ _)
      | (with_reducible exact LeO.refl _)
      | (with_reducible exact LeO.none _)
      | (with_reducible refine LeO.ite ?_ ?_)
      | (with_reducible refine LeO.bind ?_ (fun _ => ?_))
      | exact ih0 _ _ _ _ _ _ _ _ _ _
      | exact backhaullaw21_Few.mono _ _
      | exact order_Check.mono _ _ _ _
      | exact order_Make.mono _ _ _ _ _ _
      | exact order_Paid.mono _ _ _ _
      | exact LeO.none _
      | refine LeO.ite ?_ ?_
      | refine LeO.bind ?_ (fun _ => ?_)
set_option maxHeartbeats 8000000 in
set_option maxRecDepth 100000 in
theorem backhaullaw26_OrderDeals.calls (k : Nat) (A0 : Option Addr) (c0 : Nat) (l0 : List (S71)) (a1_0 : Int) (a1_1 : Int) (a1_2 : Int) (a1_3 : Int) (w : World) (hr0 : Kd.C k71 w A0 l0.length l0) (hc0 : l0.length ≤ c0) (h : backhaullaw26_OrderDeals.f k l0 a1_0 a1_1 a1_2 a1_3 = some true) :
    Calls Try.prog 22 #[.slice A0 l0.length c0, .agg #[.int .i64 a1_0, .int .i64 a1_1, .int .i64 a1_2, .int .i64 a1_3]] w fun e w' => e = .returned (.bool true) ∧ Below w.heap.size w w' := by
  have hu97 := Try.underlying97
  have hu99 := Try.underlying99
  have HR0 := zA hr0
  have HC0 := zA hc0
  clear hr0 hc0
  have HB := zA (Below.refl w.heap.size w)
  have H : ((backhaullaw21_Few.f k l0).bind fun t102 => (if t102 = true then ((order_Make.f k a1_2 a1_3 l0 a1_0 a1_1).bind fun bt104 => (if bt104.2.2.2 = 0 then (backhaullaw26_OrderDeals.l0 k l0 0 0 a1_0 a1_1 a1_2 a1_3 bt104.1 bt104.2.1 bt104.2.2.1) else (if (bt104.2.2.1.length : Int) = 0 then (if bt104.1 = 0 then ((backhaullaw26_awake.f).bind fun t111 => (if t111 = true then (some true) else (some false))) else (some false)) else (some false)))) else ((backhaullaw26_awake.f).bind fun t103 => (if t103 = true then (some true) else (some false))))) = some true := h
  clear h
  replace H := Option.bind_eq_some_iff.mp H
  obtain ⟨t102, A30, H⟩ := H
  replace H : (if t102 = true then ((order_Make.f k a1_2 a1_3 l0 a1_0 a1_1).bind fun bt104 => (if bt104.2.2.2 = 0 then (backhaullaw26_OrderDeals.l0 k l0 0 0 a1_0 a1_1 a1_2 a1_3 bt104.1 bt104.2.1 bt104.2.2.1) else (if (bt104.2.2.1.length : Int) = 0 then (if bt104.1 = 0 then ((backhaullaw26_awake.f).bind fun t111 => (if t111 = true then (some true) else (some false))) else (some false)) else (some false)))) else ((backhaullaw26_awake.f).bind fun t103 => (if t103 = true then (some true) else (some false)))) = some true := H
  have A3 := zA A30
  clear A30
  by_cases c4 : t102 = true
  · subst c4
    have H1 : ((order_Make.f k a1_2 a1_3 l0 a1_0 a1_1).bind fun bt104 => (if bt104.2.2.2 = 0 then (backhaullaw26_OrderDeals.l0 k l0 0 0 a1_0 a1_1 a1_2 a1_3 bt104.1 bt104.2.1 bt104.2.2.1) else (if (bt104.2.2.1.length : Int) = 0 then (if bt104.1 = 0 then ((backhaullaw26_awake.f).bind fun t111 => (if t111 = true then (some true) else (some false))) else (some false)) else (some false)))) = some true := by first | (rw [if_pos rfl] at H; exact H) | rfl
    clear H; have H := H1; clear H1; replace H := Option.bind_eq_some_iff.mp H; obtain ⟨⟨t104, t105, t106, t109⟩, A50, H⟩ := H; replace H : (if t109 = 0 then (backhaullaw26_OrderDeals.l0 k l0 0 0 a1_0 a1_1 a1_2 a1_3 t104 t105 t106) else (if (t106.length : Int) = 0 then (if t104 = 0 then ((backhaullaw26_awake.f).bind fun t111 => (if t111 = true then (some true) else (some false))) else (some false)) else (some false))) = some true := H; have A5 := zA A50; clear A50; by_cases c6 : t109 = 0
    · rw [if_pos c6] at H
      have c6b0 : (t109 == 0) = true := beq_iff_eq.mpr c6; have c6b1 : (t109 != 0) = false := bne_eq_false_iff_eq.mpr c6; clear c6; have H' := zA H; clear H; go_enter Try.func22, Try.ntmps22; go_wp2_with (first | ((with_reducible refine gate_dst (N := 3) rfl ?_); (try (refine gate_guard (by rfl) ?_; dsimp only)); refine box_event qr (N := 3) qr (cs := #[.int .i64 a1_0, .int .i64 a1_1, .int .i64 a1_2, .int .i64 a1_3]) (t := 97) qg ?_; intro gb101 hg w7 hbox hb; have n0_ := zA (zV qB hb); have n1_ := zA (hbox); have n2_ := zA ((qS : w.heap.size ≤ gb101)); have n3_ := zA ((qS : w.heap.size ≤ gb101)); clear HB; have HB := n0_; have BK101 := n1_; have GW101 := n2_; have GE101 := n3_; clear n0_ n1_ n2_ n3_ hb hbox hg) | ((with_reducible refine zJq (f := 60) rfl ?_); refine goesL_ (some 12) rfl rfl Try.func60 (by kernel_rfl) rfl #[.slice A0 l0.length c0] rfl (by (try simp only [zR, zS, zT]); first | done | rfl | (simp only [zP, zQ]; rfl)) ?_; (with_reducible refine (backhaullaw21_Few.calls k _ _ l0 true _ ?side1 ?side2 A3.out).mono ?_); (case side1 => exact qC (Kd.C_below HR0.out HB.out)); (case side2 => exact HC0.out); rintro e w' ⟨rfl, ⟨nd, rfl⟩⟩; refine ⟨_, rfl, ?_⟩; (try (rw [drewN_self w7]; generalize hq_ : World.drewN w7 _ = w7; have n0_ : Aside0 (w7.heap[gb101]? = some (.cells #[.int .i64 a1_0, .int .i64 a1_1, .int .i64 a1_2, .int .i64 a1_3] 97 (0, 0))) := ⟨by rw [← hq_]; exact (qW BK101.out)⟩; have n1_ : Aside0 (Below w.heap.size w w7) := ⟨by rw [← hq_]; exact qB⟩; clear BK101 HB hq_; have BK101 := n0_; have HB := n1_; clear n0_ n1_)); obtain ⟨_, _, _, _, _, _, _, _⟩ := qc4f BK101.out) | ((with_reducible refine zJq (f := 83) rfl ?_); refine goesL_ (some 25) rfl rfl Try.func83 (by kernel_rfl) rfl #[.int .i64 a1_2, .int .i64 a1_3, .slice A0 l0.length c0, .int .i64 a1_0, .int .i64 a1_1] rfl (by (try simp only [zR, zS, zT]); first | done | rfl | (simp only [zP, zQ]; rfl)) ?_; (with_reducible refine (order_Make.calls k a1_2 a1_3 (fun k_ => k_ < w.heap.size) _ _ l0 a1_0 a1_1 t104 t105 t106 t109 _ ?side1 A5.out).mono ?_); (case side1 => exact Kd.V_mk HC0.out (Kd.F_below (Kd.C_F k71_heap HR0.out) qB)); rintro e w9 ⟨v107, rfl, ho0, hb⟩; refine ⟨_, rfl, ?_⟩; have n0_ := zA (Kd.N_lower (Kd.N_mono (ok' := fun k_ => k_ ≠ gb101) ho0 (fun k_ hk_ => Or.elim hk_ (fun hs_ => fun e_ => Nat.not_le.2 hs_ (by rw [e_]; exact GW101.out)) (fun hn_ => (Kd.freshB (g := gb101) (o := .cells #[.int .i64 a1_0, .int .i64 a1_1, .int .i64 a1_2, .int .i64 a1_3] 97 (0, 0)) (qW BK101.out) k_ hn_)))) (zW qB)); have n1_ := zA (qX BK101.out hb); have n2_ := zA (zV qB hb); clear BK101 HB; have HO108 := n0_; have BK101 := n1_; have HB := n2_; clear n0_ n1_ n2_; (try clear hb); (try clear hb2); (try clear hk); (try clear hi); (try clear ho0)) | ((with_reducible refine gate_dst (N := 5) rfl ?_); (try (refine gate_guard (by rfl) ?_; dsimp only)); refine box_event qr (N := 5) qr (cs := #[.int .i64 0, .int .i64 0, .slice none 0 0]) (t := 99) qg ?_; intro gb110 hg w10 hbox hb; have n0_ := zA (Kd.N_below (Kd.N_elderB (by (with_reducible repeat (first | apply Kd.N_alloc | apply Kd.N_drewN | apply Kd.N_drew)); exact HO108.out) gb110 (Nat.le_of_eq hg.symm)) hb); have n1_ := zA (qX BK101.out hb); have n2_ := zA (zV qB hb); have n3_ := zA (hbox); have n4_ := zA ((qS : w.heap.size ≤ gb110)); have n5_ := zA ((qS : w.heap.size ≤ gb110)); have n6_ := zA ((by rw [hg]; exact zLq (qL BK101.out) : gb101 ≠ gb110)); have n7_ := zA ((by rw [hg]; exact zMq (qL BK101.out) : gb110 ≠ gb101)); clear HO108 BK101 HB; have HO108 := n0_; have BK101 := n1_; have HB := n2_; have BK110 := n3_; have GW110 := n4_; have GE110 := n5_; have NB101_110 := n6_; have NB110_101 := n7_; clear n0_ n1_ n2_ n3_ n4_ n5_ n6_ n7_ hb hbox hg; have hnb11 := NB110_101.out; have hnc11 := NB101_110.out; obtain ⟨_, _, _, _, _, _⟩ := qc3f BK110.out; obtain ⟨Ao13, co13, eo13⟩ := Kd.N_slice HO108.out; subst eo13))
      go_loopg [7, 8] k (fun kq v7 v8 w' => ∃ (x7_1 : Int) (x8_1 : Int), v7 = .int .i64 x7_1 ∧ v8 = .int .i64 x8_1 ∧ Aside0 (backhaullaw26_OrderDeals.l0 kq l0 x7_1 x8_1 a1_0 a1_1 a1_2 a1_3 t104 t105 t106 = some true) ∧ Aside0 (kq ≤ k) ∧ Aside0 (Kd.N k71 71 w' w.heap.size (fun k_ => k_ ≠ gb101 ∧ k_ ≠ gb110) (.slice Ao13 t106.length co13) t106) ∧ Aside0 (w'.heap[gb101]? = some (.cells #[.int .i64 a1_0, .int .i64 a1_1, .int .i64 a1_2, .int .i64 a1_3] 97 (0, 0))) ∧ Aside0 (w'.heap[gb110]? = some (.cells #[.int .i64 t104, .int .i64 t105, (.slice Ao13 t106.length co13)] 99 (0, 0))) ∧ Aside0 (Below w.heap.size w w'))
      case atStart => exact ⟨(0), (0), (by first | rfl | (simp; done) | (simp [*]; done)), (by first | rfl | (simp; done) | (simp [*]; done)), H', ⟨Nat.le_refl _⟩, ⟨by (with_reducible repeat (first | apply Kd.N_alloc | apply Kd.N_drewN | apply Kd.N_drew)); exact Kd.N_mono (Kd.N_far (p := ⟨gb110, 2, none⟩) (Kd.N_far (p := ⟨gb110, 1, none⟩) (Kd.N_far (p := ⟨gb110, 0, none⟩) (Kd.N_mono HO108.out (fun k_ hk => (⟨hk, hk.2⟩ : _ ∧ k_ ≠ gb110))) (fun _ hk => hk.2) (.int .i64 t104)) (fun _ hk => hk.2) (.int .i64 t105)) (fun _ hk => hk.2) (.slice Ao13 t106.length co13)) (fun _ hk => ⟨hk.1.1, hk.1.2⟩)⟩, ⟨by (with_reducible repeat (first | refine zY ?_ _ | refine zAq ?_ | refine zZ ?_ _)); refine blk_far ?_ NB101_110.out _; (with_reducible repeat (first | refine zY ?_ _ | refine zAq ?_ | refine zZ ?_ _)); refine blk_far ?_ NB101_110.out _; (with_reducible repeat (first | refine zY ?_ _ | refine zAq ?_ | refine zZ ?_ _)); refine blk_far ?_ NB101_110.out _; exact BK101.out⟩, ⟨by (with_reducible repeat (first | refine zY ?_ _ | refine zAq ?_ | refine zZ ?_ _)); apply qP3; exact BK110.out⟩, ⟨qB⟩⟩
      case round =>
        clear H'; try clear c1
        try clear c2
        try clear p2
        try clear c4
        try clear c6
        try clear c6b0
        try clear c6b1
        try clear c8
        try clear c11
        obtain ⟨x7_1, x8_1, rfl, rfl, HA, HK1, HO_111002, BK101, BK110, HB⟩ := hrel; cases gk with
        | zero => exact absurd HA.out (by simp [backhaullaw26_OrderDeals.l0])
        | succ k1 =>
          have H := HA.out; clear HA; simp only [backhaullaw26_OrderDeals.l0] at H; by_cases c14 : x8_1 < (l0.length : Int)
          · rw [if_pos c14] at H
            have c14b0 : decide (x8_1 < (l0.length : Int)) = true := zFq c14; clear c14; by_cases c15 : 0 ≤ x8_1
            · rw [if_pos c15] at H
              have c15b0 : decide (0 ≤ x8_1) = true := zFq c15; clear c15; have H' := zA H; clear H; have p112 : 0 ≤ (x8_1 : Int) := of_decide_eq_true qA; have q112 : x8_1 < (l0.length : Int) := of_decide_eq_true qA; obtain ⟨ad112, A112_4, c112_4, e112, hx112_0, hx112_1, hx112_2, hx112_3, hx112_4, hl112_4, hi112_4⟩ := at_T71 HR0.out x8_1 p112 q112; cases e112
              replace hx112_0 := (HB.out.cell (zCq w _ hx112_0)).trans hx112_0; replace hx112_1 := (HB.out.cell (zCq w _ hx112_1)).trans hx112_1; replace hx112_2 := (HB.out.cell (zCq w _ hx112_2)).trans hx112_2; replace hx112_3 := (HB.out.cell (zCq w _ hx112_3)).trans hx112_3; replace hx112_4 := (HB.out.cell (zCq w _ hx112_4)).trans hx112_4; have HR112_4 := zA hi112_4; have HC112_4 := zA hl112_4; clear hi112_4 hl112_4; replace p112 := eq_true p112; replace q112 := eq_true q112; go_wp2; go_roundg k1
              case measure => have := HK1.out; omega
              case rel => exact ⟨(wrap64 (x7_1 + ((rd_T71 l0 x8_1).f1))), (wrap64 (x8_1 + 1)), (by first | rfl | (simp; done) | (simp [*]; done)), (by first | rfl | (simp; done) | (simp [*]; done)), H', ⟨by have := HK1.out; omega⟩, ⟨by (with_reducible repeat (first | apply Kd.N_alloc | apply Kd.N_drewN | apply Kd.N_drew)); exact HO_111002.out⟩, ⟨by exact BK101.out⟩, ⟨by exact BK110.out⟩, ⟨qB⟩⟩
            rw [if_neg c15] at H; exact absurd H (by simp)
          rw [if_neg c14] at H; have c14b0 : decide (x8_1 < (l0.length : Int)) = false := zGq c14; clear c14; replace H := Option.bind_eq_some_iff.mp H; obtain ⟨⟨t113, t114⟩, A160, H⟩ := H; replace H : ((order_Check.f k1 t104 t105 t106).bind fun t115 => (if t115 = 0 then (if t114 = 0 then (if t113 = (wrap64 ((wrap64 (x7_1 - a1_0)) + a1_1)) then (if t104 = a1_2 then (if t105 = a1_3 then (if (t106.length : Int) = (l0.length : Int) then ((backhaullaw26_awake.f).bind fun t116 => (if t116 = true then (some true) else (some false))) else (some false)) else (some false)) else (some false)) else (some false)) else (some false)) else (some false))) = some true := H; have A16 := zA A160; clear A160; replace H := Option.bind_eq_some_iff.mp H; obtain ⟨t115, A170, H⟩ := H; replace H : (if t115 = 0 then (if t114 = 0 then (if t113 = (wrap64 ((wrap64 (x7_1 - a1_0)) + a1_1)) then (if t104 = a1_2 then (if t105 = a1_3 then (if (t106.length : Int) = (l0.length : Int) then ((backhaullaw26_awake.f).bind fun t116 => (if t116 = true then (some true) else (some false))) else (some false)) else (some false)) else (some false)) else (some false)) else (some false)) else (some false)) = some true := H; have A17 := zA A170; clear A170; by_cases c18 : t115 = 0
          · rw [if_pos c18] at H
            have c18b0 : (t115 == 0) = true := beq_iff_eq.mpr c18; have c18b1 : (t115 != 0) = false := bne_eq_false_iff_eq.mpr c18; clear c18; by_cases c19 : t114 = 0
            · rw [if_pos c19] at H
              have c19b0 : (t114 == 0) = true := beq_iff_eq.mpr c19; have c19b1 : (t114 != 0) = false := bne_eq_false_iff_eq.mpr c19; clear c19; by_cases c20 : t113 = (wrap64 ((wrap64 (x7_1 - a1_0)) + a1_1))
              · rw [if_pos c20] at H
                have c20b0 : (t113 == (wrap64 ((wrap64 (x7_1 - a1_0)) + a1_1))) = true := beq_iff_eq.mpr c20; have c20b1 : (t113 != (wrap64 ((wrap64 (x7_1 - a1_0)) + a1_1))) = false := bne_eq_false_iff_eq.mpr c20; clear c20; by_cases c21 : t104 = a1_2
                · rw [if_pos c21] at H
                  have c21b0 : (t104 == a1_2) = true := beq_iff_eq.mpr c21; have c21b1 : (t104 != a1_2) = false := bne_eq_false_iff_eq.mpr c21; clear c21; by_cases c22 : t105 = a1_3
                  · rw [if_pos c22] at H
                    have c22b0 : (t105 == a1_3) = true := beq_iff_eq.mpr c22; have c22b1 : (t105 != a1_3) = false := bne_eq_false_iff_eq.mpr c22; clear c22; by_cases c23 : (t106.length : Int) = (l0.length : Int)
                    · rw [if_pos c23] at H
                      have c23b0 : ((t106.length : Int) == (l0.length : Int)) = true := beq_iff_eq.mpr c23; have c23b1 : ((t106.length : Int) != (l0.length : Int)) = false := bne_eq_false_iff_eq.mpr c23; have c23b2 : (t106.length == l0.length) = true := by first | simpa using c23 | (simp at c23 ⊢; omega)
                      clear c23; replace H := Option.bind_eq_some_iff.mp H; obtain ⟨t116, A240, H⟩ := H; replace H : (if t116 = true then (some true) else (some false)) = some true := H; have A24 := zA A240; clear A240; by_cases c25 : t116 = true
                      · subst c25
                        have H1 : (some true) = some true := by first | (rw [if_pos rfl] at H; exact H) | rfl
                        clear H; have H := H1; clear H1; clear H; have hnb26 := NB110_101.out; have hnc26 := NB101_110.out; obtain ⟨_, _, _, _, _, _⟩ := qc3f BK110.out; go_wp2_with (first | ((with_reducible refine zJq (f := 88) rfl ?_); refine goesL_ (some 57) rfl rfl Try.func88 (by kernel_rfl) rfl #[.agg #[.int .i64 t104, .int .i64 t105, .slice Ao13 t106.length co13]] rfl (by (try simp only [zR, zS, zT]); first | done | rfl | (simp only [zP, zQ]; rfl)) ?_; (with_reducible refine (order_Paid.calls k1 t104 t105 _ _ t106 t113 t114 _ ?side1 ?side2 A16.out).mono ?_); (case side1 => repeat (first | exact (Kd.N_reads' HO_111002.out).2.2 | (with_reducible refine Kd.C_alloc ?_ _) | (with_reducible refine Kd.C_drewN ?_ _) | (with_reducible refine Kd.C_drew ?_))); (case side2 => exact (Kd.N_reads' HO_111002.out).2.1); rintro e w28 ⟨rfl, hb⟩; refine ⟨_, rfl, ?_⟩; have n0_ := zA (Kd.N_below (by (with_reducible repeat (first | apply Kd.N_alloc | apply Kd.N_drewN | apply Kd.N_drew)); exact HO_111002.out) hb); have n1_ := zA (qX BK101.out hb); have n2_ := zA (qX BK110.out hb); have n3_ := zA (zV qB hb); clear HO_111002 BK101 BK110 HB; have HO_111002 := n0_; have BK101 := n1_; have BK110 := n2_; have HB := n3_; clear n0_ n1_ n2_ n3_; (try clear hb); (try clear hb2); (try clear hk); (try clear hi); obtain ⟨_, _, _, _, _, _⟩ := qc3f BK110.out) | ((with_reducible refine zJq (f := 90) rfl ?_); refine goesL_ (some 61) rfl rfl Try.func90 (by kernel_rfl) rfl #[.agg #[.int .i64 t104, .int .i64 t105, .slice Ao13 t106.length co13]] rfl (by (try simp only [zR, zS, zT]); first | done | rfl | (simp only [zP, zQ]; rfl)) ?_; (with_reducible refine (order_Check.calls k1 t104 t105 _ _ t106 t115 _ ?side1 ?side2 A17.out).mono ?_); (case side1 => repeat (first | exact (Kd.N_reads' HO_111002.out).2.2 | (with_reducible refine Kd.C_alloc ?_ _) | (with_reducible refine Kd.C_drewN ?_ _) | (with_reducible refine Kd.C_drew ?_))); (case side2 => exact (Kd.N_reads' HO_111002.out).2.1); rintro e w30 ⟨rfl, hb⟩; refine ⟨_, rfl, ?_⟩; have n0_ := zA (Kd.N_below (by (with_reducible repeat (first | apply Kd.N_alloc | apply Kd.N_drewN | apply Kd.N_drew)); exact HO_111002.out) hb); have n1_ := zA (qX BK101.out hb); have n2_ := zA (qX BK110.out hb); have n3_ := zA (zV qB hb); clear HO_111002 BK101 BK110 HB; have HO_111002 := n0_; have BK101 := n1_; have BK110 := n2_; have HB := n3_; clear n0_ n1_ n2_ n3_; (try clear hb); (try clear hb2); (try clear hk); (try clear hi); obtain ⟨_, _, _, _, _, _, _, _⟩ := qc4f BK101.out; obtain ⟨_, _, _, _, _, _⟩ := qc3f BK110.out) | (go_at_call 82; (with_reducible refine (backhaullaw26_awake.calls  true _ A24.out).mono ?_); rintro e w33 ⟨rfl, hb⟩; have n0_ := zA (Kd.N_below (by (with_reducible repeat (first | apply Kd.N_alloc | apply Kd.N_drewN | apply Kd.N_drew)); exact HO_111002.out) hb); have n1_ := zA (qX BK101.out hb); have n2_ := zA (qX BK110.out hb); have n3_ := zA (zV qB hb); clear HO_111002 BK101 BK110 HB; have HO_111002 := n0_; have BK101 := n1_; have BK110 := n2_; have HB := n3_; clear n0_ n1_ n2_ n3_; (try clear hb); (try clear hb2); (try clear hk); (try clear hi)))
                        go_ret; exact ⟨qE, qB⟩
                      replace c25 := Bool.eq_false_iff.mpr c25; subst c25; have H1 : (some false) = some true := by first | (rw [if_neg (show ¬ (false = true) by decide)] at H; exact H) | rfl
                      clear H; have H := H1; clear H1; exact absurd H (by simp)
                    rw [if_neg c23] at H; have c23b0 : ((t106.length : Int) == (l0.length : Int)) = false := beq_eq_false_iff_ne.mpr c23; have c23b1 : ((t106.length : Int) != (l0.length : Int)) = true := bne_iff_ne.mpr c23; have c23b2 : (t106.length == l0.length) = false := by first | simpa using c23 | (simp at c23 ⊢; omega)
                    exact absurd H (by simp)
                  rw [if_neg c22] at H; have c22b0 : (t105 == a1_3) = false := beq_eq_false_iff_ne.mpr c22; have c22b1 : (t105 != a1_3) = true := bne_iff_ne.mpr c22; exact absurd H (by simp)
                rw [if_neg c21] at H; have c21b0 : (t104 == a1_2) = false := beq_eq_false_iff_ne.mpr c21; have c21b1 : (t104 != a1_2) = true := bne_iff_ne.mpr c21; exact absurd H (by simp)
              rw [if_neg c20] at H; have c20b0 : (t113 == (wrap64 ((wrap64 (x7_1 - a1_0)) + a1_1))) = false := beq_eq_false_iff_ne.mpr c20; have c20b1 : (t113 != (wrap64 ((wrap64 (x7_1 - a1_0)) + a1_1))) = true := bne_iff_ne.mpr c20; exact absurd H (by simp)
            rw [if_neg c19] at H; have c19b0 : (t114 == 0) = false := beq_eq_false_iff_ne.mpr c19; have c19b1 : (t114 != 0) = true := bne_iff_ne.mpr c19; exact absurd H (by simp)
          rw [if_neg c18] at H; have c18b0 : (t115 == 0) = false := beq_eq_false_iff_ne.mpr c18; have c18b1 : (t115 != 0) = true := bne_iff_ne.mpr c18; exact absurd H (by simp)
    rw [if_neg c6] at H; have c6b0 : (t109 == 0) = false := beq_eq_false_iff_ne.mpr c6; have c6b1 : (t109 != 0) = true := bne_iff_ne.mpr c6; by_cases c34 : (t106.length : Int) = 0
    · rw [if_pos c34] at H
      have c34b0 : ((t106.length : Int) == 0) = true := beq_iff_eq.mpr c34; have c34b1 : ((t106.length : Int) != 0) = false := bne_eq_false_iff_eq.mpr c34; clear c34; by_cases c35 : t104 = 0
      · rw [if_pos c35] at H
        have c35b0 : (t104 == 0) = true := beq_iff_eq.mpr c35; have c35b1 : (t104 != 0) = false := bne_eq_false_iff_eq.mpr c35; clear c35; replace H := Option.bind_eq_some_iff.mp H; obtain ⟨t111, A360, H⟩ := H; replace H : (if t111 = true then (some true) else (some false)) = some true := H; have A36 := zA A360; clear A360; by_cases c37 : t111 = true
        · subst c37
          have H1 : (some true) = some true := by first | (rw [if_pos rfl] at H; exact H) | rfl
          clear H; have H := H1; clear H1; clear H; go_enter Try.func22, Try.ntmps22; go_wp2_with (first | ((with_reducible refine gate_dst (N := 3) rfl ?_); (try (refine gate_guard (by rfl) ?_; dsimp only)); refine box_event qr (N := 3) qr (cs := #[.int .i64 a1_0, .int .i64 a1_1, .int .i64 a1_2, .int .i64 a1_3]) (t := 97) qg ?_; intro gb101 hg w38 hbox hb; have n0_ := zA (zV qB hb); have n1_ := zA (hbox); have n2_ := zA ((qS : w.heap.size ≤ gb101)); have n3_ := zA ((qS : w.heap.size ≤ gb101)); clear HB; have HB := n0_; have BK101 := n1_; have GW101 := n2_; have GE101 := n3_; clear n0_ n1_ n2_ n3_ hb hbox hg) | ((with_reducible refine zJq (f := 60) rfl ?_); refine goesL_ (some 12) rfl rfl Try.func60 (by kernel_rfl) rfl #[.slice A0 l0.length c0] rfl (by (try simp only [zR, zS, zT]); first | done | rfl | (simp only [zP, zQ]; rfl)) ?_; (with_reducible refine (backhaullaw21_Few.calls k _ _ l0 true _ ?side1 ?side2 A3.out).mono ?_); (case side1 => exact qC (Kd.C_below HR0.out HB.out)); (case side2 => exact HC0.out); rintro e w' ⟨rfl, ⟨nd, rfl⟩⟩; refine ⟨_, rfl, ?_⟩; (try (rw [drewN_self w38]; generalize hq_ : World.drewN w38 _ = w38; have n0_ : Aside0 (w38.heap[gb101]? = some (.cells #[.int .i64 a1_0, .int .i64 a1_1, .int .i64 a1_2, .int .i64 a1_3] 97 (0, 0))) := ⟨by rw [← hq_]; exact (qW BK101.out)⟩; have n1_ : Aside0 (Below w.heap.size w w38) := ⟨by rw [← hq_]; exact qB⟩; clear BK101 HB hq_; have BK101 := n0_; have HB := n1_; clear n0_ n1_)); obtain ⟨_, _, _, _, _, _, _, _⟩ := qc4f BK101.out) | ((with_reducible refine zJq (f := 83) rfl ?_); refine goesL_ (some 25) rfl rfl Try.func83 (by kernel_rfl) rfl #[.int .i64 a1_2, .int .i64 a1_3, .slice A0 l0.length c0, .int .i64 a1_0, .int .i64 a1_1] rfl (by (try simp only [zR, zS, zT]); first | done | rfl | (simp only [zP, zQ]; rfl)) ?_; (with_reducible refine (order_Make.calls k a1_2 a1_3 (fun k_ => k_ < w.heap.size) _ _ l0 a1_0 a1_1 t104 t105 t106 t109 _ ?side1 A5.out).mono ?_); (case side1 => exact Kd.V_mk HC0.out (Kd.F_below (Kd.C_F k71_heap HR0.out) qB)); rintro e w40 ⟨v107, rfl, ho0, hb⟩; refine ⟨_, rfl, ?_⟩; have n0_ := zA (Kd.N_lower (Kd.N_mono (ok' := fun k_ => k_ ≠ gb101) ho0 (fun k_ hk_ => Or.elim hk_ (fun hs_ => fun e_ => Nat.not_le.2 hs_ (by rw [e_]; exact GW101.out)) (fun hn_ => (Kd.freshB (g := gb101) (o := .cells #[.int .i64 a1_0, .int .i64 a1_1, .int .i64 a1_2, .int .i64 a1_3] 97 (0, 0)) (qW BK101.out) k_ hn_)))) (zW qB)); have n1_ := zA (qX BK101.out hb); have n2_ := zA (zV qB hb); clear BK101 HB; have HO108 := n0_; have BK101 := n1_; have HB := n2_; clear n0_ n1_ n2_; (try clear hb); (try clear hb2); (try clear hk); (try clear hi); (try clear ho0)) | ((with_reducible refine gate_dst (N := 5) rfl ?_); (try (refine gate_guard (by rfl) ?_; dsimp only)); refine box_event qr (N := 5) qr (cs := #[.int .i64 0, .int .i64 0, .slice none 0 0]) (t := 99) qg ?_; intro gb110 hg w41 hbox hb; have n0_ := zA (Kd.N_below (Kd.N_elderB (by (with_reducible repeat (first | apply Kd.N_alloc | apply Kd.N_drewN | apply Kd.N_drew)); exact HO108.out) gb110 (Nat.le_of_eq hg.symm)) hb); have n1_ := zA (qX BK101.out hb); have n2_ := zA (zV qB hb); have n3_ := zA (hbox); have n4_ := zA ((qS : w.heap.size ≤ gb110)); have n5_ := zA ((qS : w.heap.size ≤ gb110)); have n6_ := zA ((by rw [hg]; exact zLq (qL BK101.out) : gb101 ≠ gb110)); have n7_ := zA ((by rw [hg]; exact zMq (qL BK101.out) : gb110 ≠ gb101)); clear HO108 BK101 HB; have HO108 := n0_; have BK101 := n1_; have HB := n2_; have BK110 := n3_; have GW110 := n4_; have GE110 := n5_; have NB101_110 := n6_; have NB110_101 := n7_; clear n0_ n1_ n2_ n3_ n4_ n5_ n6_ n7_ hb hbox hg; have hnb42 := NB110_101.out; have hnc42 := NB101_110.out; obtain ⟨_, _, _, _, _, _⟩ := qc3f BK110.out; obtain ⟨Ao44, co44, eo44⟩ := Kd.N_slice HO108.out; subst eo44) | (go_at_call 82; (with_reducible refine (backhaullaw26_awake.calls  true _ A36.out).mono ?_); rintro e w45 ⟨rfl, hb⟩; have n0_ := zA (Kd.N_below (by (with_reducible repeat (first | apply Kd.N_alloc | apply Kd.N_drewN | apply Kd.N_drew)); exact (Kd.N_mono (Kd.N_far (p := ⟨gb110, 2, none⟩) (Kd.N_far (p := ⟨gb110, 1, none⟩) (Kd.N_far (p := ⟨gb110, 0, none⟩) (Kd.N_mono HO108.out (fun k_ hk => (⟨hk, hk.2⟩ : _ ∧ k_ ≠ gb110))) (fun _ hk => hk.2) (.int .i64 t104)) (fun _ hk => hk.2) (.int .i64 t105)) (fun _ hk => hk.2) (.slice Ao44 t106.length co44)) (fun _ h_ => h_.1))) hb); have n1_ := zA (qX BK101.out hb); have n2_ := zA (zX (g := gb110) (o := .cells #[.int .i64 t104, .int .i64 t105, .slice Ao44 t106.length co44] 99 (0, 0)) (qV BK110.out) hb); have n3_ := zA (zV qB hb); clear HO108 BK101 BK110 HB; have HO108 := n0_; have BK101 := n1_; have BK110 := n2_; have HB := n3_; clear n0_ n1_ n2_ n3_; (try clear hb); (try clear hb2); (try clear hk); (try clear hi)))
          go_ret; exact ⟨qE, qB⟩
        replace c37 := Bool.eq_false_iff.mpr c37; subst c37; have H1 : (some false) = some true := by first | (rw [if_neg (show ¬ (false = true) by decide)] at H; exact H) | rfl
        clear H; have H := H1; clear H1; exact absurd H (by simp)
      rw [if_neg c35] at H; have c35b0 : (t104 == 0) = false := beq_eq_false_iff_ne.mpr c35; have c35b1 : (t104 != 0) = true := bne_iff_ne.mpr c35; exact absurd H (by simp)
    rw [if_neg c34] at H; have c34b0 : ((t106.length : Int) == 0) = false := beq_eq_false_iff_ne.mpr c34; have c34b1 : ((t106.length : Int) != 0) = true := bne_iff_ne.mpr c34; have c34b2 : ¬ (t106 = []) := fun h_ => c34 (by rw [h_]; rfl)
    exact absurd H (by simp)
  replace c4 := Bool.eq_false_iff.mpr c4
  subst c4
  have H1 : ((backhaullaw26_awake.f).bind fun t103 => (if t103 = true then (some true) else (some false))) = some true := by first | (rw [if_neg (show ¬ (false = true) by decide)] at H; exact H) | rfl
  clear H
  have H := H1
  clear H1
  replace H := Option.bind_eq_some_iff.mp H
  obtain ⟨t103, A460, H⟩ := H
  replace H : (if t103 = true then (some true) else (some false)) = some true := H
  have A46 := zA A460
  clear A460
  by_cases c47 : t103 = true
  · subst c47
    have H1 : (some true) = some true := by first | (rw [if_pos rfl] at H; exact H) | rfl
    clear H; have H := H1; clear H1; clear H; go_enter Try.func22, Try.ntmps22; go_wp2_with (first | ((with_reducible refine gate_dst (N := 3) rfl ?_); (try (refine gate_guard (by rfl) ?_; dsimp only)); refine box_event qr (N := 3) qr (cs := #[.int .i64 a1_0, .int .i64 a1_1, .int .i64 a1_2, .int .i64 a1_3]) (t := 97) qg ?_; intro gb101 hg w48 hbox hb; have n0_ := zA (zV qB hb); have n1_ := zA (hbox); have n2_ := zA ((qS : w.heap.size ≤ gb101)); have n3_ := zA ((qS : w.heap.size ≤ gb101)); clear HB; have HB := n0_; have BK101 := n1_; have GW101 := n2_; have GE101 := n3_; clear n0_ n1_ n2_ n3_ hb hbox hg) | ((with_reducible refine zJq (f := 60) rfl ?_); refine goesL_ (some 12) rfl rfl Try.func60 (by kernel_rfl) rfl #[.slice A0 l0.length c0] rfl (by (try simp only [zR, zS, zT]); first | done | rfl | (simp only [zP, zQ]; rfl)) ?_; (with_reducible refine (backhaullaw21_Few.calls k _ _ l0 false _ ?side1 ?side2 A3.out).mono ?_); (case side1 => exact qC (Kd.C_below HR0.out HB.out)); (case side2 => exact HC0.out); rintro e w' ⟨rfl, ⟨nd, rfl⟩⟩; refine ⟨_, rfl, ?_⟩) | ((with_reducible refine zJq (f := 82) rfl ?_); refine goesL_ (some 14) rfl rfl Try.func82 (by kernel_rfl) rfl #[] rfl (by (try simp only [zR, zS, zT]); first | done | rfl | (simp only [zP, zQ]; rfl)) ?_; (with_reducible refine (backhaullaw26_awake.calls  true _ A46.out).mono ?_); rintro e w49 ⟨rfl, hb⟩; refine ⟨_, rfl, ?_⟩; have n0_ := zA (qX BK101.out hb); have n1_ := zA (zV qB hb); clear BK101 HB; have BK101 := n0_; have HB := n1_; clear n0_ n1_; (try clear hb); (try clear hb2); (try clear hk); (try clear hi))); go_ret; exact ⟨qE, qB⟩
  replace c47 := Bool.eq_false_iff.mpr c47
  subst c47
  have H1 : (some false) = some true := by first | (rw [if_neg (show ¬ (false = true) by decide)] at H; exact H) | rfl
  clear H
  have H := H1
  clear H1
  exact absurd H (by simp)
def backhaullaw26_OrderDeals.Pure : Prop := ∀ (l0 : List (S71)) (a1_0 : Int) (a1_1 : Int) (a1_2 : Int) (a1_3 : Int), (l0.length ≤ maxLen ∧ ∀ x ∈ l0, ((Lit.int .i64 x.f0).wf = true ∧ (Lit.int .i64 x.f1).wf = true ∧ (Lit.int .i64 x.f2).wf = true ∧ (Lit.int .i64 x.f3).wf = true ∧ (x.f4.length ≤ maxLen ∧ ∀ y ∈ x.f4, y.size ≤ maxLen))) → (Lit.int .i64 a1_0).wf = true → (Lit.int .i64 a1_1).wf = true → (Lit.int .i64 a1_2).wf = true → (Lit.int .i64 a1_3).wf = true → ∃ k, backhaullaw26_OrderDeals.f k l0 a1_0 a1_1 a1_2 a1_3 = some true
end Go.Proofs.Ytefhljhpcpajgaa.F
set_option linter.unusedVariables false
namespace Go.Proofs.Ytefhljhpcpajgaa.Q
open Go.RowKit
def sumI (l : List Int) : Int := l.foldr (· + ·) 0
theorem sumI_cons (a : Int) (l : List Int) : sumI (a :: l) = a + sumI l := rfl
theorem sumI_append (a b : List Int) : sumI (a ++ b) = sumI a + sumI b := by
  induction a with
  | nil => simp [sumI]
  | cons x a ih => rw [List.cons_append, sumI_cons, sumI_cons, ih]; omega
theorem sumI_mul (l : List Int) (c : Int) : sumI (l.map (fun x => c * x)) = c * sumI l := by
  induction l with
  | nil => simp [sumI]
  | cons x l ih => rw [List.map_cons, sumI_cons, sumI_cons, ih, Int.mul_add]
theorem sumI_add {α : Type} (l : List α) (f g : α → Int) : sumI (l.map (fun x => f x + g x)) = sumI (l.map f) + sumI (l.map g) := by
  induction l with
  | nil => simp [sumI]
  | cons x l ih => simp only [List.map_cons, sumI_cons, ih]; omega
theorem sumI_nonneg {l : List Int} (h : ∀ x ∈ l, 0 ≤ x) : 0 ≤ sumI l := by
  induction l with
  | nil => simp [sumI]
  | cons x l ih =>
    have := h x List.mem_cons_self
    have := ih (fun y hy => h y (List.mem_cons_of_mem _ hy))
    rw [sumI_cons]; omega
theorem sumI_mem_le {l : List Int} (h : ∀ x ∈ l, 0 ≤ x) {a : Int} (ha : a ∈ l) : a ≤ sumI l := by
  induction l with
  | nil => cases ha
  | cons x l ih =>
    have h0 := h x List.mem_cons_self
    have h1 := sumI_nonneg (fun y hy => h y (List.mem_cons_of_mem _ hy))
    rw [sumI_cons]
    rcases List.mem_cons.1 ha with rfl | ha
    · omega
    have := ih (fun y hy => h y (List.mem_cons_of_mem _ hy)) ha; omega
theorem countP_sum {α : Type} (p : α → Bool) (l : List α) : ((l.countP p : Nat) : Int) = sumI (l.map (fun x => if p x = true then 1 else 0)) := by
  induction l with
  | nil => simp [sumI]
  | cons x l ih =>
    rw [List.map_cons, sumI_cons, List.countP_cons, ← ih]
    split <;> omega
def prt (t s w : Int) : Int := t * w / s
def rst (t s w : Int) : Int := t * w % s
def leftI (t s : Int) (l : List Int) : Int := t - sumI (l.map (prt t s))
theorem left_mul {t s : Int} {l : List Int} (hs : sumI l = s) : leftI t s l * s = sumI (l.map (rst t s)) := by
  have e : sumI (l.map (fun w => t * w)) = sumI (l.map (fun w => s * prt t s w)) + sumI (l.map (rst t s)) := by
    rw [← sumI_add]
    congr 1
    refine List.map_congr_left fun w _ => ?_
    unfold prt rst
    rw [Int.add_comm]
    exact (Int.emod_add_mul_ediv (t * w) s).symm
  have e2 : sumI (l.map (fun w => s * prt t s w)) = s * sumI (l.map (prt t s)) := by
    rw [← sumI_mul, List.map_map]; rfl
  rw [sumI_mul, hs] at e
  unfold leftI
  rw [Int.sub_mul, e, e2, Int.mul_comm s]
  omega
theorem sum_rests {t s : Int} (hs : 0 < s) (l : List Int) : 0 ≤ sumI (l.map (rst t s)) ∧ sumI (l.map (rst t s)) ≤ ((l.countP (fun w => decide (0 < rst t s w)) : Nat) : Int) * (s - 1) := by
  induction l with
  | nil => simp [sumI]
  | cons w l ih =>
    have h0 : 0 ≤ rst t s w := Int.emod_nonneg _ (by omega)
    have h1 : rst t s w < s := Int.emod_lt_of_pos _ hs
    rw [List.map_cons, sumI_cons, List.countP_cons]
    refine ⟨by omega, ?_⟩
    by_cases h : 0 < rst t s w
    · rw [if_pos (decide_eq_true h), Int.natCast_add, Int.add_mul]
      omega
    rw [if_neg (by simpa using h)]
    simp only [Int.natCast_add, Int.natCast_zero, Int.add_zero]
    omega
theorem left_bound {t s : Int} {l : List Int} (hs : sumI l = s) (h0 : 0 < s) : 0 ≤ leftI t s l ∧ leftI t s l ≤ ((l.countP (fun w => decide (0 < rst t s w)) : Nat) : Int) ∧ (leftI t s l = 0 ∨ leftI t s l < ((l.countP (fun w => decide (0 < rst t s w)) : Nat) : Int)) := by
  have e := left_mul (t := t) hs
  obtain ⟨h1, h2⟩ := sum_rests (t := t) h0 l
  rw [← e] at h1 h2
  have p0 : 0 ≤ leftI t s l := Int.nonneg_of_mul_nonneg_left h1 h0
  have hC0 : (0 : Int) ≤ ((l.countP (fun w => decide (0 < rst t s w)) : Nat) : Int) := Int.natCast_nonneg _
  generalize hL : leftI t s l = L at *
  generalize ((l.countP (fun w => decide (0 < rst t s w)) : Nat) : Int) = C at *
  have p1 : L * s ≤ C * s - C := by rw [Int.mul_sub, Int.mul_one] at h2; exact h2
  have p2 : L = 0 ∨ L < C := by
    apply Classical.byContradiction
    intro hn
    have h3 : 0 < L ∧ C ≤ L := by omega
    have h4 : C * s ≤ L * s := Int.mul_le_mul_of_nonneg_right h3.2 (by omega)
    have h5 : 0 < L * s := Int.mul_pos h3.1 h0
    by_cases hC : 0 < C
    · omega
    have : C * s ≤ 0 := by
      have := Int.mul_le_mul_of_nonneg_right (show C ≤ 0 by omega) (show 0 ≤ s by omega)
      rwa [Int.zero_mul] at this
    have : C * (s - 1) ≤ 0 := by
      have := Int.mul_le_mul_of_nonneg_right (show C ≤ 0 by omega) (show 0 ≤ s - 1 by omega)
      rwa [Int.zero_mul] at this
    omega
  refine ⟨p0, ?_, p2⟩
  rcases p2 with h | h
  · omega
  omega
def wt (l : List Int) (i : Nat) : Int := l.getD i 0
def outAt (t s : Int) (l : List Int) (i : Nat) : Int := prt t s (wt l i) + if (rank (fun j => rst t s (wt l j)) l.length i : Int) < leftI t s l then 1 else 0
def outL (t s : Int) (l : List Int) : List Int := (List.range l.length).map (outAt t s l)
theorem range_map {α : Type} [Inhabited α] (l : List α) (d : α) : (List.range l.length).map (fun i => l.getD i d) = l := by
  apply List.ext_getElem
  · simp
  intro i h1 h2
  simp [List.getD_eq_getElem?_getD, h2]
theorem out_sum {t s : Int} {l : List Int} (hs : sumI l = s) (h0 : 0 < s) : sumI (outL t s l) = t := by
  obtain ⟨b0, b1, _⟩ := left_bound (t := t) hs h0
  have hl : l.countP (fun w => decide (0 < rst t s w)) ≤ l.length := List.countP_le_length
  obtain ⟨L, hL⟩ := Int.eq_ofNat_of_zero_le b0
  have e1 : outL t s l = (List.range l.length).map (fun i => prt t s (wt l i) + if decide (rank (fun j => rst t s (wt l j)) l.length i < L) = true then 1 else 0) := by
    unfold outL outAt
    refine List.map_congr_left fun i _ => ?_
    rw [hL]
    congr 1
    by_cases h : rank (fun j => rst t s (wt l j)) l.length i < L
    · rw [if_pos (by omega), if_pos (by simpa using h)]
    rw [if_neg (by omega), if_neg (by simpa using h)]
  have e2 : sumI ((List.range l.length).map (fun i => prt t s (wt l i))) = sumI (l.map (prt t s)) := by
    have h : (List.range l.length).map (fun i => prt t s (wt l i)) = l.map (prt t s) := by
      have := congrArg (List.map (prt t s)) (range_map l 0)
      rw [List.map_map] at this
      exact this
    rw [h]
  rw [e1, sumI_add, e2, ← countP_sum, rank_count _ _ L (by omega)]
  unfold leftI at hL
  omega
theorem left_zero {s : Int} {l : List Int} : leftI 0 s l = 0 := by
  unfold leftI
  have : l.map (prt 0 s) = l.map (fun x => 0 * x) := List.map_congr_left fun x _ => by unfold prt; simp
  rw [this, sumI_mul]; simp
end Go.Proofs.Ytefhljhpcpajgaa.Q
set_option linter.unusedVariables false
namespace Go.Proofs.Ytefhljhpcpajgaa.Q
open Go.RowKit Go.Proofs.Ytefhljhpcpajgaa.F Go.Proofs.YtefhljhpcpajgaaW.PrintWords Go.Proofs.YtefhljhpcpajgaaW.PrintLast Go.Proofs.YtefhljhpcpajgaaW.PrintMore
def amt (n : Int) : Prop := -1000000000000 ≤ n ∧ n ≤ 1000000000000
instance (n : Int) : Decidable (amt n) := by unfold amt; infer_instance
def toldS (n : Int) : Int × Int := if amt n then (n, 0) else (0, 8)
def sumS : Int → List Int → Int × Int
  | n, [] => (n, 0)
  | n, x :: xs => if amt x ∧ amt (n + x) then sumS (n + x) xs else (0, 8)
theorem in_f (n : Int) : cents_In.f n = some (decide (amt n)) := by
  unfold cents_In.f amt
  by_cases h : n ≥ -1000000000000
  · rw [if_pos h]; congr 1; exact decide_eq_decide.2 ⟨fun a => ⟨h, a⟩, fun a => a.2⟩
  rw [if_neg h]; congr 1; exact (decide_eq_false (fun a => h a.1)).symm
theorem told_f (n : Int) : cents_told.f n = some (toldS n) := by
  unfold cents_told.f toldS
  rw [in_f]
  by_cases h : amt n
  · simp [h]
  simp [h]
theorem cents_Add_l0 {l : List Int} (hl : l.length < 9223372036854775807) (d : Nat) : ∀ (i : Nat) (n : Int), l.length - i = d → i ≤ l.length → amt n →
    Ev (fun k => cents_Add.l0 k n l (l.length : Int) (i : Int)) (sumS n (l.drop i)) := by
  induction d with
  | zero =>
    intro i n hd hi hn
    refine Ev.step (fun k => by simp only [cents_Add.l0]; rfl) ?_
    refine Ev.neg (by omega) (Ev.ok ?_)
    rw [List.drop_eq_nil_of_le (by omega)]; rfl
  | succ d ih =>
    intro i n hd hi hn
    have h : i < l.length := by omega
    refine Ev.step (fun k => by simp only [cents_Add.l0]; rfl) ?_
    refine Ev.pos (by omega) (Ev.pos (by omega) (Ev.pos (by omega) ?_))
    rw [drop_cons h, rd_nat h]
    refine Q.Ev.bindc (in_f _) ?_
    by_cases h1 : amt l[i]
    · refine Ev.pos (decide_eq_true h1) ?_
      have hw : wrap64 (n + l[i]) = n + l[i] := by unfold amt at hn h1; exact wrap_eq (by omega) (by omega)
      rw [hw]
      refine Q.Ev.bindc (in_f _) ?_
      by_cases h2 : amt (n + l[i])
      · refine Ev.pos (decide_eq_true h2) ?_
        simp only [sumS]
        rw [if_pos ⟨h1, h2⟩, wrap_eq (by omega) (by omega)]
        exact ih (i + 1) _ (by omega) (by omega) h2
      refine Ev.neg (by simp [h2]) (Ev.ok ?_)
      simp only [sumS]; rw [if_neg (fun a => h2 a.2)]
    refine Ev.neg (by simp [h1]) (Ev.ok ?_)
    simp only [sumS]; rw [if_neg (fun a => h1 a.1)]
theorem amt0 : amt 0 := by unfold amt; omega
theorem cents_Add_f {l : List Int} (hl : l.length < 9223372036854775807) : Ev (fun k => cents_Add.f k l) (sumS 0 l) := by
  unfold cents_Add.f
  exact cents_Add_l0 hl l.length 0 0 (by omega) (by omega) amt0
theorem and32 {x : Int} (h0 : 0 ≤ x) (h1 : x < 18446744073709551616) : Go.bits .and .u64 x 4294967295 = x % 4294967296 :=
  Go.bits_mask .u64 64 (by decide) (fun n h0 h1 => u64_eq h0 h1) 32 (by decide) x h0 h1
theorem mul64_f {a b : Int} (ha0 : 0 ≤ a) (ha : a < 18446744073709551616) (hb0 : 0 ≤ b) (hb : b < 18446744073709551616) :
    bits_Mul64.f a b = some (a * b / 18446744073709551616, a * b % 18446744073709551616) := by
  unfold bits_Mul64.f
  rw [and32 ha0 ha, and32 hb0 hb]
  obtain ⟨ah, hah⟩ : ∃ x, x = a / 4294967296 := ⟨_, rfl⟩
  obtain ⟨al, hal⟩ : ∃ x, x = a % 4294967296 := ⟨_, rfl⟩
  obtain ⟨bh, hbh⟩ : ∃ x, x = b / 4294967296 := ⟨_, rfl⟩
  obtain ⟨bl, hbl⟩ : ∃ x, x = b % 4294967296 := ⟨_, rfl⟩
  rw [← hah, ← hal, ← hbh, ← hbl]
  have ea : a = ah * 4294967296 + al := by omega
  have eb : b = bh * 4294967296 + bl := by omega
  have bnd : ∀ x y : Int, 0 ≤ x → x ≤ 4294967295 → 0 ≤ y → y ≤ 4294967295 → 0 ≤ x * y ∧ x * y ≤ 18446744065119617025 := by
    intro x y hx0 hx hy0 hy
    refine ⟨Int.mul_nonneg hx0 hy0, ?_⟩
    have := Int.mul_le_mul hx hy hy0 (by omega)
    omega
  obtain ⟨p, hp⟩ : ∃ x, x = ah * bh := ⟨_, rfl⟩
  obtain ⟨q, hq⟩ : ∃ x, x = ah * bl := ⟨_, rfl⟩
  obtain ⟨r, hr⟩ : ∃ x, x = al * bh := ⟨_, rfl⟩
  obtain ⟨s, hs⟩ : ∃ x, x = al * bl := ⟨_, rfl⟩
  have bp := bnd ah bh (by omega) (by omega) (by omega) (by omega)
  have bq := bnd ah bl (by omega) (by omega) (by omega) (by omega)
  have br := bnd al bh (by omega) (by omega) (by omega) (by omega)
  have bs := bnd al bl (by omega) (by omega) (by omega) (by omega)
  have e : a * b = p * 18446744073709551616 + (q + r) * 4294967296 + s := by
    rw [ea, eb, hp, hq, hr, hs]
    simp only [Int.add_mul, Int.mul_add]
    rw [show ah * 4294967296 * (bh * 4294967296) = ah * bh * 18446744073709551616 by rw [Int.mul_assoc, Int.mul_left_comm 4294967296 bh, Int.mul_assoc ah bh]; rfl, show ah * 4294967296 * bl = ah * bl * 4294967296 by rw [Int.mul_right_comm], show al * (bh * 4294967296) = al * bh * 4294967296 by rw [Int.mul_assoc]]
    omega
  rw [← hp] at bp
  rw [← hq] at bq
  rw [← hr] at br
  rw [← hs] at bs
  rw [← hp, ← hq, ← hr, ← hs, e]
  clear e hp hq hr hs ea eb hah hal hbh hbl
  rw [u64_eq (x := p) (by omega) (by omega), u64_eq (x := q) (by omega) (by omega), u64_eq (x := r) (by omega) (by omega), u64_eq (x := s) (by omega) (by omega)]
  rw [u64_eq (x := q + s / 4294967296) (by omega) (by omega)]
  rw [u64_eq (x := p + (q + s / 4294967296) / 4294967296) (by omega) (by omega)]
  rw [and32 (x := q + s / 4294967296) (by omega) (by omega)]
  rw [u64_eq (x := (q + s / 4294967296) % 4294967296 + r) (by omega) (by omega)]
  rw [u64_eq (x := p + (q + s / 4294967296) / 4294967296 + ((q + s / 4294967296) % 4294967296 + r) / 4294967296) (by omega) (by omega)]
  have hw : IntKind.u64.wrap (p * 18446744073709551616 + (q + r) * 4294967296 + s) = (p * 18446744073709551616 + (q + r) * 4294967296 + s) % 18446744073709551616 := by simp [IntKind.wrap, IntKind.signed, IntKind.bits]
  rw [hw]
  congr 2
  omega
theorem product_f {a b : Int} (ha0 : 0 ≤ a) (ha : a < 18446744073709551616) (hb0 : 0 ≤ b) (hb : b < 18446744073709551616) :
    cents_product.f a b = some (a * b / 18446744073709551616, a * b % 18446744073709551616) := by
  unfold cents_product.f
  rw [mul64_f ha0 ha hb0 hb]
  rfl
theorem above_f {x y : Int} (hx0 : 0 ≤ x) (hy0 : 0 ≤ y) : cents_wide_above.f (x / 18446744073709551616) (x % 18446744073709551616) (y / 18446744073709551616) (y % 18446744073709551616) = some (decide (x > y)) := by
  unfold cents_wide_above.f
  split
  · exact congrArg some (decide_eq_true (by omega)).symm
  split
  · exact congrArg some (decide_eq_decide.2 (by omega))
  exact congrArg some (decide_eq_false (by omega)).symm
end Go.Proofs.Ytefhljhpcpajgaa.Q
set_option linter.unusedVariables false
set_option maxRecDepth 4000
namespace Go.Proofs.Ytefhljhpcpajgaa.Q
open Go.RowKit Go.Proofs.Ytefhljhpcpajgaa.F Go.Proofs.YtefhljhpcpajgaaW.PrintWords Go.Proofs.YtefhljhpcpajgaaW.PrintLast Go.Proofs.YtefhljhpcpajgaaW.PrintMore
abbrev tab8 : ByteArray := (⟨#[0, 1, 2, 2, 3, 3, 3, 3, 4, 4, 4, 4, 4, 4, 4, 4, 5, 5, 5, 5, 5, 5, 5, 5, 5, 5, 5, 5, 5, 5, 5, 5, 6, 6, 6, 6, 6, 6, 6, 6, 6, 6, 6, 6, 6, 6, 6, 6, 6, 6, 6, 6, 6, 6, 6, 6, 6, 6, 6, 6, 6, 6, 6, 6, 7, 7, 7, 7, 7, 7, 7, 7, 7, 7, 7, 7, 7, 7, 7, 7, 7, 7, 7, 7, 7, 7, 7, 7, 7, 7, 7, 7, 7, 7, 7, 7, 7, 7, 7, 7, 7, 7, 7, 7, 7, 7, 7, 7, 7, 7, 7, 7, 7, 7, 7, 7, 7, 7, 7, 7, 7, 7, 7, 7, 7, 7, 7, 7, 8, 8, 8, 8, 8, 8, 8, 8, 8, 8, 8, 8, 8, 8, 8, 8, 8, 8, 8, 8, 8, 8, 8, 8, 8, 8, 8, 8, 8, 8, 8, 8, 8, 8, 8, 8, 8, 8, 8, 8, 8, 8, 8, 8, 8, 8, 8, 8, 8, 8, 8, 8, 8, 8, 8, 8, 8, 8, 8, 8, 8, 8, 8, 8, 8, 8, 8, 8, 8, 8, 8, 8, 8, 8, 8, 8, 8, 8, 8, 8, 8, 8, 8, 8, 8, 8, 8, 8, 8, 8, 8, 8, 8, 8, 8, 8, 8, 8, 8, 8, 8, 8, 8, 8, 8, 8, 8, 8, 8, 8, 8, 8, 8, 8, 8, 8, 8, 8, 8, 8, 8, 8, 8, 8, 8, 8, 8, 8]⟩ : ByteArray)
def len8ok (x : Nat) : Bool := let t := (bt tab8 (x : Int)).toNat; decide (bt tab8 (x : Int) = (t : Int)) && decide (t ≤ 8) && decide (x < 2 ^ t) && (x == 0 || (decide (1 ≤ t) && decide (2 ^ (t - 1) ≤ x)))
theorem len8_all : (List.range 256).all len8ok = true := by decide +kernel
theorem len8 {x : Int} (h0 : 0 ≤ x) (h1 : x < 256) : ∃ t : Nat, bt tab8 x = (t : Int) ∧ t ≤ 8 ∧ x < (2 : Int) ^ t ∧ (0 < x → 1 ≤ t ∧ (2 : Int) ^ (t - 1) ≤ x) := by
  obtain ⟨n, rfl⟩ := Int.eq_ofNat_of_zero_le h0
  have h := List.all_eq_true.1 len8_all n (List.mem_range.2 (by omega))
  unfold len8ok at h
  simp only [Bool.and_eq_true, decide_eq_true_eq, Bool.or_eq_true, beq_iff_eq] at h
  obtain ⟨⟨⟨ha, hb⟩, hc⟩, hd⟩ := h
  refine ⟨_, ha, hb, by exact_mod_cast hc, fun hp => ?_⟩
  rcases hd with hd | hd
  · omega
  exact ⟨hd.1, by exact_mod_cast hd.2⟩
theorem up_pow {x : Int} {m t : Nat} (hx : 0 ≤ x) (ht : 1 ≤ t) (h1 : (2 : Int) ^ (t - 1) ≤ x / 2 ^ m) (h2 : x / 2 ^ m < (2 : Int) ^ t) : (2 : Int) ^ (m + t - 1) ≤ x ∧ x < (2 : Int) ^ (m + t) := by
  have hp : (0 : Int) < 2 ^ m := Int.pow_pos (by decide)
  constructor
  · rw [show m + t - 1 = (t - 1) + m by omega, Int.pow_add]
    exact (Int.le_ediv_iff_mul_le hp).1 h1
  rw [Nat.add_comm, Int.pow_add]
  exact (Int.ediv_lt_iff_lt_mul hp).1 h2
theorem len64_j0 {x c : Int} (hx0 : 0 < x) (hx : x < 4294967296) (hc0 : 0 ≤ c) (hc : c ≤ 32) : ∃ n : Nat, Ev (fun k => bits_Len64.j0 k x c) (c + n) ∧ 1 ≤ n ∧ n ≤ 32 ∧ (2 : Int) ^ (n - 1) ≤ x ∧ x < (2 : Int) ^ n := by
  by_cases h1 : x ≥ 65536
  · by_cases h2 : x / 65536 ≥ 256
    · obtain ⟨t, e, ht, hlt, hpos⟩ := len8 (x := x / 65536 / 256 % 256) (by omega) (by omega)
      obtain ⟨h3, h4⟩ := hpos (by omega)
      have e2 : x / 65536 / 256 % 256 = x / 2 ^ 24 := by rw [show (2 : Int) ^ 24 = 16777216 by decide]; omega
      rw [e2] at hlt h4
      obtain ⟨h5, h6⟩ := up_pow (m := 24) (by omega) h3 h4 hlt
      refine ⟨24 + t, Ev.step (fun k => by simp only [bits_Len64.j0]; rfl) ?_, by omega, by omega, h5, h6⟩
      refine Ev.pos h1 (Ev.pos h2 (Ev.pos (by omega) (Ev.pos (by omega) (Ev.ok ?_))))
      rw [e, wrap_eq (x := c + 16) (by omega) (by omega), wrap_eq (x := (t : Int)) (by omega) (by omega), wrap_eq (x := c + 16 + 8) (by omega) (by omega), wrap_eq (by omega) (by omega)]
      omega
    obtain ⟨t, e, ht, hlt, hpos⟩ := len8 (x := x / 65536 % 256) (by omega) (by omega)
    obtain ⟨h3, h4⟩ := hpos (by omega)
    have e2 : x / 65536 % 256 = x / 2 ^ 16 := by rw [show (2 : Int) ^ 16 = 65536 by decide]; omega
    rw [e2] at hlt h4
    obtain ⟨h5, h6⟩ := up_pow (m := 16) (by omega) h3 h4 hlt
    refine ⟨16 + t, Ev.step (fun k => by simp only [bits_Len64.j0]; rfl) ?_, by omega, by omega, h5, h6⟩
    refine Ev.pos h1 (Ev.neg h2 (Ev.pos (by omega) (Ev.pos (by omega) (Ev.ok ?_))))
    rw [e, wrap_eq (x := c + 16) (by omega) (by omega), wrap_eq (x := (t : Int)) (by omega) (by omega), wrap_eq (by omega) (by omega)]
    omega
  by_cases h2 : x ≥ 256
  · obtain ⟨t, e, ht, hlt, hpos⟩ := len8 (x := x / 256 % 256) (by omega) (by omega)
    obtain ⟨h3, h4⟩ := hpos (by omega)
    have e2 : x / 256 % 256 = x / 2 ^ 8 := by rw [show (2 : Int) ^ 8 = 256 by decide]; omega
    rw [e2] at hlt h4
    obtain ⟨h5, h6⟩ := up_pow (m := 8) (by omega) h3 h4 hlt
    refine ⟨8 + t, Ev.step (fun k => by simp only [bits_Len64.j0]; rfl) ?_, by omega, by omega, h5, h6⟩
    refine Ev.neg h1 (Ev.pos h2 (Ev.pos (by omega) (Ev.pos (by omega) (Ev.ok ?_))))
    rw [e, wrap_eq (x := c + 8) (by omega) (by omega), wrap_eq (x := (t : Int)) (by omega) (by omega), wrap_eq (by omega) (by omega)]
    omega
  obtain ⟨t, e, ht, hlt, hpos⟩ := len8 (x := x % 256) (by omega) (by omega)
  obtain ⟨h3, h4⟩ := hpos (by omega)
  have e2 : x % 256 = x := by omega
  rw [e2] at hlt h4
  refine ⟨t, Ev.step (fun k => by simp only [bits_Len64.j0]; rfl) ?_, by omega, by omega, h4, hlt⟩
  refine Ev.neg h1 (Ev.neg h2 (Ev.pos (by omega) (Ev.pos (by omega) (Ev.ok ?_))))
  rw [e, wrap_eq (x := (t : Int)) (by omega) (by omega), wrap_eq (by omega) (by omega)]
theorem len64_f {x : Int} (hx0 : 0 < x) (hx : x < 18446744073709551616) : ∃ n : Nat, Ev (fun k => bits_Len64.f k x) (n : Int) ∧ 1 ≤ n ∧ n ≤ 64 ∧ (2 : Int) ^ (n - 1) ≤ x ∧ x < (2 : Int) ^ n := by
  by_cases h : x ≥ 4294967296
  · obtain ⟨n, h1, h2, h3, h4, h5⟩ := len64_j0 (x := x / 4294967296) (c := 32) (by omega) (by omega) (by omega) (by omega)
    have e2 : (4294967296 : Int) = 2 ^ 32 := by decide
    obtain ⟨h6, h7⟩ := up_pow (m := 32) (x := x) (by omega) h2 (by rw [← e2]; exact h4) (by rw [← e2]; exact h5)
    refine ⟨32 + n, ?_, by omega, by omega, h6, h7⟩
    unfold bits_Len64.f
    refine Ev.pos h ?_
    have := h1
    rwa [show (32 : Int) + n = ((32 + n : Nat) : Int) by omega] at this
  obtain ⟨n, h1, h2, h3, h4, h5⟩ := len64_j0 (x := x) (c := 0) (by omega) (by omega) (by omega) (by omega)
  refine ⟨n, ?_, by omega, by omega, h4, h5⟩
  unfold bits_Len64.f
  refine Ev.neg h ?_
  rwa [Int.zero_add] at h1
theorem u64_mod (x : Int) : IntKind.u64.wrap x = x % 18446744073709551616 := by simp [IntKind.wrap, IntKind.signed, IntKind.bits]
theorem digit {Y y1 y0 u d q r U Q : Int} (hY : Y = y1 * 4294967296 + y0) (h1 : 2147483648 ≤ y1) (h0 : 0 ≤ y0) (h0' : y0 < 4294967296) (hu0 : 0 ≤ u) (hu : u < Y) (hd0 : 0 ≤ d) (hd : d < 4294967296)
    (hU : U = u * 4294967296 + d) (hQ : Q = U / Y) (hqr : q * y1 + r = u) (hq0 : 0 ≤ q) (hq : q ≤ 4294967297) (hr0 : 0 ≤ r) (hr : r < 4294967296) (hge : Q ≤ q) :
    ((q ≥ 4294967296 ∨ q < 4294967296 ∧ 4294967296 * r + d < q * y0) ∧ Q ≤ q - 1 ∧ 1 ≤ q ∧ (r + y1 ≥ 4294967296 → q - 1 = Q)) ∨ (q < 4294967296 ∧ ¬ (4294967296 * r + d < q * y0) ∧ q = Q) := by
  have hYp : 0 < Y := by omega
  have eq : q * Y = (u - r) * 4294967296 + q * y0 := by
    rw [hY, Int.mul_add, ← Int.mul_assoc, show q * y1 = u - r by omega]
  have hlt : ∀ z : Int, Q < z ↔ U < z * Y := fun z => by rw [hQ]; exact Int.ediv_lt_iff_lt_mul hYp
  have hQ0 : 0 ≤ Q := by rw [hQ]; exact Int.ediv_nonneg (by omega) (by omega)
  have brk : Q ≤ q - 1 → r + y1 ≥ 4294967296 → q - 1 = Q := by
    intro h2 h3
    have h4 : ¬ (Q < q - 1) := by
      rw [hlt, Int.sub_mul, eq, hY, Int.one_mul]
      have : (q - 1) * y0 ≤ 4294967296 * y0 := Int.mul_le_mul_of_nonneg_right (by omega) h0
      rw [Int.sub_mul, Int.one_mul] at this
      omega
    omega
  by_cases h2 : q ≥ 4294967296
  · have h3 : Q < q := by
      have : Q < 4294967296 := by rw [hlt]; omega
      omega
    exact .inl ⟨.inl h2, by omega, by omega, brk (by omega)⟩
  by_cases h3 : 4294967296 * r + d < q * y0
  · have h4 : Q < q := by rw [hlt, eq]; omega
    exact .inl ⟨.inr ⟨by omega, h3⟩, by omega, by omega, brk (by omega)⟩
  have h4 : ¬ Q < q := by rw [hlt, eq]; omega
  exact .inr ⟨by omega, h3, by omega⟩
theorem rest_word {Y u d U Q : Int} (hY : 0 < Y) (hY' : Y < 18446744073709551616) (hU : U = u * 4294967296 + d) (hQ : Q = U / Y) : IntKind.u64.wrap (IntKind.u64.wrap (IntKind.u64.wrap (u * 4294967296) + d) - IntKind.u64.wrap (Q * Y)) = U % Y := by
  simp only [u64_mod]
  have h1 := Int.emod_nonneg U (show Y ≠ 0 by omega)
  have h2 := Int.emod_lt_of_pos U hY
  have h3 : U % Y = U - Q * Y := by rw [Int.emod_def, hQ, Int.mul_comm]
  rw [h3] at h1 h2 ⊢
  omega
structure Div1 (Y y1 y0 : Int) : Prop where
  eq : Y = y1 * 4294967296 + y0
  lo : 2147483648 ≤ y1
  hi : y1 < 4294967296
  z0 : 0 ≤ y0
  z1 : y0 < 4294967296
theorem div_l1 {Y y1 y0 u d s q1 U Q : Int} (D : Div1 Y y1 y0) (hu0 : 0 ≤ u) (hu : u < Y) (hd0 : 0 ≤ d) (hd : d < 4294967296) (hs : 0 ≤ s) (hU : U = u * 4294967296 + d) (hQ : Q = U / Y) (m : Nat) :
    ∀ q r : Int, q * y1 + r = u → 0 ≤ q → q ≤ 4294967297 → 0 ≤ r → r < 4294967296 → Q ≤ q → 4294967296 ≤ r + m * 2147483648 →
    Ev (fun k => bits_Div64.l1 k Y s y1 y0 d q1 r u q) (IntKind.u64.wrap (IntKind.u64.wrap (q1 * 4294967296) + Q), shr .u64 (U % Y) s) := by
  obtain ⟨hY, h1, h1', h0, h0'⟩ := D
  induction m with
  | zero => intro q r _ _ _ _ _ _ hm; omega
  | succ m ih =>
    intro q r hqr hq0 hq hr0 hr hge hm
    have H := digit hY h1 h0 h0' hu0 hu hd0 hd hU hQ hqr hq0 hq hr0 hr hge
    have rw_ := rest_word (show 0 < Y by omega) (by omega) hU hQ
    have yes : ((q ≥ 4294967296 ∨ q < 4294967296 ∧ 4294967296 * r + d < q * y0) ∧ Q ≤ q - 1 ∧ 1 ≤ q ∧ (r + y1 ≥ 4294967296 → q - 1 = Q)) → Ev (fun k => bits_Div64.j4 k Y s y1 y0 d q1 r u q true) (IntKind.u64.wrap (IntKind.u64.wrap (q1 * 4294967296) + Q), shr .u64 (U % Y) s) := by
      rintro ⟨_, h3, h4, h5⟩
      refine Ev.step (fun k => by simp only [bits_Div64.j4]; rfl) ?_
      refine Ev.pos (by first | trivial | rfl) ?_
      rw [u64_eq (x := r + y1) (by omega) (by omega), u64_eq (x := q - 1) (by omega) (by omega)]
      refine Ev.ite (fun h6 => Ev.pos hs (Ev.ok ?_)) (fun h6 => ?_)
      · rw [h5 h6, rw_]
      exact ih (q - 1) (r + y1) (by rw [Int.sub_mul]; omega) (by omega) (by omega) (by omega) (by omega) h3 (by omega)
    have no : q = Q → Ev (fun k => bits_Div64.j4 k Y s y1 y0 d q1 r u q false) (IntKind.u64.wrap (IntKind.u64.wrap (q1 * 4294967296) + Q), shr .u64 (U % Y) s) := by
      rintro rfl
      refine Ev.step (fun k => by simp only [bits_Div64.j4]; rfl) ?_
      refine Ev.neg (by decide) (Ev.pos hs (Ev.ok ?_))
      rw [rw_]
    refine Ev.step (fun k => by simp only [bits_Div64.l1]; rfl) ?_
    refine Ev.ite (fun h6 => ?_) (fun h6 => ?_)
    · rcases H with H | H
      · exact yes H
      omega
    have hb : q * y0 ≤ 4294967295 * 4294967295 := Int.mul_le_mul (by omega) (by omega) h0 (by decide)
    have hb0 : 0 ≤ q * y0 := Int.mul_nonneg hq0 h0
    rw [u64_eq (x := q * y0) hb0 (by omega), u64_eq (x := 4294967296 * r) (by omega) (by omega), u64_eq (x := 4294967296 * r + d) (by omega) (by omega)]
    rcases H with H | H
    · rw [decide_eq_true (by omega)]; exact yes H
    rw [decide_eq_false (by omega)]; exact no H.2.2
theorem div_l0 {Y y1 y0 u d d0 s U Q : Int} {R : Int × Int} (D : Div1 Y y1 y0) (hu0 : 0 ≤ u) (hu : u < Y) (hd0 : 0 ≤ d) (hd : d < 4294967296) (hU : U = u * 4294967296 + d) (hQ : Q = U / Y)
    (next : Ev (fun k => bits_Div64.j2 k Y s y1 y0 u d d0 Q) R) (m : Nat) :
    ∀ q r : Int, q * y1 + r = u → 0 ≤ q → q ≤ 4294967297 → 0 ≤ r → r < 4294967296 → Q ≤ q → 4294967296 ≤ r + m * 2147483648 →
    Ev (fun k => bits_Div64.l0 k Y s y1 y0 u d d0 q r) R := by
  obtain ⟨hY, h1, h1', h0, h0'⟩ := D
  induction m with
  | zero => intro q r _ _ _ _ _ _ hm; omega
  | succ m ih =>
    intro q r hqr hq0 hq hr0 hr hge hm
    have H := digit hY h1 h0 h0' hu0 hu hd0 hd hU hQ hqr hq0 hq hr0 hr hge
    have yes : ((q ≥ 4294967296 ∨ q < 4294967296 ∧ 4294967296 * r + d < q * y0) ∧ Q ≤ q - 1 ∧ 1 ≤ q ∧ (r + y1 ≥ 4294967296 → q - 1 = Q)) → Ev (fun k => bits_Div64.j1 k Y s y1 y0 u d d0 q r true) R := by
      rintro ⟨_, h3, h4, h5⟩
      refine Ev.step (fun k => by simp only [bits_Div64.j1]; rfl) ?_
      refine Ev.pos (by first | trivial | rfl) ?_
      rw [u64_eq (x := r + y1) (by omega) (by omega), u64_eq (x := q - 1) (by omega) (by omega)]
      refine Ev.ite (fun h6 => ?_) (fun h6 => ?_)
      · rw [h5 h6]; exact next
      exact ih (q - 1) (r + y1) (by rw [Int.sub_mul]; omega) (by omega) (by omega) (by omega) (by omega) h3 (by omega)
    have no : q = Q → Ev (fun k => bits_Div64.j1 k Y s y1 y0 u d d0 q r false) R := by
      rintro rfl
      refine Ev.step (fun k => by simp only [bits_Div64.j1]; rfl) ?_
      exact Ev.neg (by decide) next
    refine Ev.step (fun k => by simp only [bits_Div64.l0]; rfl) ?_
    refine Ev.ite (fun h6 => ?_) (fun h6 => ?_)
    · rcases H with H | H
      · exact yes H
      omega
    have hb : q * y0 ≤ 4294967295 * 4294967295 := Int.mul_le_mul (by omega) (by omega) h0 (by decide)
    have hb0 : 0 ≤ q * y0 := Int.mul_nonneg hq0 h0
    rw [u64_eq (x := q * y0) hb0 (by omega), u64_eq (x := 4294967296 * r) (by omega) (by omega), u64_eq (x := 4294967296 * r + d) (by omega) (by omega)]
    rcases H with H | H
    · rw [decide_eq_true (by omega)]; exact yes H
    rw [decide_eq_false (by omega)]; exact no H.2.2
theorem guess {Y y1 y0 u d U Q : Int} (D : Div1 Y y1 y0) (hu0 : 0 ≤ u) (hu : u < Y) (hd0 : 0 ≤ d) (hd : d < 4294967296) (hU : U = u * 4294967296 + d) (hQ : Q = U / Y) :
    ∃ q r : Int, IntKind.u64.wrap (Int.tdiv u y1) = q ∧ IntKind.u64.wrap (u - IntKind.u64.wrap (q * y1)) = r ∧ q * y1 + r = u ∧ 0 ≤ q ∧ q ≤ 4294967297 ∧ 0 ≤ r ∧ r < 4294967296 ∧ Q ≤ q := by
  obtain ⟨hY, h1, h1', h0, h0'⟩ := D
  have hq0 : 0 ≤ u / y1 := Int.ediv_nonneg hu0 (by omega)
  have hq : u / y1 < 4294967298 := by rw [Int.ediv_lt_iff_lt_mul (by omega)]; omega
  have hm := Int.emod_def u y1
  have hr0 := Int.emod_nonneg u (show y1 ≠ 0 by omega)
  have hr := Int.emod_lt_of_pos u (show 0 < y1 by omega)
  have hc : u / y1 * y1 = u - u % y1 := by rw [Int.mul_comm]; omega
  have hcp : 0 ≤ u / y1 * y1 := Int.mul_nonneg hq0 (by omega)
  refine ⟨u / y1, u % y1, ?_, ?_, by omega, hq0, by omega, hr0, by omega, ?_⟩
  · rw [Int.tdiv_eq_ediv_of_nonneg hu0, u64_eq hq0 (by omega)]
  · rw [hc, u64_eq (x := u - u % y1) (by omega) (by omega), show u - (u - u % y1) = u % y1 by omega, u64_eq (by omega) (by omega)]
  have hlt : Q < u / y1 + 1 := by
    rw [hQ, Int.ediv_lt_iff_lt_mul (by omega), hY, Int.mul_add, ← Int.mul_assoc, Int.add_mul, hc, Int.one_mul]
    have : 0 ≤ (u / y1 + 1) * y0 := Int.mul_nonneg (by omega) h0
    omega
  omega
theorem shl_at {x y s : Int} {n : Nat} (hs : s = (n : Int)) (hn : n ≤ 64) (h : x * 2 ^ n = y) (h0 : 0 ≤ y) (h1 : y < 18446744073709551616) : shl .u64 x s = y := by
  unfold shl
  rw [hs, Int.toNat_natCast, Nat.min_eq_left (by simpa [IntKind.bits] using hn), h, u64_eq h0 h1]
theorem and32' {x : Int} (h0 : 0 ≤ x) (h1 : x < 18446744073709551616) : Go.bits .and .u64 x 4294967295 = x % 4294967296 :=
  Go.bits_mask .u64 64 (by decide) (fun n h0 h1 => u64_eq h0 h1) 32 (by decide) x h0 h1
theorem div64_f {a b c : Int} (ha0 : 0 ≤ a) (ha : a < c) (hb0 : 0 ≤ b) (hb : b < 18446744073709551616) (hc : c < 18446744073709551616) :
    Ev (fun k => bits_Div64.f k a b c) ((a * 18446744073709551616 + b) / c, (a * 18446744073709551616 + b) % c) := by
  have hc0 : 0 < c := by omega
  unfold bits_Div64.f
  refine Ev.neg (by omega) (Ev.neg (by omega) ?_)
  by_cases hz : a = 0
  · refine Ev.pos hz (Ev.ok ?_)
    subst hz
    rw [Int.zero_mul, Int.zero_add, Int.tdiv_eq_ediv_of_nonneg hb0, Int.tmod_eq_emod_of_nonneg hb0]
    have h1 := Int.ediv_nonneg hb0 (show 0 ≤ c by omega)
    have h2 := Int.ediv_le_self c hb0
    rw [u64_eq h1 (by omega)]
  refine Ev.neg hz ?_
  obtain ⟨n, hev, hn1, hn2, hlo, hhi⟩ := len64_f hc0 hc
  obtain ⟨s, hs⟩ : ∃ s : Nat, s = 64 - n := ⟨_, rfl⟩
  have hsn : s + n = 64 := by omega
  have hs63 : s ≤ 63 := by omega
  obtain ⟨p, hp⟩ : ∃ p : Int, p = 2 ^ s := ⟨_, rfl⟩
  obtain ⟨r, hr⟩ : ∃ r : Int, r = 2 ^ n := ⟨_, rfl⟩
  have hp0 : 0 < p := by rw [hp]; exact Int.pow_pos (by decide)
  have hr0 : 0 < r := by rw [hr]; exact Int.pow_pos (by decide)
  have hpr : p * r = 18446744073709551616 := by rw [hp, hr, ← Int.pow_add, hsn]; decide
  have hY1 : c * p < 18446744073709551616 := by
    rw [← hpr, Int.mul_comm p r]
    exact Int.mul_lt_mul_of_pos_right (by rw [hr]; exact hhi) hp0
  have hY0 : 9223372036854775808 ≤ c * p := by
    have h1 : (2 : Int) ^ (n - 1) * p ≤ c * p := Int.mul_le_mul_of_nonneg_right hlo (by omega)
    have h2 : (2 : Int) ^ (n - 1) * p = 9223372036854775808 := by
      rw [hp, ← Int.pow_add, show n - 1 + s = 63 by omega]; decide
    omega
  obtain ⟨Y, hY⟩ : ∃ Y, Y = c * p := ⟨_, rfl⟩
  rw [← hY] at hY0 hY1
  have haY : a * p < Y := by rw [hY]; exact Int.mul_lt_mul_of_pos_right ha hp0
  have hap0 : 0 ≤ a * p := Int.mul_nonneg ha0 (by omega)
  have hbr0 : 0 ≤ b / r := Int.ediv_nonneg hb0 (by omega)
  have hbr : b / r < p := by rw [Int.ediv_lt_iff_lt_mul hr0, hpr]; exact hb
  have eY : shl .u64 c (s : Int) = Y := shl_at rfl (by omega) (by rw [hY, hp]) (by omega) hY1
  have ea : shl .u64 a (s : Int) = a * p := shl_at rfl (by omega) (by rw [hp]) hap0 (by omega)
  have eb : shr .u64 b (n : Int) = b / r := by
    unfold shr
    rw [Int.toNat_natCast, Nat.min_eq_left (by simpa [IntKind.bits] using hn2), hr]
  have eb2 : shl .u64 b (s : Int) = (b * p) % 18446744073709551616 := by
    unfold shl
    rw [Int.toNat_natCast, Nat.min_eq_left (by simp [IntKind.bits]; omega), u64_mod, hp]
  have hor : Go.bits .or .u64 (a * p) (b / r) = a * p + b / r := by
    refine Go.bits_join .u64 64 (by decide) (fun n h0 h1 => u64_eq h0 h1) s (a * p) (b / r) hap0 ?_ ?_ hbr0 ?_ ?_
    · rw [hp]; exact Int.mul_emod_left _ _
    · exact Int.lt_trans haY hY1
    · rw [← hp]; exact hbr
    have : p ≤ 18446744073709551616 := by
      rw [← hpr]
      have := Int.mul_le_mul_of_nonneg_left (show (1 : Int) ≤ r by omega) (show 0 ≤ p by omega)
      omega
    exact Int.lt_of_lt_of_le hbr this
  obtain ⟨u, hu⟩ : ∃ u, u = a * p + b / r := ⟨_, rfl⟩
  rw [← hu] at hor
  have huY : u < Y := by
    have h1 : (a + 1) * p ≤ c * p := Int.mul_le_mul_of_nonneg_right (by omega) (by omega)
    rw [Int.add_mul, Int.one_mul, ← hY] at h1
    omega
  have hu0 : 0 ≤ u := by omega
  obtain ⟨v, hv⟩ : ∃ v, v = (b * p) % 18446744073709551616 := ⟨_, rfl⟩
  rw [← hv] at eb2
  have hv0 : 0 ≤ v := by omega
  have hv1 : v < 18446744073709551616 := by omega
  have hbp : b * p = (b / r) * 18446744073709551616 + v := by
    have h1 : b * p / 18446744073709551616 = b / r := by
      rw [← hpr, Int.mul_comm p r]
      exact Int.mul_ediv_mul_of_pos_left b r hp0
    have h2 := Int.mul_ediv_add_emod (b * p) 18446744073709551616
    rw [h1, ← hv] at h2
    omega
  have hN : (a * 18446744073709551616 + b) * p = u * 18446744073709551616 + v := by
    rw [Int.add_mul, hbp, hu, Int.add_mul, Int.mul_right_comm]
    omega
  have ew : IntKind.u64.wrap (wrap64 (64 - (n : Int))) = (s : Int) := by
    rw [wrap_eq (by omega) (by omega), u64_eq (by omega) (by omega)]; omega
  have ew2 : IntKind.u64.wrap (64 - (s : Int)) = (n : Int) := by rw [u64_eq (by omega) (by omega)]; omega
  have hlz : Ev (fun k => bits_LeadingZeros64.f k c) (wrap64 (64 - (n : Int))) := by
    unfold bits_LeadingZeros64.f
    exact Ev.bind hev (Ev.ok rfl)
  refine Ev.bind hlz ?_
  simp only [ew, ew2, eY, ea, eb, eb2, hor]
  have D : Div1 Y (Y / 4294967296) (Go.bits .and .u64 Y 4294967295) := by
    rw [and32' (by omega) hY1]
    exact ⟨by omega, by omega, by omega, by omega, by omega⟩
  rw [and32' hv0 hv1]
  refine Ev.pos (by omega) (Ev.pos (by omega) (Ev.neg (by have := D.lo; omega) ?_))
  obtain ⟨y1, hy1⟩ : ∃ x, x = Y / 4294967296 := ⟨_, rfl⟩
  obtain ⟨y0, hy0⟩ : ∃ x, x = Go.bits .and .u64 Y 4294967295 := ⟨_, rfl⟩
  rw [← hy1, ← hy0] at D ⊢
  obtain ⟨d1, hd1⟩ : ∃ x, x = v / 4294967296 := ⟨_, rfl⟩
  obtain ⟨d0, hd0⟩ : ∃ x, x = v % 4294967296 := ⟨_, rfl⟩
  rw [← hd1, ← hd0]
  obtain ⟨U1, hU1⟩ : ∃ x, x = u * 4294967296 + d1 := ⟨_, rfl⟩
  obtain ⟨Q1, hQ1⟩ : ∃ x, x = U1 / Y := ⟨_, rfl⟩
  obtain ⟨R1, hR1⟩ : ∃ x, x = U1 % Y := ⟨_, rfl⟩
  obtain ⟨U0, hU0⟩ : ∃ x, x = R1 * 4294967296 + d0 := ⟨_, rfl⟩
  obtain ⟨Q0, hQ0⟩ : ∃ x, x = U0 / Y := ⟨_, rfl⟩
  have hYp : 0 < Y := by omega
  have hR10 : 0 ≤ R1 := by rw [hR1]; exact Int.emod_nonneg _ (by omega)
  have hR1Y : R1 < Y := by rw [hR1]; exact Int.emod_lt_of_pos _ hYp
  have e1 : U1 = Q1 * Y + R1 := by rw [hQ1, hR1, Int.mul_comm]; exact (Int.mul_ediv_add_emod U1 Y).symm
  have hQ1lt : Q1 < 4294967296 := by rw [hQ1, Int.ediv_lt_iff_lt_mul hYp]; omega
  have hQ10 : 0 ≤ Q1 := by rw [hQ1]; exact Int.ediv_nonneg (by omega) (by omega)
  have hQ0lt : Q0 < 4294967296 := by rw [hQ0, Int.ediv_lt_iff_lt_mul hYp]; omega
  have hQ00 : 0 ≤ Q0 := by rw [hQ0]; exact Int.ediv_nonneg (by omega) (by omega)
  have hNU : (a * 18446744073709551616 + b) * p = U0 + (Q1 * 4294967296) * Y := by
    rw [hN, hU0, Int.mul_right_comm]
    have : Q1 * Y = U1 - R1 := by omega
    rw [this]
    omega
  have hq : (a * 18446744073709551616 + b) / c = Q1 * 4294967296 + Q0 := by
    rw [← Int.mul_ediv_mul_of_pos_left _ c hp0, ← hY, hNU, Int.add_mul_ediv_right _ _ (by omega), ← hQ0]
    omega
  have hm : (a * 18446744073709551616 + b) % c = (U0 % Y) / p := by
    have h1 : (a * 18446744073709551616 + b) * p % (c * p) = (a * 18446744073709551616 + b) % c * p := by
      rw [Int.mul_comm _ p, Int.mul_comm c p, Int.mul_emod_mul_of_pos _ _ hp0, Int.mul_comm]
    rw [← hY, hNU, Int.add_mul_emod_self_right] at h1
    rw [h1, Int.mul_ediv_cancel _ (by omega)]
  have last : shr .u64 (U0 % Y) (s : Int) = (a * 18446744073709551616 + b) % c := by
    rw [hm, hp]
    unfold shr
    rw [Int.toNat_natCast, Nat.min_eq_left (by simp [IntKind.bits]; omega)]
  have res : (IntKind.u64.wrap (IntKind.u64.wrap (Q1 * 4294967296) + Q0), shr .u64 (U0 % Y) (s : Int)) = ((a * 18446744073709551616 + b) / c, (a * 18446744073709551616 + b) % c) := by
    rw [last, hq, u64_eq (x := Q1 * 4294967296) (by omega) (by omega), u64_eq (by omega) (by omega)]
  rw [← res]
  obtain ⟨q, rr, g1, g2, g3, g4, g5, g6, g7, g8⟩ := guess D hu0 huY (by omega) (by omega) hU1 hQ1
  rw [g1, g2]
  refine div_l0 D hu0 huY (by omega) (by omega) hU1 hQ1 ?_ 2 q rr g3 g4 g5 g6 g7 g8 (by omega)
  refine Ev.step (fun k => by simp only [bits_Div64.j2]; rfl) ?_
  refine Ev.neg (by have := D.lo; omega) ?_
  rw [rest_word hYp hY1 hU1 hQ1, ← hR1]
  obtain ⟨q', r', g1, g2, g3, g4, g5, g6, g7, g8⟩ := guess D hR10 hR1Y (by omega) (by omega) hU0 hQ0
  rw [g1, g2]
  exact div_l1 D hR10 hR1Y (by omega) (by omega) (by omega) hU0 hQ0 2 q' r' g3 g4 g5 g6 g7 g8 (by omega)
end Go.Proofs.Ytefhljhpcpajgaa.Q
set_option linter.unusedVariables false
namespace Go.Proofs.Ytefhljhpcpajgaa.Q
open Go.RowKit Go.Proofs.Ytefhljhpcpajgaa.F Go.Proofs.YtefhljhpcpajgaaW.PrintWords Go.Proofs.YtefhljhpcpajgaaW.PrintLast Go.Proofs.YtefhljhpcpajgaaW.PrintMore
def may (a b c : Int) : Prop := 0 ≤ a ∧ a ≤ 1000000000000 ∧ 0 ≤ b ∧ b ≤ 1000000000000 ∧ c ≤ 1000000000000
instance (a b c : Int) : Decidable (may a b c) := by unfold may; infer_instance
def divS (a b c : Int) : Int × Int × Int := if c < 1 then (0, 0, 2) else if may a b c then (if a * b > c * 1000000000001 then (0, 0, 8) else (a * b / c, a * b % c, 0)) else (0, 0, 8)
def floorS (a b c : Int) : Int × Int := if c < 1 then (0, 2) else if may a b c then toldS (a * b / c) else (0, 8)
def restS (a b c : Int) : Int × Int := if c < 1 then (0, 2) else if may a b c then (if amt (a * b / c) then (a * b % c, 0) else (0, 8)) else (0, 8)
theorem mul_bound {x y B C : Int} (hx0 : 0 ≤ x) (hx : x ≤ B) (hy0 : 0 ≤ y) (hy : y ≤ C) : 0 ≤ x * y ∧ x * y ≤ B * C :=
  ⟨Int.mul_nonneg hx0 hy0, Int.mul_le_mul hx hy hy0 (by omega)⟩
theorem divided_f (a b c : Int) (hc1 : -9223372036854775808 ≤ c) (hc2 : c ≤ 9223372036854775807) : Ev (fun k => cents_divided.f k a b c) (divS a b c) := by
  unfold cents_divided.f divS
  refine Ev.ite (fun h => Ev.ok (by rw [if_pos h])) (fun h => ?_)
  rw [if_neg h]
  have bad : ¬ may a b c → (if may a b c then (if a * b > c * 1000000000001 then (0, 0, 8) else (a * b / c, a * b % c, 0)) else ((0 : Int), (0 : Int), (8 : Int))) = (0, 0, 8) := fun h => if_neg h
  refine Ev.ite (fun h1 => Ev.ok (bad (by unfold may; omega)).symm) (fun h1 => ?_)
  refine Ev.ite (fun h2 => Ev.ok (bad (by unfold may; omega)).symm) (fun h2 => ?_)
  refine Ev.bindc (in_f _) (Ev.ite (fun h3 => ?_) (fun h3 => Ev.ok (bad (fun hm => h3 (decide_eq_true (by unfold may at hm; unfold amt; omega)))).symm))
  refine Ev.bindc (in_f _) (Ev.ite (fun h4 => ?_) (fun h4 => Ev.ok (bad (fun hm => h4 (decide_eq_true (by unfold may at hm; unfold amt; omega)))).symm))
  refine Ev.bindc (in_f _) (Ev.ite (fun h5 => ?_) (fun h5 => Ev.ok (bad (fun hm => h5 (decide_eq_true (by unfold may at hm; unfold amt; omega)))).symm))
  have hm : may a b c := by
    have := of_decide_eq_true h3; have := of_decide_eq_true h4; have := of_decide_eq_true h5
    unfold amt at *; unfold may; omega
  rw [if_pos hm]
  unfold may at hm
  rw [u64_eq (x := a) (by omega) (by omega), u64_eq (x := b) (by omega) (by omega), u64_eq (x := c) (by omega) (by omega)]
  obtain ⟨m0, m1⟩ := mul_bound (x := a) (y := b) (B := 1000000000000) (C := 1000000000000) (by omega) (by omega) (by omega) (by omega)
  refine Ev.bindc (product_f (by omega) (by omega) (by omega) (by omega)) ?_
  refine Ev.bindc (product_f (by omega) (by omega) (by omega) (by omega)) ?_
  refine Ev.bindc (above_f m0 (by omega)) ?_
  by_cases h6 : a * b > c * 1000000000001
  · rw [if_pos h6]
    exact Ev.pos (decide_eq_true h6) (Ev.ok rfl)
  rw [if_neg h6]
  refine Ev.neg (by simp; omega) (Ev.neg (by dsimp only; omega) ?_)
  refine Ev.bind (div64_f (a := a * b / 18446744073709551616) (b := a * b % 18446744073709551616) (by omega) (by omega) (by omega) (by omega) (by omega)) ?_
  have e : a * b / 18446744073709551616 * 18446744073709551616 + a * b % 18446744073709551616 = a * b := by omega
  rw [e]
  have d0 : 0 ≤ a * b / c := Int.ediv_nonneg m0 (by omega)
  have d1 : a * b / c < 1000000000002 := by rw [Int.ediv_lt_iff_lt_mul (by omega)]; omega
  have r0 := Int.emod_nonneg (a * b) (show c ≠ 0 by omega)
  have r1 := Int.emod_lt_of_pos (a * b) (show 0 < c by omega)
  refine Ev.ok ?_
  dsimp only
  rw [wrap_eq (by omega) (by omega), wrap_eq (by omega) (by omega)]
theorem divS_cases (a b c : Int) : (c < 1 ∧ divS a b c = (0, 0, 2)) ∨ (1 ≤ c ∧ ¬ may a b c ∧ divS a b c = (0, 0, 8)) ∨ (1 ≤ c ∧ may a b c ∧ a * b / c > 1000000000000 ∧ divS a b c = (0, 0, 8)) ∨ (1 ≤ c ∧ may a b c ∧ 0 ≤ a * b / c ∧ a * b / c ≤ 1000000000001 ∧ 0 ≤ a * b % c ∧ a * b % c < c ∧ divS a b c = (a * b / c, a * b % c, 0)) := by
  unfold divS
  by_cases h : c < 1
  · exact .inl ⟨h, if_pos h⟩
  rw [if_neg h]
  by_cases h1 : may a b c
  · rw [if_pos h1]
    by_cases h2 : a * b > c * 1000000000001
    · refine .inr (.inr (.inl ⟨by omega, h1, ?_, if_pos h2⟩))
      have : 1000000000001 ≤ a * b / c := by rw [Int.le_ediv_iff_mul_le (by omega)]; omega
      omega
    have h3 := h1
    unfold may at h3
    refine .inr (.inr (.inr ⟨by omega, h1, Int.ediv_nonneg (Int.mul_nonneg h3.1 h3.2.2.1) (by omega), ?_, Int.emod_nonneg _ (by omega), Int.emod_lt_of_pos _ (by omega), if_neg h2⟩))
    have : a * b / c < 1000000000002 := by rw [Int.ediv_lt_iff_lt_mul (by omega)]; omega
    omega
  exact .inr (.inl ⟨by omega, h1, if_neg h1⟩)
theorem toldS_big {n : Int} (h : n > 1000000000000) : toldS n = (0, 8) := by unfold toldS; rw [if_neg (show ¬ amt n by unfold amt; omega)]
section
variable {a b c : Int} (hc1 : -9223372036854775808 ≤ c) (hc2 : c ≤ 9223372036854775807)
include hc1 hc2
theorem floor_f : Ev (fun k => cents_Floor.f k a b c) (floorS a b c) := by
  unfold cents_Floor.f
  refine Ev.bind (divided_f a b c hc1 hc2) ?_
  unfold floorS
  rcases divS_cases a b c with ⟨h, e⟩ | ⟨h, h1, e⟩ | ⟨h, h1, h2, e⟩ | ⟨h, h1, h2, h3, h4, h5, e⟩ <;> rw [e]
  · rw [if_pos h]; exact Ev.neg (by decide) (Ev.ok rfl)
  · rw [if_neg (show ¬ c < 1 by omega), if_neg h1]; exact Ev.neg (by decide) (Ev.ok rfl)
  · rw [if_neg (show ¬ c < 1 by omega), if_pos h1, toldS_big h2]; exact Ev.neg (by decide) (Ev.ok rfl)
  rw [if_neg (show ¬ c < 1 by omega), if_pos h1]; exact Ev.pos (by first | trivial | rfl) (Ev.bindc (told_f _) (Ev.ok rfl))
theorem rest_f : Ev (fun k => cents_Rest.f k a b c) (restS a b c) := by
  unfold cents_Rest.f
  refine Ev.bind (divided_f a b c hc1 hc2) ?_
  unfold restS
  rcases divS_cases a b c with ⟨h, e⟩ | ⟨h, h1, e⟩ | ⟨h, h1, h2, e⟩ | ⟨h, h1, h2, h3, h4, h5, e⟩ <;> rw [e]
  · rw [if_pos h]; exact Ev.neg (by decide) (Ev.ok rfl)
  · rw [if_neg (show ¬ c < 1 by omega), if_neg h1]; exact Ev.neg (by decide) (Ev.ok rfl)
  · rw [if_neg (show ¬ c < 1 by omega), if_pos h1, if_neg (show ¬ amt (a * b / c) by unfold amt; omega)]; exact Ev.neg (by decide) (Ev.ok rfl)
  rw [if_neg (show ¬ c < 1 by omega), if_pos h1]
  refine Ev.pos (by first | trivial | rfl) (Ev.bindc (told_f _) ?_)
  unfold toldS
  dsimp only
  by_cases h6 : amt (a * b / c)
  · simp only [if_pos h6]; exact Ev.pos (by first | trivial | rfl) (Ev.ok rfl)
  simp only [if_neg h6]; exact Ev.neg (by decide) (Ev.ok rfl)
end
end Go.Proofs.Ytefhljhpcpajgaa.Q
set_option linter.unusedVariables false
set_option linter.unusedSimpArgs false
namespace Go.Proofs.Ytefhljhpcpajgaa.Q
open Go.RowKit Go.Proofs.Ytefhljhpcpajgaa.F Go.Proofs.YtefhljhpcpajgaaW.PrintWords Go.Proofs.YtefhljhpcpajgaaW.PrintLast Go.Proofs.YtefhljhpcpajgaaW.PrintMore
theorem even_l0 {n : Nat} (hn : n ≤ 35184372088832) (d : Nat) : ∀ i : Nat, n - i = d → i ≤ n → Ev (fun k => share_even.l0 k (List.replicate i 1 ++ List.replicate (n - i) 0) (n : Int) (i : Int)) (List.replicate n 1) := by
  induction d with
  | zero =>
    intro i hd hi
    obtain rfl : i = n := by omega
    refine Ev.step (fun k => by simp only [share_even.l0]; rfl) ?_
    exact Ev.neg (by omega) (Ev.ok (by simp))
  | succ d ih =>
    intro i hd hi
    refine Ev.step (fun k => by simp only [share_even.l0]; rfl) ?_
    refine Ev.pos (by omega) (Ev.pos (by omega) (Ev.pos (by simp; omega) ?_))
    have e : (List.replicate i (1 : Int) ++ List.replicate (n - i) 0).set (i : Int).toNat 1 = List.replicate (i + 1) 1 ++ List.replicate (n - (i + 1)) 0 := by
      rw [Int.toNat_natCast]
      apply List.ext_getElem
      · simp; omega
      intro p h1 h2
      rw [List.getElem_set]
      simp only [List.getElem_append, List.getElem_replicate, List.length_replicate]
      (repeat' split) <;> first | rfl | omega
    rw [e, wrap_eq (by omega) (by omega)]
    exact ih (i + 1) (by omega) (by omega)
theorem even_f {n : Nat} (hn : n ≤ 35184372088832) : Ev (fun k => share_even.f k (n : Int)) (List.replicate n 1) := by
  unfold share_even.f
  refine Ev.pos (by omega) (Ev.pos (by rw [Int.toNat_natCast]; exact hn) ?_)
  refine Q.Ev.bindc rfl ?_
  have := even_l0 hn n 0 (by omega) (by omega)
  simpa using this
def maxS (m : Int) (l : List Int) : Int := l.foldl mx m
theorem max_l0 {l : List Int} (hl : l.length < 9223372036854775807) (d : Nat) : ∀ (i : Nat) (m : Int), l.length - i = d → i ≤ l.length → Ev (fun k => slices_Max_int_int.l0 k l m (i : Int)) (maxS m (l.drop i)) := by
  induction d with
  | zero =>
    intro i m hd hi
    refine Ev.step (fun k => by simp only [slices_Max_int_int.l0]; rfl) ?_
    refine Ev.neg (by omega) (Ev.ok ?_)
    rw [List.drop_eq_nil_of_le (by omega)]; rfl
  | succ d ih =>
    intro i m hd hi
    have h : i < l.length := by omega
    refine Ev.step (fun k => by simp only [slices_Max_int_int.l0]; rfl) ?_
    refine Ev.pos (by omega) (Ev.pos (by omega) ?_)
    rw [drop_cons h, rd_nat h, wrap_eq (by omega) (by omega)]
    exact ih (i + 1) _ (by omega) (by omega)
theorem maxS_zero {l : List Int} : ∀ {m : Int}, 0 ≤ m → (∀ x ∈ l, 0 ≤ x) → (maxS m l = 0 ↔ m = 0 ∧ sumI l = 0) := by
  induction l with
  | nil => intro m h0 hl; simp [maxS, sumI]
  | cons x l ih =>
    intro m h0 hl
    have hx := hl x List.mem_cons_self
    have hs := sumI_nonneg (fun y hy => hl y (List.mem_cons_of_mem _ hy))
    have := ih (m := mx m x) (by unfold mx; split <;> omega) (fun y hy => hl y (List.mem_cons_of_mem _ hy))
    show maxS (mx m x) l = 0 ↔ _
    rw [this, sumI_cons]
    unfold mx
    split <;> omega
theorem max_f {l : List Int} (h1 : 1 ≤ l.length) (hl : l.length < 9223372036854775807) (h0 : ∀ x ∈ l, 0 ≤ x) : ∃ m, Ev (fun k => slices_Max_int_int.f k l) m ∧ (m = 0 ↔ sumI l = 0) := by
  refine ⟨maxS (rd l 0) (l.drop 1), ?_, ?_⟩
  · unfold slices_Max_int_int.f
    refine Ev.neg (by omega) (Ev.pos (by omega) ?_)
    have := max_l0 hl (l.length - 1) 1 (rd l 0) rfl h1
    exact this
  cases l with
  | nil => simp at h1
  | cons x l =>
    have e : rd (x :: l) 0 = x := rfl
    rw [e, List.drop_succ_cons, List.drop_zero, maxS_zero (h0 x List.mem_cons_self) (fun y hy => h0 y (List.mem_cons_of_mem _ hy)), sumI_cons]
    have := h0 x List.mem_cons_self
    have := sumI_nonneg (fun y hy => h0 y (List.mem_cons_of_mem _ hy))
    omega
def negs (l : List Int) : Bool := l.any fun x => decide (x < 0)
theorem negs_false {l : List Int} : negs l = false ↔ ∀ x ∈ l, 0 ≤ x := by
  unfold negs
  rw [List.any_eq_false]
  exact ⟨fun h x hx => by have := h x hx; simp at this; omega, fun h x hx => by have := h x hx; simp; omega⟩
def wholeS (l : List Int) : Int × Int := if l.length < 1 ∨ 200 < l.length then (0, 2) else if negs l = true then (0, 8) else if 1000000000000 < sumI l then (0, 8) else if sumI l = 0 then ((l.length : Int), 0) else (sumI l, 0)
theorem sumS_nonneg {l : List Int} : ∀ {n : Int}, 0 ≤ n → n ≤ 1000000000000 → (∀ x ∈ l, 0 ≤ x) → sumS n l = if 1000000000000 < n + sumI l then (0, 8) else (n + sumI l, 0) := by
  induction l with
  | nil => intro n h0 h1 _; rw [show sumI ([] : List Int) = 0 from rfl, if_neg (by omega)]; simp [sumS]
  | cons x l ih =>
    intro n h0 h1 h
    have hx := h x List.mem_cons_self
    have hl := fun y hy => h y (List.mem_cons_of_mem _ hy)
    have hs := sumI_nonneg hl
    simp only [sumS]
    rw [sumI_cons]
    by_cases c : amt x ∧ amt (n + x)
    · rw [if_pos c, ih (by omega) (by have := c.2; unfold amt at this; omega) hl]
      rw [show n + x + sumI l = n + (x + sumI l) by omega]
    rw [if_neg c, if_pos (by unfold amt at c; omega)]
theorem whole_l0 {l : List Int} (hl : l.length ≤ 200) (d : Nat) : ∀ i : Nat, l.length - i = d → i ≤ l.length → (∀ x ∈ l.take i, 0 ≤ x) → Ev (fun k => share_Whole.l0 k l l (l.length : Int) (i : Int)) (if negs l = true then (0, 8) else if 1000000000000 < sumI l then (0, 8) else if sumI l = 0 then ((l.length : Int), 0) else (sumI l, 0)) := by
  induction d with
  | zero =>
    intro i hd hi ht
    refine Ev.step (fun k => by simp only [share_Whole.l0]; rfl) ?_
    refine Ev.neg (by omega) ?_
    rw [List.take_of_length_le (by omega)] at ht
    rw [if_neg (by rw [negs_false.2 ht]; decide)]
    refine Ev.bind (cents_Add_f (l := l) (by omega)) ?_
    rw [sumS_nonneg (by omega) (by omega) ht, show (0 : Int) + sumI l = sumI l by omega]
    by_cases c : 1000000000000 < sumI l
    · rw [if_pos c, if_pos c]
      exact Ev.neg (by decide) (Ev.const rfl)
    rw [if_neg c, if_neg c]
    refine Ev.pos rfl ?_
    exact Q.Ev.ite (fun h => Ev.ok (by rw [if_pos h])) (fun h => Ev.ok (by rw [if_neg h]))
  | succ d ih =>
    intro i hd hi ht
    have h : i < l.length := by omega
    refine Ev.step (fun k => by simp only [share_Whole.l0]; rfl) ?_
    refine Ev.pos (by omega) (Ev.pos (by omega) (Ev.pos (by omega) ?_))
    rw [rd_nat h]
    by_cases c : l[i] < 0
    · refine Ev.pos c (Ev.ok ?_)
      rw [if_pos]
      unfold negs
      exact List.any_eq_true.2 ⟨l[i], List.getElem_mem h, decide_eq_true c⟩
    refine Ev.neg c ?_
    rw [wrap_eq (by omega) (by omega)]
    refine ih (i + 1) (by omega) (by omega) (fun x hx => ?_)
    rw [List.take_succ_eq_append_getElem h] at hx
    rcases List.mem_append.1 hx with hx | hx
    · exact ht x hx
    rw [List.mem_singleton.1 hx]; omega
theorem whole_f {l : List Int} (hl : l.length < 9223372036854775807) : Ev (fun k => share_Whole.f k l) (wholeS l) := by
  unfold share_Whole.f wholeS
  by_cases h1 : l.length < 1
  · refine Ev.pos (by omega) ?_
    refine Ev.step (fun k => by simp only [share_Whole.j0]; rfl) ?_
    exact Ev.pos (by simp) (Ev.ok (by rw [if_pos (.inl h1)]))
  refine Ev.neg (by omega) ?_
  refine Ev.step (fun k => by simp only [share_Whole.j0]; rfl) ?_
  by_cases h2 : 200 < l.length
  · exact Ev.pos (decide_eq_true (by omega)) (Ev.ok (by rw [if_pos (.inr h2)]))
  refine Ev.neg (by simp; omega) ?_
  rw [if_neg (by omega)]
  exact whole_l0 (by omega) l.length 0 (by omega) (by omega) (by simp)
def eff (l : List Int) : List Int := if sumI l = 0 then List.replicate l.length 1 else l
theorem eff_len (l : List Int) : (eff l).length = l.length := by unfold eff; split <;> simp
theorem sumI_ones (n : Nat) : sumI (List.replicate n 1) = (n : Int) := by
  induction n with
  | zero => simp [sumI]
  | succ n ih => rw [List.replicate_succ, sumI_cons, ih]; omega
theorem whole_ok {l : List Int} (h : (wholeS l).2 = 0) : 1 ≤ l.length ∧ l.length ≤ 200 ∧ (∀ x ∈ l, 0 ≤ x) ∧ sumI l ≤ 1000000000000 ∧ 1 ≤ (wholeS l).1 ∧ (wholeS l).1 ≤ 1000000000000 ∧ sumI (eff l) = (wholeS l).1 ∧ (∀ x ∈ eff l, 0 ≤ x) := by
  unfold wholeS at h ⊢
  by_cases h1 : l.length < 1 ∨ 200 < l.length
  · rw [if_pos h1] at h; simp at h
  rw [if_neg h1] at h ⊢
  by_cases h2 : negs l = true
  · rw [if_pos h2] at h; simp at h
  rw [if_neg h2] at h ⊢
  have h0 := negs_false.1 (by simpa using h2)
  have hs := sumI_nonneg h0
  by_cases h3 : 1000000000000 < sumI l
  · rw [if_pos h3] at h; simp at h
  rw [if_neg h3] at h ⊢
  unfold eff
  by_cases h4 : sumI l = 0
  · rw [if_pos h4, if_pos h4, sumI_ones]
    refine ⟨by omega, by omega, h0, by omega, by dsimp only; omega, by dsimp only; omega, rfl, fun x hx => ?_⟩
    rw [(List.mem_replicate.1 hx).2]; omega
  rw [if_neg h4, if_neg h4]
  exact ⟨by omega, by omega, h0, by omega, by dsimp only; omega, by dsimp only; omega, rfl, h0⟩
theorem prt_ok {t s w : Int} (ht : 0 ≤ t) (ht2 : t ≤ 1000000000000) (hs : 1 ≤ s) (hw : 0 ≤ w) (hws : w ≤ s) : 0 ≤ prt t s w ∧ prt t s w ≤ t ∧ 0 ≤ rst t s w ∧ rst t s w < s := by
  unfold prt rst
  refine ⟨Int.ediv_nonneg (Int.mul_nonneg ht hw) (by omega), ?_, Int.emod_nonneg _ (by omega), Int.emod_lt_of_pos _ (by omega)⟩
  exact Int.ediv_le_of_le_mul (by omega) (Int.mul_le_mul_of_nonneg_left hws ht)
theorem floor_at {t s w : Int} (ht : 0 ≤ t) (ht2 : t ≤ 1000000000000) (hs : 1 ≤ s) (hs2 : s ≤ 1000000000000) (hw : 0 ≤ w) (hws : w ≤ s) : floorS t w s = (prt t s w, 0) := by
  have h := prt_ok ht ht2 hs hw hws
  unfold floorS
  rw [if_neg (by omega), if_pos (by unfold may; omega)]
  unfold toldS
  rw [if_pos (by unfold amt; unfold prt at h; omega)]
  rfl
theorem rest_at {t s w : Int} (ht : 0 ≤ t) (ht2 : t ≤ 1000000000000) (hs : 1 ≤ s) (hs2 : s ≤ 1000000000000) (hw : 0 ≤ w) (hws : w ≤ s) : restS t w s = (rst t s w, 0) := by
  have h := prt_ok ht ht2 hs hw hws
  unfold restS
  rw [if_neg (by omega), if_pos (by unfold may; omega), if_pos (by unfold amt; unfold prt at h; omega)]
  rfl
theorem parts_l0 {t s : Int} {l : List Int} (hl : l.length ≤ 200) (ht : 0 ≤ t) (ht2 : t ≤ 1000000000000) (hs : 1 ≤ s) (hs2 : s ≤ 1000000000000) (h0 : ∀ x ∈ l, 0 ≤ x ∧ x ≤ s) (d : Nat) : ∀ (i : Nat) (L : Int) (A B : List Int), l.length - i = d → i ≤ l.length → A.length = i → B.length = i → L ≤ 1000000000000 → -((i : Int) * 1000000000000) ≤ L →
    Ev (fun k => share_parts.l0 k t s A B L l (l.length : Int) (i : Int)) (A ++ (l.drop i).map (prt t s), B ++ (l.drop i).map (rst t s), L - sumI ((l.drop i).map (prt t s)), 0) := by
  induction d with
  | zero =>
    intro i L A B hd hi hA hB hL hL2
    refine Ev.step (fun k => by simp only [share_parts.l0]; rfl) ?_
    refine Ev.neg (by omega) (Ev.ok ?_)
    rw [List.drop_eq_nil_of_le (by omega)]; simp [sumI]
  | succ d ih =>
    intro i L A B hd hi hA hB hL hL2
    have h : i < l.length := by omega
    have hx := h0 l[i] (List.getElem_mem h)
    have hp := prt_ok ht ht2 hs hx.1 hx.2
    refine Ev.step (fun k => by simp only [share_parts.l0]; rfl) ?_
    refine Ev.pos (by omega) (Ev.pos (by omega) (Ev.pos (by omega) ?_))
    rw [rd_nat h]
    refine Ev.bind (floor_f (by omega) (by omega)) ?_
    rw [floor_at ht ht2 hs hs2 hx.1 hx.2]
    refine Ev.pos rfl (Ev.bind (rest_f (by omega) (by omega)) ?_)
    rw [rest_at ht ht2 hs hs2 hx.1 hx.2]
    refine Ev.pos rfl (Ev.pos (by omega) (Ev.pos (by omega) ?_))
    dsimp only
    rw [wrap_eq (by omega) (by omega), wrap_eq (by omega) (by omega), drop_cons h]
    have := ih (i + 1) (L - prt t s l[i]) (A ++ [prt t s l[i]]) (B ++ [rst t s l[i]]) (by omega) (by omega) (by simp [hA]) (by simp [hB]) (by omega) (by omega)
    simp only [List.map_cons, sumI_cons, List.append_assoc, List.singleton_append] at this ⊢
    rw [show L - (prt t s l[i] + sumI ((l.drop (i + 1)).map (prt t s))) = L - prt t s l[i] - sumI ((l.drop (i + 1)).map (prt t s)) by omega]
    exact this
theorem parts_f {t s : Int} {l : List Int} (hl : l.length ≤ 200) (ht : 0 ≤ t) (ht2 : t ≤ 1000000000000) (hs : 1 ≤ s) (hs2 : s ≤ 1000000000000) (h0 : ∀ x ∈ l, 0 ≤ x ∧ x ≤ s) : Ev (fun k => share_parts.f k t s l) (l.map (prt t s), l.map (rst t s), leftI t s l, 0) := by
  unfold share_parts.f
  have := parts_l0 hl ht ht2 hs hs2 h0 l.length 0 t [] [] (by omega) (by omega) rfl rfl (by omega) (by omega)
  simpa [leftI] using this
theorem rank_ex {r : Nat → Int} {n p : Nat} (hp : p < n) : ∃ i, i < n ∧ rank r n i = p := by
  apply Classical.byContradiction
  intro hn
  have h1 := rank_count r n p (by omega)
  have h2 := rank_count r n (p + 1) (by omega)
  have : (List.range n).countP (fun i => decide (rank r n i < p + 1)) = (List.range n).countP (fun i => decide (rank r n i < p)) := by
    refine List.countP_congr fun i hi => ?_
    have hi := List.mem_range.1 hi
    rw [decide_eq_true_eq, decide_eq_true_eq]
    have : rank r n i ≠ p := fun e => hn ⟨i, hi, e⟩
    omega
  omega
def atp (r : Nat → Int) (n p : Nat) : Nat := ((List.range n).find? fun i => rank r n i == p).getD 0
theorem atp_spec {r : Nat → Int} {n p : Nat} (hp : p < n) : atp r n p < n ∧ rank r n (atp r n p) = p := by
  obtain ⟨i, hi, e⟩ := rank_ex (r := r) hp
  unfold atp
  cases hf : (List.range n).find? (fun i => rank r n i == p) with
  | none => exact absurd (show (rank r n i == p) = true by rw [e]; exact beq_self_eq_true p) (List.find?_eq_none.1 hf i (List.mem_range.2 hi))
  | some j =>
    have h1 := List.find?_some hf
    exact ⟨List.mem_range.1 (List.mem_of_find?_eq_some hf), by simpa using h1⟩
theorem atp_iff {r : Nat → Int} {n p i : Nat} (hp : p < n) (hi : i < n) : atp r n p = i ↔ rank r n i = p := by
  have h := atp_spec (r := r) hp
  exact ⟨fun e => e ▸ h.2, fun e => rank_inj h.1 hi (h.2.trans e.symm)⟩
theorem count_first {r : Nat → Int} {n i : Nat} (hi : i < n) : ∀ L, L ≤ n → (List.range L).countP (fun p => decide (atp r n p = i)) = if rank r n i < L then 1 else 0 := by
  intro L
  induction L with
  | zero => intro _; simp
  | succ L ih =>
    intro hL
    rw [List.range_succ, List.countP_append, ih (by omega)]
    simp only [List.countP_cons, List.countP_nil, decide_eq_true_eq]
    have := atp_iff (r := r) (n := n) (p := L) (i := i) (by omega) hi
    by_cases c : rank r n i = L
    · rw [if_neg (by omega), if_pos (this.2 c), if_pos (by omega)]
    rw [if_neg (fun e => c (this.1 e))]
    by_cases c2 : rank r n i < L
    · rw [if_pos c2, if_pos (by omega)]
    rw [if_neg c2, if_neg (by omega)]
theorem inc_l0 {ys : List Int} (hy : ys.length ≤ 200) (d : Nat) : ∀ (j : Nat) (o : List Int), ys.length - j = d → j ≤ ys.length → o.length ≤ 200 → (∀ y ∈ ys, 0 ≤ y ∧ y < (o.length : Int)) → (∀ x ∈ o, 0 ≤ x ∧ x ≤ 1000000000000 + (j : Int)) →
    Ev (fun k => share_Out.l0 k o ys (ys.length : Int) (j : Int)) ((List.range o.length).map (fun i => o.getD i 0 + (((ys.drop j).countP (fun y => decide (y = (i : Int))) : Nat) : Int)), 0) := by
  induction d with
  | zero =>
    intro j o hd hj ho hr hx
    refine Ev.step (fun k => by simp only [share_Out.l0]; rfl) ?_
    refine Ev.neg (by omega) (Ev.ok ?_)
    rw [List.drop_eq_nil_of_le (by omega)]
    simp only [List.countP_nil, Int.natCast_zero, Int.add_zero]
    rw [range_map]
  | succ d ih =>
    intro j o hd hj ho hr hx
    have h : j < ys.length := by omega
    have hyj := hr ys[j] (List.getElem_mem h)
    obtain ⟨q, hq⟩ := Int.eq_ofNat_of_zero_le hyj.1
    have hqo : q < o.length := by omega
    have hoq := hx o[q] (List.getElem_mem hqo)
    refine Ev.step (fun k => by simp only [share_Out.l0]; rfl) ?_
    refine Ev.pos (by omega) (Ev.pos (by omega) (Ev.pos (by omega) ?_))
    rw [rd_nat h, hq]
    refine Ev.pos (by omega) (Ev.pos (by omega) ?_)
    rw [rd_nat hqo, Int.toNat_natCast, wrap_eq (by omega) (by omega), wrap_eq (by omega) (by omega)]
    have := ih (j + 1) (o.set q (o[q] + 1)) (by omega) (by omega) (by simpa using ho) (by simpa using hr) (fun x hx' => by
      rcases List.mem_or_eq_of_mem_set hx' with hx' | rfl
      · have := hx x hx'; omega
      omega)
    rw [drop_cons h]
    refine Ev.eq this ?_
    congr 1
    rw [List.length_set]
    refine List.map_congr_left fun i hi => ?_
    have hi := List.mem_range.1 hi
    rw [List.countP_cons, hq]
    by_cases c : q = i
    · subst c
      simp only [decide_true, if_true]
      simp [List.getD_eq_getElem?_getD, hqo]
      omega
    rw [if_neg (by simp; omega)]
    simp [List.getD_eq_getElem?_getD, c]
theorem getD_map {f : Int → Int} {l : List Int} {i : Nat} (h : i < l.length) : (l.map f).getD i 0 = f (wt l i) := by
  unfold wt; simp [List.getD_eq_getElem?_getD, h]
theorem rank_rests {t s : Int} {l : List Int} {i : Nat} (hi : i < l.length) : rank (fun j => (l.map (rst t s)).getD j 0) l.length i = rank (fun j => rst t s (wt l j)) l.length i := by
  unfold rank
  refine List.countP_congr fun j hj => ?_
  have hj := List.mem_range.1 hj
  rw [bef_iff, bef_iff]
  rw [getD_map hi, getD_map hj]
theorem deal_f {t s : Int} {l : List Int} (h1 : 1 ≤ l.length) (hl : l.length ≤ 200) (ht : 0 ≤ t) (ht2 : t ≤ 1000000000000) (hs : sumI l = s) (hs1 : 1 ≤ s) (hs2 : s ≤ 1000000000000) (h0 : ∀ x ∈ l, 0 ≤ x) :
    Ev (fun k => (share_parts.f k t s l).bind fun b => if b.2.2.2 = 0 then ((share_by_share_Out_1_v22.f (b.1.length : Int) b.2.1).bind fun p => if 0 ≤ b.2.2.1 then (if b.2.2.1 ≤ (p.length : Int) then ((some (p.take (b.2.2.1 : Int).toNat : List Int)).bind fun y => share_Out.l0 k b.1 y (y.length : Int) 0) else none) else none) else some (([] : List Int), b.2.2.2)) (outL t s l, 0) := by
  have hws : ∀ x ∈ l, 0 ≤ x ∧ x ≤ s := fun x hx => ⟨h0 x hx, by rw [← hs]; exact sumI_mem_le h0 hx⟩
  refine Ev.bind (parts_f hl ht ht2 hs1 hs2 hws) (Ev.pos rfl ?_)
  obtain ⟨b0, b1, _⟩ := left_bound (t := t) hs (by omega)
  have hc : l.countP (fun w => decide (0 < rst t s w)) ≤ l.length := List.countP_le_length
  obtain ⟨L, hL⟩ := Int.eq_ofNat_of_zero_le b0
  have hby : share_by_share_Out_1_v22.f ((l.map (prt t s)).length : Int) (l.map (rst t s)) = some ((List.range l.length).map fun p => ((atp (fun j => (l.map (rst t s)).getD j 0) l.length p : Nat) : Int)) := by
    unfold share_by_share_Out_1_v22.f
    rw [if_pos ⟨by simp, by rw [List.length_map]; omega, by rw [List.length_map]; omega⟩]
    unfold byList atp
    rw [List.length_map]
  refine Q.Ev.bindc hby ?_
  dsimp only
  rw [hL]
  refine Ev.pos (by omega) (Ev.pos (by simp; omega) (Q.Ev.bindc rfl ?_))
  rw [Int.toNat_natCast, ← List.map_take, List.take_range, Nat.min_eq_left (by omega)]
  have := inc_l0 (ys := (List.range L).map fun p => ((atp (fun j => (l.map (rst t s)).getD j 0) l.length p : Nat) : Int)) (by simp; omega) L 0 (l.map (prt t s)) (by simp) (by omega) (by simpa using hl) (fun y hy => by
    obtain ⟨p, hp, rfl⟩ := List.mem_map.1 hy
    have := (atp_spec (r := fun j => (l.map (rst t s)).getD j 0) (n := l.length) (p := p) (by have := List.mem_range.1 hp; omega)).1
    refine ⟨by omega, ?_⟩
    rw [List.length_map]; omega) (fun x hx => by
    obtain ⟨w, hw, rfl⟩ := List.mem_map.1 hx
    have := prt_ok ht ht2 hs1 (hws w hw).1 (hws w hw).2
    omega)
  rw [Int.natCast_zero] at this
  refine Ev.eq this ?_
  congr 1
  rw [List.length_map]
  unfold outL
  refine List.map_congr_left fun i hi => ?_
  have hi := List.mem_range.1 hi
  unfold outAt
  rw [getD_map hi, List.drop_zero, List.countP_map]
  congr 1
  have e : (List.range L).countP ((fun y => decide (y = (i : Int))) ∘ fun p => ((atp (fun j => (l.map (rst t s)).getD j 0) l.length p : Nat) : Int)) = (List.range L).countP (fun p => decide (atp (fun j => (l.map (rst t s)).getD j 0) l.length p = i)) := by
    refine List.countP_congr fun p _ => ?_
    simp only [Function.comp, decide_eq_true_eq]
    omega
  rw [e, count_first hi L (by omega), rank_rests hi, hL]
  by_cases c : rank (fun j => rst t s (wt l j)) l.length i < L
  · rw [if_pos c, if_pos (by omega)]; rfl
  rw [if_neg c, if_neg (by omega)]; rfl
def outS (t : Int) (l : List Int) : List Int × Int := if (wholeS l).2 = 0 then (if t < 0 ∨ 1000000000000 < t then ([], 8) else (outL t (wholeS l).1 (eff l), 0)) else ([], (wholeS l).2)
theorem out_f {t : Int} {l : List Int} (hl : l.length < 9223372036854775807) : Ev (fun k => share_Out.f k t l) (outS t l) := by
  unfold share_Out.f outS
  refine Ev.bind (whole_f hl) ?_
  by_cases hw : (wholeS l).2 = 0
  · rw [if_pos hw]
    refine Ev.pos hw ?_
    obtain ⟨h1, h2, h0, h3, h4, h5, h6, h7⟩ := whole_ok hw
    by_cases ht : t < 0
    · rw [if_pos (.inl ht)]; exact Ev.pos ht (Ev.const rfl)
    refine Ev.neg ht (Q.Ev.bindc (in_f t) ?_)
    by_cases ht2 : 1000000000000 < t
    · rw [if_pos (.inr ht2)]
      exact Ev.neg (by rw [decide_eq_true_eq]; unfold amt; omega) (Ev.const rfl)
    rw [if_neg (by omega)]
    refine Ev.pos (decide_eq_true (by unfold amt; omega)) ?_
    obtain ⟨m, hm, hm0⟩ := max_f h1 hl h0
    refine Ev.bind hm ?_
    by_cases c : sumI l = 0
    · refine Ev.pos (hm0.2 c) (Ev.bind (even_f (by omega)) ?_)
      have e : eff l = List.replicate l.length 1 := by unfold eff; rw [if_pos c]
      rw [e] at h6 h7 ⊢
      exact deal_f (by simpa using h1) (by simpa using h2) (by omega) (by omega) h6 h4 h5 h7
    refine Ev.neg (fun e => c (hm0.1 e)) ?_
    have e : eff l = l := by unfold eff; rw [if_neg c]
    rw [e] at h6 h7 ⊢
    exact deal_f h1 h2 (by omega) (by omega) h6 h4 h5 h7
  rw [if_neg hw]
  exact Ev.neg hw (Ev.ok rfl)
end Go.Proofs.Ytefhljhpcpajgaa.Q
set_option linter.unusedVariables false
namespace Go.Proofs.Ytefhljhpcpajgaa.Q
open Go.RowKit Go.Proofs.YtefhljhpcpajgaaW.PrintWords Go.Proofs.YtefhljhpcpajgaaW.PrintLast Go.Proofs.YtefhljhpcpajgaaW.PrintMore
theorem data_append (a b : ByteArray) : (a ++ b).data.toList = a.data.toList ++ b.data.toList := by simp [ByteArray.data_append]
def wide (w : Int) : Prop := w = 1 ∨ w = 2 ∨ w = 4 ∨ w = 8
instance (w : Int) : Decidable (wide w) := by unfold wide; infer_instance
end Go.Proofs.Ytefhljhpcpajgaa.Q
set_option linter.unusedVariables false
namespace Go.Proofs.Ytefhljhpcpajgaa.Q
open Go.RowKit Go.Proofs.YtefhljhpcpajgaaX Go.Proofs.YtefhljhpcpajgaaW.PrintWords Go.Proofs.YtefhljhpcpajgaaW.PrintLast Go.Proofs.YtefhljhpcpajgaaW.PrintMore
def serB (l : List UInt8) : Prop := 1 ≤ l.length ∧ l.length ≤ 16 ∧ l.getLast? ≠ some 45 ∧ okL 3 (runes l) = true
instance (l : List UInt8) : Decidable (serB l) := by unfold serB; infer_instance
theorem checkS_or (s : ByteArray) : checkS s = 0 ∨ checkS s = 9 := by unfold checkS; split <;> simp
def lt8 (a b : ByteArray) : Prop := Op.bytesLess a.toList b.toList = true
instance (a b : ByteArray) : Decidable (lt8 a b) := by unfold lt8; infer_instance
def notUp : Option ByteArray → ByteArray → Bool
  | none, _ => false
  | some q, s => !(Op.bytesLess q.toList s.toList)
def rowG : Option ByteArray → List ByteArray → Int
  | _, [] => 0
  | p, s :: l => if checkS s = 0 then (if notUp p s = true then 32 else rowG (some s) l) else 9
end Go.Proofs.Ytefhljhpcpajgaa.Q
set_option linter.unusedVariables false
namespace Go.Proofs.Ytefhljhpcpajgaa.Q
open Go.RowKit Go.Proofs.Ytefhljhpcpajgaa.F Go.Proofs.YtefhljhpcpajgaaX Go.Proofs.YtefhljhpcpajgaaW.PrintWords Go.Proofs.YtefhljhpcpajgaaW.PrintLast Go.Proofs.YtefhljhpcpajgaaW.PrintMore
theorem serial_check_f (s : ByteArray) (hs : s.size < 9223372036854775807) : serial_Check.f s = some (checkS s) := by
  unfold serial_Check.f serial_Fold.f checkS
  rw [if_pos hs, Option.bind_some]
  have e : (foldS s).1.toList = s.toList ↔ (foldS s).1 = s := by
    constructor
    · intro h
      rw [ByteArray.toList_eq, ByteArray.toList_eq] at h
      generalize (foldS s).1 = a at *
      cases a; cases s
      simpa [Array.toList_inj] using h
    intro h; rw [h]
  by_cases h1 : (foldS s).2 = 0
  · rw [if_pos h1]
    by_cases h2 : (foldS s).1.toList = s.toList
    · rw [if_pos h2, if_pos ⟨h1, e.1 h2⟩]
    rw [if_neg h2, if_neg (fun x => h2 (e.2 x.2))]
  rw [if_neg h1, if_neg (fun x => h1 x.1)]
end Go.Proofs.Ytefhljhpcpajgaa.Q
set_option linter.unusedVariables false
namespace Go.Proofs.Ytefhljhpcpajgaa.Q
open Go.RowKit Go.Proofs.Ytefhljhpcpajgaa.F Go.Proofs.YtefhljhpcpajgaaX Go.Proofs.YtefhljhpcpajgaaW.PrintWords Go.Proofs.YtefhljhpcpajgaaW.PrintLast Go.Proofs.YtefhljhpcpajgaaW.PrintMore
theorem serial_row_l0 {l : List ByteArray} (hl : l.length < 4611686018427387904) (hs : ∀ x ∈ l, x.size < 1099511627776) (d : Nat) : ∀ (i : Nat), l.length - i = d → i ≤ l.length → Ev (fun k => serial_Row.l0 k l l (l.length : Int) (i : Int)) (rowG (if i = 0 then none else l[i - 1]?) (l.drop i)) := by
  induction d with
  | zero =>
    intro i hd hi
    refine Ev.step (fun k => by simp only [serial_Row.l0]; rfl) ?_
    refine Ev.neg (by omega) (Ev.ok ?_)
    rw [List.drop_eq_nil_of_le (by omega)]; rfl
  | succ d ih =>
    intro i hd hi
    have h : i < l.length := by omega
    refine Ev.step (fun k => by simp only [serial_Row.l0]; rfl) ?_
    refine Ev.pos (by omega) (Ev.pos (by omega) (Ev.pos (by omega) ?_))
    rw [drop_cons h, rdOf_nat h, wrap_eq (x := (i : Int) + 1) (by omega) (by omega)]
    have ih' := ih (i + 1) (by omega) (by omega)
    rw [if_neg (by omega), Nat.add_sub_cancel, List.getElem?_eq_getElem h] at ih'
    refine Ev.bindc (serial_check_f _ (by have := hs _ (List.getElem_mem h); omega)) ?_
    simp only [rowG]
    refine Ev.ite (fun h1 => ?_) (fun h1 => ?_)
    · rw [if_pos h1]
      refine Ev.ite (fun h2 => ?_) (fun h2 => ?_)
      · have h' : i - 1 < l.length := by omega
        rw [wrap_eq (x := (i : Int) - 1) (by omega) (by omega), show (i : Int) - 1 = ((i - 1 : Nat) : Int) by omega, rdOf_nat h', if_neg (show ¬ i = 0 by omega), List.getElem?_eq_getElem h']
        refine Ev.pos (by omega) (Ev.pos (by omega) ?_)
        refine Ev.ite (fun h3 => ?_) (fun h3 => ?_)
        · rw [if_neg (by simp [notUp, h3])]; exact ih'
        rw [if_pos (by simp [notUp, h3])]; exact Ev.ok rfl
      rw [if_pos (show i = 0 by omega), if_neg (by simp [notUp])]; exact ih'
    rw [if_neg h1, (checkS_or _).resolve_left h1]; exact Ev.ok rfl
theorem serial_row_f {l : List ByteArray} (hl : l.length < 4611686018427387904) (hs : ∀ x ∈ l, x.size < 1099511627776) : Ev (fun k => serial_Row.f k l) (rowG none l) := by
  unfold serial_Row.f
  exact serial_row_l0 hl hs l.length 0 (by omega) (by omega)
abbrev LnT := S71
theorem rdL {l : List LnT} {i : Nat} (h : i < l.length) : rd_T71 l (i : Int) = l[i] := by
  unfold rd_T71; simp [h]
def fewR (s : List ByteArray) : Bool := s.all fun x => decide (x.size ≤ 100)
def fewB (l : List LnT) : Bool := l.all fun x => decide (x.f4.length ≤ 40) && fewR x.f4
def fewP (l : List LnT) : Prop := l.length ≤ 20 ∧ ∀ x ∈ l, x.f4.length ≤ 40 ∧ ∀ s ∈ x.f4, s.size ≤ 100
theorem fewB_iff {l : List LnT} : fewB l = true ↔ ∀ x ∈ l, x.f4.length ≤ 40 ∧ ∀ s ∈ x.f4, s.size ≤ 100 := by
  unfold fewB fewR
  simp only [List.all_eq_true, Bool.and_eq_true, decide_eq_true_eq]
theorem few_l1 {l : List LnT} {i : Nat} {r : Bool} (hl : l.length ≤ 20) (hi : i < l.length) (h40 : l[i].f4.length ≤ 40) (hr : Ev (fun k => backhaullaw21_Few.l0 k l ((i + 1 : Nat) : Int)) r) (d : Nat) : ∀ (j : Nat), l[i].f4.length - j = d → j ≤ l[i].f4.length → Ev (fun k => backhaullaw21_Few.l1 k l (i : Int) (j : Int)) (fewR (l[i].f4.drop j) && r) := by
  induction d with
  | zero =>
    intro j hd hj
    refine Ev.step (fun k => by simp only [backhaullaw21_Few.l1]; rfl) (Ev.pos (by omega) (Ev.pos (by omega) ?_))
    rw [rdL hi, List.drop_eq_nil_of_le (by omega), wrap_eq (x := (i : Int) + 1) (by omega) (by omega)]
    exact Ev.neg (by omega) hr
  | succ d ih =>
    intro j hd hj
    have h : j < l[i].f4.length := by omega
    refine Ev.step (fun k => by simp only [backhaullaw21_Few.l1]; rfl) (Ev.pos (by omega) (Ev.pos (by omega) ?_))
    rw [rdL hi, rdOf_nat h, wrap_eq (x := (j : Int) + 1) (by omega) (by omega), drop_cons h]
    refine Ev.pos (by omega) (Ev.pos (by omega) (Ev.ite (fun h1 => Ev.ok ?_) (fun h1 => Ev.eq (ih (j + 1) (by omega) (by omega)) ?_)))
    · unfold fewR; rw [List.all_cons, decide_eq_false (by omega)]; rfl
    unfold fewR; rw [List.all_cons, decide_eq_true (by omega)]; rfl
theorem few_l0 {l : List LnT} (hl : l.length ≤ 20) (d : Nat) : ∀ (i : Nat), l.length - i = d → i ≤ l.length → Ev (fun k => backhaullaw21_Few.l0 k l (i : Int)) (fewB (l.drop i)) := by
  induction d with
  | zero =>
    intro i hd hi
    refine Ev.step (fun k => by simp only [backhaullaw21_Few.l0]; rfl) (Ev.neg (by omega) (Ev.ok ?_))
    rw [List.drop_eq_nil_of_le (by omega)]; rfl
  | succ d ih =>
    intro i hd hi
    have h : i < l.length := by omega
    refine Ev.step (fun k => by simp only [backhaullaw21_Few.l0]; rfl) (Ev.pos (by omega) (Ev.pos (by omega) ?_))
    rw [rdL h, drop_cons h]
    refine Ev.ite (fun h1 => Ev.ok ?_) (fun h1 => Ev.eq (few_l1 hl h (by omega) (ih (i + 1) (by omega) (by omega)) l[i].f4.length 0 (by omega) (by omega)) ?_)
    · unfold fewB; rw [List.all_cons, decide_eq_false (by omega)]; rfl
    unfold fewB; rw [List.all_cons, decide_eq_true (by omega), List.drop_zero]; rfl
theorem few_f (l : List LnT) : Ev (fun k => backhaullaw21_Few.f k l) (decide (l.length ≤ 20) && fewB l) := by
  unfold backhaullaw21_Few.f
  refine Ev.ite (fun h => Ev.ok (by rw [decide_eq_false (by omega)]; rfl)) (fun h => ?_)
  rw [decide_eq_true (by omega)]
  exact few_l0 (by omega) l.length 0 (by omega) (by omega)
theorem few_p {l : List LnT} (h : (decide (l.length ≤ 20) && fewB l) = true) : fewP l := by
  rw [Bool.and_eq_true, decide_eq_true_eq] at h
  exact ⟨h.1, fewB_iff.1 h.2⟩
def mayB (b c d : Int) : Bool := decide (0 ≤ b ∧ b ≤ 1000000000000 ∧ 0 ≤ c ∧ c ≤ b ∧ 0 ≤ d ∧ d ≤ 1000000000000 ∧ c + d ≤ 1000000000000)
def lineR (a b c d : Int) (s : List ByteArray) : Int := if a < 1 ∨ a > 999999 then 2 else if mayB b c d = true then (if s.length < 1 ∨ s.length > 20 then 9 else if rowG none s = 0 then 0 else 9) else 8
theorem in_f3 (a : Int) : cents_In.f a = some (decide (-1000000000000 ≤ a ∧ a ≤ 1000000000000)) := by
  unfold cents_In.f
  by_cases h : a ≥ -1000000000000
  · rw [if_pos h]; congr 1; exact decide_eq_decide.2 ⟨fun x => ⟨h, x⟩, fun x => x.2⟩
  rw [if_neg h]; congr 1; exact (decide_eq_false (fun x => h x.1)).symm
theorem paid_f3 (a : Int) : line_paid.f a = some (decide (0 ≤ a ∧ a ≤ 1000000000000)) := by
  unfold line_paid.f
  by_cases h : a ≥ 0
  · rw [if_pos h, in_f3, Option.bind_some]; congr 1; exact decide_eq_decide.2 ⟨fun x => ⟨h, x.2⟩, fun x => ⟨by omega, x.2⟩⟩
  rw [if_neg h]; congr 1; exact (decide_eq_false (fun x => h x.1)).symm
theorem price_f (a b c d : Int) (s : List ByteArray) : line_price_may.f a b c d s = some (mayB b c d) := by
  unfold line_price_may.f mayB
  rw [paid_f3, paid_f3, paid_f3]
  simp only [Option.bind_some, decide_eq_true_eq]
  by_cases h1 : 0 ≤ b ∧ b ≤ 1000000000000
  · by_cases h2 : 0 ≤ c ∧ c ≤ 1000000000000
    · by_cases h3 : 0 ≤ d ∧ d ≤ 1000000000000
      · by_cases h4 : c ≤ b
        · rw [if_pos h1, if_pos h2, if_pos h3, if_pos h4, in_f3, Option.bind_some, wrap_eq (by omega) (by omega)]
          congr 1; exact decide_eq_decide.2 (by omega)
        rw [if_pos h1, if_pos h2, if_pos h3, if_neg h4]; congr 1; exact (decide_eq_false (by omega)).symm
      rw [if_pos h1, if_pos h2, if_neg h3]; congr 1; exact (decide_eq_false (by omega)).symm
    rw [if_pos h1, if_neg h2]; congr 1; exact (decide_eq_false (by omega)).symm
  rw [if_neg h1]; congr 1; exact (decide_eq_false (by omega)).symm
theorem line_check_f {a b c d : Int} {s : List ByteArray} (hs : s.length ≤ 40) (hz : ∀ x ∈ s, x.size ≤ 100) : Ev (fun k => line_Check.f k a b c d s) (lineR a b c d s) := by
  unfold line_Check.f
  have key : ∀ t : Bool, (t = true ↔ (a < 1 ∨ a > 999999)) → Ev (fun k => line_Check.j0 k t a b c d s a b c d s) (lineR a b c d s) := by
    intro t ht
    unfold lineR
    refine Ev.step (fun k => by simp only [line_Check.j0]; rfl) (Ev.ite (fun h => Ev.ok (by rw [if_pos (ht.1 h)])) (fun h => ?_))
    rw [if_neg (fun g => h (ht.2 g))]
    refine Ev.bindc (price_f a b c d s) (Ev.ite (fun h1 => ?_) (fun h1 => Ev.ok (by rw [if_neg h1])))
    rw [if_pos h1]
    refine Ev.ite (fun h2 => Ev.ok (by rw [if_pos (by omega)])) (fun h2 => Ev.ite (fun h3 => Ev.ok (by rw [if_pos (by omega)])) (fun h3 => ?_))
    rw [if_neg (by omega)]
    refine Ev.bind (serial_row_f (by omega) (fun x hx => by have := hz x hx; omega)) (Ev.ite (fun h4 => Ev.ok (by rw [if_pos h4])) (fun h4 => Ev.ok (by rw [if_neg h4])))
  refine Ev.ite (fun h => key true (by simp [h])) (fun h => key _ (by simp; omega))
def linesB (l : List LnT) : Bool := l.all fun x => decide (lineR x.f0 x.f1 x.f2 x.f3 x.f4 = 0)
theorem line_amounts {x : LnT} (h : lineR x.f0 x.f1 x.f2 x.f3 x.f4 = 0) : 0 ≤ x.f2 ∧ x.f2 ≤ 1000000000000 ∧ 0 ≤ x.f3 ∧ x.f3 ≤ 1000000000000 := by
  unfold lineR at h
  split at h
  · cases h
  split at h
  · rename_i g
    have := of_decide_eq_true g
    omega
  cases h
def totL : Int → List LnT → Option Int
  | n, [] => some n
  | n, x :: r => if n + x.f2 + x.f3 > 1000000000000 then none else totL (n + x.f2 + x.f3) r
def totI (o : Option Int) : Int × Int := match o with
  | some m => (m, 0)
  | none => (0, 8)
theorem w01 : wrap64 (0 + 1) = 1 := by rw [wrap_eq (by decide) (by decide)]; rfl
theorem w12 : wrap64 (1 + 1) = 2 := by rw [wrap_eq (by decide) (by decide)]; rfl
theorem w23 : wrap64 (2 + 1) = 3 := by rw [wrap_eq (by decide) (by decide)]; rfl
theorem add_three {n p q : Int} (hn : 0 ≤ n) (hn' : n ≤ 1000000000000) (hp : 0 ≤ p) (hp' : p ≤ 1000000000000) (hq : 0 ≤ q) (hq' : q ≤ 1000000000000) : Ev (fun k => cents_Add.f k ([n, p, q] : List Int)) (if n + p + q > 1000000000000 then (0, 8) else (n + p + q, 0)) := by
  unfold cents_Add.f
  have r0 : rd [n, p, q] 0 = n := rfl
  have r1 : rd [n, p, q] 1 = p := rfl
  have r2 : rd [n, p, q] 2 = q := rfl
  refine Ev.step (fun k => by simp only [cents_Add.l0]; rfl) (Ev.pos (by simp) (Ev.pos (by decide) (Ev.pos (by simp) ?_)))
  rw [r0, wrap_eq (x := 0 + n) (by omega) (by omega), w01]
  refine Ev.bindc (in_f3 n) (Ev.pos (decide_eq_true (by omega)) (Ev.bindc (in_f3 _) (Ev.pos (decide_eq_true (by omega)) ?_)))
  refine Ev.step (fun k => by simp only [cents_Add.l0]; rfl) (Ev.pos (by simp) (Ev.pos (by decide) (Ev.pos (by simp) ?_)))
  rw [r1, wrap_eq (x := 0 + n + p) (by omega) (by omega), w12]
  refine Ev.bindc (in_f3 p) (Ev.pos (decide_eq_true (by omega)) (Ev.bindc (in_f3 _) (Ev.ite (fun h => ?_) (fun h => Ev.ok ?_))))
  · have h := of_decide_eq_true h
    refine Ev.step (fun k => by simp only [cents_Add.l0]; rfl) (Ev.pos (by simp) (Ev.pos (by decide) (Ev.pos (by simp) ?_)))
    rw [r2, wrap_eq (x := 0 + n + p + q) (by omega) (by omega), w23]
    refine Ev.bindc (in_f3 q) (Ev.pos (decide_eq_true (by omega)) (Ev.bindc (in_f3 _) (Ev.ite (fun h1 => ?_) (fun h1 => Ev.ok ?_))))
    · have h1 := of_decide_eq_true h1
      refine Ev.step (fun k => by simp only [cents_Add.l0]; rfl) (Ev.neg (by simp) (Ev.ok ?_))
      rw [if_neg (by omega), Int.zero_add]
    have h1 : ¬ (-1000000000000 ≤ 0 + n + p + q ∧ 0 + n + p + q ≤ 1000000000000) := fun g => h1 (decide_eq_true g)
    rw [if_pos (by omega)]
  have h : ¬ (-1000000000000 ≤ 0 + n + p ∧ 0 + n + p ≤ 1000000000000) := fun g => h (decide_eq_true g)
  rw [if_pos (by omega)]
theorem total_l0 {l : List LnT} (hl : l.length ≤ 20) (hx : ∀ x ∈ l, 0 ≤ x.f2 ∧ x.f2 ≤ 1000000000000 ∧ 0 ≤ x.f3 ∧ x.f3 ≤ 1000000000000) (d : Nat) : ∀ (i : Nat) (n : Int), l.length - i = d → i ≤ l.length → 0 ≤ n → n ≤ 1000000000000 → Ev (fun k => order_total.l0 k n l (l.length : Int) (i : Int)) (totI (totL n (l.drop i))) := by
  induction d with
  | zero =>
    intro i n hd hi h0 h1
    refine Ev.step (fun k => by simp only [order_total.l0]; rfl) (Ev.neg (by omega) (Ev.ok ?_))
    rw [List.drop_eq_nil_of_le (by omega)]; rfl
  | succ d ih =>
    intro i n hd hi h0 h1
    have h : i < l.length := by omega
    have hm := hx l[i] (List.getElem_mem h)
    refine Ev.step (fun k => by simp only [order_total.l0]; rfl) (Ev.pos (by omega) (Ev.pos (by omega) (Ev.pos (by omega) ?_)))
    rw [rdL h, drop_cons h, wrap_eq (x := (i : Int) + 1) (by omega) (by omega)]
    refine Ev.bind (add_three h0 h1 hm.1 hm.2.1 hm.2.2.1 hm.2.2.2) ?_
    simp only [totL]
    by_cases h2 : n + l[i].f2 + l[i].f3 > 1000000000000
    · rw [if_pos h2, if_pos h2]
      exact Ev.neg (by decide) (Ev.ok rfl)
    rw [if_neg h2, if_neg h2]
    exact Ev.pos rfl (ih (i + 1) _ (by omega) (by omega) (by dsimp only; omega) (by dsimp only; omega))
theorem serials_len {l : List LnT} (hf : fewP l) : (serialsOf l).length ≤ 800 := by
  have : ∀ r : List LnT, (∀ x ∈ r, x.f4.length ≤ 40) → (serialsOf r).length ≤ 40 * r.length := by
    intro r
    induction r with
    | nil => intro _; simp [serialsOf]
    | cons x r ih =>
      intro h
      have h1 := h x List.mem_cons_self
      have h2 := ih fun y hy => h y (List.mem_cons_of_mem _ hy)
      unfold serialsOf at *
      rw [List.flatMap_cons, List.length_append, List.length_cons]
      omega
  have h1 := this l fun x hx => (hf.2 x hx).1
  have := hf.1
  omega
theorem order_twice_f {l : List LnT} (hf : fewP l) : order_twice.f l = some (dupB [] (serialsOf l)) := by
  unfold order_twice.f
  have hn := serials_len hf
  rw [if_pos]
  refine ⟨?_, ?_⟩
  · rw [List.all_eq_true]
    intro x hx
    rw [List.all_eq_true]
    intro s hs
    have := (hf.2 x hx).2 s hs
    exact decide_eq_true (by unfold maxLen; omega)
  unfold maxLen; omega
def finB (l : List LnT) : Bool := (totL 0 l).isSome && !dupB [] (serialsOf l)
def ordR (a b : Int) (l : List LnT) : Int := if (1 ≤ a ∧ a ≤ 999999 ∧ 0 ≤ b ∧ b ≤ 1000000 ∧ 1 ≤ l.length ∧ l.length ≤ 8) ∧ linesB l = true ∧ finB l = true then 0 else 40
theorem lines_amounts {l : List LnT} (h : linesB l = true) : ∀ x ∈ l, 0 ≤ x.f2 ∧ x.f2 ≤ 1000000000000 ∧ 0 ≤ x.f3 ∧ x.f3 ≤ 1000000000000 := fun x hx => line_amounts (of_decide_eq_true (List.all_eq_true.1 h x hx))
theorem lines_step {l : List LnT} {i : Nat} (h : i < l.length) (hp : ∀ j (hj : j < l.length), j < i → lineR l[j].f0 l[j].f1 l[j].f2 l[j].f3 l[j].f4 = 0) (h1 : lineR l[i].f0 l[i].f1 l[i].f2 l[i].f3 l[i].f4 = 0) : ∀ j (hj : j < l.length), j < i + 1 → lineR l[j].f0 l[j].f1 l[j].f2 l[j].f3 l[j].f4 = 0 := fun j hj hji => by
  by_cases e : j = i
  · subst e; exact h1
  exact hp j hj (by omega)
theorem lines_all {l : List LnT} (hp : ∀ j (hj : j < l.length), j < l.length → lineR l[j].f0 l[j].f1 l[j].f2 l[j].f3 l[j].f4 = 0) : linesB l = true := by
  unfold linesB
  rw [List.all_eq_true]
  intro x hx
  obtain ⟨j, hj, rfl⟩ := List.mem_iff_getElem.1 hx
  exact decide_eq_true (hp j hj hj)
theorem lines_not {l : List LnT} {i : Nat} (h : i < l.length) (h1 : ¬ lineR l[i].f0 l[i].f1 l[i].f2 l[i].f3 l[i].f4 = 0) : ¬ linesB l = true := fun g => h1 (of_decide_eq_true (List.all_eq_true.1 g l[i] (List.getElem_mem h)))
theorem order_l0 {a b : Int} {l : List LnT} (hf : fewP l) (hh : 1 ≤ a ∧ a ≤ 999999 ∧ 0 ≤ b ∧ b ≤ 1000000 ∧ 1 ≤ l.length ∧ l.length ≤ 8) (d : Nat) : ∀ (i : Nat), l.length - i = d → i ≤ l.length → (∀ j (hj : j < l.length), j < i → lineR l[j].f0 l[j].f1 l[j].f2 l[j].f3 l[j].f4 = 0) → Ev (fun k => order_Check.l0 k l (l.length : Int) (i : Int) a b l) (ordR a b l) := by
  have h20 := hf.1
  induction d with
  | zero =>
    intro i hd hi hp
    have hb := lines_all (fun j hj _ => hp j hj (by omega))
    have ht : Ev (fun k => order_total.f k l) (totI (totL 0 l)) := by
      unfold order_total.f
      exact total_l0 h20 (lines_amounts hb) l.length 0 0 (by omega) (by omega) (by omega) (by omega)
    refine Ev.step (fun k => by simp only [order_Check.l0]; rfl) (Ev.neg (by omega) (Ev.bind ht ?_))
    unfold ordR finB
    cases e : totL 0 l with
    | none => exact Ev.neg (by decide) (Ev.ok (by rw [if_neg]; simp))
    | some m =>
      refine Ev.pos rfl (Ev.bindc (order_twice_f hf) (Ev.ite (fun h1 => Ev.ok (by rw [if_neg]; simp [h1])) (fun h1 => Ev.ok (by rw [if_pos]; exact ⟨hh, hb, by simp [h1]⟩))))
  | succ d ih =>
    intro i hd hi hp
    have h : i < l.length := by omega
    have hx := hf.2 l[i] (List.getElem_mem h)
    refine Ev.step (fun k => by simp only [order_Check.l0]; rfl) (Ev.pos (by omega) (Ev.pos (by omega) (Ev.pos (by omega) ?_)))
    rw [rdL h, wrap_eq (x := (i : Int) + 1) (by omega) (by omega)]
    refine Ev.bind (line_check_f hx.1 hx.2) (Ev.ite (fun h1 => ih (i + 1) (by omega) (by omega) (lines_step h hp h1)) (fun h1 => Ev.ok ?_))
    unfold ordR
    rw [if_neg fun g => lines_not h h1 g.2.1]
theorem order_check_f {a b : Int} {l : List LnT} (hf : fewP l) : Ev (fun k => order_Check.f k a b l) (ordR a b l) := by
  unfold order_Check.f
  have bad : ¬ (1 ≤ a ∧ a ≤ 999999 ∧ 0 ≤ b ∧ b ≤ 1000000 ∧ 1 ≤ l.length ∧ l.length ≤ 8) → Ev (fun k => order_Check.j0 k true a b l) (ordR a b l) := fun g =>
    Ev.step (fun k => by simp only [order_Check.j0]; rfl) (Ev.pos (by trivial) (Ev.ok (by unfold ordR; rw [if_neg fun x => g x.1])))
  have tm : policy_Time.f b = some (decide (0 ≤ b ∧ b ≤ 1000000)) := by
    unfold policy_Time.f policy_span_has.f
    by_cases h : 0 ≤ b
    · rw [if_pos (by omega)]; simp [h]
    rw [if_neg (by omega)]; simp [h]
  refine Ev.ite (fun h1 => bad (by omega)) (fun h1 => Ev.ite (fun h2 => bad (by omega)) (fun h2 => Ev.bindc tm (Ev.ite (fun h3 => ?_) (fun h3 => bad (fun g => h3 (decide_eq_true ⟨g.2.2.1, g.2.2.2.1⟩))))))
  have h3 := of_decide_eq_true h3
  refine Ev.ite (fun h4 => bad (by omega)) (fun h4 => ?_)
  by_cases h5 : (l.length : Int) > 8
  · rw [decide_eq_true h5]; exact bad (by omega)
  rw [decide_eq_false h5]
  exact Ev.step (fun k => by simp only [order_Check.j0]; rfl) (Ev.neg (by simp) (order_l0 hf (by omega) l.length 0 (by omega) (by omega) (fun j hj h => by omega)))
end Go.Proofs.Ytefhljhpcpajgaa.Q
