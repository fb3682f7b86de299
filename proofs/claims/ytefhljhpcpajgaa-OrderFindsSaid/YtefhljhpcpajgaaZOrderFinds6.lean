-- by prune.py (own program), out of the print
import Derived.Deep.Slices
import Derived.ChangeArms
import Derived.WideShapes
import Derived.OpenShut
import Derived.Test.YtefhljhpcpajgaaRows
import Derived.ProofKit
import Derived.ShutString
import Derived.ChangeOld
import Derived.SizedLaws
import Derived.Test.YtefhljhpcpajgaaZOrderFinds5
namespace Go.Proofs.Ytefhljhpcpajgaa.F
open Go.RowKit YtefhljhpcpajgaaX YtefhljhpcpajgaaW.PrintWords YtefhljhpcpajgaaW.PrintLast YtefhljhpcpajgaaW.PrintMore
attribute [local go_sem] max2_int min2_int max_two min_two max_three min_three max_four min_four
attribute [local go_sem high] str_geq str_leq str_gtr
set_option linter.unusedVariables false
set_option linter.unusedSimpArgs false
def order_Same_1.f (k : Nat) (a0_0 : Int) (a0_1 : Int) (a0_2 : Int) (a0_3 : Int) (l0_4 : List ByteArray) (a1_0 : Int) (a1_1 : Int) (a1_2 : Int) (a1_3 : Int) (l1_4 : List ByteArray) : Option (Bool) := if a0_0 = a1_0 then (if a0_1 = a1_1 then (if a0_2 = a1_2 then (if a0_3 = a1_3 then ((slices_Equal_string_string.f k l0_4 l1_4).bind fun t103 => (some t103)) else (some false)) else (some false)) else (some false)) else (some false)
theorem order_Same_1.mono : ∀ a0 a1 a2 a3 a4 a5 a6 a7 a8 a9 k, LeO (order_Same_1.f k a0 a1 a2 a3 a4 a5 a6 a7 a8 a9) (order_Same_1.f (k + 1) a0 a1 a2 a3 a4 a5 a6 a7 a8 a9) := by
  intro a0 a1 a2 a3 a4 a5 a6 a7 a8 a9 k
  unfold order_Same_1.f
  repeat' first
      | (with_reducible exact slices_Equal_string_string.mono _ _ _)
      | (with_reducible exact LeO.refl _)
      | (with_reducible exact LeO.none _)
      | (with_reducible refine LeO.ite ?_ ?_)
      | (with_reducible refine LeO.bind ?_ (fun _ => ?_))
      | exact slices_Equal_string_string.mono _ _ _
      | exact LeO.none _
      | refine LeO.ite ?_ ?_
      | refine LeO.bind ?_ (fun _ => ?_)
set_option maxHeartbeats 8000000 in
set_option maxRecDepth 100000 in
theorem order_Same_1.calls (k : Nat) (a0_0 : Int) (a0_1 : Int) (a0_2 : Int) (a0_3 : Int) (A0_4 : Option Addr) (c0_4 : Nat) (l0_4 : List ByteArray) (a1_0 : Int) (a1_1 : Int) (a1_2 : Int) (a1_3 : Int) (A1_4 : Option Addr) (c1_4 : Nat) (l1_4 : List ByteArray) (r : Bool) (w : World) (hr0_4 : Kd.C Kd.string w A0_4 l0_4.length l0_4) (hc0_4 : l0_4.length ≤ c0_4) (hr1_4 : Kd.C Kd.string w A1_4 l1_4.length l1_4) (hc1_4 : l1_4.length ≤ c1_4) (h : order_Same_1.f k a0_0 a0_1 a0_2 a0_3 l0_4 a1_0 a1_1 a1_2 a1_3 l1_4 = some r) :
    Calls Try.prog 134 #[.agg #[.int .i64 a0_0, .int .i64 a0_1, .int .i64 a0_2, .int .i64 a0_3, .slice A0_4 l0_4.length c0_4], .agg #[.int .i64 a1_0, .int .i64 a1_1, .int .i64 a1_2, .int .i64 a1_3, .slice A1_4 l1_4.length c1_4]] w fun e w' => e = .returned (.bool r) ∧ Below w.heap.size w w' := by
  have hu71 := Try.underlying71
  have HR0_4 := zA hr0_4
  have HC0_4 := zA hc0_4
  clear hr0_4 hc0_4
  have HR1_4 := zA hr1_4
  have HC1_4 := zA hc1_4
  clear hr1_4 hc1_4
  have HB := zA (Below.refl w.heap.size w)
  have H : (if a0_0 = a1_0 then (if a0_1 = a1_1 then (if a0_2 = a1_2 then (if a0_3 = a1_3 then ((slices_Equal_string_string.f k l0_4 l1_4).bind fun t103 => (some t103)) else (some false)) else (some false)) else (some false)) else (some false)) = some r := h
  clear h
  by_cases c3 : a0_0 = a1_0
  · rw [if_pos c3] at H
    have c3b0 : (a0_0 == a1_0) = true := beq_iff_eq.mpr c3; have c3b1 : (a0_0 != a1_0) = false := bne_eq_false_iff_eq.mpr c3; clear c3; by_cases c4 : a0_1 = a1_1
    · rw [if_pos c4] at H
      have c4b0 : (a0_1 == a1_1) = true := beq_iff_eq.mpr c4; have c4b1 : (a0_1 != a1_1) = false := bne_eq_false_iff_eq.mpr c4; clear c4; by_cases c5 : a0_2 = a1_2
      · rw [if_pos c5] at H
        have c5b0 : (a0_2 == a1_2) = true := beq_iff_eq.mpr c5; have c5b1 : (a0_2 != a1_2) = false := bne_eq_false_iff_eq.mpr c5; clear c5; by_cases c6 : a0_3 = a1_3
        · rw [if_pos c6] at H
          have c6b0 : (a0_3 == a1_3) = true := beq_iff_eq.mpr c6; have c6b1 : (a0_3 != a1_3) = false := bne_eq_false_iff_eq.mpr c6; clear c6; replace H := Option.bind_eq_some_iff.mp H; obtain ⟨t103, A70, H⟩ := H; replace H : (some t103) = some r := H; have A7 := zA A70; clear A70; obtain rfl := zKq H; go_enter Try.func134, Try.ntmps134; go_wp2_with (first | ((with_reducible refine gate_dst (N := 2) rfl ?_); refine box_event qr (N := 2) qr (cs := #[.int .i64 a0_0, .int .i64 a0_1, .int .i64 a0_2, .int .i64 a0_3, .slice A0_4 l0_4.length c0_4]) (t := 71) qg ?_; intro gb101 hg w8 hbox hb; have n0_ := zA (zV qB hb); have n1_ := zA (hbox); have n2_ := zA ((qS : w.heap.size ≤ gb101)); have n3_ := zA ((qS : w.heap.size ≤ gb101)); clear HB; have HB := n0_; have BK101 := n1_; have GW101 := n2_; have GE101 := n3_; clear n0_ n1_ n2_ n3_ hb hbox hg) | ((with_reducible refine gate_dst (N := 3) rfl ?_); refine box_event qr (N := 3) qr (cs := #[.int .i64 a1_0, .int .i64 a1_1, .int .i64 a1_2, .int .i64 a1_3, .slice A1_4 l1_4.length c1_4]) (t := 71) qg ?_; intro gb102 hg w9 hbox hb; have n0_ := zA (qX BK101.out hb); have n1_ := zA (zV qB hb); have n2_ := zA (hbox); have n3_ := zA ((qS : w.heap.size ≤ gb102)); have n4_ := zA ((qS : w.heap.size ≤ gb102)); have n5_ := zA ((by rw [hg]; exact zLq (qL BK101.out) : gb101 ≠ gb102)); have n6_ := zA ((by rw [hg]; exact zMq (qL BK101.out) : gb102 ≠ gb101)); clear BK101 HB; have BK101 := n0_; have HB := n1_; have BK102 := n2_; have GW102 := n3_; have GE102 := n4_; have NB101_102 := n5_; have NB102_101 := n6_; clear n0_ n1_ n2_ n3_ n4_ n5_ n6_ hb hbox hg; have hnb10 := NB101_102.out; have hnc10 := NB102_101.out; obtain ⟨_, _, _, _, _, _, _, _, _, _⟩ := qc5f BK101.out; obtain ⟨_, _, _, _, _, _, _, _, _, _⟩ := qc5f BK102.out) | (go_at_call 135; (with_reducible refine (slices_Equal_string_string.calls k _ _ l0_4 _ _ l1_4 t103 _ ?side1 ?side2 ?side3 ?side4 A7.out).mono ?_); (case side1 => exact qC (Kd.C_below HR0_4.out HB.out)); (case side2 => exact HC0_4.out); (case side3 => exact qC (Kd.C_below HR1_4.out HB.out)); (case side4 => exact HC1_4.out); rintro e w' ⟨rfl, ⟨nd, rfl⟩⟩)); go_ret; exact ⟨qE, qB⟩
        rw [if_neg c6] at H; have c6b0 : (a0_3 == a1_3) = false := beq_eq_false_iff_ne.mpr c6; have c6b1 : (a0_3 != a1_3) = true := bne_iff_ne.mpr c6; obtain rfl := zKq H; go_enter Try.func134, Try.ntmps134; go_wp2_with (first | ((with_reducible refine gate_dst (N := 2) rfl ?_); refine box_event qr (N := 2) qr (cs := #[.int .i64 a0_0, .int .i64 a0_1, .int .i64 a0_2, .int .i64 a0_3, .slice A0_4 l0_4.length c0_4]) (t := 71) qg ?_; intro gb101 hg w13 hbox hb; have n0_ := zA (zV qB hb); have n1_ := zA (hbox); have n2_ := zA ((qS : w.heap.size ≤ gb101)); have n3_ := zA ((qS : w.heap.size ≤ gb101)); clear HB; have HB := n0_; have BK101 := n1_; have GW101 := n2_; have GE101 := n3_; clear n0_ n1_ n2_ n3_ hb hbox hg) | ((with_reducible refine gate_dst (N := 3) rfl ?_); refine box_event qr (N := 3) qr (cs := #[.int .i64 a1_0, .int .i64 a1_1, .int .i64 a1_2, .int .i64 a1_3, .slice A1_4 l1_4.length c1_4]) (t := 71) qg ?_; intro gb102 hg w14 hbox hb; have n0_ := zA (qX BK101.out hb); have n1_ := zA (zV qB hb); have n2_ := zA (hbox); have n3_ := zA ((qS : w.heap.size ≤ gb102)); have n4_ := zA ((qS : w.heap.size ≤ gb102)); have n5_ := zA ((by rw [hg]; exact zLq (qL BK101.out) : gb101 ≠ gb102)); have n6_ := zA ((by rw [hg]; exact zMq (qL BK101.out) : gb102 ≠ gb101)); clear BK101 HB; have BK101 := n0_; have HB := n1_; have BK102 := n2_; have GW102 := n3_; have GE102 := n4_; have NB101_102 := n5_; have NB102_101 := n6_; clear n0_ n1_ n2_ n3_ n4_ n5_ n6_ hb hbox hg; have hnb15 := NB101_102.out; have hnc15 := NB102_101.out; obtain ⟨_, _, _, _, _, _, _, _, _, _⟩ := qc5f BK101.out; obtain ⟨_, _, _, _, _, _, _, _, _, _⟩ := qc5f BK102.out)); go_ret; exact ⟨qE, qB⟩
      rw [if_neg c5] at H; have c5b0 : (a0_2 == a1_2) = false := beq_eq_false_iff_ne.mpr c5; have c5b1 : (a0_2 != a1_2) = true := bne_iff_ne.mpr c5; obtain rfl := zKq H; go_enter Try.func134, Try.ntmps134; go_wp2_with (first | ((with_reducible refine gate_dst (N := 2) rfl ?_); refine box_event qr (N := 2) qr (cs := #[.int .i64 a0_0, .int .i64 a0_1, .int .i64 a0_2, .int .i64 a0_3, .slice A0_4 l0_4.length c0_4]) (t := 71) qg ?_; intro gb101 hg w18 hbox hb; have n0_ := zA (zV qB hb); have n1_ := zA (hbox); have n2_ := zA ((qS : w.heap.size ≤ gb101)); have n3_ := zA ((qS : w.heap.size ≤ gb101)); clear HB; have HB := n0_; have BK101 := n1_; have GW101 := n2_; have GE101 := n3_; clear n0_ n1_ n2_ n3_ hb hbox hg) | ((with_reducible refine gate_dst (N := 3) rfl ?_); refine box_event qr (N := 3) qr (cs := #[.int .i64 a1_0, .int .i64 a1_1, .int .i64 a1_2, .int .i64 a1_3, .slice A1_4 l1_4.length c1_4]) (t := 71) qg ?_; intro gb102 hg w19 hbox hb; have n0_ := zA (qX BK101.out hb); have n1_ := zA (zV qB hb); have n2_ := zA (hbox); have n3_ := zA ((qS : w.heap.size ≤ gb102)); have n4_ := zA ((qS : w.heap.size ≤ gb102)); have n5_ := zA ((by rw [hg]; exact zLq (qL BK101.out) : gb101 ≠ gb102)); have n6_ := zA ((by rw [hg]; exact zMq (qL BK101.out) : gb102 ≠ gb101)); clear BK101 HB; have BK101 := n0_; have HB := n1_; have BK102 := n2_; have GW102 := n3_; have GE102 := n4_; have NB101_102 := n5_; have NB102_101 := n6_; clear n0_ n1_ n2_ n3_ n4_ n5_ n6_ hb hbox hg; have hnb20 := NB101_102.out; have hnc20 := NB102_101.out; obtain ⟨_, _, _, _, _, _, _, _, _, _⟩ := qc5f BK101.out; obtain ⟨_, _, _, _, _, _, _, _, _, _⟩ := qc5f BK102.out)); go_ret; exact ⟨qE, qB⟩
    rw [if_neg c4] at H; have c4b0 : (a0_1 == a1_1) = false := beq_eq_false_iff_ne.mpr c4; have c4b1 : (a0_1 != a1_1) = true := bne_iff_ne.mpr c4; obtain rfl := zKq H; go_enter Try.func134, Try.ntmps134; go_wp2_with (first | ((with_reducible refine gate_dst (N := 2) rfl ?_); refine box_event qr (N := 2) qr (cs := #[.int .i64 a0_0, .int .i64 a0_1, .int .i64 a0_2, .int .i64 a0_3, .slice A0_4 l0_4.length c0_4]) (t := 71) qg ?_; intro gb101 hg w23 hbox hb; have n0_ := zA (zV qB hb); have n1_ := zA (hbox); have n2_ := zA ((qS : w.heap.size ≤ gb101)); have n3_ := zA ((qS : w.heap.size ≤ gb101)); clear HB; have HB := n0_; have BK101 := n1_; have GW101 := n2_; have GE101 := n3_; clear n0_ n1_ n2_ n3_ hb hbox hg) | ((with_reducible refine gate_dst (N := 3) rfl ?_); refine box_event qr (N := 3) qr (cs := #[.int .i64 a1_0, .int .i64 a1_1, .int .i64 a1_2, .int .i64 a1_3, .slice A1_4 l1_4.length c1_4]) (t := 71) qg ?_; intro gb102 hg w24 hbox hb; have n0_ := zA (qX BK101.out hb); have n1_ := zA (zV qB hb); have n2_ := zA (hbox); have n3_ := zA ((qS : w.heap.size ≤ gb102)); have n4_ := zA ((qS : w.heap.size ≤ gb102)); have n5_ := zA ((by rw [hg]; exact zLq (qL BK101.out) : gb101 ≠ gb102)); have n6_ := zA ((by rw [hg]; exact zMq (qL BK101.out) : gb102 ≠ gb101)); clear BK101 HB; have BK101 := n0_; have HB := n1_; have BK102 := n2_; have GW102 := n3_; have GE102 := n4_; have NB101_102 := n5_; have NB102_101 := n6_; clear n0_ n1_ n2_ n3_ n4_ n5_ n6_ hb hbox hg; have hnb25 := NB101_102.out; have hnc25 := NB102_101.out; obtain ⟨_, _, _, _, _, _, _, _, _, _⟩ := qc5f BK101.out; obtain ⟨_, _, _, _, _, _, _, _, _, _⟩ := qc5f BK102.out)); go_ret; exact ⟨qE, qB⟩
  rw [if_neg c3] at H
  have c3b0 : (a0_0 == a1_0) = false := beq_eq_false_iff_ne.mpr c3
  have c3b1 : (a0_0 != a1_0) = true := bne_iff_ne.mpr c3
  obtain rfl := zKq H
  go_enter Try.func134, Try.ntmps134
  go_wp2_with (first | ((with_reducible refine gate_dst (N := 2) rfl ?_); refine box_event qr (N := 2) qr (cs := #[.int .i64 a0_0, .int .i64 a0_1, .int .i64 a0_2, .int .i64 a0_3, .slice A0_4 l0_4.length c0_4]) (t := 71) qg ?_; intro gb101 hg w28 hbox hb; have n0_ := zA (zV qB hb); have n1_ := zA (hbox); have n2_ := zA ((qS : w.heap.size ≤ gb101)); have n3_ := zA ((qS : w.heap.size ≤ gb101)); clear HB; have HB := n0_; have BK101 := n1_; have GW101 := n2_; have GE101 := n3_; clear n0_ n1_ n2_ n3_ hb hbox hg) | ((with_reducible refine gate_dst (N := 3) rfl ?_); refine box_event qr (N := 3) qr (cs := #[.int .i64 a1_0, .int .i64 a1_1, .int .i64 a1_2, .int .i64 a1_3, .slice A1_4 l1_4.length c1_4]) (t := 71) qg ?_; intro gb102 hg w29 hbox hb; have n0_ := zA (qX BK101.out hb); have n1_ := zA (zV qB hb); have n2_ := zA (hbox); have n3_ := zA ((qS : w.heap.size ≤ gb102)); have n4_ := zA ((qS : w.heap.size ≤ gb102)); have n5_ := zA ((by rw [hg]; exact zLq (qL BK101.out) : gb101 ≠ gb102)); have n6_ := zA ((by rw [hg]; exact zMq (qL BK101.out) : gb102 ≠ gb101)); clear BK101 HB; have BK101 := n0_; have HB := n1_; have BK102 := n2_; have GW102 := n3_; have GE102 := n4_; have NB101_102 := n5_; have NB102_101 := n6_; clear n0_ n1_ n2_ n3_ n4_ n5_ n6_ hb hbox hg; have hnb30 := NB101_102.out; have hnc30 := NB102_101.out; obtain ⟨_, _, _, _, _, _, _, _, _, _⟩ := qc5f BK101.out; obtain ⟨_, _, _, _, _, _, _, _, _, _⟩ := qc5f BK102.out))
  go_ret
  exact ⟨qE, qB⟩
def slices_EqualFunc_order_Same_1.l0 : Nat → List (S71) → List (S71) → Int → Int → Option (Bool)
  | 0, _, _, _, _ => none
  | k + 1, x1, x15, x16, x17 => if x17 < x16 then (if 0 ≤ x17 then (if x17 < (x15.length : Int) then (if x17 < (x1.length : Int) then ((order_Same_1.f k ((rd_T71 x15 x17).f0) ((rd_T71 x15 x17).f1) ((rd_T71 x15 x17).f2) ((rd_T71 x15 x17).f3) ((rd_T71 x15 x17).f4) ((rd_T71 x1 x17).f0) ((rd_T71 x1 x17).f1) ((rd_T71 x1 x17).f2) ((rd_T71 x1 x17).f3) ((rd_T71 x1 x17).f4)).bind fun t105 => (if t105 = true then (slices_EqualFunc_order_Same_1.l0 k x1 x15 x16 (wrap64 (x17 + 1))) else (some false))) else (none)) else (none)) else (none)) else (some true)
def slices_EqualFunc_order_Same_1.f (k : Nat) (l0 : List (S71)) (l1 : List (S71))  : Option (Bool) := if (l0.length : Int) = (l1.length : Int) then (slices_EqualFunc_order_Same_1.l0 k l1 l0 (l0.length : Int) 0) else (some false)
theorem slices_EqualFunc_order_Same_1.mono_l : ∀ k, (∀ y0 y1 y2 y3, LeO (slices_EqualFunc_order_Same_1.l0 k y0 y1 y2 y3) (slices_EqualFunc_order_Same_1.l0 (k + 1) y0 y1 y2 y3))
  | 0 => fun _ _ _ _ r h => by simp [slices_EqualFunc_order_Same_1.l0] at h
  | k + 1 => by
    have ih0 := slices_EqualFunc_order_Same_1.mono_l k
    intro y0 y1 y2 y3
    unfold slices_EqualFunc_order_Same_1.l0
    repeat' first
    | (with_reducible exact ih0 _ _ _ _)
    | (with_reducible exact order_Same_1.mono _ _ _ _ _ _ _ _ _ _ _)
    | (with_reducible exact LeO.refl _)
    | (with_reducible exact LeO.none _)
    | (with_reducible refine LeO.ite ?_ ?_)
    | (with_reducible refine LeO.bind ?_ (fun _ => ?_))
    | exact ih0 _ _ _ _
    | exact order_Same_1.mono _ _ _ _ _ _ _ _ _ _ _
    | exact LeO.none _
    | refine LeO.ite ?_ ?_
    | refine LeO.bind ?_ (fun _ => ?_)
theorem slices_EqualFunc_order_Same_1.mono : ∀ a0 a1 k, LeO (slices_EqualFunc_order_Same_1.f k a0 a1) (slices_EqualFunc_order_Same_1.f (k + 1) a0 a1) := by
  intro a0 a1 k
  have ih0 := slices_EqualFunc_order_Same_1.mono_l k
  unfold slices_EqualFunc_order_Same_1.f
  repeat' first
      | (with_reducible exact ih0 _ _ _ _)
      | (with_reducible exact order_Same_1.mono _ _ _ _ _ _ _ _ _ _ _)
      | (with_reducible exact LeO.refl _)
      | (with_reducible exact LeO.none _)
      | (with_reducible refine LeO.ite ?_ ?_)
      | (with_reducible refine LeO.bind ?_ (fun _ => ?_))
      | exact ih0 _ _ _ _
      | exact order_Same_1.mono _ _ _ _ _ _ _ _ _ _ _
      | exact LeO.none _
      | refine LeO.ite ?_ ?_
      | refine LeO.bind ?_ (fun _ => ?_)
set_option maxHeartbeats 8000000 in
set_option maxRecDepth 100000 in
theorem slices_EqualFunc_order_Same_1.calls (k : Nat) (A0 : Option Addr) (c0 : Nat) (l0 : List (S71)) (A1 : Option Addr) (c1 : Nat) (l1 : List (S71))  (r : Bool) (w : World) (hr0 : Kd.C k71 w A0 l0.length l0) (hc0 : l0.length ≤ c0) (hr1 : Kd.C k71 w A1 l1.length l1) (hc1 : l1.length ≤ c1) (h : slices_EqualFunc_order_Same_1.f k l0 l1 = some r) :
    Calls Try.prog 133 #[.slice A0 l0.length c0, .slice A1 l1.length c1, .func (.func 134) #[] #[]] w fun e w' => e = .returned (.bool r) ∧ Below w.heap.size w w' := by
  have hu71 := Try.underlying71
  have HR0 := zA hr0
  have HC0 := zA hc0
  clear hr0 hc0
  have HR1 := zA hr1
  have HC1 := zA hc1
  clear hr1 hc1
  have HB := zA (Below.refl w.heap.size w)
  have H : (if (l0.length : Int) = (l1.length : Int) then (slices_EqualFunc_order_Same_1.l0 k l1 l0 (l0.length : Int) 0) else (some false)) = some r := h
  clear h
  by_cases c4 : (l0.length : Int) = (l1.length : Int)
  · rw [if_pos c4] at H
    have c4b0 : ((l0.length : Int) == (l1.length : Int)) = true := beq_iff_eq.mpr c4; have c4b1 : ((l0.length : Int) != (l1.length : Int)) = false := bne_eq_false_iff_eq.mpr c4; have c4b2 : (l0.length == l1.length) = true := by first | simpa using c4 | (simp at c4 ⊢; omega)
    clear c4; have H' := zA H; clear H; go_enter Try.func133, Try.ntmps133; go_wp2; go_loopg [17] k (fun kq v17 w' => ∃ (x17_1 : Int), v17 = .int .i64 x17_1 ∧ Aside0 (slices_EqualFunc_order_Same_1.l0 kq l1 l0 (l0.length : Int) x17_1 = some r) ∧ Aside0 (kq ≤ k) ∧ Aside0 (Below w.heap.size w w'))
    case atStart => exact ⟨(0), (by first | rfl | (simp; done) | (simp [*]; done)), H', ⟨Nat.le_refl _⟩, ⟨qB⟩⟩
    case round =>
      clear H'; try clear c1
      try clear p2
      try clear c4
      try clear c4b0
      try clear c4b1
      try clear c4b2
      obtain ⟨x17_1, rfl, HA, HK1, HB⟩ := hrel; cases gk with
      | zero => exact absurd HA.out (by simp [slices_EqualFunc_order_Same_1.l0])
      | succ k1 =>
        have H := HA.out; clear HA; simp only [slices_EqualFunc_order_Same_1.l0] at H; by_cases c5 : x17_1 < (l0.length : Int)
        · rw [if_pos c5] at H
          have c5b0 : decide (x17_1 < (l0.length : Int)) = true := zFq c5; clear c5; by_cases c6 : 0 ≤ x17_1
          · rw [if_pos c6] at H
            have c6b0 : decide (0 ≤ x17_1) = true := zFq c6; clear c6; by_cases c7 : x17_1 < (l0.length : Int)
            · rw [if_pos c7] at H
              have c7b0 : decide (x17_1 < (l0.length : Int)) = true := zFq c7; clear c7; by_cases c8 : x17_1 < (l1.length : Int)
              · rw [if_pos c8] at H
                have c8b0 : decide (x17_1 < (l1.length : Int)) = true := zFq c8; clear c8; replace H := Option.bind_eq_some_iff.mp H; obtain ⟨t105, A90, H⟩ := H; replace H : (if t105 = true then (slices_EqualFunc_order_Same_1.l0 k1 l1 l0 (l0.length : Int) (wrap64 (x17_1 + 1))) else (some false)) = some r := H; have A9 := zA A90; clear A90; by_cases c10 : t105 = true
                · subst c10
                  have H1 : (slices_EqualFunc_order_Same_1.l0 k1 l1 l0 (l0.length : Int) (wrap64 (x17_1 + 1))) = some r := by first | (rw [if_pos rfl] at H; exact H) | rfl
                  clear H; have H := H1; clear H1; have H' := zA H; clear H; have p101 : 0 ≤ (x17_1 : Int) := of_decide_eq_true qA; have q101 : x17_1 < (l0.length : Int) := of_decide_eq_true qA; obtain ⟨ad101, A101_4, c101_4, e101, hx101_0, hx101_1, hx101_2, hx101_3, hx101_4, hl101_4, hi101_4⟩ := at_T71 HR0.out x17_1 p101 q101; cases e101
                  replace hx101_0 := (HB.out.cell (zCq w _ hx101_0)).trans hx101_0; replace hx101_1 := (HB.out.cell (zCq w _ hx101_1)).trans hx101_1; replace hx101_2 := (HB.out.cell (zCq w _ hx101_2)).trans hx101_2; replace hx101_3 := (HB.out.cell (zCq w _ hx101_3)).trans hx101_3; replace hx101_4 := (HB.out.cell (zCq w _ hx101_4)).trans hx101_4; have HR101_4 := zA hi101_4; have HC101_4 := zA hl101_4; clear hi101_4 hl101_4; replace p101 := eq_true p101; replace q101 := eq_true q101; go_wp2_with (first | ((with_reducible refine gate_dst (N := 8) rfl ?_); refine box_event qr (N := 8) qr (cs := #[.int .i64 0, .int .i64 0, .int .i64 0, .int .i64 0, .slice none 0 0]) (t := 71) qg ?_; intro gb102 hg w11 hbox hb; have n0_ := zA (zV qB hb); have n1_ := zA (hbox); have n2_ := zA ((qS : w.heap.size ≤ gb102)); have n3_ := zA ((qS : w.heap.size ≤ gb102)); clear HB; have HB := n0_; have BK102 := n1_; have GW102 := n2_; have GE102 := n3_; clear n0_ n1_ n2_ n3_ hb hbox hg; obtain ⟨_, _, _, _, _, _, _, _, _, _⟩ := qc5f BK102.out; have p103 : 0 ≤ (x17_1 : Int) := of_decide_eq_true qA; have q103 : x17_1 < (l1.length : Int) := of_decide_eq_true qA; obtain ⟨ad103, A103_4, c103_4, e103, hx103_0, hx103_1, hx103_2, hx103_3, hx103_4, hl103_4, hi103_4⟩ := at_T71 HR1.out x17_1 p103 q103; cases e103; have hn103_0 : ad103.block ≠ gb102 := zLq (Nat.lt_of_lt_of_le (by have := zCq _ _ hx103_0; first | rwa [add_block] at this | exact this) GW102.out); have hn103_1 : ad103.block ≠ gb102 := zLq (Nat.lt_of_lt_of_le (by have := zCq _ _ hx103_0; first | rwa [add_block] at this | exact this) GW102.out); have hn103_2 : ad103.block ≠ gb102 := zLq (Nat.lt_of_lt_of_le (by have := zCq _ _ hx103_0; first | rwa [add_block] at this | exact this) GW102.out); have hn103_3 : ad103.block ≠ gb102 := zLq (Nat.lt_of_lt_of_le (by have := zCq _ _ hx103_0; first | rwa [add_block] at this | exact this) GW102.out); have hn103_4 : ad103.block ≠ gb102 := zLq (Nat.lt_of_lt_of_le (by have := zCq _ _ hx103_0; first | rwa [add_block] at this | exact this) GW102.out); replace hx103_0 := (HB.out.cell (zCq w _ hx103_0)).trans hx103_0; replace hx103_1 := (HB.out.cell (zCq w _ hx103_1)).trans hx103_1; replace hx103_2 := (HB.out.cell (zCq w _ hx103_2)).trans hx103_2; replace hx103_3 := (HB.out.cell (zCq w _ hx103_3)).trans hx103_3; replace hx103_4 := (HB.out.cell (zCq w _ hx103_4)).trans hx103_4; have HR103_4 := zA hi103_4; have HC103_4 := zA hl103_4; clear hi103_4 hl103_4; replace hx103_0 := (cell_far (p := ⟨gb102, 0, none⟩) (by first | (rw [add_block]; exact hn103_0) | (show (Addr.add _ _).block ≠ _; rw [add_block]; exact hn103_0) | exact hn103_0) (.int .i64 ((rd_T71 l0 x17_1).f0))).trans hx103_0; replace hx103_1 := (cell_far (p := ⟨gb102, 0, none⟩) (by first | (rw [add_block]; exact hn103_0) | (show (Addr.add _ _).block ≠ _; rw [add_block]; exact hn103_0) | exact hn103_0) (.int .i64 ((rd_T71 l0 x17_1).f0))).trans hx103_1; replace hx103_2 := (cell_far (p := ⟨gb102, 0, none⟩) (by first | (rw [add_block]; exact hn103_0) | (show (Addr.add _ _).block ≠ _; rw [add_block]; exact hn103_0) | exact hn103_0) (.int .i64 ((rd_T71 l0 x17_1).f0))).trans hx103_2; replace hx103_3 := (cell_far (p := ⟨gb102, 0, none⟩) (by first | (rw [add_block]; exact hn103_0) | (show (Addr.add _ _).block ≠ _; rw [add_block]; exact hn103_0) | exact hn103_0) (.int .i64 ((rd_T71 l0 x17_1).f0))).trans hx103_3; replace hx103_4 := (cell_far (p := ⟨gb102, 0, none⟩) (by first | (rw [add_block]; exact hn103_0) | (show (Addr.add _ _).block ≠ _; rw [add_block]; exact hn103_0) | exact hn103_0) (.int .i64 ((rd_T71 l0 x17_1).f0))).trans hx103_4; replace hx103_0 := (cell_far (p := ⟨gb102, 1, none⟩) (by first | (rw [add_block]; exact hn103_1) | (show (Addr.add _ _).block ≠ _; rw [add_block]; exact hn103_1) | exact hn103_1) (.int .i64 ((rd_T71 l0 x17_1).f1))).trans hx103_0; replace hx103_1 := (cell_far (p := ⟨gb102, 1, none⟩) (by first | (rw [add_block]; exact hn103_1) | (show (Addr.add _ _).block ≠ _; rw [add_block]; exact hn103_1) | exact hn103_1) (.int .i64 ((rd_T71 l0 x17_1).f1))).trans hx103_1; replace hx103_2 := (cell_far (p := ⟨gb102, 1, none⟩) (by first | (rw [add_block]; exact hn103_1) | (show (Addr.add _ _).block ≠ _; rw [add_block]; exact hn103_1) | exact hn103_1) (.int .i64 ((rd_T71 l0 x17_1).f1))).trans hx103_2; replace hx103_3 := (cell_far (p := ⟨gb102, 1, none⟩) (by first | (rw [add_block]; exact hn103_1) | (show (Addr.add _ _).block ≠ _; rw [add_block]; exact hn103_1) | exact hn103_1) (.int .i64 ((rd_T71 l0 x17_1).f1))).trans hx103_3; replace hx103_4 := (cell_far (p := ⟨gb102, 1, none⟩) (by first | (rw [add_block]; exact hn103_1) | (show (Addr.add _ _).block ≠ _; rw [add_block]; exact hn103_1) | exact hn103_1) (.int .i64 ((rd_T71 l0 x17_1).f1))).trans hx103_4; replace hx103_0 := (cell_far (p := ⟨gb102, 2, none⟩) (by first | (rw [add_block]; exact hn103_2) | (show (Addr.add _ _).block ≠ _; rw [add_block]; exact hn103_2) | exact hn103_2) (.int .i64 ((rd_T71 l0 x17_1).f2))).trans hx103_0; replace hx103_1 := (cell_far (p := ⟨gb102, 2, none⟩) (by first | (rw [add_block]; exact hn103_2) | (show (Addr.add _ _).block ≠ _; rw [add_block]; exact hn103_2) | exact hn103_2) (.int .i64 ((rd_T71 l0 x17_1).f2))).trans hx103_1; replace hx103_2 := (cell_far (p := ⟨gb102, 2, none⟩) (by first | (rw [add_block]; exact hn103_2) | (show (Addr.add _ _).block ≠ _; rw [add_block]; exact hn103_2) | exact hn103_2) (.int .i64 ((rd_T71 l0 x17_1).f2))).trans hx103_2; replace hx103_3 := (cell_far (p := ⟨gb102, 2, none⟩) (by first | (rw [add_block]; exact hn103_2) | (show (Addr.add _ _).block ≠ _; rw [add_block]; exact hn103_2) | exact hn103_2) (.int .i64 ((rd_T71 l0 x17_1).f2))).trans hx103_3; replace hx103_4 := (cell_far (p := ⟨gb102, 2, none⟩) (by first | (rw [add_block]; exact hn103_2) | (show (Addr.add _ _).block ≠ _; rw [add_block]; exact hn103_2) | exact hn103_2) (.int .i64 ((rd_T71 l0 x17_1).f2))).trans hx103_4; replace hx103_0 := (cell_far (p := ⟨gb102, 3, none⟩) (by first | (rw [add_block]; exact hn103_3) | (show (Addr.add _ _).block ≠ _; rw [add_block]; exact hn103_3) | exact hn103_3) (.int .i64 ((rd_T71 l0 x17_1).f3))).trans hx103_0; replace hx103_1 := (cell_far (p := ⟨gb102, 3, none⟩) (by first | (rw [add_block]; exact hn103_3) | (show (Addr.add _ _).block ≠ _; rw [add_block]; exact hn103_3) | exact hn103_3) (.int .i64 ((rd_T71 l0 x17_1).f3))).trans hx103_1; replace hx103_2 := (cell_far (p := ⟨gb102, 3, none⟩) (by first | (rw [add_block]; exact hn103_3) | (show (Addr.add _ _).block ≠ _; rw [add_block]; exact hn103_3) | exact hn103_3) (.int .i64 ((rd_T71 l0 x17_1).f3))).trans hx103_2; replace hx103_3 := (cell_far (p := ⟨gb102, 3, none⟩) (by first | (rw [add_block]; exact hn103_3) | (show (Addr.add _ _).block ≠ _; rw [add_block]; exact hn103_3) | exact hn103_3) (.int .i64 ((rd_T71 l0 x17_1).f3))).trans hx103_3; replace hx103_4 := (cell_far (p := ⟨gb102, 3, none⟩) (by first | (rw [add_block]; exact hn103_3) | (show (Addr.add _ _).block ≠ _; rw [add_block]; exact hn103_3) | exact hn103_3) (.int .i64 ((rd_T71 l0 x17_1).f3))).trans hx103_4; replace hx103_0 := (cell_far (p := ⟨gb102, 4, none⟩) (by first | (rw [add_block]; exact hn103_4) | (show (Addr.add _ _).block ≠ _; rw [add_block]; exact hn103_4) | exact hn103_4) (.slice A101_4 ((rd_T71 l0 x17_1).f4).length c101_4)).trans hx103_0; replace hx103_1 := (cell_far (p := ⟨gb102, 4, none⟩) (by first | (rw [add_block]; exact hn103_4) | (show (Addr.add _ _).block ≠ _; rw [add_block]; exact hn103_4) | exact hn103_4) (.slice A101_4 ((rd_T71 l0 x17_1).f4).length c101_4)).trans hx103_1; replace hx103_2 := (cell_far (p := ⟨gb102, 4, none⟩) (by first | (rw [add_block]; exact hn103_4) | (show (Addr.add _ _).block ≠ _; rw [add_block]; exact hn103_4) | exact hn103_4) (.slice A101_4 ((rd_T71 l0 x17_1).f4).length c101_4)).trans hx103_2; replace hx103_3 := (cell_far (p := ⟨gb102, 4, none⟩) (by first | (rw [add_block]; exact hn103_4) | (show (Addr.add _ _).block ≠ _; rw [add_block]; exact hn103_4) | exact hn103_4) (.slice A101_4 ((rd_T71 l0 x17_1).f4).length c101_4)).trans hx103_3; replace hx103_4 := (cell_far (p := ⟨gb102, 4, none⟩) (by first | (rw [add_block]; exact hn103_4) | (show (Addr.add _ _).block ≠ _; rw [add_block]; exact hn103_4) | exact hn103_4) (.slice A101_4 ((rd_T71 l0 x17_1).f4).length c101_4)).trans hx103_4; clear hn103_0 hn103_1 hn103_2 hn103_3 hn103_4; replace p103 := eq_true p103; replace q103 := eq_true q103) | ((with_reducible refine gate_dst (N := 9) rfl ?_); refine box_event qr (N := 9) qr (cs := #[.int .i64 0, .int .i64 0, .int .i64 0, .int .i64 0, .slice none 0 0]) (t := 71) qg ?_; intro gb104 hg w13 hbox hb; have n0_ := zA (zX (g := gb102) (o := .cells #[.int .i64 ((rd_T71 l0 x17_1).f0), .int .i64 ((rd_T71 l0 x17_1).f1), .int .i64 ((rd_T71 l0 x17_1).f2), .int .i64 ((rd_T71 l0 x17_1).f3), .slice A101_4 ((rd_T71 l0 x17_1).f4).length c101_4] 71 (0, 0)) (qV BK102.out) hb); have n1_ := zA (zV qB hb); have n2_ := zA (hbox); have n3_ := zA ((qS : w.heap.size ≤ gb104)); have n4_ := zA ((qS : w.heap.size ≤ gb104)); have n5_ := zA ((by rw [hg]; exact zLq (blk_lt (g := gb102) (o := .cells #[.int .i64 ((rd_T71 l0 x17_1).f0), .int .i64 ((rd_T71 l0 x17_1).f1), .int .i64 ((rd_T71 l0 x17_1).f2), .int .i64 ((rd_T71 l0 x17_1).f3), .slice A101_4 ((rd_T71 l0 x17_1).f4).length c101_4] 71 (0, 0)) (qV BK102.out)) : gb102 ≠ gb104)); have n6_ := zA ((by rw [hg]; exact zMq (blk_lt (g := gb102) (o := .cells #[.int .i64 ((rd_T71 l0 x17_1).f0), .int .i64 ((rd_T71 l0 x17_1).f1), .int .i64 ((rd_T71 l0 x17_1).f2), .int .i64 ((rd_T71 l0 x17_1).f3), .slice A101_4 ((rd_T71 l0 x17_1).f4).length c101_4] 71 (0, 0)) (qV BK102.out)) : gb104 ≠ gb102)); clear BK102 HB; have BK102 := n0_; have HB := n1_; have BK104 := n2_; have GW104 := n3_; have GE104 := n4_; have NB102_104 := n5_; have NB104_102 := n6_; clear n0_ n1_ n2_ n3_ n4_ n5_ n6_ hb hbox hg; have hnb14 := NB104_102.out; have hnc14 := NB102_104.out; obtain ⟨_, _, _, _, _, _, _, _, _, _⟩ := qc5f BK104.out; obtain ⟨_, _, _, _, _, _, _, _, _, _⟩ := qc5f BK102.out) | (go_at_call 134; (with_reducible refine (order_Same_1.calls k1 ((rd_T71 l0 x17_1).f0) ((rd_T71 l0 x17_1).f1) ((rd_T71 l0 x17_1).f2) ((rd_T71 l0 x17_1).f3) _ _ ((rd_T71 l0 x17_1).f4) ((rd_T71 l1 x17_1).f0) ((rd_T71 l1 x17_1).f1) ((rd_T71 l1 x17_1).f2) ((rd_T71 l1 x17_1).f3) _ _ ((rd_T71 l1 x17_1).f4) true _ ?side1 ?side2 ?side3 ?side4 A9.out).mono ?_); (case side1 => exact Kd.C_below HR101_4.out qB); (case side2 => exact HC101_4.out); (case side3 => exact Kd.C_below HR103_4.out qB); (case side4 => exact HC103_4.out); rintro e w17 ⟨rfl, hb⟩; have n0_ := zA (qX BK102.out hb); have n1_ := zA (zX (g := gb104) (o := .cells #[.int .i64 ((rd_T71 l1 x17_1).f0), .int .i64 ((rd_T71 l1 x17_1).f1), .int .i64 ((rd_T71 l1 x17_1).f2), .int .i64 ((rd_T71 l1 x17_1).f3), .slice A103_4 ((rd_T71 l1 x17_1).f4).length c103_4] 71 (0, 0)) (qV BK104.out) hb); have n2_ := zA (zV qB hb); clear BK102 BK104 HB; have BK102 := n0_; have BK104 := n1_; have HB := n2_; clear n0_ n1_ n2_; (try clear hb); (try clear hb2); (try clear hk); (try clear hi)))
                  go_roundg k1
                  case measure => have := HK1.out; omega
                  case rel => exact ⟨(wrap64 (x17_1 + 1)), (by first | rfl | (simp; done) | (simp [*]; done)), H', ⟨by have := HK1.out; omega⟩, ⟨qB⟩⟩
                replace c10 := Bool.eq_false_iff.mpr c10; subst c10; have H1 : (some false) = some r := by first | (rw [if_neg (show ¬ (false = true) by decide)] at H; exact H) | rfl
                clear H; have H := H1; clear H1; obtain rfl := zKq H; have p101 : 0 ≤ (x17_1 : Int) := of_decide_eq_true qA; have q101 : x17_1 < (l0.length : Int) := of_decide_eq_true qA; obtain ⟨ad101, A101_4, c101_4, e101, hx101_0, hx101_1, hx101_2, hx101_3, hx101_4, hl101_4, hi101_4⟩ := at_T71 HR0.out x17_1 p101 q101; cases e101
                replace hx101_0 := (HB.out.cell (zCq w _ hx101_0)).trans hx101_0; replace hx101_1 := (HB.out.cell (zCq w _ hx101_1)).trans hx101_1; replace hx101_2 := (HB.out.cell (zCq w _ hx101_2)).trans hx101_2; replace hx101_3 := (HB.out.cell (zCq w _ hx101_3)).trans hx101_3; replace hx101_4 := (HB.out.cell (zCq w _ hx101_4)).trans hx101_4; have HR101_4 := zA hi101_4; have HC101_4 := zA hl101_4; clear hi101_4 hl101_4; replace p101 := eq_true p101; replace q101 := eq_true q101; go_wp2_with (first | ((with_reducible refine gate_dst (N := 8) rfl ?_); refine box_event qr (N := 8) qr (cs := #[.int .i64 0, .int .i64 0, .int .i64 0, .int .i64 0, .slice none 0 0]) (t := 71) qg ?_; intro gb102 hg w18 hbox hb; have n0_ := zA (zV qB hb); have n1_ := zA (hbox); have n2_ := zA ((qS : w.heap.size ≤ gb102)); have n3_ := zA ((qS : w.heap.size ≤ gb102)); clear HB; have HB := n0_; have BK102 := n1_; have GW102 := n2_; have GE102 := n3_; clear n0_ n1_ n2_ n3_ hb hbox hg; obtain ⟨_, _, _, _, _, _, _, _, _, _⟩ := qc5f BK102.out; have p103 : 0 ≤ (x17_1 : Int) := of_decide_eq_true qA; have q103 : x17_1 < (l1.length : Int) := of_decide_eq_true qA; obtain ⟨ad103, A103_4, c103_4, e103, hx103_0, hx103_1, hx103_2, hx103_3, hx103_4, hl103_4, hi103_4⟩ := at_T71 HR1.out x17_1 p103 q103; cases e103; have hn103_0 : ad103.block ≠ gb102 := zLq (Nat.lt_of_lt_of_le (by have := zCq _ _ hx103_0; first | rwa [add_block] at this | exact this) GW102.out); have hn103_1 : ad103.block ≠ gb102 := zLq (Nat.lt_of_lt_of_le (by have := zCq _ _ hx103_0; first | rwa [add_block] at this | exact this) GW102.out); have hn103_2 : ad103.block ≠ gb102 := zLq (Nat.lt_of_lt_of_le (by have := zCq _ _ hx103_0; first | rwa [add_block] at this | exact this) GW102.out); have hn103_3 : ad103.block ≠ gb102 := zLq (Nat.lt_of_lt_of_le (by have := zCq _ _ hx103_0; first | rwa [add_block] at this | exact this) GW102.out); have hn103_4 : ad103.block ≠ gb102 := zLq (Nat.lt_of_lt_of_le (by have := zCq _ _ hx103_0; first | rwa [add_block] at this | exact this) GW102.out); replace hx103_0 := (HB.out.cell (zCq w _ hx103_0)).trans hx103_0; replace hx103_1 := (HB.out.cell (zCq w _ hx103_1)).trans hx103_1; replace hx103_2 := (HB.out.cell (zCq w _ hx103_2)).trans hx103_2; replace hx103_3 := (HB.out.cell (zCq w _ hx103_3)).trans hx103_3; replace hx103_4 := (HB.out.cell (zCq w _ hx103_4)).trans hx103_4; have HR103_4 := zA hi103_4; have HC103_4 := zA hl103_4; clear hi103_4 hl103_4; replace hx103_0 := (cell_far (p := ⟨gb102, 0, none⟩) (by first | (rw [add_block]; exact hn103_0) | (show (Addr.add _ _).block ≠ _; rw [add_block]; exact hn103_0) | exact hn103_0) (.int .i64 ((rd_T71 l0 x17_1).f0))).trans hx103_0; replace hx103_1 := (cell_far (p := ⟨gb102, 0, none⟩) (by first | (rw [add_block]; exact hn103_0) | (show (Addr.add _ _).block ≠ _; rw [add_block]; exact hn103_0) | exact hn103_0) (.int .i64 ((rd_T71 l0 x17_1).f0))).trans hx103_1; replace hx103_2 := (cell_far (p := ⟨gb102, 0, none⟩) (by first | (rw [add_block]; exact hn103_0) | (show (Addr.add _ _).block ≠ _; rw [add_block]; exact hn103_0) | exact hn103_0) (.int .i64 ((rd_T71 l0 x17_1).f0))).trans hx103_2; replace hx103_3 := (cell_far (p := ⟨gb102, 0, none⟩) (by first | (rw [add_block]; exact hn103_0) | (show (Addr.add _ _).block ≠ _; rw [add_block]; exact hn103_0) | exact hn103_0) (.int .i64 ((rd_T71 l0 x17_1).f0))).trans hx103_3; replace hx103_4 := (cell_far (p := ⟨gb102, 0, none⟩) (by first | (rw [add_block]; exact hn103_0) | (show (Addr.add _ _).block ≠ _; rw [add_block]; exact hn103_0) | exact hn103_0) (.int .i64 ((rd_T71 l0 x17_1).f0))).trans hx103_4; replace hx103_0 := (cell_far (p := ⟨gb102, 1, none⟩) (by first | (rw [add_block]; exact hn103_1) | (show (Addr.add _ _).block ≠ _; rw [add_block]; exact hn103_1) | exact hn103_1) (.int .i64 ((rd_T71 l0 x17_1).f1))).trans hx103_0; replace hx103_1 := (cell_far (p := ⟨gb102, 1, none⟩) (by first | (rw [add_block]; exact hn103_1) | (show (Addr.add _ _).block ≠ _; rw [add_block]; exact hn103_1) | exact hn103_1) (.int .i64 ((rd_T71 l0 x17_1).f1))).trans hx103_1; replace hx103_2 := (cell_far (p := ⟨gb102, 1, none⟩) (by first | (rw [add_block]; exact hn103_1) | (show (Addr.add _ _).block ≠ _; rw [add_block]; exact hn103_1) | exact hn103_1) (.int .i64 ((rd_T71 l0 x17_1).f1))).trans hx103_2; replace hx103_3 := (cell_far (p := ⟨gb102, 1, none⟩) (by first | (rw [add_block]; exact hn103_1) | (show (Addr.add _ _).block ≠ _; rw [add_block]; exact hn103_1) | exact hn103_1) (.int .i64 ((rd_T71 l0 x17_1).f1))).trans hx103_3; replace hx103_4 := (cell_far (p := ⟨gb102, 1, none⟩) (by first | (rw [add_block]; exact hn103_1) | (show (Addr.add _ _).block ≠ _; rw [add_block]; exact hn103_1) | exact hn103_1) (.int .i64 ((rd_T71 l0 x17_1).f1))).trans hx103_4; replace hx103_0 := (cell_far (p := ⟨gb102, 2, none⟩) (by first | (rw [add_block]; exact hn103_2) | (show (Addr.add _ _).block ≠ _; rw [add_block]; exact hn103_2) | exact hn103_2) (.int .i64 ((rd_T71 l0 x17_1).f2))).trans hx103_0; replace hx103_1 := (cell_far (p := ⟨gb102, 2, none⟩) (by first | (rw [add_block]; exact hn103_2) | (show (Addr.add _ _).block ≠ _; rw [add_block]; exact hn103_2) | exact hn103_2) (.int .i64 ((rd_T71 l0 x17_1).f2))).trans hx103_1; replace hx103_2 := (cell_far (p := ⟨gb102, 2, none⟩) (by first | (rw [add_block]; exact hn103_2) | (show (Addr.add _ _).block ≠ _; rw [add_block]; exact hn103_2) | exact hn103_2) (.int .i64 ((rd_T71 l0 x17_1).f2))).trans hx103_2; replace hx103_3 := (cell_far (p := ⟨gb102, 2, none⟩) (by first | (rw [add_block]; exact hn103_2) | (show (Addr.add _ _).block ≠ _; rw [add_block]; exact hn103_2) | exact hn103_2) (.int .i64 ((rd_T71 l0 x17_1).f2))).trans hx103_3; replace hx103_4 := (cell_far (p := ⟨gb102, 2, none⟩) (by first | (rw [add_block]; exact hn103_2) | (show (Addr.add _ _).block ≠ _; rw [add_block]; exact hn103_2) | exact hn103_2) (.int .i64 ((rd_T71 l0 x17_1).f2))).trans hx103_4; replace hx103_0 := (cell_far (p := ⟨gb102, 3, none⟩) (by first | (rw [add_block]; exact hn103_3) | (show (Addr.add _ _).block ≠ _; rw [add_block]; exact hn103_3) | exact hn103_3) (.int .i64 ((rd_T71 l0 x17_1).f3))).trans hx103_0; replace hx103_1 := (cell_far (p := ⟨gb102, 3, none⟩) (by first | (rw [add_block]; exact hn103_3) | (show (Addr.add _ _).block ≠ _; rw [add_block]; exact hn103_3) | exact hn103_3) (.int .i64 ((rd_T71 l0 x17_1).f3))).trans hx103_1; replace hx103_2 := (cell_far (p := ⟨gb102, 3, none⟩) (by first | (rw [add_block]; exact hn103_3) | (show (Addr.add _ _).block ≠ _; rw [add_block]; exact hn103_3) | exact hn103_3) (.int .i64 ((rd_T71 l0 x17_1).f3))).trans hx103_2; replace hx103_3 := (cell_far (p := ⟨gb102, 3, none⟩) (by first | (rw [add_block]; exact hn103_3) | (show (Addr.add _ _).block ≠ _; rw [add_block]; exact hn103_3) | exact hn103_3) (.int .i64 ((rd_T71 l0 x17_1).f3))).trans hx103_3; replace hx103_4 := (cell_far (p := ⟨gb102, 3, none⟩) (by first | (rw [add_block]; exact hn103_3) | (show (Addr.add _ _).block ≠ _; rw [add_block]; exact hn103_3) | exact hn103_3) (.int .i64 ((rd_T71 l0 x17_1).f3))).trans hx103_4; replace hx103_0 := (cell_far (p := ⟨gb102, 4, none⟩) (by first | (rw [add_block]; exact hn103_4) | (show (Addr.add _ _).block ≠ _; rw [add_block]; exact hn103_4) | exact hn103_4) (.slice A101_4 ((rd_T71 l0 x17_1).f4).length c101_4)).trans hx103_0; replace hx103_1 := (cell_far (p := ⟨gb102, 4, none⟩) (by first | (rw [add_block]; exact hn103_4) | (show (Addr.add _ _).block ≠ _; rw [add_block]; exact hn103_4) | exact hn103_4) (.slice A101_4 ((rd_T71 l0 x17_1).f4).length c101_4)).trans hx103_1; replace hx103_2 := (cell_far (p := ⟨gb102, 4, none⟩) (by first | (rw [add_block]; exact hn103_4) | (show (Addr.add _ _).block ≠ _; rw [add_block]; exact hn103_4) | exact hn103_4) (.slice A101_4 ((rd_T71 l0 x17_1).f4).length c101_4)).trans hx103_2; replace hx103_3 := (cell_far (p := ⟨gb102, 4, none⟩) (by first | (rw [add_block]; exact hn103_4) | (show (Addr.add _ _).block ≠ _; rw [add_block]; exact hn103_4) | exact hn103_4) (.slice A101_4 ((rd_T71 l0 x17_1).f4).length c101_4)).trans hx103_3; replace hx103_4 := (cell_far (p := ⟨gb102, 4, none⟩) (by first | (rw [add_block]; exact hn103_4) | (show (Addr.add _ _).block ≠ _; rw [add_block]; exact hn103_4) | exact hn103_4) (.slice A101_4 ((rd_T71 l0 x17_1).f4).length c101_4)).trans hx103_4; clear hn103_0 hn103_1 hn103_2 hn103_3 hn103_4; replace p103 := eq_true p103; replace q103 := eq_true q103) | ((with_reducible refine gate_dst (N := 9) rfl ?_); refine box_event qr (N := 9) qr (cs := #[.int .i64 0, .int .i64 0, .int .i64 0, .int .i64 0, .slice none 0 0]) (t := 71) qg ?_; intro gb104 hg w20 hbox hb; have n0_ := zA (zX (g := gb102) (o := .cells #[.int .i64 ((rd_T71 l0 x17_1).f0), .int .i64 ((rd_T71 l0 x17_1).f1), .int .i64 ((rd_T71 l0 x17_1).f2), .int .i64 ((rd_T71 l0 x17_1).f3), .slice A101_4 ((rd_T71 l0 x17_1).f4).length c101_4] 71 (0, 0)) (qV BK102.out) hb); have n1_ := zA (zV qB hb); have n2_ := zA (hbox); have n3_ := zA ((qS : w.heap.size ≤ gb104)); have n4_ := zA ((qS : w.heap.size ≤ gb104)); have n5_ := zA ((by rw [hg]; exact zLq (blk_lt (g := gb102) (o := .cells #[.int .i64 ((rd_T71 l0 x17_1).f0), .int .i64 ((rd_T71 l0 x17_1).f1), .int .i64 ((rd_T71 l0 x17_1).f2), .int .i64 ((rd_T71 l0 x17_1).f3), .slice A101_4 ((rd_T71 l0 x17_1).f4).length c101_4] 71 (0, 0)) (qV BK102.out)) : gb102 ≠ gb104)); have n6_ := zA ((by rw [hg]; exact zMq (blk_lt (g := gb102) (o := .cells #[.int .i64 ((rd_T71 l0 x17_1).f0), .int .i64 ((rd_T71 l0 x17_1).f1), .int .i64 ((rd_T71 l0 x17_1).f2), .int .i64 ((rd_T71 l0 x17_1).f3), .slice A101_4 ((rd_T71 l0 x17_1).f4).length c101_4] 71 (0, 0)) (qV BK102.out)) : gb104 ≠ gb102)); clear BK102 HB; have BK102 := n0_; have HB := n1_; have BK104 := n2_; have GW104 := n3_; have GE104 := n4_; have NB102_104 := n5_; have NB104_102 := n6_; clear n0_ n1_ n2_ n3_ n4_ n5_ n6_ hb hbox hg; have hnb21 := NB104_102.out; have hnc21 := NB102_104.out; obtain ⟨_, _, _, _, _, _, _, _, _, _⟩ := qc5f BK104.out; obtain ⟨_, _, _, _, _, _, _, _, _, _⟩ := qc5f BK102.out) | (go_at_call 134; (with_reducible refine (order_Same_1.calls k1 ((rd_T71 l0 x17_1).f0) ((rd_T71 l0 x17_1).f1) ((rd_T71 l0 x17_1).f2) ((rd_T71 l0 x17_1).f3) _ _ ((rd_T71 l0 x17_1).f4) ((rd_T71 l1 x17_1).f0) ((rd_T71 l1 x17_1).f1) ((rd_T71 l1 x17_1).f2) ((rd_T71 l1 x17_1).f3) _ _ ((rd_T71 l1 x17_1).f4) false _ ?side1 ?side2 ?side3 ?side4 A9.out).mono ?_); (case side1 => exact Kd.C_below HR101_4.out qB); (case side2 => exact HC101_4.out); (case side3 => exact Kd.C_below HR103_4.out qB); (case side4 => exact HC103_4.out); rintro e w24 ⟨rfl, hb⟩; have n0_ := zA (qX BK102.out hb); have n1_ := zA (zX (g := gb104) (o := .cells #[.int .i64 ((rd_T71 l1 x17_1).f0), .int .i64 ((rd_T71 l1 x17_1).f1), .int .i64 ((rd_T71 l1 x17_1).f2), .int .i64 ((rd_T71 l1 x17_1).f3), .slice A103_4 ((rd_T71 l1 x17_1).f4).length c103_4] 71 (0, 0)) (qV BK104.out) hb); have n2_ := zA (zV qB hb); clear BK102 BK104 HB; have BK102 := n0_; have BK104 := n1_; have HB := n2_; clear n0_ n1_ n2_; (try clear hb); (try clear hb2); (try clear hk); (try clear hi)))
                go_ret; exact ⟨qE, qB⟩
              rw [if_neg c8] at H; exact absurd H (by simp)
            rw [if_neg c7] at H; exact absurd H (by simp)
          rw [if_neg c6] at H; exact absurd H (by simp)
        rw [if_neg c5] at H; have c5b0 : decide (x17_1 < (l0.length : Int)) = false := zGq c5; clear c5; obtain rfl := zKq H; go_wp2; go_ret; exact ⟨qE, qB⟩
  rw [if_neg c4] at H
  have c4b0 : ((l0.length : Int) == (l1.length : Int)) = false := beq_eq_false_iff_ne.mpr c4
  have c4b1 : ((l0.length : Int) != (l1.length : Int)) = true := bne_iff_ne.mpr c4
  have c4b2 : (l0.length == l1.length) = false := by first | simpa using c4 | (simp at c4 ⊢; omega)
  obtain rfl := zKq H
  go_enter Try.func133, Try.ntmps133
  go_wp2
  go_ret
  exact ⟨qE, qB⟩
def order_Same.f (k : Nat) (a0_0 : Int) (a0_1 : Int) (l0_2 : List (S71)) (a1_0 : Int) (a1_1 : Int) (l1_2 : List (S71)) : Option (Bool) := if a0_0 = a1_0 then (if a0_1 = a1_1 then ((slices_EqualFunc_order_Same_1.f k l0_2 l1_2).bind fun t103 => (some t103)) else (some false)) else (some false)
theorem order_Same.mono : ∀ a0 a1 a2 a3 a4 a5 k, LeO (order_Same.f k a0 a1 a2 a3 a4 a5) (order_Same.f (k + 1) a0 a1 a2 a3 a4 a5) := by
  intro a0 a1 a2 a3 a4 a5 k
  unfold order_Same.f
  repeat' first
      | (with_reducible exact slices_EqualFunc_order_Same_1.mono _ _ _)
      | (with_reducible exact LeO.refl _)
      | (with_reducible exact LeO.none _)
      | (with_reducible refine LeO.ite ?_ ?_)
      | (with_reducible refine LeO.bind ?_ (fun _ => ?_))
      | exact slices_EqualFunc_order_Same_1.mono _ _ _
      | exact LeO.none _
      | refine LeO.ite ?_ ?_
      | refine LeO.bind ?_ (fun _ => ?_)
set_option maxHeartbeats 8000000 in
set_option maxRecDepth 100000 in
theorem order_Same.calls (k : Nat) (a0_0 : Int) (a0_1 : Int) (A0_2 : Option Addr) (c0_2 : Nat) (l0_2 : List (S71)) (a1_0 : Int) (a1_1 : Int) (A1_2 : Option Addr) (c1_2 : Nat) (l1_2 : List (S71)) (r : Bool) (w : World) (hr0_2 : Kd.C k71 w A0_2 l0_2.length l0_2) (hc0_2 : l0_2.length ≤ c0_2) (hr1_2 : Kd.C k71 w A1_2 l1_2.length l1_2) (hc1_2 : l1_2.length ≤ c1_2) (h : order_Same.f k a0_0 a0_1 l0_2 a1_0 a1_1 l1_2 = some r) :
    Calls Try.prog 95 #[.agg #[.int .i64 a0_0, .int .i64 a0_1, .slice A0_2 l0_2.length c0_2], .agg #[.int .i64 a1_0, .int .i64 a1_1, .slice A1_2 l1_2.length c1_2]] w fun e w' => e = .returned (.bool r) ∧ Below w.heap.size w w' := by
  have hu99 := Try.underlying99
  have HR0_2 := zA hr0_2
  have HC0_2 := zA hc0_2
  clear hr0_2 hc0_2
  have HR1_2 := zA hr1_2
  have HC1_2 := zA hc1_2
  clear hr1_2 hc1_2
  have HB := zA (Below.refl w.heap.size w)
  have H : (if a0_0 = a1_0 then (if a0_1 = a1_1 then ((slices_EqualFunc_order_Same_1.f k l0_2 l1_2).bind fun t103 => (some t103)) else (some false)) else (some false)) = some r := h
  clear h
  by_cases c3 : a0_0 = a1_0
  · rw [if_pos c3] at H
    have c3b0 : (a0_0 == a1_0) = true := beq_iff_eq.mpr c3; have c3b1 : (a0_0 != a1_0) = false := bne_eq_false_iff_eq.mpr c3; clear c3; by_cases c4 : a0_1 = a1_1
    · rw [if_pos c4] at H
      have c4b0 : (a0_1 == a1_1) = true := beq_iff_eq.mpr c4; have c4b1 : (a0_1 != a1_1) = false := bne_eq_false_iff_eq.mpr c4; clear c4; replace H := Option.bind_eq_some_iff.mp H; obtain ⟨t103, A50, H⟩ := H; replace H : (some t103) = some r := H; have A5 := zA A50; clear A50; obtain rfl := zKq H; go_enter Try.func95, Try.ntmps95; go_wp2_with (first | ((with_reducible refine gate_dst (N := 2) rfl ?_); refine box_event qr (N := 2) qr (cs := #[.int .i64 a0_0, .int .i64 a0_1, .slice A0_2 l0_2.length c0_2]) (t := 99) qg ?_; intro gb101 hg w6 hbox hb; have n0_ := zA (zV qB hb); have n1_ := zA (hbox); have n2_ := zA ((qS : w.heap.size ≤ gb101)); have n3_ := zA ((qS : w.heap.size ≤ gb101)); clear HB; have HB := n0_; have BK101 := n1_; have GW101 := n2_; have GE101 := n3_; clear n0_ n1_ n2_ n3_ hb hbox hg) | ((with_reducible refine gate_dst (N := 3) rfl ?_); refine box_event qr (N := 3) qr (cs := #[.int .i64 a1_0, .int .i64 a1_1, .slice A1_2 l1_2.length c1_2]) (t := 99) qg ?_; intro gb102 hg w7 hbox hb; have n0_ := zA (qX BK101.out hb); have n1_ := zA (zV qB hb); have n2_ := zA (hbox); have n3_ := zA ((qS : w.heap.size ≤ gb102)); have n4_ := zA ((qS : w.heap.size ≤ gb102)); have n5_ := zA ((by rw [hg]; exact zLq (qL BK101.out) : gb101 ≠ gb102)); have n6_ := zA ((by rw [hg]; exact zMq (qL BK101.out) : gb102 ≠ gb101)); clear BK101 HB; have BK101 := n0_; have HB := n1_; have BK102 := n2_; have GW102 := n3_; have GE102 := n4_; have NB101_102 := n5_; have NB102_101 := n6_; clear n0_ n1_ n2_ n3_ n4_ n5_ n6_ hb hbox hg; have hnb8 := NB101_102.out; have hnc8 := NB102_101.out; obtain ⟨_, _, _, _, _, _⟩ := qc3f BK101.out; obtain ⟨_, _, _, _, _, _⟩ := qc3f BK102.out) | (go_at_call 133; (with_reducible refine (slices_EqualFunc_order_Same_1.calls k _ _ l0_2 _ _ l1_2  t103 _ ?side1 ?side2 ?side3 ?side4 A5.out).mono ?_); (case side1 => exact qC (Kd.C_below HR0_2.out HB.out)); (case side2 => exact HC0_2.out); (case side3 => exact qC (Kd.C_below HR1_2.out HB.out)); (case side4 => exact HC1_2.out); rintro e w11 ⟨rfl, hb⟩; have n0_ := zA (qX BK101.out hb); have n1_ := zA (qX BK102.out hb); have n2_ := zA (zV qB hb); clear BK101 BK102 HB; have BK101 := n0_; have BK102 := n1_; have HB := n2_; clear n0_ n1_ n2_; (try clear hb); (try clear hb2); (try clear hk); (try clear hi))); go_ret; exact ⟨qE, qB⟩
    rw [if_neg c4] at H; have c4b0 : (a0_1 == a1_1) = false := beq_eq_false_iff_ne.mpr c4; have c4b1 : (a0_1 != a1_1) = true := bne_iff_ne.mpr c4; obtain rfl := zKq H; go_enter Try.func95, Try.ntmps95; go_wp2_with (first | ((with_reducible refine gate_dst (N := 2) rfl ?_); refine box_event qr (N := 2) qr (cs := #[.int .i64 a0_0, .int .i64 a0_1, .slice A0_2 l0_2.length c0_2]) (t := 99) qg ?_; intro gb101 hg w12 hbox hb; have n0_ := zA (zV qB hb); have n1_ := zA (hbox); have n2_ := zA ((qS : w.heap.size ≤ gb101)); have n3_ := zA ((qS : w.heap.size ≤ gb101)); clear HB; have HB := n0_; have BK101 := n1_; have GW101 := n2_; have GE101 := n3_; clear n0_ n1_ n2_ n3_ hb hbox hg) | ((with_reducible refine gate_dst (N := 3) rfl ?_); refine box_event qr (N := 3) qr (cs := #[.int .i64 a1_0, .int .i64 a1_1, .slice A1_2 l1_2.length c1_2]) (t := 99) qg ?_; intro gb102 hg w13 hbox hb; have n0_ := zA (qX BK101.out hb); have n1_ := zA (zV qB hb); have n2_ := zA (hbox); have n3_ := zA ((qS : w.heap.size ≤ gb102)); have n4_ := zA ((qS : w.heap.size ≤ gb102)); have n5_ := zA ((by rw [hg]; exact zLq (qL BK101.out) : gb101 ≠ gb102)); have n6_ := zA ((by rw [hg]; exact zMq (qL BK101.out) : gb102 ≠ gb101)); clear BK101 HB; have BK101 := n0_; have HB := n1_; have BK102 := n2_; have GW102 := n3_; have GE102 := n4_; have NB101_102 := n5_; have NB102_101 := n6_; clear n0_ n1_ n2_ n3_ n4_ n5_ n6_ hb hbox hg; have hnb14 := NB101_102.out; have hnc14 := NB102_101.out; obtain ⟨_, _, _, _, _, _⟩ := qc3f BK101.out; obtain ⟨_, _, _, _, _, _⟩ := qc3f BK102.out)); go_ret; exact ⟨qE, qB⟩
  rw [if_neg c3] at H
  have c3b0 : (a0_0 == a1_0) = false := beq_eq_false_iff_ne.mpr c3
  have c3b1 : (a0_0 != a1_0) = true := bne_iff_ne.mpr c3
  obtain rfl := zKq H
  go_enter Try.func95, Try.ntmps95
  go_wp2_with (first | ((with_reducible refine gate_dst (N := 2) rfl ?_); refine box_event qr (N := 2) qr (cs := #[.int .i64 a0_0, .int .i64 a0_1, .slice A0_2 l0_2.length c0_2]) (t := 99) qg ?_; intro gb101 hg w17 hbox hb; have n0_ := zA (zV qB hb); have n1_ := zA (hbox); have n2_ := zA ((qS : w.heap.size ≤ gb101)); have n3_ := zA ((qS : w.heap.size ≤ gb101)); clear HB; have HB := n0_; have BK101 := n1_; have GW101 := n2_; have GE101 := n3_; clear n0_ n1_ n2_ n3_ hb hbox hg) | ((with_reducible refine gate_dst (N := 3) rfl ?_); refine box_event qr (N := 3) qr (cs := #[.int .i64 a1_0, .int .i64 a1_1, .slice A1_2 l1_2.length c1_2]) (t := 99) qg ?_; intro gb102 hg w18 hbox hb; have n0_ := zA (qX BK101.out hb); have n1_ := zA (zV qB hb); have n2_ := zA (hbox); have n3_ := zA ((qS : w.heap.size ≤ gb102)); have n4_ := zA ((qS : w.heap.size ≤ gb102)); have n5_ := zA ((by rw [hg]; exact zLq (qL BK101.out) : gb101 ≠ gb102)); have n6_ := zA ((by rw [hg]; exact zMq (qL BK101.out) : gb102 ≠ gb101)); clear BK101 HB; have BK101 := n0_; have HB := n1_; have BK102 := n2_; have GW102 := n3_; have GE102 := n4_; have NB101_102 := n5_; have NB102_101 := n6_; clear n0_ n1_ n2_ n3_ n4_ n5_ n6_ hb hbox hg; have hnb19 := NB101_102.out; have hnc19 := NB102_101.out; obtain ⟨_, _, _, _, _, _⟩ := qc3f BK101.out; obtain ⟨_, _, _, _, _, _⟩ := qc3f BK102.out))
  go_ret
  exact ⟨qE, qB⟩
def backhaullaw26_awake.f  : Option (Bool) := some true
set_option maxHeartbeats 8000000 in
set_option maxRecDepth 100000 in
theorem backhaullaw26_awake.calls (r : Bool)  (w : World) (h : backhaullaw26_awake.f  = some r) :
    Calls Try.prog 82 #[] w fun e w' => e = .returned (.bool r) ∧ Below w.heap.size w w' := by
  obtain rfl : r = true := by injection h with h; exact h.symm
  have hu99 := Try.underlying99
  have HB := zA (Below.refl w.heap.size w)
  have H : ((backhaullaw26_two.f (⟨#[66]⟩ : ByteArray)).bind fun t101 => ((order_Make.f 1000 5 9 t101 10 29).bind fun bt104 => ((backhaullaw26_two.f (⟨#[65]⟩ : ByteArray)).bind fun t111 => ((order_Make.f 1000 5 9 t111 10 29).bind fun bt114 => ((backhaullaw26_two.f (⟨#[66]⟩ : ByteArray)).bind fun t121 => ((order_Make.f 1000 0 9 t121 10 29).bind fun bt124 => ((order_Find.f 1000 bt104.1 bt104.2.1 bt104.2.2.1 (⟨#[67]⟩ : ByteArray)).bind fun bt131 => ((order_Find.f 1000 bt104.1 bt104.2.1 bt104.2.2.1 (⟨#[68]⟩ : ByteArray)).bind fun bt134 => ((order_Paid.f 1000 bt104.1 bt104.2.1 bt104.2.2.1).bind fun bt137 => (if bt104.2.2.2 = 0 then (if bt114.2.2.2 = 32 then (if bt124.2.2.2 = 2 then (if bt131.1 = 1 then (if bt131.2.1 = 1 then (if bt131.2.2 = true then (if bt134.2.2 = true then (some false) else (if bt137.1 = 319 then (if bt137.2 = 0 then ((order_Serials.f 1000 bt104.1 bt104.2.1 bt104.2.2.1).bind fun t139 => ((backhaulref01_SameTexts.f 1000 t139 (([(⟨#[65]⟩ : ByteArray), (⟨#[66]⟩ : ByteArray), (⟨#[67]⟩ : ByteArray)] : List ByteArray))).bind fun t145 => (if t145 = true then ((order_Check.f 1000 bt104.1 bt104.2.1 bt104.2.2.1).bind fun t146 => (if t146 = 0 then ((order_Same.f 1000 bt104.1 bt104.2.1 bt104.2.2.1 bt104.1 bt104.2.1 bt104.2.2.1).bind fun t147 => (if t147 = true then ((order_Check.f 1000 0 0 ([] : List (S71))).bind fun t148 => (if t148 = 40 then (some true) else (some false))) else (some false))) else (some false))) else (some false)))) else (some false)) else (some false))) else (some false)) else (some false)) else (some false)) else (some false)) else (some false)) else (some false))))))))))) = some true := by decide +kernel
  replace H := Option.bind_eq_some_iff.mp H
  obtain ⟨t101, A10, H⟩ := H
  replace H : ((order_Make.f 1000 5 9 t101 10 29).bind fun bt104 => ((backhaullaw26_two.f (⟨#[65]⟩ : ByteArray)).bind fun t111 => ((order_Make.f 1000 5 9 t111 10 29).bind fun bt114 => ((backhaullaw26_two.f (⟨#[66]⟩ : ByteArray)).bind fun t121 => ((order_Make.f 1000 0 9 t121 10 29).bind fun bt124 => ((order_Find.f 1000 bt104.1 bt104.2.1 bt104.2.2.1 (⟨#[67]⟩ : ByteArray)).bind fun bt131 => ((order_Find.f 1000 bt104.1 bt104.2.1 bt104.2.2.1 (⟨#[68]⟩ : ByteArray)).bind fun bt134 => ((order_Paid.f 1000 bt104.1 bt104.2.1 bt104.2.2.1).bind fun bt137 => (if bt104.2.2.2 = 0 then (if bt114.2.2.2 = 32 then (if bt124.2.2.2 = 2 then (if bt131.1 = 1 then (if bt131.2.1 = 1 then (if bt131.2.2 = true then (if bt134.2.2 = true then (some false) else (if bt137.1 = 319 then (if bt137.2 = 0 then ((order_Serials.f 1000 bt104.1 bt104.2.1 bt104.2.2.1).bind fun t139 => ((backhaulref01_SameTexts.f 1000 t139 (([(⟨#[65]⟩ : ByteArray), (⟨#[66]⟩ : ByteArray), (⟨#[67]⟩ : ByteArray)] : List ByteArray))).bind fun t145 => (if t145 = true then ((order_Check.f 1000 bt104.1 bt104.2.1 bt104.2.2.1).bind fun t146 => (if t146 = 0 then ((order_Same.f 1000 bt104.1 bt104.2.1 bt104.2.2.1 bt104.1 bt104.2.1 bt104.2.2.1).bind fun t147 => (if t147 = true then ((order_Check.f 1000 0 0 ([] : List (S71))).bind fun t148 => (if t148 = 40 then (some true) else (some false))) else (some false))) else (some false))) else (some false)))) else (some false)) else (some false))) else (some false)) else (some false)) else (some false)) else (some false)) else (some false)) else (some false)))))))))) = some true := H
  have A1 := zA A10
  clear A10
  replace H := Option.bind_eq_some_iff.mp H
  obtain ⟨⟨t104, t105, t106, t109⟩, A20, H⟩ := H
  replace H : ((backhaullaw26_two.f (⟨#[65]⟩ : ByteArray)).bind fun t111 => ((order_Make.f 1000 5 9 t111 10 29).bind fun bt114 => ((backhaullaw26_two.f (⟨#[66]⟩ : ByteArray)).bind fun t121 => ((order_Make.f 1000 0 9 t121 10 29).bind fun bt124 => ((order_Find.f 1000 t104 t105 t106 (⟨#[67]⟩ : ByteArray)).bind fun bt131 => ((order_Find.f 1000 t104 t105 t106 (⟨#[68]⟩ : ByteArray)).bind fun bt134 => ((order_Paid.f 1000 t104 t105 t106).bind fun bt137 => (if t109 = 0 then (if bt114.2.2.2 = 32 then (if bt124.2.2.2 = 2 then (if bt131.1 = 1 then (if bt131.2.1 = 1 then (if bt131.2.2 = true then (if bt134.2.2 = true then (some false) else (if bt137.1 = 319 then (if bt137.2 = 0 then ((order_Serials.f 1000 t104 t105 t106).bind fun t139 => ((backhaulref01_SameTexts.f 1000 t139 (([(⟨#[65]⟩ : ByteArray), (⟨#[66]⟩ : ByteArray), (⟨#[67]⟩ : ByteArray)] : List ByteArray))).bind fun t145 => (if t145 = true then ((order_Check.f 1000 t104 t105 t106).bind fun t146 => (if t146 = 0 then ((order_Same.f 1000 t104 t105 t106 t104 t105 t106).bind fun t147 => (if t147 = true then ((order_Check.f 1000 0 0 ([] : List (S71))).bind fun t148 => (if t148 = 40 then (some true) else (some false))) else (some false))) else (some false))) else (some false)))) else (some false)) else (some false))) else (some false)) else (some false)) else (some false)) else (some false)) else (some false)) else (some false))))))))) = some true := H
  have A2 := zA A20
  clear A20
  replace H := Option.bind_eq_some_iff.mp H
  obtain ⟨t111, A30, H⟩ := H
  replace H : ((order_Make.f 1000 5 9 t111 10 29).bind fun bt114 => ((backhaullaw26_two.f (⟨#[66]⟩ : ByteArray)).bind fun t121 => ((order_Make.f 1000 0 9 t121 10 29).bind fun bt124 => ((order_Find.f 1000 t104 t105 t106 (⟨#[67]⟩ : ByteArray)).bind fun bt131 => ((order_Find.f 1000 t104 t105 t106 (⟨#[68]⟩ : ByteArray)).bind fun bt134 => ((order_Paid.f 1000 t104 t105 t106).bind fun bt137 => (if t109 = 0 then (if bt114.2.2.2 = 32 then (if bt124.2.2.2 = 2 then (if bt131.1 = 1 then (if bt131.2.1 = 1 then (if bt131.2.2 = true then (if bt134.2.2 = true then (some false) else (if bt137.1 = 319 then (if bt137.2 = 0 then ((order_Serials.f 1000 t104 t105 t106).bind fun t139 => ((backhaulref01_SameTexts.f 1000 t139 (([(⟨#[65]⟩ : ByteArray), (⟨#[66]⟩ : ByteArray), (⟨#[67]⟩ : ByteArray)] : List ByteArray))).bind fun t145 => (if t145 = true then ((order_Check.f 1000 t104 t105 t106).bind fun t146 => (if t146 = 0 then ((order_Same.f 1000 t104 t105 t106 t104 t105 t106).bind fun t147 => (if t147 = true then ((order_Check.f 1000 0 0 ([] : List (S71))).bind fun t148 => (if t148 = 40 then (some true) else (some false))) else (some false))) else (some false))) else (some false)))) else (some false)) else (some false))) else (some false)) else (some false)) else (some false)) else (some false)) else (some false)) else (some false)))))))) = some true := H
  have A3 := zA A30
  clear A30
  replace H := Option.bind_eq_some_iff.mp H
  obtain ⟨⟨t114, t115, t116, t119⟩, A40, H⟩ := H
  replace H : ((backhaullaw26_two.f (⟨#[66]⟩ : ByteArray)).bind fun t121 => ((order_Make.f 1000 0 9 t121 10 29).bind fun bt124 => ((order_Find.f 1000 t104 t105 t106 (⟨#[67]⟩ : ByteArray)).bind fun bt131 => ((order_Find.f 1000 t104 t105 t106 (⟨#[68]⟩ : ByteArray)).bind fun bt134 => ((order_Paid.f 1000 t104 t105 t106).bind fun bt137 => (if t109 = 0 then (if t119 = 32 then (if bt124.2.2.2 = 2 then (if bt131.1 = 1 then (if bt131.2.1 = 1 then (if bt131.2.2 = true then (if bt134.2.2 = true then (some false) else (if bt137.1 = 319 then (if bt137.2 = 0 then ((order_Serials.f 1000 t104 t105 t106).bind fun t139 => ((backhaulref01_SameTexts.f 1000 t139 (([(⟨#[65]⟩ : ByteArray), (⟨#[66]⟩ : ByteArray), (⟨#[67]⟩ : ByteArray)] : List ByteArray))).bind fun t145 => (if t145 = true then ((order_Check.f 1000 t104 t105 t106).bind fun t146 => (if t146 = 0 then ((order_Same.f 1000 t104 t105 t106 t104 t105 t106).bind fun t147 => (if t147 = true then ((order_Check.f 1000 0 0 ([] : List (S71))).bind fun t148 => (if t148 = 40 then (some true) else (some false))) else (some false))) else (some false))) else (some false)))) else (some false)) else (some false))) else (some false)) else (some false)) else (some false)) else (some false)) else (some false)) else (some false))))))) = some true := H
  have A4 := zA A40
  clear A40
  replace H := Option.bind_eq_some_iff.mp H
  obtain ⟨t121, A50, H⟩ := H
  replace H : ((order_Make.f 1000 0 9 t121 10 29).bind fun bt124 => ((order_Find.f 1000 t104 t105 t106 (⟨#[67]⟩ : ByteArray)).bind fun bt131 => ((order_Find.f 1000 t104 t105 t106 (⟨#[68]⟩ : ByteArray)).bind fun bt134 => ((order_Paid.f 1000 t104 t105 t106).bind fun bt137 => (if t109 = 0 then (if t119 = 32 then (if bt124.2.2.2 = 2 then (if bt131.1 = 1 then (if bt131.2.1 = 1 then (if bt131.2.2 = true then (if bt134.2.2 = true then (some false) else (if bt137.1 = 319 then (if bt137.2 = 0 then ((order_Serials.f 1000 t104 t105 t106).bind fun t139 => ((backhaulref01_SameTexts.f 1000 t139 (([(⟨#[65]⟩ : ByteArray), (⟨#[66]⟩ : ByteArray), (⟨#[67]⟩ : ByteArray)] : List ByteArray))).bind fun t145 => (if t145 = true then ((order_Check.f 1000 t104 t105 t106).bind fun t146 => (if t146 = 0 then ((order_Same.f 1000 t104 t105 t106 t104 t105 t106).bind fun t147 => (if t147 = true then ((order_Check.f 1000 0 0 ([] : List (S71))).bind fun t148 => (if t148 = 40 then (some true) else (some false))) else (some false))) else (some false))) else (some false)))) else (some false)) else (some false))) else (some false)) else (some false)) else (some false)) else (some false)) else (some false)) else (some false)))))) = some true := H
  have A5 := zA A50
  clear A50
  replace H := Option.bind_eq_some_iff.mp H
  obtain ⟨⟨t124, t125, t126, t129⟩, A60, H⟩ := H
  replace H : ((order_Find.f 1000 t104 t105 t106 (⟨#[67]⟩ : ByteArray)).bind fun bt131 => ((order_Find.f 1000 t104 t105 t106 (⟨#[68]⟩ : ByteArray)).bind fun bt134 => ((order_Paid.f 1000 t104 t105 t106).bind fun bt137 => (if t109 = 0 then (if t119 = 32 then (if t129 = 2 then (if bt131.1 = 1 then (if bt131.2.1 = 1 then (if bt131.2.2 = true then (if bt134.2.2 = true then (some false) else (if bt137.1 = 319 then (if bt137.2 = 0 then ((order_Serials.f 1000 t104 t105 t106).bind fun t139 => ((backhaulref01_SameTexts.f 1000 t139 (([(⟨#[65]⟩ : ByteArray), (⟨#[66]⟩ : ByteArray), (⟨#[67]⟩ : ByteArray)] : List ByteArray))).bind fun t145 => (if t145 = true then ((order_Check.f 1000 t104 t105 t106).bind fun t146 => (if t146 = 0 then ((order_Same.f 1000 t104 t105 t106 t104 t105 t106).bind fun t147 => (if t147 = true then ((order_Check.f 1000 0 0 ([] : List (S71))).bind fun t148 => (if t148 = 40 then (some true) else (some false))) else (some false))) else (some false))) else (some false)))) else (some false)) else (some false))) else (some false)) else (some false)) else (some false)) else (some false)) else (some false)) else (some false))))) = some true := H
  have A6 := zA A60
  clear A60
  replace H := Option.bind_eq_some_iff.mp H
  obtain ⟨⟨t131, t132, t133⟩, A70, H⟩ := H
  replace H : ((order_Find.f 1000 t104 t105 t106 (⟨#[68]⟩ : ByteArray)).bind fun bt134 => ((order_Paid.f 1000 t104 t105 t106).bind fun bt137 => (if t109 = 0 then (if t119 = 32 then (if t129 = 2 then (if t131 = 1 then (if t132 = 1 then (if t133 = true then (if bt134.2.2 = true then (some false) else (if bt137.1 = 319 then (if bt137.2 = 0 then ((order_Serials.f 1000 t104 t105 t106).bind fun t139 => ((backhaulref01_SameTexts.f 1000 t139 (([(⟨#[65]⟩ : ByteArray), (⟨#[66]⟩ : ByteArray), (⟨#[67]⟩ : ByteArray)] : List ByteArray))).bind fun t145 => (if t145 = true then ((order_Check.f 1000 t104 t105 t106).bind fun t146 => (if t146 = 0 then ((order_Same.f 1000 t104 t105 t106 t104 t105 t106).bind fun t147 => (if t147 = true then ((order_Check.f 1000 0 0 ([] : List (S71))).bind fun t148 => (if t148 = 40 then (some true) else (some false))) else (some false))) else (some false))) else (some false)))) else (some false)) else (some false))) else (some false)) else (some false)) else (some false)) else (some false)) else (some false)) else (some false)))) = some true := H
  have A7 := zA A70
  clear A70
  replace H := Option.bind_eq_some_iff.mp H
  obtain ⟨⟨t134, t135, t136⟩, A80, H⟩ := H
  replace H : ((order_Paid.f 1000 t104 t105 t106).bind fun bt137 => (if t109 = 0 then (if t119 = 32 then (if t129 = 2 then (if t131 = 1 then (if t132 = 1 then (if t133 = true then (if t136 = true then (some false) else (if bt137.1 = 319 then (if bt137.2 = 0 then ((order_Serials.f 1000 t104 t105 t106).bind fun t139 => ((backhaulref01_SameTexts.f 1000 t139 (([(⟨#[65]⟩ : ByteArray), (⟨#[66]⟩ : ByteArray), (⟨#[67]⟩ : ByteArray)] : List ByteArray))).bind fun t145 => (if t145 = true then ((order_Check.f 1000 t104 t105 t106).bind fun t146 => (if t146 = 0 then ((order_Same.f 1000 t104 t105 t106 t104 t105 t106).bind fun t147 => (if t147 = true then ((order_Check.f 1000 0 0 ([] : List (S71))).bind fun t148 => (if t148 = 40 then (some true) else (some false))) else (some false))) else (some false))) else (some false)))) else (some false)) else (some false))) else (some false)) else (some false)) else (some false)) else (some false)) else (some false)) else (some false))) = some true := H
  have A8 := zA A80
  clear A80
  replace H := Option.bind_eq_some_iff.mp H
  obtain ⟨⟨t137, t138⟩, A90, H⟩ := H
  replace H : (if t109 = 0 then (if t119 = 32 then (if t129 = 2 then (if t131 = 1 then (if t132 = 1 then (if t133 = true then (if t136 = true then (some false) else (if t137 = 319 then (if t138 = 0 then ((order_Serials.f 1000 t104 t105 t106).bind fun t139 => ((backhaulref01_SameTexts.f 1000 t139 (([(⟨#[65]⟩ : ByteArray), (⟨#[66]⟩ : ByteArray), (⟨#[67]⟩ : ByteArray)] : List ByteArray))).bind fun t145 => (if t145 = true then ((order_Check.f 1000 t104 t105 t106).bind fun t146 => (if t146 = 0 then ((order_Same.f 1000 t104 t105 t106 t104 t105 t106).bind fun t147 => (if t147 = true then ((order_Check.f 1000 0 0 ([] : List (S71))).bind fun t148 => (if t148 = 40 then (some true) else (some false))) else (some false))) else (some false))) else (some false)))) else (some false)) else (some false))) else (some false)) else (some false)) else (some false)) else (some false)) else (some false)) else (some false)) = some true := H
  have A9 := zA A90
  clear A90
  by_cases c10 : t109 = 0
  · rw [if_pos c10] at H
    have c10b0 : (t109 == 0) = true := beq_iff_eq.mpr c10; have c10b1 : (t109 != 0) = false := bne_eq_false_iff_eq.mpr c10; clear c10; by_cases c11 : t119 = 32
    · rw [if_pos c11] at H
      have c11b0 : (t119 == 32) = true := beq_iff_eq.mpr c11; have c11b1 : (t119 != 32) = false := bne_eq_false_iff_eq.mpr c11; clear c11; by_cases c12 : t129 = 2
      · rw [if_pos c12] at H
        have c12b0 : (t129 == 2) = true := beq_iff_eq.mpr c12; have c12b1 : (t129 != 2) = false := bne_eq_false_iff_eq.mpr c12; clear c12; by_cases c13 : t131 = 1
        · rw [if_pos c13] at H
          have c13b0 : (t131 == 1) = true := beq_iff_eq.mpr c13; have c13b1 : (t131 != 1) = false := bne_eq_false_iff_eq.mpr c13; clear c13; by_cases c14 : t132 = 1
          · rw [if_pos c14] at H
            have c14b0 : (t132 == 1) = true := beq_iff_eq.mpr c14; have c14b1 : (t132 != 1) = false := bne_eq_false_iff_eq.mpr c14; clear c14; by_cases c15 : t133 = true
            · subst c15
              have H1 : (if t136 = true then (some false) else (if t137 = 319 then (if t138 = 0 then ((order_Serials.f 1000 t104 t105 t106).bind fun t139 => ((backhaulref01_SameTexts.f 1000 t139 (([(⟨#[65]⟩ : ByteArray), (⟨#[66]⟩ : ByteArray), (⟨#[67]⟩ : ByteArray)] : List ByteArray))).bind fun t145 => (if t145 = true then ((order_Check.f 1000 t104 t105 t106).bind fun t146 => (if t146 = 0 then ((order_Same.f 1000 t104 t105 t106 t104 t105 t106).bind fun t147 => (if t147 = true then ((order_Check.f 1000 0 0 ([] : List (S71))).bind fun t148 => (if t148 = 40 then (some true) else (some false))) else (some false))) else (some false))) else (some false)))) else (some false)) else (some false))) = some true := by first | (rw [if_pos rfl] at H; exact H) | rfl
              clear H; have H := H1; clear H1; by_cases c16 : t136 = true
              · subst c16
                have H1 : (some false) = some true := by first | (rw [if_pos rfl] at H; exact H) | rfl
                clear H; have H := H1; clear H1; exact absurd H (by simp)
              replace c16 := Bool.eq_false_iff.mpr c16; subst c16; have H1 : (if t137 = 319 then (if t138 = 0 then ((order_Serials.f 1000 t104 t105 t106).bind fun t139 => ((backhaulref01_SameTexts.f 1000 t139 (([(⟨#[65]⟩ : ByteArray), (⟨#[66]⟩ : ByteArray), (⟨#[67]⟩ : ByteArray)] : List ByteArray))).bind fun t145 => (if t145 = true then ((order_Check.f 1000 t104 t105 t106).bind fun t146 => (if t146 = 0 then ((order_Same.f 1000 t104 t105 t106 t104 t105 t106).bind fun t147 => (if t147 = true then ((order_Check.f 1000 0 0 ([] : List (S71))).bind fun t148 => (if t148 = 40 then (some true) else (some false))) else (some false))) else (some false))) else (some false)))) else (some false)) else (some false)) = some true := by first | (rw [if_neg (show ¬ (false = true) by decide)] at H; exact H) | rfl
              clear H; have H := H1; clear H1; by_cases c17 : t137 = 319
              · rw [if_pos c17] at H
                have c17b0 : (t137 == 319) = true := beq_iff_eq.mpr c17; have c17b1 : (t137 != 319) = false := bne_eq_false_iff_eq.mpr c17; clear c17; by_cases c18 : t138 = 0
                · rw [if_pos c18] at H
                  have c18b0 : (t138 == 0) = true := beq_iff_eq.mpr c18; have c18b1 : (t138 != 0) = false := bne_eq_false_iff_eq.mpr c18; clear c18; replace H := Option.bind_eq_some_iff.mp H; obtain ⟨t139, A190, H⟩ := H; replace H : ((backhaulref01_SameTexts.f 1000 t139 (([(⟨#[65]⟩ : ByteArray), (⟨#[66]⟩ : ByteArray), (⟨#[67]⟩ : ByteArray)] : List ByteArray))).bind fun t145 => (if t145 = true then ((order_Check.f 1000 t104 t105 t106).bind fun t146 => (if t146 = 0 then ((order_Same.f 1000 t104 t105 t106 t104 t105 t106).bind fun t147 => (if t147 = true then ((order_Check.f 1000 0 0 ([] : List (S71))).bind fun t148 => (if t148 = 40 then (some true) else (some false))) else (some false))) else (some false))) else (some false))) = some true := H; have A19 := zA A190; clear A190; obtain ⟨y142, hy142⟩ : ∃ y_ : List ByteArray, y_ = (([(⟨#[65]⟩ : ByteArray), (⟨#[66]⟩ : ByteArray), (⟨#[67]⟩ : ByteArray)] : List ByteArray)) := ⟨_, rfl⟩
                  replace H : ((backhaulref01_SameTexts.f 1000 t139 y142).bind fun t145 => (if t145 = true then ((order_Check.f 1000 t104 t105 t106).bind fun t146 => (if t146 = 0 then ((order_Same.f 1000 t104 t105 t106 t104 t105 t106).bind fun t147 => (if t147 = true then ((order_Check.f 1000 0 0 ([] : List (S71))).bind fun t148 => (if t148 = 40 then (some true) else (some false))) else (some false))) else (some false))) else (some false))) = some true := by first | (rw [hy142]; with_reducible exact H) | (have H2_ := (Option.bind_some _ _).symm.trans H; rw [hy142]; with_reducible exact H2_) | (have H2_ := (Option.bind_some _ _).symm.trans H; with_reducible exact H2_) | with_reducible exact H | (rw [hy142]; exact H) | exact H
                  have Ny142 := zA hy142; clear hy142; replace H := Option.bind_eq_some_iff.mp H; obtain ⟨t145, A200, H⟩ := H; replace H : (if t145 = true then ((order_Check.f 1000 t104 t105 t106).bind fun t146 => (if t146 = 0 then ((order_Same.f 1000 t104 t105 t106 t104 t105 t106).bind fun t147 => (if t147 = true then ((order_Check.f 1000 0 0 ([] : List (S71))).bind fun t148 => (if t148 = 40 then (some true) else (some false))) else (some false))) else (some false))) else (some false)) = some true := H; have A20 := zA A200; clear A200; by_cases c21 : t145 = true
                  · subst c21
                    have H1 : ((order_Check.f 1000 t104 t105 t106).bind fun t146 => (if t146 = 0 then ((order_Same.f 1000 t104 t105 t106 t104 t105 t106).bind fun t147 => (if t147 = true then ((order_Check.f 1000 0 0 ([] : List (S71))).bind fun t148 => (if t148 = 40 then (some true) else (some false))) else (some false))) else (some false))) = some true := by first | (rw [if_pos rfl] at H; exact H) | rfl
                    clear H; have H := H1; clear H1; replace H := Option.bind_eq_some_iff.mp H; obtain ⟨t146, A220, H⟩ := H; replace H : (if t146 = 0 then ((order_Same.f 1000 t104 t105 t106 t104 t105 t106).bind fun t147 => (if t147 = true then ((order_Check.f 1000 0 0 ([] : List (S71))).bind fun t148 => (if t148 = 40 then (some true) else (some false))) else (some false))) else (some false)) = some true := H; have A22 := zA A220; clear A220; by_cases c23 : t146 = 0
                    · rw [if_pos c23] at H
                      have c23b0 : (t146 == 0) = true := beq_iff_eq.mpr c23; have c23b1 : (t146 != 0) = false := bne_eq_false_iff_eq.mpr c23; clear c23; replace H := Option.bind_eq_some_iff.mp H; obtain ⟨t147, A240, H⟩ := H; replace H : (if t147 = true then ((order_Check.f 1000 0 0 ([] : List (S71))).bind fun t148 => (if t148 = 40 then (some true) else (some false))) else (some false)) = some true := H; have A24 := zA A240; clear A240; by_cases c25 : t147 = true
                      · subst c25
                        have H1 : ((order_Check.f 1000 0 0 ([] : List (S71))).bind fun t148 => (if t148 = 40 then (some true) else (some false))) = some true := by first | (rw [if_pos rfl] at H; exact H) | rfl
                        clear H; have H := H1; clear H1; replace H := Option.bind_eq_some_iff.mp H; obtain ⟨t148, A260, H⟩ := H; replace H : (if t148 = 40 then (some true) else (some false)) = some true := H; have A26 := zA A260; clear A260; by_cases c27 : t148 = 40
                        · rw [if_pos c27] at H
                          have c27b0 : (t148 == 40) = true := beq_iff_eq.mpr c27; have c27b1 : (t148 != 40) = false := bne_eq_false_iff_eq.mpr c27; clear c27; clear H; go_enter Try.func82, Try.ntmps82; go_wp2_with (first | ((with_reducible refine zJq (f := 124) rfl ?_); refine goesL_ (some 16) rfl rfl Try.func124 (by kernel_rfl) rfl #[.string (⟨#[66]⟩ : ByteArray)] rfl (by (try simp only [zR, zS, zT]); first | done | rfl | (simp only [zP, zQ]; rfl)) ?_; (with_reducible refine (backhaullaw26_two.calls (⟨#[66]⟩ : ByteArray) t101 _ A1.out).mono ?_); rintro e w28 ⟨v102, rfl, ho0, hb⟩; refine ⟨_, rfl, ?_⟩; have n0_ := zA (Kd.N_lower (Kd.N_mono (ok' := fun k_ => True) ho0 (fun k_ hk_ => trivial)) (zW qB)); have n1_ := zA (zV qB hb); clear HB; have HO103 := n0_; have HB := n1_; clear n0_ n1_; (try clear hb); (try clear hb2); (try clear hk); (try clear hi); (try clear ho0); obtain ⟨Ao29, co29, eo29⟩ := Kd.N_slice HO103.out; subst eo29) | ((with_reducible refine zJq (f := 83) rfl ?_); refine goesL_ (some 17) rfl rfl Try.func83 (by kernel_rfl) rfl #[.int .i64 5, .int .i64 9, .slice Ao29 t101.length co29, .int .i64 10, .int .i64 29] rfl (by (try simp only [zR, zS, zT]); first | done | rfl | (simp only [zP, zQ]; rfl)) ?_; (with_reducible refine (order_Make.calls 1000 5 9 (fun k_ => True) _ _ t101 10 29 t104 t105 t106 t109 _ ?side1 A2.out).mono ?_); (case side1 => exact Kd.N_V (HO103.out)); rintro e w30 ⟨v107, rfl, ho0, hb⟩; refine ⟨_, rfl, ?_⟩; have n0_ := zA (Kd.N_elder' (by (with_reducible repeat (first | apply Kd.N_alloc | apply Kd.N_drewN | apply Kd.N_drew)); exact HO103.out) (Kd.N_base ho0) hb); have n1_ := zA (Kd.N_lower (Kd.N_mono (ok' := fun k_ => True) ho0 (fun k_ hk_ => trivial)) (zW qB)); have n2_ := zA (zV qB hb); clear HO103 HB; have HO103 := n0_; have HO108 := n1_; have HB := n2_; clear n0_ n1_ n2_; (try clear hb); (try clear hb2); (try clear hk); (try clear hi); (try clear ho0)) | ((with_reducible refine gate_dst (N := 1) rfl ?_); (try (refine gate_guard (by rfl) ?_; dsimp only)); refine box_event qr (N := 1) qr (cs := #[.int .i64 0, .int .i64 0, .slice none 0 0]) (t := 99) qg ?_; intro gb110 hg w31 hbox hb; have n0_ := zA (Kd.N_below (Kd.N_elderB (by (with_reducible repeat (first | apply Kd.N_alloc | apply Kd.N_drewN | apply Kd.N_drew)); exact HO103.out) gb110 (Nat.le_of_eq hg.symm)) hb); have n1_ := zA (Kd.N_below (Kd.N_elderB (by (with_reducible repeat (first | apply Kd.N_alloc | apply Kd.N_drewN | apply Kd.N_drew)); exact HO108.out) gb110 (Nat.le_of_eq hg.symm)) hb); have n2_ := zA (zV qB hb); have n3_ := zA (hbox); have n4_ := zA ((qS : w.heap.size ≤ gb110)); have n5_ := zA ((qS : w.heap.size ≤ gb110)); clear HO103 HO108 HB; have HO103 := n0_; have HO108 := n1_; have HB := n2_; have BK110 := n3_; have GW110 := n4_; have GE110 := n5_; clear n0_ n1_ n2_ n3_ n4_ n5_ hb hbox hg; obtain ⟨_, _, _, _, _, _⟩ := qc3f BK110.out; obtain ⟨Ao33, co33, eo33⟩ := Kd.N_slice HO108.out; subst eo33) | ((with_reducible refine zJq (f := 124) rfl ?_); refine goesL_ (some 21) rfl rfl Try.func124 (by kernel_rfl) rfl #[.string (⟨#[65]⟩ : ByteArray)] rfl (by (try simp only [zR, zS, zT]); first | done | rfl | (simp only [zP, zQ]; rfl)) ?_; (with_reducible refine (backhaullaw26_two.calls (⟨#[65]⟩ : ByteArray) t111 _ A3.out).mono ?_); rintro e w34 ⟨v112, rfl, ho0, hb⟩; refine ⟨_, rfl, ?_⟩; have n0_ := zA (Kd.N_elder' (by (with_reducible repeat (first | apply Kd.N_alloc | apply Kd.N_drewN | apply Kd.N_drew)); exact (Kd.N_mono (Kd.N_far (p := ⟨gb110, 2, none⟩) (Kd.N_far (p := ⟨gb110, 1, none⟩) (Kd.N_far (p := ⟨gb110, 0, none⟩) (Kd.N_mono HO103.out (fun k_ hk => (⟨hk, hk.2⟩ : _ ∧ k_ ≠ gb110))) (fun _ hk => hk.2) (.int .i64 t104)) (fun _ hk => hk.2) (.int .i64 t105)) (fun _ hk => hk.2) (.slice Ao33 t106.length co33)) (fun _ h_ => h_.1))) (Kd.N_base ho0) hb); have n1_ := zA (Kd.N_elder' (by (with_reducible repeat (first | apply Kd.N_alloc | apply Kd.N_drewN | apply Kd.N_drew)); exact (Kd.N_mono (Kd.N_far (p := ⟨gb110, 2, none⟩) (Kd.N_far (p := ⟨gb110, 1, none⟩) (Kd.N_far (p := ⟨gb110, 0, none⟩) (Kd.N_mono HO108.out (fun k_ hk => (⟨hk, hk.2⟩ : _ ∧ k_ ≠ gb110))) (fun _ hk => hk.2) (.int .i64 t104)) (fun _ hk => hk.2) (.int .i64 t105)) (fun _ hk => hk.2) (.slice Ao33 t106.length co33)) (fun _ h_ => h_.1))) (Kd.N_base ho0) hb); have n2_ := zA (Kd.N_lower (Kd.N_mono (ok' := fun k_ => some k_ ≠ (.slice Ao29 t101.length co29 : Value).ownBlock ∧ some k_ ≠ (.slice Ao33 t106.length co33 : Value).ownBlock ∧ k_ ≠ gb110) ho0 (fun k_ hk_ => ⟨(Kd.fresh' (Kd.N_lt (by (with_reducible repeat (first | apply Kd.N_alloc | apply Kd.N_drewN | apply Kd.N_drew)); exact (Kd.N_mono (Kd.N_far (p := ⟨gb110, 2, none⟩) (Kd.N_far (p := ⟨gb110, 1, none⟩) (Kd.N_far (p := ⟨gb110, 0, none⟩) (Kd.N_mono HO103.out (fun k_ hk => (⟨hk, hk.2⟩ : _ ∧ k_ ≠ gb110))) (fun _ hk => hk.2) (.int .i64 t104)) (fun _ hk => hk.2) (.int .i64 t105)) (fun _ hk => hk.2) (.slice Ao33 t106.length co33)) (fun _ h_ => h_.1)))) k_ hk_), (Kd.fresh' (Kd.N_lt (by (with_reducible repeat (first | apply Kd.N_alloc | apply Kd.N_drewN | apply Kd.N_drew)); exact (Kd.N_mono (Kd.N_far (p := ⟨gb110, 2, none⟩) (Kd.N_far (p := ⟨gb110, 1, none⟩) (Kd.N_far (p := ⟨gb110, 0, none⟩) (Kd.N_mono HO108.out (fun k_ hk => (⟨hk, hk.2⟩ : _ ∧ k_ ≠ gb110))) (fun _ hk => hk.2) (.int .i64 t104)) (fun _ hk => hk.2) (.int .i64 t105)) (fun _ hk => hk.2) (.slice Ao33 t106.length co33)) (fun _ h_ => h_.1)))) k_ hk_), (Kd.freshB (g := gb110) (o := .cells #[.int .i64 t104, .int .i64 t105, .slice Ao33 t106.length co33] 99 (0, 0)) (qV BK110.out) k_ hk_)⟩)) (zW qB)); have n3_ := zA (zX (g := gb110) (o := .cells #[.int .i64 t104, .int .i64 t105, .slice Ao33 t106.length co33] 99 (0, 0)) (qV BK110.out) hb); have n4_ := zA (zV qB hb); clear HO103 HO108 BK110 HB; have HO103 := n0_; have HO108 := n1_; have HO113 := n2_; have BK110 := n3_; have HB := n4_; clear n0_ n1_ n2_ n3_ n4_; (try clear hb); (try clear hb2); (try clear hk); (try clear hi); (try clear ho0); obtain ⟨Ao35, co35, eo35⟩ := Kd.N_slice HO113.out; subst eo35) | ((with_reducible refine zJq (f := 83) rfl ?_); refine goesL_ (some 22) rfl rfl Try.func83 (by kernel_rfl) rfl #[.int .i64 5, .int .i64 9, .slice Ao35 t111.length co35, .int .i64 10, .int .i64 29] rfl (by (try simp only [zR, zS, zT]); first | done | rfl | (simp only [zP, zQ]; rfl)) ?_; (with_reducible refine (order_Make.calls 1000 5 9 (fun k_ => (some k_ ≠ (.slice Ao29 t101.length co29 : Value).ownBlock ∧ (some k_ ≠ (.slice Ao33 t106.length co33 : Value).ownBlock ∧ k_ ≠ gb110))) _ _ t111 10 29 t114 t115 t116 t119 _ ?side1 A4.out).mono ?_); (case side1 => exact Kd.N_V (HO113.out)); rintro e w36 ⟨v117, rfl, ho0, hb⟩; refine ⟨_, rfl, ?_⟩; have n0_ := zA (Kd.N_elder' (by (with_reducible repeat (first | apply Kd.N_alloc | apply Kd.N_drewN | apply Kd.N_drew)); exact HO103.out) (Kd.N_base ho0) hb); have n1_ := zA (Kd.N_elder' (by (with_reducible repeat (first | apply Kd.N_alloc | apply Kd.N_drewN | apply Kd.N_drew)); exact HO108.out) (Kd.N_base ho0) hb); have n2_ := zA (Kd.N_elder' (by (with_reducible repeat (first | apply Kd.N_alloc | apply Kd.N_drewN | apply Kd.N_drew)); exact HO113.out) (Kd.N_base ho0) hb); have n3_ := zA (Kd.N_lower (Kd.N_mono (ok' := fun k_ => some k_ ≠ (.slice Ao29 t101.length co29 : Value).ownBlock ∧ some k_ ≠ (.slice Ao33 t106.length co33 : Value).ownBlock ∧ k_ ≠ gb110) ho0 (fun k_ hk_ => ⟨Or.elim hk_ (fun hs_ => hs_.1) (fun hn_ => (Kd.fresh' (Kd.N_lt (by (with_reducible repeat (first | apply Kd.N_alloc | apply Kd.N_drewN | apply Kd.N_drew)); exact HO103.out)) k_ hn_)), Or.elim hk_ (fun hs_ => hs_.2.1) (fun hn_ => (Kd.fresh' (Kd.N_lt (by (with_reducible repeat (first | apply Kd.N_alloc | apply Kd.N_drewN | apply Kd.N_drew)); exact HO108.out)) k_ hn_)), Or.elim hk_ (fun hs_ => hs_.2.2) (fun hn_ => (Kd.freshB (g := gb110) (o := .cells #[.int .i64 t104, .int .i64 t105, .slice Ao33 t106.length co33] 99 (0, 0)) (qW BK110.out) k_ hn_))⟩)) (zW qB)); have n4_ := zA (qX BK110.out hb); have n5_ := zA (zV qB hb); clear HO103 HO108 HO113 BK110 HB; have HO103 := n0_; have HO108 := n1_; have HO113 := n2_; have HO118 := n3_; have BK110 := n4_; have HB := n5_; clear n0_ n1_ n2_ n3_ n4_ n5_; (try clear hb); (try clear hb2); (try clear hk); (try clear hi); (try clear ho0)) | ((with_reducible refine gate_dst (N := 3) rfl ?_); (try (refine gate_guard (by rfl) ?_; dsimp only)); refine box_event qr (N := 3) qr (cs := #[.int .i64 0, .int .i64 0, .slice none 0 0]) (t := 99) qg ?_; intro gb120 hg w37 hbox hb; have n0_ := zA (Kd.N_below (Kd.N_elderB (by (with_reducible repeat (first | apply Kd.N_alloc | apply Kd.N_drewN | apply Kd.N_drew)); exact HO103.out) gb120 (Nat.le_of_eq hg.symm)) hb); have n1_ := zA (Kd.N_below (Kd.N_elderB (by (with_reducible repeat (first | apply Kd.N_alloc | apply Kd.N_drewN | apply Kd.N_drew)); exact HO108.out) gb120 (Nat.le_of_eq hg.symm)) hb); have n2_ := zA (Kd.N_below (Kd.N_elderB (by (with_reducible repeat (first | apply Kd.N_alloc | apply Kd.N_drewN | apply Kd.N_drew)); exact HO113.out) gb120 (Nat.le_of_eq hg.symm)) hb); have n3_ := zA (Kd.N_below (Kd.N_elderB (by (with_reducible repeat (first | apply Kd.N_alloc | apply Kd.N_drewN | apply Kd.N_drew)); exact HO118.out) gb120 (Nat.le_of_eq hg.symm)) hb); have n4_ := zA (qX BK110.out hb); have n5_ := zA (zV qB hb); have n6_ := zA (hbox); have n7_ := zA ((qS : w.heap.size ≤ gb120)); have n8_ := zA ((qS : w.heap.size ≤ gb120)); have n9_ := zA ((by rw [hg]; exact zLq (qL BK110.out) : gb110 ≠ gb120)); have n10_ := zA ((by rw [hg]; exact zMq (qL BK110.out) : gb120 ≠ gb110)); clear HO103 HO108 HO113 HO118 BK110 HB; have HO103 := n0_; have HO108 := n1_; have HO113 := n2_; have HO118 := n3_; have BK110 := n4_; have HB := n5_; have BK120 := n6_; have GW120 := n7_; have GE120 := n8_; have NB110_120 := n9_; have NB120_110 := n10_; clear n0_ n1_ n2_ n3_ n4_ n5_ n6_ n7_ n8_ n9_ n10_ hb hbox hg; have hnb38 := NB120_110.out; have hnc38 := NB110_120.out; obtain ⟨_, _, _, _, _, _⟩ := qc3f BK120.out; obtain ⟨Ao40, co40, eo40⟩ := Kd.N_slice HO118.out; subst eo40) | ((with_reducible refine zJq (f := 124) rfl ?_); refine goesL_ (some 26) rfl rfl Try.func124 (by kernel_rfl) rfl #[.string (⟨#[66]⟩ : ByteArray)] rfl (by (try simp only [zR, zS, zT]); first | done | rfl | (simp only [zP, zQ]; rfl)) ?_; (with_reducible refine (backhaullaw26_two.calls (⟨#[66]⟩ : ByteArray) t121 _ A5.out).mono ?_); rintro e w41 ⟨v122, rfl, ho0, hb⟩; refine ⟨_, rfl, ?_⟩; have n0_ := zA (Kd.N_elder' (by (with_reducible repeat (first | apply Kd.N_alloc | apply Kd.N_drewN | apply Kd.N_drew)); exact (Kd.N_mono (Kd.N_far (p := ⟨gb120, 2, none⟩) (Kd.N_far (p := ⟨gb120, 1, none⟩) (Kd.N_far (p := ⟨gb120, 0, none⟩) (Kd.N_mono HO103.out (fun k_ hk => (⟨hk, hk.2⟩ : _ ∧ k_ ≠ gb120))) (fun _ hk => hk.2) (.int .i64 t114)) (fun _ hk => hk.2) (.int .i64 t115)) (fun _ hk => hk.2) (.slice Ao40 t116.length co40)) (fun _ h_ => h_.1))) (Kd.N_base ho0) hb); have n1_ := zA (Kd.N_elder' (by (with_reducible repeat (first | apply Kd.N_alloc | apply Kd.N_drewN | apply Kd.N_drew)); exact (Kd.N_mono (Kd.N_far (p := ⟨gb120, 2, none⟩) (Kd.N_far (p := ⟨gb120, 1, none⟩) (Kd.N_far (p := ⟨gb120, 0, none⟩) (Kd.N_mono HO108.out (fun k_ hk => (⟨hk, hk.2⟩ : _ ∧ k_ ≠ gb120))) (fun _ hk => hk.2) (.int .i64 t114)) (fun _ hk => hk.2) (.int .i64 t115)) (fun _ hk => hk.2) (.slice Ao40 t116.length co40)) (fun _ h_ => h_.1))) (Kd.N_base ho0) hb); have n2_ := zA (Kd.N_elder' (by (with_reducible repeat (first | apply Kd.N_alloc | apply Kd.N_drewN | apply Kd.N_drew)); exact (Kd.N_mono (Kd.N_far (p := ⟨gb120, 2, none⟩) (Kd.N_far (p := ⟨gb120, 1, none⟩) (Kd.N_far (p := ⟨gb120, 0, none⟩) (Kd.N_mono HO113.out (fun k_ hk => (⟨hk, hk.2⟩ : _ ∧ k_ ≠ gb120))) (fun _ hk => hk.2) (.int .i64 t114)) (fun _ hk => hk.2) (.int .i64 t115)) (fun _ hk => hk.2) (.slice Ao40 t116.length co40)) (fun _ h_ => h_.1))) (Kd.N_base ho0) hb); have n3_ := zA (Kd.N_elder' (by (with_reducible repeat (first | apply Kd.N_alloc | apply Kd.N_drewN | apply Kd.N_drew)); exact (Kd.N_mono (Kd.N_far (p := ⟨gb120, 2, none⟩) (Kd.N_far (p := ⟨gb120, 1, none⟩) (Kd.N_far (p := ⟨gb120, 0, none⟩) (Kd.N_mono HO118.out (fun k_ hk => (⟨hk, hk.2⟩ : _ ∧ k_ ≠ gb120))) (fun _ hk => hk.2) (.int .i64 t114)) (fun _ hk => hk.2) (.int .i64 t115)) (fun _ hk => hk.2) (.slice Ao40 t116.length co40)) (fun _ h_ => h_.1))) (Kd.N_base ho0) hb); have n4_ := zA (Kd.N_lower (Kd.N_mono (ok' := fun k_ => some k_ ≠ (.slice Ao29 t101.length co29 : Value).ownBlock ∧ some k_ ≠ (.slice Ao33 t106.length co33 : Value).ownBlock ∧ some k_ ≠ (.slice Ao35 t111.length co35 : Value).ownBlock ∧ some k_ ≠ (.slice Ao40 t116.length co40 : Value).ownBlock ∧ k_ ≠ gb110 ∧ k_ ≠ gb120) ho0 (fun k_ hk_ => ⟨(Kd.fresh' (Kd.N_lt (by (with_reducible repeat (first | apply Kd.N_alloc | apply Kd.N_drewN | apply Kd.N_drew)); exact (Kd.N_mono (Kd.N_far (p := ⟨gb120, 2, none⟩) (Kd.N_far (p := ⟨gb120, 1, none⟩) (Kd.N_far (p := ⟨gb120, 0, none⟩) (Kd.N_mono HO103.out (fun k_ hk => (⟨hk, hk.2⟩ : _ ∧ k_ ≠ gb120))) (fun _ hk => hk.2) (.int .i64 t114)) (fun _ hk => hk.2) (.int .i64 t115)) (fun _ hk => hk.2) (.slice Ao40 t116.length co40)) (fun _ h_ => h_.1)))) k_ hk_), (Kd.fresh' (Kd.N_lt (by (with_reducible repeat (first | apply Kd.N_alloc | apply Kd.N_drewN | apply Kd.N_drew)); exact (Kd.N_mono (Kd.N_far (p := ⟨gb120, 2, none⟩) (Kd.N_far (p := ⟨gb120, 1, none⟩) (Kd.N_far (p := ⟨gb120, 0, none⟩) (Kd.N_mono HO108.out (fun k_ hk => (⟨hk, hk.2⟩ : _ ∧ k_ ≠ gb120))) (fun _ hk => hk.2) (.int .i64 t114)) (fun _ hk => hk.2) (.int .i64 t115)) (fun _ hk => hk.2) (.slice Ao40 t116.length co40)) (fun _ h_ => h_.1)))) k_ hk_), (Kd.fresh' (Kd.N_lt (by (with_reducible repeat (first | apply Kd.N_alloc | apply Kd.N_drewN | apply Kd.N_drew)); exact (Kd.N_mono (Kd.N_far (p := ⟨gb120, 2, none⟩) (Kd.N_far (p := ⟨gb120, 1, none⟩) (Kd.N_far (p := ⟨gb120, 0, none⟩) (Kd.N_mono HO113.out (fun k_ hk => (⟨hk, hk.2⟩ : _ ∧ k_ ≠ gb120))) (fun _ hk => hk.2) (.int .i64 t114)) (fun _ hk => hk.2) (.int .i64 t115)) (fun _ hk => hk.2) (.slice Ao40 t116.length co40)) (fun _ h_ => h_.1)))) k_ hk_), (Kd.fresh' (Kd.N_lt (by (with_reducible repeat (first | apply Kd.N_alloc | apply Kd.N_drewN | apply Kd.N_drew)); exact (Kd.N_mono (Kd.N_far (p := ⟨gb120, 2, none⟩) (Kd.N_far (p := ⟨gb120, 1, none⟩) (Kd.N_far (p := ⟨gb120, 0, none⟩) (Kd.N_mono HO118.out (fun k_ hk => (⟨hk, hk.2⟩ : _ ∧ k_ ≠ gb120))) (fun _ hk => hk.2) (.int .i64 t114)) (fun _ hk => hk.2) (.int .i64 t115)) (fun _ hk => hk.2) (.slice Ao40 t116.length co40)) (fun _ h_ => h_.1)))) k_ hk_), (Kd.freshB (g := gb110) (o := .cells #[.int .i64 t104, .int .i64 t105, .slice Ao33 t106.length co33] 99 (0, 0)) (qW BK110.out) k_ hk_), (Kd.freshB (g := gb120) (o := .cells #[.int .i64 t114, .int .i64 t115, .slice Ao40 t116.length co40] 99 (0, 0)) (qV BK120.out) k_ hk_)⟩)) (zW qB)); have n5_ := zA (qX BK110.out hb); have n6_ := zA (zX (g := gb120) (o := .cells #[.int .i64 t114, .int .i64 t115, .slice Ao40 t116.length co40] 99 (0, 0)) (qV BK120.out) hb); have n7_ := zA (zV qB hb); clear HO103 HO108 HO113 HO118 BK110 BK120 HB; have HO103 := n0_; have HO108 := n1_; have HO113 := n2_; have HO118 := n3_; have HO123 := n4_; have BK110 := n5_; have BK120 := n6_; have HB := n7_; clear n0_ n1_ n2_ n3_ n4_ n5_ n6_ n7_; (try clear hb); (try clear hb2); (try clear hk); (try clear hi); (try clear ho0); obtain ⟨Ao42, co42, eo42⟩ := Kd.N_slice HO123.out; subst eo42) | ((with_reducible refine zJq (f := 83) rfl ?_); refine goesL_ (some 27) rfl rfl Try.func83 (by kernel_rfl) rfl #[.int .i64 0, .int .i64 9, .slice Ao42 t121.length co42, .int .i64 10, .int .i64 29] rfl (by (try simp only [zR, zS, zT]); first | done | rfl | (simp only [zP, zQ]; rfl)) ?_; (with_reducible refine (order_Make.calls 1000 0 9 (fun k_ => (some k_ ≠ (.slice Ao29 t101.length co29 : Value).ownBlock ∧ (some k_ ≠ (.slice Ao33 t106.length co33 : Value).ownBlock ∧ (some k_ ≠ (.slice Ao35 t111.length co35 : Value).ownBlock ∧ (some k_ ≠ (.slice Ao40 t116.length co40 : Value).ownBlock ∧ (k_ ≠ gb110 ∧ k_ ≠ gb120)))))) _ _ t121 10 29 t124 t125 t126 t129 _ ?side1 A6.out).mono ?_); (case side1 => exact Kd.N_V (HO123.out)); rintro e w43 ⟨v127, rfl, ho0, hb⟩; refine ⟨_, rfl, ?_⟩; have n0_ := zA (Kd.N_elder' (by (with_reducible repeat (first | apply Kd.N_alloc | apply Kd.N_drewN | apply Kd.N_drew)); exact HO103.out) (Kd.N_base ho0) hb); have n1_ := zA (Kd.N_elder' (by (with_reducible repeat (first | apply Kd.N_alloc | apply Kd.N_drewN | apply Kd.N_drew)); exact HO108.out) (Kd.N_base ho0) hb); have n2_ := zA (Kd.N_elder' (by (with_reducible repeat (first | apply Kd.N_alloc | apply Kd.N_drewN | apply Kd.N_drew)); exact HO113.out) (Kd.N_base ho0) hb); have n3_ := zA (Kd.N_elder' (by (with_reducible repeat (first | apply Kd.N_alloc | apply Kd.N_drewN | apply Kd.N_drew)); exact HO118.out) (Kd.N_base ho0) hb); have n4_ := zA (Kd.N_elder' (by (with_reducible repeat (first | apply Kd.N_alloc | apply Kd.N_drewN | apply Kd.N_drew)); exact HO123.out) (Kd.N_base ho0) hb); have n5_ := zA (Kd.N_lower (Kd.N_mono (ok' := fun k_ => some k_ ≠ (.slice Ao29 t101.length co29 : Value).ownBlock ∧ some k_ ≠ (.slice Ao33 t106.length co33 : Value).ownBlock ∧ some k_ ≠ (.slice Ao35 t111.length co35 : Value).ownBlock ∧ some k_ ≠ (.slice Ao40 t116.length co40 : Value).ownBlock ∧ k_ ≠ gb110 ∧ k_ ≠ gb120) ho0 (fun k_ hk_ => ⟨Or.elim hk_ (fun hs_ => hs_.1) (fun hn_ => (Kd.fresh' (Kd.N_lt (by (with_reducible repeat (first | apply Kd.N_alloc | apply Kd.N_drewN | apply Kd.N_drew)); exact HO103.out)) k_ hn_)), Or.elim hk_ (fun hs_ => hs_.2.1) (fun hn_ => (Kd.fresh' (Kd.N_lt (by (with_reducible repeat (first | apply Kd.N_alloc | apply Kd.N_drewN | apply Kd.N_drew)); exact HO108.out)) k_ hn_)), Or.elim hk_ (fun hs_ => hs_.2.2.1) (fun hn_ => (Kd.fresh' (Kd.N_lt (by (with_reducible repeat (first | apply Kd.N_alloc | apply Kd.N_drewN | apply Kd.N_drew)); exact HO113.out)) k_ hn_)), Or.elim hk_ (fun hs_ => hs_.2.2.2.1) (fun hn_ => (Kd.fresh' (Kd.N_lt (by (with_reducible repeat (first | apply Kd.N_alloc | apply Kd.N_drewN | apply Kd.N_drew)); exact HO118.out)) k_ hn_)), Or.elim hk_ (fun hs_ => hs_.2.2.2.2.1) (fun hn_ => (Kd.freshB (g := gb110) (o := .cells #[.int .i64 t104, .int .i64 t105, .slice Ao33 t106.length co33] 99 (0, 0)) (qW BK110.out) k_ hn_)), Or.elim hk_ (fun hs_ => hs_.2.2.2.2.2) (fun hn_ => (Kd.freshB (g := gb120) (o := .cells #[.int .i64 t114, .int .i64 t115, .slice Ao40 t116.length co40] 99 (0, 0)) (qW BK120.out) k_ hn_))⟩)) (zW qB)); have n6_ := zA (qX BK110.out hb); have n7_ := zA (qX BK120.out hb); have n8_ := zA (zV qB hb); clear HO103 HO108 HO113 HO118 HO123 BK110 BK120 HB; have HO103 := n0_; have HO108 := n1_; have HO113 := n2_; have HO118 := n3_; have HO123 := n4_; have HO128 := n5_; have BK110 := n6_; have BK120 := n7_; have HB := n8_; clear n0_ n1_ n2_ n3_ n4_ n5_ n6_ n7_ n8_; (try clear hb); (try clear hb2); (try clear hk); (try clear hi); (try clear ho0)) | ((with_reducible refine gate_dst (N := 5) rfl ?_); (try (refine gate_guard (by rfl) ?_; dsimp only)); refine box_event qr (N := 5) qr (cs := #[.int .i64 0, .int .i64 0, .slice none 0 0]) (t := 99) qg ?_; intro gb130 hg w44 hbox hb; have n0_ := zA (Kd.N_below (Kd.N_elderB (by (with_reducible repeat (first | apply Kd.N_alloc | apply Kd.N_drewN | apply Kd.N_drew)); exact HO103.out) gb130 (Nat.le_of_eq hg.symm)) hb); have n1_ := zA (Kd.N_below (Kd.N_elderB (by (with_reducible repeat (first | apply Kd.N_alloc | apply Kd.N_drewN | apply Kd.N_drew)); exact HO108.out) gb130 (Nat.le_of_eq hg.symm)) hb); have n2_ := zA (Kd.N_below (Kd.N_elderB (by (with_reducible repeat (first | apply Kd.N_alloc | apply Kd.N_drewN | apply Kd.N_drew)); exact HO113.out) gb130 (Nat.le_of_eq hg.symm)) hb); have n3_ := zA (Kd.N_below (Kd.N_elderB (by (with_reducible repeat (first | apply Kd.N_alloc | apply Kd.N_drewN | apply Kd.N_drew)); exact HO118.out) gb130 (Nat.le_of_eq hg.symm)) hb); have n4_ := zA (Kd.N_below (Kd.N_elderB (by (with_reducible repeat (first | apply Kd.N_alloc | apply Kd.N_drewN | apply Kd.N_drew)); exact HO123.out) gb130 (Nat.le_of_eq hg.symm)) hb); have n5_ := zA (Kd.N_below (Kd.N_elderB (by (with_reducible repeat (first | apply Kd.N_alloc | apply Kd.N_drewN | apply Kd.N_drew)); exact HO128.out) gb130 (Nat.le_of_eq hg.symm)) hb); have n6_ := zA (qX BK110.out hb); have n7_ := zA (qX BK120.out hb); have n8_ := zA (zV qB hb); have n9_ := zA (hbox); have n10_ := zA ((qS : w.heap.size ≤ gb130)); have n11_ := zA ((qS : w.heap.size ≤ gb130)); have n12_ := zA ((by rw [hg]; exact zLq (qL BK110.out) : gb110 ≠ gb130)); have n13_ := zA ((by rw [hg]; exact zMq (qL BK110.out) : gb130 ≠ gb110)); have n14_ := zA ((by rw [hg]; exact zLq (qL BK120.out) : gb120 ≠ gb130)); have n15_ := zA ((by rw [hg]; exact zMq (qL BK120.out) : gb130 ≠ gb120)); clear HO103 HO108 HO113 HO118 HO123 HO128 BK110 BK120 HB; have HO103 := n0_; have HO108 := n1_; have HO113 := n2_; have HO118 := n3_; have HO123 := n4_; have HO128 := n5_; have BK110 := n6_; have BK120 := n7_; have HB := n8_; have BK130 := n9_; have GW130 := n10_; have GE130 := n11_; have NB110_130 := n12_; have NB130_110 := n13_; have NB120_130 := n14_; have NB130_120 := n15_; clear n0_ n1_ n2_ n3_ n4_ n5_ n6_ n7_ n8_ n9_ n10_ n11_ n12_ n13_ n14_ n15_ hb hbox hg; have hnb45 := NB130_110.out; have hnc45 := NB110_130.out; have hnb46 := NB130_120.out; have hnc46 := NB120_130.out; obtain ⟨_, _, _, _, _, _⟩ := qc3f BK130.out; obtain ⟨Ao48, co48, eo48⟩ := Kd.N_slice HO128.out; subst eo48; obtain ⟨_, _, _, _, _, _⟩ := qc3f BK110.out) | ((with_reducible refine zJq (f := 86) rfl ?_); refine goesL_ (some 32) rfl rfl Try.func86 (by kernel_rfl) rfl #[.agg #[.int .i64 t104, .int .i64 t105, .slice Ao33 t106.length co33], .string (⟨#[67]⟩ : ByteArray)] rfl (by (try simp only [zR, zS, zT]); first | done | rfl | (simp only [zP, zQ]; rfl)) ?_; (with_reducible refine (order_Find.calls 1000 t104 t105 _ _ t106 (⟨#[67]⟩ : ByteArray) t131 t132 true _ ?side1 ?side2 A7.out).mono ?_); (case side1 => refine (Kd.N_reads' (e := 71) (base := w.heap.size) (ok := fun k_ => (((((((True ∧ k_ ≠ gb110) ∧ some k_ ≠ (.slice Ao35 t111.length co35 : Value).ownBlock) ∧ some k_ ≠ (.slice Ao40 t116.length co40 : Value).ownBlock) ∧ k_ ≠ gb120) ∧ some k_ ≠ (.slice Ao42 t121.length co42 : Value).ownBlock) ∧ some k_ ≠ (.slice Ao48 t126.length co48 : Value).ownBlock) ∧ k_ ≠ gb130)) (n := t106.length) (c := co33) ?_).2.2; exact (by (with_reducible repeat (first | apply Kd.N_alloc | apply Kd.N_drewN | apply Kd.N_drew)); exact (Kd.N_mono (Kd.N_far (p := ⟨gb130, 2, none⟩) (Kd.N_far (p := ⟨gb130, 1, none⟩) (Kd.N_far (p := ⟨gb130, 0, none⟩) (Kd.N_mono HO108.out (fun k_ hk => (⟨hk, hk.2⟩ : _ ∧ k_ ≠ gb130))) (fun _ hk => hk.2) (.int .i64 t124)) (fun _ hk => hk.2) (.int .i64 t125)) (fun _ hk => hk.2) (.slice Ao48 t126.length co48)) (fun _ h_ => h_.1)))); (case side2 => exact (Kd.N_reads' HO108.out).2.1); rintro e w50 ⟨rfl, hb⟩; refine ⟨_, rfl, ?_⟩; have n0_ := zA (Kd.N_below (by (with_reducible repeat (first | apply Kd.N_alloc | apply Kd.N_drewN | apply Kd.N_drew)); exact (Kd.N_mono (Kd.N_far (p := ⟨gb130, 2, none⟩) (Kd.N_far (p := ⟨gb130, 1, none⟩) (Kd.N_far (p := ⟨gb130, 0, none⟩) (Kd.N_mono HO103.out (fun k_ hk => (⟨hk, hk.2⟩ : _ ∧ k_ ≠ gb130))) (fun _ hk => hk.2) (.int .i64 t124)) (fun _ hk => hk.2) (.int .i64 t125)) (fun _ hk => hk.2) (.slice Ao48 t126.length co48)) (fun _ h_ => h_.1))) hb); have n1_ := zA (Kd.N_below (by (with_reducible repeat (first | apply Kd.N_alloc | apply Kd.N_drewN | apply Kd.N_drew)); exact (Kd.N_mono (Kd.N_far (p := ⟨gb130, 2, none⟩) (Kd.N_far (p := ⟨gb130, 1, none⟩) (Kd.N_far (p := ⟨gb130, 0, none⟩) (Kd.N_mono HO108.out (fun k_ hk => (⟨hk, hk.2⟩ : _ ∧ k_ ≠ gb130))) (fun _ hk => hk.2) (.int .i64 t124)) (fun _ hk => hk.2) (.int .i64 t125)) (fun _ hk => hk.2) (.slice Ao48 t126.length co48)) (fun _ h_ => h_.1))) hb); have n2_ := zA (Kd.N_below (by (with_reducible repeat (first | apply Kd.N_alloc | apply Kd.N_drewN | apply Kd.N_drew)); exact (Kd.N_mono (Kd.N_far (p := ⟨gb130, 2, none⟩) (Kd.N_far (p := ⟨gb130, 1, none⟩) (Kd.N_far (p := ⟨gb130, 0, none⟩) (Kd.N_mono HO113.out (fun k_ hk => (⟨hk, hk.2⟩ : _ ∧ k_ ≠ gb130))) (fun _ hk => hk.2) (.int .i64 t124)) (fun _ hk => hk.2) (.int .i64 t125)) (fun _ hk => hk.2) (.slice Ao48 t126.length co48)) (fun _ h_ => h_.1))) hb); have n3_ := zA (Kd.N_below (by (with_reducible repeat (first | apply Kd.N_alloc | apply Kd.N_drewN | apply Kd.N_drew)); exact (Kd.N_mono (Kd.N_far (p := ⟨gb130, 2, none⟩) (Kd.N_far (p := ⟨gb130, 1, none⟩) (Kd.N_far (p := ⟨gb130, 0, none⟩) (Kd.N_mono HO118.out (fun k_ hk => (⟨hk, hk.2⟩ : _ ∧ k_ ≠ gb130))) (fun _ hk => hk.2) (.int .i64 t124)) (fun _ hk => hk.2) (.int .i64 t125)) (fun _ hk => hk.2) (.slice Ao48 t126.length co48)) (fun _ h_ => h_.1))) hb); have n4_ := zA (Kd.N_below (by (with_reducible repeat (first | apply Kd.N_alloc | apply Kd.N_drewN | apply Kd.N_drew)); exact (Kd.N_mono (Kd.N_far (p := ⟨gb130, 2, none⟩) (Kd.N_far (p := ⟨gb130, 1, none⟩) (Kd.N_far (p := ⟨gb130, 0, none⟩) (Kd.N_mono HO123.out (fun k_ hk => (⟨hk, hk.2⟩ : _ ∧ k_ ≠ gb130))) (fun _ hk => hk.2) (.int .i64 t124)) (fun _ hk => hk.2) (.int .i64 t125)) (fun _ hk => hk.2) (.slice Ao48 t126.length co48)) (fun _ h_ => h_.1))) hb); have n5_ := zA (Kd.N_below (by (with_reducible repeat (first | apply Kd.N_alloc | apply Kd.N_drewN | apply Kd.N_drew)); exact (Kd.N_mono (Kd.N_far (p := ⟨gb130, 2, none⟩) (Kd.N_far (p := ⟨gb130, 1, none⟩) (Kd.N_far (p := ⟨gb130, 0, none⟩) (Kd.N_mono HO128.out (fun k_ hk => (⟨hk, hk.2⟩ : _ ∧ k_ ≠ gb130))) (fun _ hk => hk.2) (.int .i64 t124)) (fun _ hk => hk.2) (.int .i64 t125)) (fun _ hk => hk.2) (.slice Ao48 t126.length co48)) (fun _ h_ => h_.1))) hb); have n6_ := zA (qX BK110.out hb); have n7_ := zA (qX BK120.out hb); have n8_ := zA (zX (g := gb130) (o := .cells #[.int .i64 t124, .int .i64 t125, .slice Ao48 t126.length co48] 99 (0, 0)) (qV BK130.out) hb); have n9_ := zA (zV qB hb); clear HO103 HO108 HO113 HO118 HO123 HO128 BK110 BK120 BK130 HB; have HO103 := n0_; have HO108 := n1_; have HO113 := n2_; have HO118 := n3_; have HO123 := n4_; have HO128 := n5_; have BK110 := n6_; have BK120 := n7_; have BK130 := n8_; have HB := n9_; clear n0_ n1_ n2_ n3_ n4_ n5_ n6_ n7_ n8_ n9_; (try clear hb); (try clear hb2); (try clear hk); (try clear hi); obtain ⟨_, _, _, _, _, _⟩ := qc3f BK110.out) | ((with_reducible refine zJq (f := 86) rfl ?_); refine goesL_ (some 38) rfl rfl Try.func86 (by kernel_rfl) rfl #[.agg #[.int .i64 t104, .int .i64 t105, .slice Ao33 t106.length co33], .string (⟨#[68]⟩ : ByteArray)] rfl (by (try simp only [zR, zS, zT]); first | done | rfl | (simp only [zP, zQ]; rfl)) ?_; (with_reducible refine (order_Find.calls 1000 t104 t105 _ _ t106 (⟨#[68]⟩ : ByteArray) t134 t135 false _ ?side1 ?side2 A8.out).mono ?_); (case side1 => repeat (first | exact (Kd.N_reads' HO108.out).2.2 | (with_reducible refine Kd.C_alloc ?_ _) | (with_reducible refine Kd.C_drewN ?_ _) | (with_reducible refine Kd.C_drew ?_))); (case side2 => exact (Kd.N_reads' HO108.out).2.1); rintro e w52 ⟨rfl, hb⟩; refine ⟨_, rfl, ?_⟩; have n0_ := zA (Kd.N_below (by (with_reducible repeat (first | apply Kd.N_alloc | apply Kd.N_drewN | apply Kd.N_drew)); exact HO103.out) hb); have n1_ := zA (Kd.N_below (by (with_reducible repeat (first | apply Kd.N_alloc | apply Kd.N_drewN | apply Kd.N_drew)); exact HO108.out) hb); have n2_ := zA (Kd.N_below (by (with_reducible repeat (first | apply Kd.N_alloc | apply Kd.N_drewN | apply Kd.N_drew)); exact HO113.out) hb); have n3_ := zA (Kd.N_below (by (with_reducible repeat (first | apply Kd.N_alloc | apply Kd.N_drewN | apply Kd.N_drew)); exact HO118.out) hb); have n4_ := zA (Kd.N_below (by (with_reducible repeat (first | apply Kd.N_alloc | apply Kd.N_drewN | apply Kd.N_drew)); exact HO123.out) hb); have n5_ := zA (Kd.N_below (by (with_reducible repeat (first | apply Kd.N_alloc | apply Kd.N_drewN | apply Kd.N_drew)); exact HO128.out) hb); have n6_ := zA (qX BK110.out hb); have n7_ := zA (qX BK120.out hb); have n8_ := zA (qX BK130.out hb); have n9_ := zA (zV qB hb); clear HO103 HO108 HO113 HO118 HO123 HO128 BK110 BK120 BK130 HB; have HO103 := n0_; have HO108 := n1_; have HO113 := n2_; have HO118 := n3_; have HO123 := n4_; have HO128 := n5_; have BK110 := n6_; have BK120 := n7_; have BK130 := n8_; have HB := n9_; clear n0_ n1_ n2_ n3_ n4_ n5_ n6_ n7_ n8_ n9_; (try clear hb); (try clear hb2); (try clear hk); (try clear hi); obtain ⟨_, _, _, _, _, _⟩ := qc3f BK110.out) | ((with_reducible refine zJq (f := 88) rfl ?_); refine goesL_ (some 44) rfl rfl Try.func88 (by kernel_rfl) rfl #[.agg #[.int .i64 t104, .int .i64 t105, .slice Ao33 t106.length co33]] rfl (by (try simp only [zR, zS, zT]); first | done | rfl | (simp only [zP, zQ]; rfl)) ?_; (with_reducible refine (order_Paid.calls 1000 t104 t105 _ _ t106 t137 t138 _ ?side1 ?side2 A9.out).mono ?_); (case side1 => repeat (first | exact (Kd.N_reads' HO108.out).2.2 | (with_reducible refine Kd.C_alloc ?_ _) | (with_reducible refine Kd.C_drewN ?_ _) | (with_reducible refine Kd.C_drew ?_))); (case side2 => exact (Kd.N_reads' HO108.out).2.1); rintro e w54 ⟨rfl, hb⟩; refine ⟨_, rfl, ?_⟩; have n0_ := zA (Kd.N_below (by (with_reducible repeat (first | apply Kd.N_alloc | apply Kd.N_drewN | apply Kd.N_drew)); exact HO103.out) hb); have n1_ := zA (Kd.N_below (by (with_reducible repeat (first | apply Kd.N_alloc | apply Kd.N_drewN | apply Kd.N_drew)); exact HO108.out) hb); have n2_ := zA (Kd.N_below (by (with_reducible repeat (first | apply Kd.N_alloc | apply Kd.N_drewN | apply Kd.N_drew)); exact HO113.out) hb); have n3_ := zA (Kd.N_below (by (with_reducible repeat (first | apply Kd.N_alloc | apply Kd.N_drewN | apply Kd.N_drew)); exact HO118.out) hb); have n4_ := zA (Kd.N_below (by (with_reducible repeat (first | apply Kd.N_alloc | apply Kd.N_drewN | apply Kd.N_drew)); exact HO123.out) hb); have n5_ := zA (Kd.N_below (by (with_reducible repeat (first | apply Kd.N_alloc | apply Kd.N_drewN | apply Kd.N_drew)); exact HO128.out) hb); have n6_ := zA (qX BK110.out hb); have n7_ := zA (qX BK120.out hb); have n8_ := zA (qX BK130.out hb); have n9_ := zA (zV qB hb); clear HO103 HO108 HO113 HO118 HO123 HO128 BK110 BK120 BK130 HB; have HO103 := n0_; have HO108 := n1_; have HO113 := n2_; have HO118 := n3_; have HO123 := n4_; have HO128 := n5_; have BK110 := n6_; have BK120 := n7_; have BK130 := n8_; have HB := n9_; clear n0_ n1_ n2_ n3_ n4_ n5_ n6_ n7_ n8_ n9_; (try clear hb); (try clear hb2); (try clear hk); (try clear hi); obtain ⟨_, _, _, _, _, _⟩ := qc3f BK110.out) | (go_at_call 93; (with_reducible refine (order_Serials.calls 1000 t104 t105 _ _ t106 t139 _ ?side1 ?side2 A19.out).mono ?_); (case side1 => repeat (first | exact (Kd.N_reads' HO108.out).2.2 | (with_reducible refine Kd.C_alloc ?_ _) | (with_reducible refine Kd.C_drewN ?_ _) | (with_reducible refine Kd.C_drew ?_))); (case side2 => exact (Kd.N_reads' HO108.out).2.1); rintro e w56 ⟨v140, rfl, ho0, hb⟩; have n0_ := zA (Kd.N_elder' (by (with_reducible repeat (first | apply Kd.N_alloc | apply Kd.N_drewN | apply Kd.N_drew)); exact HO103.out) (Kd.R_base ho0) hb); have n1_ := zA (Kd.N_elder' (by (with_reducible repeat (first | apply Kd.N_alloc | apply Kd.N_drewN | apply Kd.N_drew)); exact HO108.out) (Kd.R_base ho0) hb); have n2_ := zA (Kd.N_elder' (by (with_reducible repeat (first | apply Kd.N_alloc | apply Kd.N_drewN | apply Kd.N_drew)); exact HO113.out) (Kd.R_base ho0) hb); have n3_ := zA (Kd.N_elder' (by (with_reducible repeat (first | apply Kd.N_alloc | apply Kd.N_drewN | apply Kd.N_drew)); exact HO118.out) (Kd.R_base ho0) hb); have n4_ := zA (Kd.N_elder' (by (with_reducible repeat (first | apply Kd.N_alloc | apply Kd.N_drewN | apply Kd.N_drew)); exact HO123.out) (Kd.R_base ho0) hb); have n5_ := zA (Kd.N_elder' (by (with_reducible repeat (first | apply Kd.N_alloc | apply Kd.N_drewN | apply Kd.N_drew)); exact HO128.out) (Kd.R_base ho0) hb); have n6_ := zA (Kd.R_lower ho0 (zW qB)); have n7_ := zA (qX BK110.out hb); have n8_ := zA (qX BK120.out hb); have n9_ := zA (qX BK130.out hb); have n10_ := zA (zV qB hb); clear HO103 HO108 HO113 HO118 HO123 HO128 BK110 BK120 BK130 HB; have HO103 := n0_; have HO108 := n1_; have HO113 := n2_; have HO118 := n3_; have HO123 := n4_; have HO128 := n5_; have HO141 := n6_; have BK110 := n7_; have BK120 := n8_; have BK130 := n9_; have HB := n10_; clear n0_ n1_ n2_ n3_ n4_ n5_ n6_ n7_ n8_ n9_ n10_; (try clear hb); (try clear hb2); (try clear hk); (try clear hi); (try clear ho0)) | ((with_reducible refine gate_dst (N := 83) rfl ?_); (try (refine gate_guard (by rfl) ?_; dsimp only)); refine Kd.R_lit Kd.string _ 9 ?hg (N := 83) ?hd (xs := ([(⟨#[65]⟩ : ByteArray), (⟨#[66]⟩ : ByteArray), (⟨#[67]⟩ : ByteArray)] : List ByteArray)) (inner := [.string (⟨#[65]⟩ : ByteArray), .string (⟨#[66]⟩ : ByteArray), .string (⟨#[67]⟩ : ByteArray)]) (ok := fun _ => True) (okp := fun _ => True) ?hr ?hp (fun _ hk => hk) trivial (Below.refl _ _) (Nat.le_refl _) (by simp) ?_; (case hd => rfl); (case hg => rfl); (case hr => first | (go_simp; done) | (go_simp; rfl)); (case hp => exact (Reps.one (show Kd.M Kd.string _ _ _ (⟨#[65]⟩ : ByteArray) [.string (⟨#[65]⟩ : ByteArray)] from rfl) (Reps.one (show Kd.M Kd.string _ _ _ (⟨#[66]⟩ : ByteArray) [.string (⟨#[66]⟩ : ByteArray)] from rfl) (Reps.one (show Kd.M Kd.string _ _ _ (⟨#[67]⟩ : ByteArray) [.string (⟨#[67]⟩ : ByteArray)] from rfl) (Reps.none _ _))))); intro v143 w57 ho58 hb hg_ hnew_; clear hg_ hnew_; (first | rw [← Ny142.out] at ho58 | (simp only [Int.reduceToNat] at ho58; rw [← Ny142.out] at ho58)); have n0_ := zA (Kd.N_elder' (by (with_reducible repeat (first | apply Kd.N_alloc | apply Kd.N_drewN | apply Kd.N_drew)); exact HO103.out) (Kd.R_base ho58) hb); have n1_ := zA (Kd.N_elder' (by (with_reducible repeat (first | apply Kd.N_alloc | apply Kd.N_drewN | apply Kd.N_drew)); exact HO108.out) (Kd.R_base ho58) hb); have n2_ := zA (Kd.N_elder' (by (with_reducible repeat (first | apply Kd.N_alloc | apply Kd.N_drewN | apply Kd.N_drew)); exact HO113.out) (Kd.R_base ho58) hb); have n3_ := zA (Kd.N_elder' (by (with_reducible repeat (first | apply Kd.N_alloc | apply Kd.N_drewN | apply Kd.N_drew)); exact HO118.out) (Kd.R_base ho58) hb); have n4_ := zA (Kd.N_elder' (by (with_reducible repeat (first | apply Kd.N_alloc | apply Kd.N_drewN | apply Kd.N_drew)); exact HO123.out) (Kd.R_base ho58) hb); have n5_ := zA (Kd.N_elder' (by (with_reducible repeat (first | apply Kd.N_alloc | apply Kd.N_drewN | apply Kd.N_drew)); exact HO128.out) (Kd.R_base ho58) hb); have n6_ := zA (Kd.R_elder' (by (with_reducible repeat (first | apply Kd.R_alloc | apply Kd.R_drewN | apply Kd.R_drew)); exact HO141.out) (Kd.R_base ho58) hb); have n7_ := zA (Kd.R_lower (Kd.R_new' ho58 (Kd.R_lt (by (with_reducible repeat (first | apply Kd.R_alloc | apply Kd.R_drewN | apply Kd.R_drew)); exact HO141.out))) (zW qB)); have n8_ := zA (qX BK110.out hb); have n9_ := zA (qX BK120.out hb); have n10_ := zA (qX BK130.out hb); have n11_ := zA (zV qB hb); clear HO103 HO108 HO113 HO118 HO123 HO128 HO141 BK110 BK120 BK130 HB; have HO103 := n0_; have HO108 := n1_; have HO113 := n2_; have HO118 := n3_; have HO123 := n4_; have HO128 := n5_; have HO141 := n6_; have HO144 := n7_; have BK110 := n8_; have BK120 := n9_; have BK130 := n10_; have HB := n11_; clear n0_ n1_ n2_ n3_ n4_ n5_ n6_ n7_ n8_ n9_ n10_ n11_ hb ho58; obtain ⟨Ao59, co59, eo59⟩ := Kd.R_slice HO141.out; subst eo59; obtain ⟨Ao60, co60, eo60⟩ := Kd.R_slice HO144.out; subst eo60) | (go_at_call 92; (with_reducible refine (backhaulref01_SameTexts.calls 1000 _ _ t139 _ _ y142 true _ ?side1 ?side2 ?side3 ?side4 A20.out).mono ?_); (case side1 => repeat (first | exact (Kd.R_reads' HO141.out).2.2 | (with_reducible refine Kd.C_alloc ?_ _) | (with_reducible refine Kd.C_drewN ?_ _) | (with_reducible refine Kd.C_drew ?_))); (case side2 => exact (Kd.R_reads' HO141.out).2.1); (case side3 => repeat (first | exact (Kd.R_reads' HO144.out).2.2 | (with_reducible refine Kd.C_alloc ?_ _) | (with_reducible refine Kd.C_drewN ?_ _) | (with_reducible refine Kd.C_drew ?_))); (case side4 => exact (Kd.R_reads' HO144.out).2.1); rintro e w' ⟨rfl, ⟨nd, rfl⟩⟩; obtain ⟨_, _, _, _, _, _⟩ := qc3f BK110.out) | (go_at_call 90; (with_reducible refine (order_Check.calls 1000 t104 t105 _ _ t106 t146 _ ?side1 ?side2 A22.out).mono ?_); (case side1 => repeat (first | exact (Kd.N_reads' HO108.out).2.2 | (with_reducible refine Kd.C_alloc ?_ _) | (with_reducible refine Kd.C_drewN ?_ _) | (with_reducible refine Kd.C_drew ?_))); (case side2 => exact (Kd.N_reads' HO108.out).2.1); rintro e w62 ⟨rfl, hb⟩; have n0_ := zA (Kd.N_below (by (with_reducible repeat (first | apply Kd.N_alloc | apply Kd.N_drewN | apply Kd.N_drew)); exact HO103.out) hb); have n1_ := zA (Kd.N_below (by (with_reducible repeat (first | apply Kd.N_alloc | apply Kd.N_drewN | apply Kd.N_drew)); exact HO108.out) hb); have n2_ := zA (Kd.N_below (by (with_reducible repeat (first | apply Kd.N_alloc | apply Kd.N_drewN | apply Kd.N_drew)); exact HO113.out) hb); have n3_ := zA (Kd.N_below (by (with_reducible repeat (first | apply Kd.N_alloc | apply Kd.N_drewN | apply Kd.N_drew)); exact HO118.out) hb); have n4_ := zA (Kd.N_below (by (with_reducible repeat (first | apply Kd.N_alloc | apply Kd.N_drewN | apply Kd.N_drew)); exact HO123.out) hb); have n5_ := zA (Kd.N_below (by (with_reducible repeat (first | apply Kd.N_alloc | apply Kd.N_drewN | apply Kd.N_drew)); exact HO128.out) hb); have n6_ := zA (Kd.R_below (by (with_reducible repeat (first | apply Kd.R_alloc | apply Kd.R_drewN | apply Kd.R_drew)); exact HO141.out) hb); have n7_ := zA (Kd.R_below (by (with_reducible repeat (first | apply Kd.R_alloc | apply Kd.R_drewN | apply Kd.R_drew)); exact HO144.out) hb); have n8_ := zA (qX BK110.out hb); have n9_ := zA (qX BK120.out hb); have n10_ := zA (qX BK130.out hb); have n11_ := zA (zV qB hb); clear HO103 HO108 HO113 HO118 HO123 HO128 HO141 HO144 BK110 BK120 BK130 HB; have HO103 := n0_; have HO108 := n1_; have HO113 := n2_; have HO118 := n3_; have HO123 := n4_; have HO128 := n5_; have HO141 := n6_; have HO144 := n7_; have BK110 := n8_; have BK120 := n9_; have BK130 := n10_; have HB := n11_; clear n0_ n1_ n2_ n3_ n4_ n5_ n6_ n7_ n8_ n9_ n10_ n11_; (try clear hb); (try clear hb2); (try clear hk); (try clear hi); obtain ⟨_, _, _, _, _, _⟩ := qc3f BK110.out) | (go_at_call 95; (with_reducible refine (order_Same.calls 1000 t104 t105 _ _ t106 t104 t105 _ _ t106 true _ ?side1 ?side2 ?side3 ?side4 A24.out).mono ?_); (case side1 => repeat (first | exact (Kd.N_reads' HO108.out).2.2 | (with_reducible refine Kd.C_alloc ?_ _) | (with_reducible refine Kd.C_drewN ?_ _) | (with_reducible refine Kd.C_drew ?_))); (case side2 => exact (Kd.N_reads' HO108.out).2.1); (case side3 => repeat (first | exact (Kd.N_reads' HO108.out).2.2 | (with_reducible refine Kd.C_alloc ?_ _) | (with_reducible refine Kd.C_drewN ?_ _) | (with_reducible refine Kd.C_drew ?_))); (case side4 => exact (Kd.N_reads' HO108.out).2.1); rintro e w64 ⟨rfl, hb⟩; have n0_ := zA (Kd.N_below (by (with_reducible repeat (first | apply Kd.N_alloc | apply Kd.N_drewN | apply Kd.N_drew)); exact HO103.out) hb); have n1_ := zA (Kd.N_below (by (with_reducible repeat (first | apply Kd.N_alloc | apply Kd.N_drewN | apply Kd.N_drew)); exact HO108.out) hb); have n2_ := zA (Kd.N_below (by (with_reducible repeat (first | apply Kd.N_alloc | apply Kd.N_drewN | apply Kd.N_drew)); exact HO113.out) hb); have n3_ := zA (Kd.N_below (by (with_reducible repeat (first | apply Kd.N_alloc | apply Kd.N_drewN | apply Kd.N_drew)); exact HO118.out) hb); have n4_ := zA (Kd.N_below (by (with_reducible repeat (first | apply Kd.N_alloc | apply Kd.N_drewN | apply Kd.N_drew)); exact HO123.out) hb); have n5_ := zA (Kd.N_below (by (with_reducible repeat (first | apply Kd.N_alloc | apply Kd.N_drewN | apply Kd.N_drew)); exact HO128.out) hb); have n6_ := zA (Kd.R_below (by (with_reducible repeat (first | apply Kd.R_alloc | apply Kd.R_drewN | apply Kd.R_drew)); exact HO141.out) hb); have n7_ := zA (Kd.R_below (by (with_reducible repeat (first | apply Kd.R_alloc | apply Kd.R_drewN | apply Kd.R_drew)); exact HO144.out) hb); have n8_ := zA (qX BK110.out hb); have n9_ := zA (qX BK120.out hb); have n10_ := zA (qX BK130.out hb); have n11_ := zA (zV qB hb); clear HO103 HO108 HO113 HO118 HO123 HO128 HO141 HO144 BK110 BK120 BK130 HB; have HO103 := n0_; have HO108 := n1_; have HO113 := n2_; have HO118 := n3_; have HO123 := n4_; have HO128 := n5_; have HO141 := n6_; have HO144 := n7_; have BK110 := n8_; have BK120 := n9_; have BK130 := n10_; have HB := n11_; clear n0_ n1_ n2_ n3_ n4_ n5_ n6_ n7_ n8_ n9_ n10_ n11_; (try clear hb); (try clear hb2); (try clear hk); (try clear hi)) | (go_at_call 90; (refine (order_Check.calls 1000 0 0 _ _ ([] : List (S71)) t148 _ ?side1 ?side2 A26.out).mono ?_); (case side1 => exact Kd.C_nil _ _); (case side2 => exact Nat.le_refl _); rintro e w65 ⟨rfl, hb⟩; have n0_ := zA (Kd.N_below (by (with_reducible repeat (first | apply Kd.N_alloc | apply Kd.N_drewN | apply Kd.N_drew)); exact HO103.out) hb); have n1_ := zA (Kd.N_below (by (with_reducible repeat (first | apply Kd.N_alloc | apply Kd.N_drewN | apply Kd.N_drew)); exact HO108.out) hb); have n2_ := zA (Kd.N_below (by (with_reducible repeat (first | apply Kd.N_alloc | apply Kd.N_drewN | apply Kd.N_drew)); exact HO113.out) hb); have n3_ := zA (Kd.N_below (by (with_reducible repeat (first | apply Kd.N_alloc | apply Kd.N_drewN | apply Kd.N_drew)); exact HO118.out) hb); have n4_ := zA (Kd.N_below (by (with_reducible repeat (first | apply Kd.N_alloc | apply Kd.N_drewN | apply Kd.N_drew)); exact HO123.out) hb); have n5_ := zA (Kd.N_below (by (with_reducible repeat (first | apply Kd.N_alloc | apply Kd.N_drewN | apply Kd.N_drew)); exact HO128.out) hb); have n6_ := zA (Kd.R_below (by (with_reducible repeat (first | apply Kd.R_alloc | apply Kd.R_drewN | apply Kd.R_drew)); exact HO141.out) hb); have n7_ := zA (Kd.R_below (by (with_reducible repeat (first | apply Kd.R_alloc | apply Kd.R_drewN | apply Kd.R_drew)); exact HO144.out) hb); have n8_ := zA (qX BK110.out hb); have n9_ := zA (qX BK120.out hb); have n10_ := zA (qX BK130.out hb); have n11_ := zA (zV qB hb); clear HO103 HO108 HO113 HO118 HO123 HO128 HO141 HO144 BK110 BK120 BK130 HB; have HO103 := n0_; have HO108 := n1_; have HO113 := n2_; have HO118 := n3_; have HO123 := n4_; have HO128 := n5_; have HO141 := n6_; have HO144 := n7_; have BK110 := n8_; have BK120 := n9_; have BK130 := n10_; have HB := n11_; clear n0_ n1_ n2_ n3_ n4_ n5_ n6_ n7_ n8_ n9_ n10_ n11_; (try clear hb); (try clear hb2); (try clear hk); (try clear hi)))
                          go_ret; exact ⟨qE, qB⟩
                        rw [if_neg c27] at H; have c27b0 : (t148 == 40) = false := beq_eq_false_iff_ne.mpr c27; have c27b1 : (t148 != 40) = true := bne_iff_ne.mpr c27; exact absurd H (by simp)
                      replace c25 := Bool.eq_false_iff.mpr c25; subst c25; have H1 : (some false) = some true := by first | (rw [if_neg (show ¬ (false = true) by decide)] at H; exact H) | rfl
                      clear H; have H := H1; clear H1; exact absurd H (by simp)
                    rw [if_neg c23] at H; have c23b0 : (t146 == 0) = false := beq_eq_false_iff_ne.mpr c23; have c23b1 : (t146 != 0) = true := bne_iff_ne.mpr c23; exact absurd H (by simp)
                  replace c21 := Bool.eq_false_iff.mpr c21; subst c21; have H1 : (some false) = some true := by first | (rw [if_neg (show ¬ (false = true) by decide)] at H; exact H) | rfl
                  clear H; have H := H1; clear H1; exact absurd H (by simp)
                rw [if_neg c18] at H; have c18b0 : (t138 == 0) = false := beq_eq_false_iff_ne.mpr c18; have c18b1 : (t138 != 0) = true := bne_iff_ne.mpr c18; exact absurd H (by simp)
              rw [if_neg c17] at H; have c17b0 : (t137 == 319) = false := beq_eq_false_iff_ne.mpr c17; have c17b1 : (t137 != 319) = true := bne_iff_ne.mpr c17; exact absurd H (by simp)
            replace c15 := Bool.eq_false_iff.mpr c15; subst c15; have H1 : (some false) = some true := by first | (rw [if_neg (show ¬ (false = true) by decide)] at H; exact H) | rfl
            clear H; have H := H1; clear H1; exact absurd H (by simp)
          rw [if_neg c14] at H; have c14b0 : (t132 == 1) = false := beq_eq_false_iff_ne.mpr c14; have c14b1 : (t132 != 1) = true := bne_iff_ne.mpr c14; exact absurd H (by simp)
        rw [if_neg c13] at H; have c13b0 : (t131 == 1) = false := beq_eq_false_iff_ne.mpr c13; have c13b1 : (t131 != 1) = true := bne_iff_ne.mpr c13; exact absurd H (by simp)
      rw [if_neg c12] at H; have c12b0 : (t129 == 2) = false := beq_eq_false_iff_ne.mpr c12; have c12b1 : (t129 != 2) = true := bne_iff_ne.mpr c12; exact absurd H (by simp)
    rw [if_neg c11] at H; have c11b0 : (t119 == 32) = false := beq_eq_false_iff_ne.mpr c11; have c11b1 : (t119 != 32) = true := bne_iff_ne.mpr c11; exact absurd H (by simp)
  rw [if_neg c10] at H
  have c10b0 : (t109 == 0) = false := beq_eq_false_iff_ne.mpr c10
  have c10b1 : (t109 != 0) = true := bne_iff_ne.mpr c10
  exact absurd H (by simp)
mutual
def backhaullaw26_OrderFinds.j0 : Nat → ByteArray → Bool → Int → Int → List (S71) → Option (Bool)
  | 0, _, _, _, _, _ => none
  | k + 1, x1, x30, x102000, x102001, x102002 => if x30 = true then ((backhaullaw26_awake.f).bind fun t104 => (if t104 = true then (some true) else (some false))) else ((order_Serials.f k x102000 x102001 x102002).bind fun t105 => (backhaullaw26_OrderFinds.l0 k x1 t105 0 false 0 x102000 x102001 x102002))
def backhaullaw26_OrderFinds.l0 : Nat → ByteArray → List ByteArray → Int → Bool → Int → Int → Int → List (S71) → Option (Bool)
  | 0, _, _, _, _, _, _, _, _ => none
  | k + 1, x1, x5, x6, x7, x8, x102000, x102001, x102002 => if x8 < (x102002.length : Int) then (backhaullaw26_OrderFinds.l1 k x1 x5 x6 x7 x8 0 x102000 x102001 x102002) else ((order_Find.f k x102000 x102001 x102002 x1).bind fun bt108 => (if (bt108.2.2 == x7) = true then (if x6 = (x5.length : Int) then ((backhaullaw26_awake.f).bind fun t111 => (if t111 = true then (some true) else (some false))) else (some false)) else (some false)))
def backhaullaw26_OrderFinds.l1 : Nat → ByteArray → List ByteArray → Int → Bool → Int → Int → Int → Int → List (S71) → Option (Bool)
  | 0, _, _, _, _, _, _, _, _, _ => none
  | k + 1, x1, x5, x6, x7, x8, x9, x102000, x102001, x102002 => if 0 ≤ x8 then (if x8 < (x102002.length : Int) then (if x9 < (((rd_T71 x102002 x8).f4).length : Int) then (if 0 ≤ x9 then ((order_Find.f k x102000 x102001 x102002 (rdOf ByteArray.empty ((rd_T71 x102002 x8).f4) x9)).bind fun bt115 => (if bt115.1 = x8 then (if bt115.2.1 = x9 then (if bt115.2.2 = true then (if x6 ≥ (x5.length : Int) then (some false) else (if 0 ≤ x6 then (if x6 < (x5.length : Int) then (if (rdOf ByteArray.empty x5 x6).toList = (rdOf ByteArray.empty ((rd_T71 x102002 x8).f4) x9).toList then (if x7 = true then (backhaullaw26_OrderFinds.l1 k x1 x5 (wrap64 (x6 + 1)) true x8 (wrap64 (x9 + 1)) x102000 x102001 x102002) else (backhaullaw26_OrderFinds.l1 k x1 x5 (wrap64 (x6 + 1)) ((rdOf ByteArray.empty ((rd_T71 x102002 x8).f4) x9).toList == x1.toList) x8 (wrap64 (x9 + 1)) x102000 x102001 x102002)) else (some false)) else (none)) else (none))) else (some false)) else (some false)) else (some false))) else (none)) else (backhaullaw26_OrderFinds.l0 k x1 x5 x6 x7 (wrap64 (x8 + 1)) x102000 x102001 x102002)) else (none)) else (none)
end
def backhaullaw26_OrderFinds.f (k : Nat) (a0_0 : Int) (a0_1 : Int) (l0_2 : List (S71)) (a1 : ByteArray) : Option (Bool) := (backhaullaw21_Few.f k l0_2).bind fun t102 => (if t102 = true then (if (a1.size : Int) > 200 then (backhaullaw26_OrderFinds.j0 k a1 true a0_0 a0_1 l0_2) else ((order_Check.f k a0_0 a0_1 l0_2).bind fun t103 => (backhaullaw26_OrderFinds.j0 k a1 (t103 != 0) a0_0 a0_1 l0_2))) else (backhaullaw26_OrderFinds.j0 k a1 true a0_0 a0_1 l0_2))
theorem backhaullaw26_OrderFinds.mono_l : ∀ k, (∀ y0 y1 y2 y3 y4, LeO (backhaullaw26_OrderFinds.j0 k y0 y1 y2 y3 y4) (backhaullaw26_OrderFinds.j0 (k + 1) y0 y1 y2 y3 y4)) ∧ (∀ y0 y1 y2 y3 y4 y5 y6 y7, LeO (backhaullaw26_OrderFinds.l0 k y0 y1 y2 y3 y4 y5 y6 y7) (backhaullaw26_OrderFinds.l0 (k + 1) y0 y1 y2 y3 y4 y5 y6 y7)) ∧ (∀ y0 y1 y2 y3 y4 y5 y6 y7 y8, LeO (backhaullaw26_OrderFinds.l1 k y0 y1 y2 y3 y4 y5 y6 y7 y8) (backhaullaw26_OrderFinds.l1 (k + 1) y0 y1 y2 y3 y4 y5 y6 y7 y8))
  | 0 => ⟨fun _ _ _ _ _ r h => by simp [backhaullaw26_OrderFinds.j0] at h, fun _ _ _ _ _ _ _ _ r h => by simp [backhaullaw26_OrderFinds.l0] at h, fun _ _ _ _ _ _ _ _ _ r h => by simp [backhaullaw26_OrderFinds.l1] at h⟩
  | k + 1 => by
    obtain ⟨ih0, ih1, ih2⟩ := backhaullaw26_OrderFinds.mono_l k
    refine ⟨?_, ?_, ?_⟩
    · intro y0 y1 y2 y3 y4
      unfold backhaullaw26_OrderFinds.j0
      repeat' first
      | (with_reducible exact ih0 _ _ _ _ _)
      | (with_reducible exact ih1 _ _ _ _ _ _ _ _)
      | (with_reducible exact ih2 _ _ _ _ _ _ _ _ _)
      | (with_reducible exact backhaullaw21_Few.mono _ _)
      | (with_reducible exact order_Check.mono _ _ _ _)
      | (with_reducible exact order_Find.mono _ _ _ _ _)
      | (with_reducible exact order_Serials.mono _ _ _ _)
      | (with_reducible exact LeO.refl _)
      | (with_reducible exact LeO.none _)
      | (with_reducible refine LeO.ite ?_ ?_)
      | (with_reducible refine LeO.bind ?_ (fun _ => ?_))
      | exact ih0 _ _ _ _ _
      | exact ih1 _ _ _ _ _ _ _ _
      | exact ih2 _ _ _ _ _ _ _ _ _
      | exact backhaullaw21_Few.mono _ _
      | exact order_Check.mono _ _ _ _
      | exact order_Find.mono _ _ _ _ _
      | exact order_Serials.mono _ _ _ _
      | exact LeO.none _
      | refine LeO.ite ?_ ?_
      | refine LeO.bind ?_ (fun _ => ?_)
    · intro y0 y1 y2 y3 y4 y5 y6 y7
      unfold backhaullaw26_OrderFinds.l0
      repeat' first
      | (with_reducible exact ih0 _ _ _ _ _)
      | (with_reducible exact ih1 _ _ _ _ _ _ _ _)
      | (with_reducible exact ih2 _ _ _ _ _ _ _ _ _)
      | (with_reducible exact backhaullaw21_Few.mono _ _)
      | (with_reducible exact order_Check.mono _ _ _ _)
      | (with_reducible exact order_Find.mono _ _ _ _ _)
      | (with_reducible exact order_Serials.mono _ _ _ _)
      | (with_reducible exact LeO.refl _)
      | (with_reducible exact LeO.none _)
      | (with_reducible refine LeO.ite ?_ ?_)
      | (with_reducible refine LeO.bind ?_ (fun _ => ?_))
      | exact ih0 _ _ _ _ _
      | exact ih1 _ _ _ _ _ _ _ _
      | exact ih2 _ _ _ _ _ _ _ _ _
      | exact backhaullaw21_Few.mono _ _
      | exact order_Check.mono _ _ _ _
      | exact order_Find.mono _ _ _ _ _
      | exact order_Serials.mono _ _ _ _
      | exact LeO.none _
      | refine LeO.ite ?_ ?_
      | refine LeO.bind ?_ (fun _ => ?_)
    intro y0 y1 y2 y3 y4 y5 y6 y7 y8
    unfold backhaullaw26_OrderFinds.l1
    repeat' first
    | (with_reducible exact ih0 _ _ _ _ _)
    | (with_reducible exact ih1 _ _ _ _ _ _ _ _)
    | (with_reducible exact ih2 _ _ _ _ _ _ _ _ _)
    | (with_reducible exact backhaullaw21_Few.mono _ _)
    | (with_reducible exact order_Check.mono _ _ _ _)
    | (with_reducible exact order_Find.mono _ _ _ _ _)
    | (with_reducible exact order_Serials.mono _ _ _ _)
    | (with_reducible exact LeO.refl _)
    | (with_reducible exact LeO.none _)
    | (with_reducible refine LeO.ite ?_ ?_)
    | (with_reducible refine LeO.bind ?_ (fun _ => ?_))
    | exact ih0 _ _ _ _ _
    | exact ih1 _ _ _ _ _ _ _ _
    | exact ih2 _ _ _ _ _ _ _ _ _
    | exact backhaullaw21_Few.mono _ _
    | exact order_Check.mono _ _ _ _
    | exact order_Find.mono _ _ _ _ _
    | exact order_Serials.mono _ _ _ _
    | exact LeO.none _
    | refine LeO.ite ?_ ?_
    | refine LeO.bind ?_ (fun _ => ?_)
theorem backhaullaw26_OrderFinds.mono : ∀ a0 a1 a2 a3 k, LeO (backhaullaw26_OrderFinds.f k a0 a1 a2 a3) (backhaullaw26_OrderFinds.f (k + 1) a0 a1 a2 a3) := by
  intro a0 a1 a2 a3 k
  obtain ⟨ih0, ih1, ih2⟩ := backhaullaw26_OrderFinds.mono_l k
  unfold backhaullaw26_OrderFinds.f
  repeat' first
      | (with_reducible exact ih0 _ _ _ _ _)
      | (with_reducible exact ih1 _ _ _ _ _ _ _ _)
      | (with_reducible exact ih2 _ _ _ _ _ _ _ _ _)
      | (with_reducible exact backhaullaw21_Few.mono _ _)
      | (with_reducible exact order_Check.mono _ _ _ _)
      | (with_reducible exact order_Find.mono _ _ _ _ _)
      | (with_reducible exact order_Serials.mono _ _ _ _)
      | (with_reducible exact LeO.refl _)
      | (with_reducible exact LeO.none _)
      | (with_reducible refine LeO.ite ?_ ?_)
      | (with_reducible refine LeO.bind ?_ (fun _ => ?_))
      | exact ih0 _ _ _ _ _
      | exact ih1 _ _ _ _ _ _ _ _
      | exact ih2 _ _ _ _ _ _ _ _ _
      | exact backhaullaw21_Few.mono _ _
      | exact order_Check.mono _ _ _ _
      | exact order_Find.mono _ _ _ _ _
      | exact order_Serials.mono _ _ _ _
      | exact LeO.none _
      | refine LeO.ite ?_ ?_
      | refine LeO.bind ?_ (fun _ => ?_)
set_option maxHeartbeats 8000000 in
set_option maxRecDepth 100000 in
theorem backhaullaw26_OrderFinds.calls (k : Nat) (a0_0 : Int) (a0_1 : Int) (A0_2 : Option Addr) (c0_2 : Nat) (l0_2 : List (S71)) (a1 : ByteArray) (w : World) (hr0_2 : Kd.C k71 w A0_2 l0_2.length l0_2) (hc0_2 : l0_2.length ≤ c0_2) (h : backhaullaw26_OrderFinds.f k a0_0 a0_1 l0_2 a1 = some true) :
    Calls Try.prog 23 #[.agg #[.int .i64 a0_0, .int .i64 a0_1, .slice A0_2 l0_2.length c0_2], .string a1] w fun e w' => e = .returned (.bool true) ∧ Below w.heap.size w w' := by
  have hu99 := Try.underlying99
  have HR0_2 := zA hr0_2
  have HC0_2 := zA hc0_2
  clear hr0_2 hc0_2
  have HB := zA (Below.refl w.heap.size w)
  have H : ((backhaullaw21_Few.f k l0_2).bind fun t102 => (if t102 = true then (if (a1.size : Int) > 200 then (backhaullaw26_OrderFinds.j0 k a1 true a0_0 a0_1 l0_2) else ((order_Check.f k a0_0 a0_1 l0_2).bind fun t103 => (backhaullaw26_OrderFinds.j0 k a1 (t103 != 0) a0_0 a0_1 l0_2))) else (backhaullaw26_OrderFinds.j0 k a1 true a0_0 a0_1 l0_2))) = some true := h
  clear h
  have HC3 := zA H
  clear H
  go_enter Try.func23, Try.ntmps23
  go_upto_region 1 with (first | ((with_reducible refine gate_dst (N := 2) rfl ?_); (try (refine gate_guard (by rfl) ?_; dsimp only)); refine box_event qr (N := 2) qr (cs := #[.int .i64 a0_0, .int .i64 a0_1, .slice A0_2 l0_2.length c0_2]) (t := 99) qg ?_; intro gb101 hg w4 hbox hb; have n0_ := zA (zV qB hb); have n1_ := zA (hbox); have n2_ := zA ((qS : w.heap.size ≤ gb101)); have n3_ := zA ((qS : w.heap.size ≤ gb101)); clear HB; have HB := n0_; have BK101 := n1_; have GW101 := n2_; have GE101 := n3_; clear n0_ n1_ n2_ n3_ hb hbox hg))
  (try simp only [Act.put, zH, zI, zJ])
  go_cut [30] (fun v30 wc => ∃ (kq : Nat) (x30_2 : Bool), v30 = .bool x30_2 ∧ Aside0 (backhaullaw26_OrderFinds.j0 kq a1 x30_2 a0_0 a0_1 l0_2 = some true) ∧ Aside0 (kq ≤ k) ∧ Aside0 (wc.heap[gb101]? = some (.cells #[.int .i64 a0_0, .int .i64 a0_1, (.slice A0_2 l0_2.length c0_2)] 99 (0, 0))) ∧ Aside0 (Below w.heap.size w wc))
  case first =>
    have H := HC3.out; clear HC3; replace H := Option.bind_eq_some_iff.mp H; obtain ⟨t102, A50, H⟩ := H; replace H : (if t102 = true then (if (a1.size : Int) > 200 then (backhaullaw26_OrderFinds.j0 k a1 true a0_0 a0_1 l0_2) else ((order_Check.f k a0_0 a0_1 l0_2).bind fun t103 => (backhaullaw26_OrderFinds.j0 k a1 (t103 != 0) a0_0 a0_1 l0_2))) else (backhaullaw26_OrderFinds.j0 k a1 true a0_0 a0_1 l0_2)) = some true := H; have A5 := zA A50; clear A50; by_cases c6 : t102 = true
    · subst c6
      have H1 : (if (a1.size : Int) > 200 then (backhaullaw26_OrderFinds.j0 k a1 true a0_0 a0_1 l0_2) else ((order_Check.f k a0_0 a0_1 l0_2).bind fun t103 => (backhaullaw26_OrderFinds.j0 k a1 (t103 != 0) a0_0 a0_1 l0_2))) = some true := by first | (rw [if_pos rfl] at H; exact H) | rfl
      clear H; have H := H1; clear H1; by_cases c7 : (a1.size : Int) > 200
      · rw [if_pos c7] at H
        have c7b0 : decide (200 < (a1.size : Int)) = true := zFq c7; have c7b1 : decide (200 < a1.size) = true := zFq (by omega); clear c7; (first | rw [c7b0] | (simp only [i64_w, i32_w]; rw [c7b0]) | skip)
        have H' := zA H; clear H; obtain ⟨_, _, _, _, _, _⟩ := qc3f BK101.out; go_wp2_with (first | ((with_reducible refine zJq (f := 60) rfl ?_); refine goesL_ (some 19) rfl rfl Try.func60 (by kernel_rfl) rfl #[.slice A0_2 l0_2.length c0_2] rfl (by (try simp only [zR, zS, zT]); first | done | rfl | (simp only [zP, zQ]; rfl)) ?_; (with_reducible refine (backhaullaw21_Few.calls k _ _ l0_2 true _ ?side1 ?side2 A5.out).mono ?_); (case side1 => exact qC (Kd.C_below HR0_2.out HB.out)); (case side2 => exact HC0_2.out); rintro e w' ⟨rfl, ⟨nd, rfl⟩⟩; refine ⟨_, rfl, ?_⟩)); go_meet
        case rel => exact ⟨_, (true), (by first | rfl | (simp; done) | (simp [*]; done)), H', ⟨by first | omega | exact Nat.le_refl _⟩, ⟨by exact BK101.out⟩, ⟨qB⟩⟩
      rw [if_neg c7] at H; have c7b0 : decide (200 < (a1.size : Int)) = false := zGq c7; have c7b1 : decide (200 < a1.size) = false := zGq (by omega); clear c7; (first | rw [c7b0] | (simp only [i64_w, i32_w]; rw [c7b0]) | skip)
      replace H := Option.bind_eq_some_iff.mp H; obtain ⟨t103, A90, H⟩ := H; replace H : (backhaullaw26_OrderFinds.j0 k a1 (t103 != 0) a0_0 a0_1 l0_2) = some true := H; have A9 := zA A90; clear A90; have H' := zA H; clear H; obtain ⟨_, _, _, _, _, _⟩ := qc3f BK101.out; go_wp2_with (first | ((with_reducible refine zJq (f := 60) rfl ?_); refine goesL_ (some 19) rfl rfl Try.func60 (by kernel_rfl) rfl #[.slice A0_2 l0_2.length c0_2] rfl (by (try simp only [zR, zS, zT]); first | done | rfl | (simp only [zP, zQ]; rfl)) ?_; (with_reducible refine (backhaullaw21_Few.calls k _ _ l0_2 true _ ?side1 ?side2 A5.out).mono ?_); (case side1 => exact qC (Kd.C_below HR0_2.out HB.out)); (case side2 => exact HC0_2.out); rintro e w' ⟨rfl, ⟨nd, rfl⟩⟩; refine ⟨_, rfl, ?_⟩) | (go_at_call 90; (with_reducible refine (order_Check.calls k a0_0 a0_1 _ _ l0_2 t103 _ ?side1 ?side2 A9.out).mono ?_); (case side1 => exact qC (Kd.C_below HR0_2.out qB)); (case side2 => exact HC0_2.out); rintro e w11 ⟨rfl, hb⟩; have n0_ := zA (qX BK101.out hb); have n1_ := zA (zV qB hb); clear BK101 HB; have BK101 := n0_; have HB := n1_; clear n0_ n1_; (try clear hb); (try clear hb2); (try clear hk); (try clear hi))); go_meet
      case rel => exact ⟨_, ((t103 != 0)), (by first | rfl | (simp; done) | (simp [*]; done)), H', ⟨by first | omega | exact Nat.le_refl _⟩, ⟨by exact BK101.out⟩, ⟨qB⟩⟩
    replace c6 := Bool.eq_false_iff.mpr c6; subst c6; have H1 : (backhaullaw26_OrderFinds.j0 k a1 true a0_0 a0_1 l0_2) = some true := by first | (rw [if_neg (show ¬ (false = true) by decide)] at H; exact H) | rfl
    clear H; have H := H1; clear H1; have H' := zA H; clear H; obtain ⟨_, _, _, _, _, _⟩ := qc3f BK101.out; go_wp2_with (first | ((with_reducible refine zJq (f := 60) rfl ?_); refine goesL_ (some 19) rfl rfl Try.func60 (by kernel_rfl) rfl #[.slice A0_2 l0_2.length c0_2] rfl (by (try simp only [zR, zS, zT]); first | done | rfl | (simp only [zP, zQ]; rfl)) ?_; (with_reducible refine (backhaullaw21_Few.calls k _ _ l0_2 false _ ?side1 ?side2 A5.out).mono ?_); (case side1 => exact qC (Kd.C_below HR0_2.out HB.out)); (case side2 => exact HC0_2.out); rintro e w' ⟨rfl, ⟨nd, rfl⟩⟩; refine ⟨_, rfl, ?_⟩)); go_meet
    case rel => exact ⟨_, (true), (by first | rfl | (simp; done) | (simp [*]; done)), H', ⟨by first | omega | exact Nat.le_refl _⟩, ⟨by exact BK101.out⟩, ⟨qB⟩⟩
  case rest =>
    clear HC3; try clear c2
    try clear p2
    try clear c6
    try clear c7
    try clear c7b0
    try clear c7b1
    obtain ⟨kq, x30_2, rfl, HA, HJ2, BK101, HB⟩ := hcut; cases kq with
    | zero => exact absurd HA.out (by simp [backhaullaw26_OrderFinds.j0])
    | succ kj2 =>
      have H := HA.out; clear HA; simp only [backhaullaw26_OrderFinds.j0] at H; by_cases c13 : x30_2 = true
      · subst c13
        have H1 : ((backhaullaw26_awake.f).bind fun t104 => (if t104 = true then (some true) else (some false))) = some true := by first | (rw [if_pos rfl] at H; exact H) | rfl
        clear H; have H := H1; clear H1; replace H := Option.bind_eq_some_iff.mp H; obtain ⟨t104, A140, H⟩ := H; replace H : (if t104 = true then (some true) else (some false)) = some true := H; have A14 := zA A140; clear A140; by_cases c15 : t104 = true
        · subst c15
          have H1 : (some true) = some true := by first | (rw [if_pos rfl] at H; exact H) | rfl
          clear H; have H := H1; clear H1; clear H; go_wp2_with (first | ((with_reducible refine zJq (f := 82) rfl ?_); refine goesL_ (some 31) rfl rfl Try.func82 (by kernel_rfl) rfl #[] rfl (by (try simp only [zR, zS, zT]); first | done | rfl | (simp only [zP, zQ]; rfl)) ?_; (with_reducible refine (backhaullaw26_awake.calls  true _ A14.out).mono ?_); rintro e w16 ⟨rfl, hb⟩; refine ⟨_, rfl, ?_⟩; have n0_ := zA (qX BK101.out hb); have n1_ := zA (zV qB hb); clear BK101 HB; have BK101 := n0_; have HB := n1_; clear n0_ n1_; (try clear hb); (try clear hb2); (try clear hk); (try clear hi))); go_ret; exact ⟨qE, qB⟩
        replace c15 := Bool.eq_false_iff.mpr c15; subst c15; have H1 : (some false) = some true := by first | (rw [if_neg (show ¬ (false = true) by decide)] at H; exact H) | rfl
        clear H; have H := H1; clear H1; exact absurd H (by simp)
      replace c13 := Bool.eq_false_iff.mpr c13; subst c13; have H1 : ((order_Serials.f kj2 a0_0 a0_1 l0_2).bind fun t105 => (backhaullaw26_OrderFinds.l0 kj2 a1 t105 0 false 0 a0_0 a0_1 l0_2)) = some true := by first | (rw [if_neg (show ¬ (false = true) by decide)] at H; exact H) | rfl
      clear H; have H := H1; clear H1; replace H := Option.bind_eq_some_iff.mp H; obtain ⟨t105, A170, H⟩ := H; replace H : (backhaullaw26_OrderFinds.l0 kj2 a1 t105 0 false 0 a0_0 a0_1 l0_2) = some true := H; have A17 := zA A170; clear A170; have H' := zA H; clear H; obtain ⟨_, _, _, _, _, _⟩ := qc3f BK101.out; go_wp2_with (first | ((with_reducible refine zJq (f := 93) rfl ?_); refine goesL_ (some 33) rfl rfl Try.func93 (by kernel_rfl) rfl #[.agg #[.int .i64 a0_0, .int .i64 a0_1, .slice A0_2 l0_2.length c0_2]] rfl (by (try simp only [zR, zS, zT]); first | done | rfl | (simp only [zP, zQ]; rfl)) ?_; (with_reducible refine (order_Serials.calls kj2 a0_0 a0_1 _ _ l0_2 t105 _ ?side1 ?side2 A17.out).mono ?_); (case side1 => exact qC (Kd.C_below HR0_2.out HB.out)); (case side2 => exact HC0_2.out); rintro e w19 ⟨v106, rfl, ho0, hb⟩; refine ⟨_, rfl, ?_⟩; have n0_ := zA (Kd.R_lower ho0 (zW qB)); have n1_ := zA (qX BK101.out hb); have n2_ := zA (zV qB hb); clear BK101 HB; have HO107 := n0_; have BK101 := n1_; have HB := n2_; clear n0_ n1_ n2_; (try clear hb); (try clear hb2); (try clear hk); (try clear hi); (try clear ho0))); go_loopg [6, 7, 8] kj2 (fun kq v6 v7 v8 w' => ∃ (x6_2 : Int) (x7_2 : Bool) (x8_2 : Int), v6 = .int .i64 x6_2 ∧ v7 = .bool x7_2 ∧ v8 = .int .i64 x8_2 ∧ Aside0 (backhaullaw26_OrderFinds.l0 kq a1 t105 x6_2 x7_2 x8_2 a0_0 a0_1 l0_2 = some true) ∧ Aside0 (kq ≤ kj2) ∧ Aside0 (Kd.R Kd.string 9 w' w.heap.size (fun _ => True) v106 t105) ∧ Aside0 (w'.heap[gb101]? = some (.cells #[.int .i64 a0_0, .int .i64 a0_1, (.slice A0_2 l0_2.length c0_2)] 99 (0, 0))) ∧ Aside0 (Below w.heap.size w w'))
      case atStart => exact ⟨(0), (false), (0), (by first | rfl | (simp; done) | (simp [*]; done)), (by first | rfl | (simp; done) | (simp [*]; done)), (by first | rfl | (simp; done) | (simp [*]; done)), H', ⟨Nat.le_refl _⟩, ⟨by (with_reducible repeat (first | apply Kd.R_alloc | apply Kd.R_drewN | apply Kd.R_drew)); exact HO107.out⟩, ⟨by exact BK101.out⟩, ⟨qB⟩⟩
      case round =>
        clear H'; try clear c1
        try clear c2
        try clear p2
        try clear c6
        try clear c7
        try clear c7b0
        try clear c7b1
        try clear c8
        try clear c9
        try clear c13
        try clear c15
        try clear p2
        obtain ⟨x6_2, x7_2, x8_2, rfl, rfl, rfl, HA, HK2, HO_5, BK101, HB⟩ := hrel; cases gk with
        | zero => exact absurd HA.out (by simp [backhaullaw26_OrderFinds.l0])
        | succ k2 =>
          have H := HA.out; clear HA; simp only [backhaullaw26_OrderFinds.l0] at H; by_cases c20 : x8_2 < (l0_2.length : Int)
          · rw [if_pos c20] at H
            have c20b0 : decide (x8_2 < (l0_2.length : Int)) = true := zFq c20; clear c20; have H' := zA H; clear H; obtain ⟨_, _, _, _, _, _⟩ := qc3f BK101.out; go_wp2; go_loopg [6, 7, 9] k2 (fun kq v6 v7 v9 w' => ∃ (x6_3 : Int) (x7_3 : Bool) (x9_3 : Int), v6 = .int .i64 x6_3 ∧ v7 = .bool x7_3 ∧ v9 = .int .i64 x9_3 ∧ Aside0 (backhaullaw26_OrderFinds.l1 kq a1 t105 x6_3 x7_3 x8_2 x9_3 a0_0 a0_1 l0_2 = some true) ∧ Aside0 (kq ≤ k2) ∧ Aside0 (Kd.R Kd.string 9 w' w.heap.size (fun _ => True) v106 t105) ∧ Aside0 (w'.heap[gb101]? = some (.cells #[.int .i64 a0_0, .int .i64 a0_1, (.slice A0_2 l0_2.length c0_2)] 99 (0, 0))) ∧ Aside0 (Below w.heap.size w w'))
            case atStart => exact ⟨(x6_2), (x7_2), (0), (by first | rfl | (simp; done) | (simp [*]; done)), (by first | rfl | (simp; done) | (simp [*]; done)), (by first | rfl | (simp; done) | (simp [*]; done)), H', ⟨Nat.le_refl _⟩, ⟨by (with_reducible repeat (first | apply Kd.R_alloc | apply Kd.R_drewN | apply Kd.R_drew)); exact HO_5.out⟩, ⟨by exact BK101.out⟩, ⟨qB⟩⟩
            case round =>
              clear H'; try clear c1
              try clear c2
              try clear p2
              try clear c6
              try clear c7
              try clear c7b0
              try clear c7b1
              try clear c8
              try clear c9
              try clear c13
              try clear c15
              try clear c20
              try clear c20b0
              try clear p2
              obtain ⟨x6_3, x7_3, x9_3, rfl, rfl, rfl, HA, HK3, HO_5, BK101, HB⟩ := hrel; cases gk with
              | zero => exact absurd HA.out (by simp [backhaullaw26_OrderFinds.l1])
              | succ k3 =>
                have H := HA.out; clear HA; simp only [backhaullaw26_OrderFinds.l1] at H; by_cases c22 : 0 ≤ x8_2
                · rw [if_pos c22] at H
                  have c22b0 : decide (0 ≤ x8_2) = true := zFq c22; clear c22; by_cases c23 : x8_2 < (l0_2.length : Int)
                  · rw [if_pos c23] at H
                    have c23b0 : decide (x8_2 < (l0_2.length : Int)) = true := zFq c23; clear c23; by_cases c24 : x9_3 < (((rd_T71 l0_2 x8_2).f4).length : Int)
                    · rw [if_pos c24] at H
                      have c24b0 : decide (x9_3 < (((rd_T71 l0_2 x8_2).f4).length : Int)) = true := zFq c24; clear c24; by_cases c25 : 0 ≤ x9_3
                      · rw [if_pos c25] at H
                        have c25b0 : decide (0 ≤ x9_3) = true := zFq c25; clear c25; replace H := Option.bind_eq_some_iff.mp H; obtain ⟨⟨t115, t116, t117⟩, A260, H⟩ := H; replace H : (if t115 = x8_2 then (if t116 = x9_3 then (if t117 = true then (if x6_3 ≥ (t105.length : Int) then (some false) else (if 0 ≤ x6_3 then (if x6_3 < (t105.length : Int) then (if (rdOf ByteArray.empty t105 x6_3).toList = (rdOf ByteArray.empty ((rd_T71 l0_2 x8_2).f4) x9_3).toList then (if x7_3 = true then (backhaullaw26_OrderFinds.l1 k3 a1 t105 (wrap64 (x6_3 + 1)) true x8_2 (wrap64 (x9_3 + 1)) a0_0 a0_1 l0_2) else (backhaullaw26_OrderFinds.l1 k3 a1 t105 (wrap64 (x6_3 + 1)) ((rdOf ByteArray.empty ((rd_T71 l0_2 x8_2).f4) x9_3).toList == a1.toList) x8_2 (wrap64 (x9_3 + 1)) a0_0 a0_1 l0_2)) else (some false)) else (none)) else (none))) else (some false)) else (some false)) else (some false)) = some true := H; have A26 := zA A260; clear A260; by_cases c27 : t115 = x8_2
                        · rw [if_pos c27] at H
                          have c27b0 : (t115 == x8_2) = true := beq_iff_eq.mpr c27; have c27b1 : (t115 != x8_2) = false := bne_eq_false_iff_eq.mpr c27; clear c27; by_cases c28 : t116 = x9_3
                          · rw [if_pos c28] at H
                            have c28b0 : (t116 == x9_3) = true := beq_iff_eq.mpr c28; have c28b1 : (t116 != x9_3) = false := bne_eq_false_iff_eq.mpr c28; clear c28; by_cases c29 : t117 = true
                            · subst c29
                              have H1 : (if x6_3 ≥ (t105.length : Int) then (some false) else (if 0 ≤ x6_3 then (if x6_3 < (t105.length : Int) then (if (rdOf ByteArray.empty t105 x6_3).toList = (rdOf ByteArray.empty ((rd_T71 l0_2 x8_2).f4) x9_3).toList then (if x7_3 = true then (backhaullaw26_OrderFinds.l1 k3 a1 t105 (wrap64 (x6_3 + 1)) true x8_2 (wrap64 (x9_3 + 1)) a0_0 a0_1 l0_2) else (backhaullaw26_OrderFinds.l1 k3 a1 t105 (wrap64 (x6_3 + 1)) ((rdOf ByteArray.empty ((rd_T71 l0_2 x8_2).f4) x9_3).toList == a1.toList) x8_2 (wrap64 (x9_3 + 1)) a0_0 a0_1 l0_2)) else (some false)) else (none)) else (none))) = some true := by first | (rw [if_pos rfl] at H; exact H) | rfl
                              clear H; have H := H1; clear H1; by_cases c30 : x6_3 ≥ (t105.length : Int)
                              · rw [if_pos c30] at H
                                have c30b0 : decide ((t105.length : Int) ≤ x6_3) = true := zFq c30; clear c30; exact absurd H (by simp)
                              rw [if_neg c30] at H; have c30b0 : decide ((t105.length : Int) ≤ x6_3) = false := zGq c30; clear c30; by_cases c31 : 0 ≤ x6_3
                              · rw [if_pos c31] at H
                                have c31b0 : decide (0 ≤ x6_3) = true := zFq c31; clear c31; by_cases c32 : x6_3 < (t105.length : Int)
                                · rw [if_pos c32] at H
                                  have c32b0 : decide (x6_3 < (t105.length : Int)) = true := zFq c32; clear c32; by_cases c33 : (rdOf ByteArray.empty t105 x6_3).toList = (rdOf ByteArray.empty ((rd_T71 l0_2 x8_2).f4) x9_3).toList
                                  · rw [if_pos c33] at H
                                    have c33b0 : ((rdOf ByteArray.empty t105 x6_3).toList == (rdOf ByteArray.empty ((rd_T71 l0_2 x8_2).f4) x9_3).toList) = true := beq_iff_eq.mpr c33; have c33b1 : ((rdOf ByteArray.empty t105 x6_3).toList != (rdOf ByteArray.empty ((rd_T71 l0_2 x8_2).f4) x9_3).toList) = false := bne_eq_false_iff_eq.mpr c33; clear c33; by_cases c34 : x7_3 = true
                                    · subst c34
                                      have H1 : (backhaullaw26_OrderFinds.l1 k3 a1 t105 (wrap64 (x6_3 + 1)) true x8_2 (wrap64 (x9_3 + 1)) a0_0 a0_1 l0_2) = some true := by first | (rw [if_pos rfl] at H; exact H) | rfl
                                      clear H; have H := H1; clear H1; have H' := zA H; clear H; obtain ⟨_, _, _, _, _, _⟩ := qc3f BK101.out; have p112 : 0 ≤ (x8_2 : Int) := of_decide_eq_true qA; have q112 : x8_2 < (l0_2.length : Int) := of_decide_eq_true qA; obtain ⟨ad112, A112_4, c112_4, e112, hx112_0, hx112_1, hx112_2, hx112_3, hx112_4, hl112_4, hi112_4⟩ := at_T71 HR0_2.out x8_2 p112 q112; cases e112
                                      replace hx112_0 := (HB.out.cell (zCq w _ hx112_0)).trans hx112_0; replace hx112_1 := (HB.out.cell (zCq w _ hx112_1)).trans hx112_1; replace hx112_2 := (HB.out.cell (zCq w _ hx112_2)).trans hx112_2; replace hx112_3 := (HB.out.cell (zCq w _ hx112_3)).trans hx112_3; replace hx112_4 := (HB.out.cell (zCq w _ hx112_4)).trans hx112_4; have HR112_4 := zA hi112_4; have HC112_4 := zA hl112_4; clear hi112_4 hl112_4; replace p112 := eq_true p112; replace q112 := eq_true q112; have p113 : 0 ≤ (x8_2 : Int) := of_decide_eq_true qA; have q113 : x8_2 < (l0_2.length : Int) := of_decide_eq_true qA; obtain ⟨ad113, A113_4, c113_4, e113, hx113_0, hx113_1, hx113_2, hx113_3, hx113_4, hl113_4, hi113_4⟩ := at_T71 HR0_2.out x8_2 p113 q113; obtain rfl : ad112 = ad113 := (by injection e113)
                                      replace hx113_0 := (HB.out.cell (zCq w _ hx113_0)).trans hx113_0; replace hx113_1 := (HB.out.cell (zCq w _ hx113_1)).trans hx113_1; replace hx113_2 := (HB.out.cell (zCq w _ hx113_2)).trans hx113_2; replace hx113_3 := (HB.out.cell (zCq w _ hx113_3)).trans hx113_3; replace hx113_4 := (HB.out.cell (zCq w _ hx113_4)).trans hx113_4; have HR113_4 := zA hi113_4; have HC113_4 := zA hl113_4; clear hi113_4 hl113_4; replace p113 := eq_true p113; replace q113 := eq_true q113; have ea_ := zKq (hx112_4.symm.trans hx113_4); injection ea_ with ea_ en_ ec_
                                      subst ea_; subst ec_; clear en_; have p114 : 0 ≤ (x9_3 : Int) := of_decide_eq_true qA; have q114 : x9_3 < (((rd_T71 l0_2 x8_2).f4).length : Int) := of_decide_eq_true qA; obtain ⟨ad114, e114, hx114_0⟩ := Kd.at_string HR113_4.out x9_3 p114 q114; cases e114
                                      replace hx114_0 := (HB.out.cell (zCq w _ hx114_0)).trans hx114_0; replace p114 := eq_true p114; replace q114 := eq_true q114; go_wp2_with (first | ((with_reducible refine zJq (f := 86) rfl ?_); refine goesL_ (some 64) rfl rfl Try.func86 (by kernel_rfl) rfl #[.agg #[.int .i64 a0_0, .int .i64 a0_1, .slice (some ad112) l0_2.length c0_2], .string (rdOf ByteArray.empty ((rd_T71 l0_2 x8_2).f4) x9_3)] rfl (by (try simp only [zR, zS, zT]); first | done | rfl | (simp only [zP, zQ]; rfl)) ?_; (with_reducible refine (order_Find.calls k3 a0_0 a0_1 _ _ l0_2 (rdOf ByteArray.empty ((rd_T71 l0_2 x8_2).f4) x9_3) t115 t116 true _ ?side1 ?side2 A26.out).mono ?_); (case side1 => exact qC (Kd.C_below HR0_2.out HB.out)); (case side2 => exact HC0_2.out); rintro e w36 ⟨rfl, hb⟩; refine ⟨_, rfl, ?_⟩; have n0_ := zA (Kd.R_below (by (with_reducible repeat (first | apply Kd.R_alloc | apply Kd.R_drewN | apply Kd.R_drew)); exact HO_5.out) hb); have n1_ := zA (qX BK101.out hb); have n2_ := zA (zV qB hb); clear HO_5 BK101 HB; have HO_5 := n0_; have BK101 := n1_; have HB := n2_; clear n0_ n1_ n2_; (try clear hb); (try clear hb2); (try clear hk); (try clear hi); obtain ⟨Ao37, co37, eo37⟩ := Kd.R_slice HO_5.out; subst eo37; have p118 : 0 ≤ (x6_3 : Int) := of_decide_eq_true qA; have q118 : x6_3 < (t105.length : Int) := of_decide_eq_true qA; obtain ⟨ad118, e118, hx118_0⟩ := Kd.at_string (Kd.R_reads' HO_5.out).2.2 x6_3 p118 q118; cases e118; replace p118 := eq_true p118; replace q118 := eq_true q118)); go_roundg k3
                                      case measure => have := HJ2.out; have := HK2.out; have := HK3.out; omega
                                      case rel => exact ⟨(wrap64 (x6_3 + 1)), (true), (wrap64 (x9_3 + 1)), (by first | rfl | (simp; done) | (simp [*]; done)), (by first | rfl | (simp; done) | (simp [*]; done)), (by first | rfl | (simp; done) | (simp [*]; done)), H', ⟨by have := HJ2.out; have := HK2.out; have := HK3.out; omega⟩, ⟨by (with_reducible repeat (first | apply Kd.R_alloc | apply Kd.R_drewN | apply Kd.R_drew)); exact HO_5.out⟩, ⟨by exact BK101.out⟩, ⟨qB⟩⟩
                                    replace c34 := Bool.eq_false_iff.mpr c34; subst c34; have H1 : (backhaullaw26_OrderFinds.l1 k3 a1 t105 (wrap64 (x6_3 + 1)) ((rdOf ByteArray.empty ((rd_T71 l0_2 x8_2).f4) x9_3).toList == a1.toList) x8_2 (wrap64 (x9_3 + 1)) a0_0 a0_1 l0_2) = some true := by first | (rw [if_neg (show ¬ (false = true) by decide)] at H; exact H) | rfl
                                    clear H; have H := H1; clear H1; have H' := zA H; clear H; obtain ⟨_, _, _, _, _, _⟩ := qc3f BK101.out; have p112 : 0 ≤ (x8_2 : Int) := of_decide_eq_true qA; have q112 : x8_2 < (l0_2.length : Int) := of_decide_eq_true qA; obtain ⟨ad112, A112_4, c112_4, e112, hx112_0, hx112_1, hx112_2, hx112_3, hx112_4, hl112_4, hi112_4⟩ := at_T71 HR0_2.out x8_2 p112 q112; cases e112
                                    replace hx112_0 := (HB.out.cell (zCq w _ hx112_0)).trans hx112_0; replace hx112_1 := (HB.out.cell (zCq w _ hx112_1)).trans hx112_1; replace hx112_2 := (HB.out.cell (zCq w _ hx112_2)).trans hx112_2; replace hx112_3 := (HB.out.cell (zCq w _ hx112_3)).trans hx112_3; replace hx112_4 := (HB.out.cell (zCq w _ hx112_4)).trans hx112_4; have HR112_4 := zA hi112_4; have HC112_4 := zA hl112_4; clear hi112_4 hl112_4; replace p112 := eq_true p112; replace q112 := eq_true q112; have p113 : 0 ≤ (x8_2 : Int) := of_decide_eq_true qA; have q113 : x8_2 < (l0_2.length : Int) := of_decide_eq_true qA; obtain ⟨ad113, A113_4, c113_4, e113, hx113_0, hx113_1, hx113_2, hx113_3, hx113_4, hl113_4, hi113_4⟩ := at_T71 HR0_2.out x8_2 p113 q113; obtain rfl : ad112 = ad113 := (by injection e113)
                                    replace hx113_0 := (HB.out.cell (zCq w _ hx113_0)).trans hx113_0; replace hx113_1 := (HB.out.cell (zCq w _ hx113_1)).trans hx113_1; replace hx113_2 := (HB.out.cell (zCq w _ hx113_2)).trans hx113_2; replace hx113_3 := (HB.out.cell (zCq w _ hx113_3)).trans hx113_3; replace hx113_4 := (HB.out.cell (zCq w _ hx113_4)).trans hx113_4; have HR113_4 := zA hi113_4; have HC113_4 := zA hl113_4; clear hi113_4 hl113_4; replace p113 := eq_true p113; replace q113 := eq_true q113; have ea_ := zKq (hx112_4.symm.trans hx113_4); injection ea_ with ea_ en_ ec_
                                    subst ea_; subst ec_; clear en_; have p114 : 0 ≤ (x9_3 : Int) := of_decide_eq_true qA; have q114 : x9_3 < (((rd_T71 l0_2 x8_2).f4).length : Int) := of_decide_eq_true qA; obtain ⟨ad114, e114, hx114_0⟩ := Kd.at_string HR113_4.out x9_3 p114 q114; cases e114
                                    replace hx114_0 := (HB.out.cell (zCq w _ hx114_0)).trans hx114_0; replace p114 := eq_true p114; replace q114 := eq_true q114; go_wp2_with (first | ((with_reducible refine zJq (f := 86) rfl ?_); refine goesL_ (some 64) rfl rfl Try.func86 (by kernel_rfl) rfl #[.agg #[.int .i64 a0_0, .int .i64 a0_1, .slice (some ad112) l0_2.length c0_2], .string (rdOf ByteArray.empty ((rd_T71 l0_2 x8_2).f4) x9_3)] rfl (by (try simp only [zR, zS, zT]); first | done | rfl | (simp only [zP, zQ]; rfl)) ?_; (with_reducible refine (order_Find.calls k3 a0_0 a0_1 _ _ l0_2 (rdOf ByteArray.empty ((rd_T71 l0_2 x8_2).f4) x9_3) t115 t116 true _ ?side1 ?side2 A26.out).mono ?_); (case side1 => exact qC (Kd.C_below HR0_2.out HB.out)); (case side2 => exact HC0_2.out); rintro e w39 ⟨rfl, hb⟩; refine ⟨_, rfl, ?_⟩; have n0_ := zA (Kd.R_below (by (with_reducible repeat (first | apply Kd.R_alloc | apply Kd.R_drewN | apply Kd.R_drew)); exact HO_5.out) hb); have n1_ := zA (qX BK101.out hb); have n2_ := zA (zV qB hb); clear HO_5 BK101 HB; have HO_5 := n0_; have BK101 := n1_; have HB := n2_; clear n0_ n1_ n2_; (try clear hb); (try clear hb2); (try clear hk); (try clear hi); obtain ⟨Ao40, co40, eo40⟩ := Kd.R_slice HO_5.out; subst eo40; have p118 : 0 ≤ (x6_3 : Int) := of_decide_eq_true qA; have q118 : x6_3 < (t105.length : Int) := of_decide_eq_true qA; obtain ⟨ad118, e118, hx118_0⟩ := Kd.at_string (Kd.R_reads' HO_5.out).2.2 x6_3 p118 q118; cases e118; replace p118 := eq_true p118; replace q118 := eq_true q118)); go_roundg k3
                                    case measure => have := HJ2.out; have := HK2.out; have := HK3.out; omega
                                    case rel => exact ⟨(wrap64 (x6_3 + 1)), (((rdOf ByteArray.empty ((rd_T71 l0_2 x8_2).f4) x9_3).toList == a1.toList)), (wrap64 (x9_3 + 1)), (by first | rfl | (simp; done) | (simp [*]; done)), (by first | rfl | (simp; done) | (simp [*]; done)), (by first | rfl | (simp; done) | (simp [*]; done)), H', ⟨by have := HJ2.out; have := HK2.out; have := HK3.out; omega⟩, ⟨by (with_reducible repeat (first | apply Kd.R_alloc | apply Kd.R_drewN | apply Kd.R_drew)); exact HO_5.out⟩, ⟨by exact BK101.out⟩, ⟨qB⟩⟩
                                  rw [if_neg c33] at H; have c33b0 : ((rdOf ByteArray.empty t105 x6_3).toList == (rdOf ByteArray.empty ((rd_T71 l0_2 x8_2).f4) x9_3).toList) = false := beq_eq_false_iff_ne.mpr c33; have c33b1 : ((rdOf ByteArray.empty t105 x6_3).toList != (rdOf ByteArray.empty ((rd_T71 l0_2 x8_2).f4) x9_3).toList) = true := bne_iff_ne.mpr c33; exact absurd H (by simp)
                                rw [if_neg c32] at H; exact absurd H (by simp)
                              rw [if_neg c31] at H; exact absurd H (by simp)
                            replace c29 := Bool.eq_false_iff.mpr c29; subst c29; have H1 : (some false) = some true := by first | (rw [if_neg (show ¬ (false = true) by decide)] at H; exact H) | rfl
                            clear H; have H := H1; clear H1; exact absurd H (by simp)
                          rw [if_neg c28] at H; have c28b0 : (t116 == x9_3) = false := beq_eq_false_iff_ne.mpr c28; have c28b1 : (t116 != x9_3) = true := bne_iff_ne.mpr c28; exact absurd H (by simp)
                        rw [if_neg c27] at H; have c27b0 : (t115 == x8_2) = false := beq_eq_false_iff_ne.mpr c27; have c27b1 : (t115 != x8_2) = true := bne_iff_ne.mpr c27; exact absurd H (by simp)
                      rw [if_neg c25] at H; exact absurd H (by simp)
                    rw [if_neg c24] at H; have c24b0 : decide (x9_3 < (((rd_T71 l0_2 x8_2).f4).length : Int)) = false := zGq c24; clear c24; have H' := zA H; clear H; obtain ⟨_, _, _, _, _, _⟩ := qc3f BK101.out; have p112 : 0 ≤ (x8_2 : Int) := of_decide_eq_true qA; have q112 : x8_2 < (l0_2.length : Int) := of_decide_eq_true qA; obtain ⟨ad112, A112_4, c112_4, e112, hx112_0, hx112_1, hx112_2, hx112_3, hx112_4, hl112_4, hi112_4⟩ := at_T71 HR0_2.out x8_2 p112 q112; cases e112
                    replace hx112_0 := (HB.out.cell (zCq w _ hx112_0)).trans hx112_0; replace hx112_1 := (HB.out.cell (zCq w _ hx112_1)).trans hx112_1; replace hx112_2 := (HB.out.cell (zCq w _ hx112_2)).trans hx112_2; replace hx112_3 := (HB.out.cell (zCq w _ hx112_3)).trans hx112_3; replace hx112_4 := (HB.out.cell (zCq w _ hx112_4)).trans hx112_4; have HR112_4 := zA hi112_4; have HC112_4 := zA hl112_4; clear hi112_4 hl112_4; replace p112 := eq_true p112; replace q112 := eq_true q112; go_wp2; go_roundg k3
                    case measure => have := HJ2.out; have := HK2.out; have := HK3.out; omega
                    case rel => exact ⟨(x6_3), (x7_3), (wrap64 (x8_2 + 1)), (by first | rfl | (simp; done) | (simp [*]; done)), (by first | rfl | (simp; done) | (simp [*]; done)), (by first | rfl | (simp; done) | (simp [*]; done)), H', ⟨by have := HJ2.out; have := HK2.out; have := HK3.out; omega⟩, ⟨by (with_reducible repeat (first | apply Kd.R_alloc | apply Kd.R_drewN | apply Kd.R_drew)); exact HO_5.out⟩, ⟨by exact BK101.out⟩, ⟨qB⟩⟩
                  rw [if_neg c23] at H; exact absurd H (by simp)
                rw [if_neg c22] at H; exact absurd H (by simp)
          rw [if_neg c20] at H; have c20b0 : decide (x8_2 < (l0_2.length : Int)) = false := zGq c20; clear c20; replace H := Option.bind_eq_some_iff.mp H; obtain ⟨⟨t108, t109, t110⟩, A420, H⟩ := H; replace H : (if (t110 == x7_2) = true then (if x6_2 = (t105.length : Int) then ((backhaullaw26_awake.f).bind fun t111 => (if t111 = true then (some true) else (some false))) else (some false)) else (some false)) = some true := H; have A42 := zA A420; clear A420; by_cases c43 : (t110 == x7_2) = true
          · rw [if_pos c43] at H
            have c43b0 : (t110 == x7_2) = true := c43; (try (have c43b1 : decide (t110 = x7_2) = true := by simpa using c43))
            (try (have c43b2 : (t110 == x7_2) = true := by simpa using c43))
            clear c43; by_cases c44 : x6_2 = (t105.length : Int)
            · rw [if_pos c44] at H
              have c44b0 : (x6_2 == (t105.length : Int)) = true := beq_iff_eq.mpr c44; have c44b1 : (x6_2 != (t105.length : Int)) = false := bne_eq_false_iff_eq.mpr c44; clear c44; replace H := Option.bind_eq_some_iff.mp H; obtain ⟨t111, A450, H⟩ := H; replace H : (if t111 = true then (some true) else (some false)) = some true := H; have A45 := zA A450; clear A450; by_cases c46 : t111 = true
              · subst c46
                have H1 : (some true) = some true := by first | (rw [if_pos rfl] at H; exact H) | rfl
                clear H; have H := H1; clear H1; clear H; obtain ⟨_, _, _, _, _, _⟩ := qc3f BK101.out; go_wp2_with (first | ((with_reducible refine zJq (f := 86) rfl ?_); refine goesL_ (some 105) rfl rfl Try.func86 (by kernel_rfl) rfl #[.agg #[.int .i64 a0_0, .int .i64 a0_1, .slice A0_2 l0_2.length c0_2], .string a1] rfl (by (try simp only [zR, zS, zT]); first | done | rfl | (simp only [zP, zQ]; rfl)) ?_; (with_reducible refine (order_Find.calls k2 a0_0 a0_1 _ _ l0_2 a1 t108 t109 t110 _ ?side1 ?side2 A42.out).mono ?_); (case side1 => exact qC (Kd.C_below HR0_2.out HB.out)); (case side2 => exact HC0_2.out); rintro e w48 ⟨rfl, hb⟩; refine ⟨_, rfl, ?_⟩; have n0_ := zA (Kd.R_below (by (with_reducible repeat (first | apply Kd.R_alloc | apply Kd.R_drewN | apply Kd.R_drew)); exact HO_5.out) hb); have n1_ := zA (qX BK101.out hb); have n2_ := zA (zV qB hb); clear HO_5 BK101 HB; have HO_5 := n0_; have BK101 := n1_; have HB := n2_; clear n0_ n1_ n2_; (try clear hb); (try clear hb2); (try clear hk); (try clear hi); obtain ⟨Ao49, co49, eo49⟩ := Kd.R_slice HO_5.out; subst eo49) | (go_at_call 82; (with_reducible refine (backhaullaw26_awake.calls  true _ A45.out).mono ?_); rintro e w50 ⟨rfl, hb⟩; have n0_ := zA (Kd.R_below (by (with_reducible repeat (first | apply Kd.R_alloc | apply Kd.R_drewN | apply Kd.R_drew)); exact HO_5.out) hb); have n1_ := zA (qX BK101.out hb); have n2_ := zA (zV qB hb); clear HO_5 BK101 HB; have HO_5 := n0_; have BK101 := n1_; have HB := n2_; clear n0_ n1_ n2_; (try clear hb); (try clear hb2); (try clear hk); (try clear hi))); go_ret; exact ⟨qE, qB⟩
              replace c46 := Bool.eq_false_iff.mpr c46; subst c46; have H1 : (some false) = some true := by first | (rw [if_neg (show ¬ (false = true) by decide)] at H; exact H) | rfl
              clear H; have H := H1; clear H1; exact absurd H (by simp)
            rw [if_neg c44] at H; have c44b0 : (x6_2 == (t105.length : Int)) = false := beq_eq_false_iff_ne.mpr c44; have c44b1 : (x6_2 != (t105.length : Int)) = true := bne_iff_ne.mpr c44; exact absurd H (by simp)
          rw [if_neg c43] at H; have c43b0 : (t110 == x7_2) = false := by simpa using c43
          (try (have c43b1 : decide (t110 = x7_2) = false := by simpa using c43))
          (try (have c43b2 : (t110 == x7_2) = false := by simpa using c43))
          (try (have c43b3 : ¬ (t110 = x7_2) := by simpa using c43))
          clear c43; exact absurd H (by simp)
def backhaullaw26_OrderFinds.Pure : Prop := ∀ (a0_0 : Int) (a0_1 : Int) (l0_2 : List (S71)) (a1 : ByteArray), (Lit.int .i64 a0_0).wf = true → (Lit.int .i64 a0_1).wf = true → (l0_2.length ≤ maxLen ∧ ∀ x ∈ l0_2, ((Lit.int .i64 x.f0).wf = true ∧ (Lit.int .i64 x.f1).wf = true ∧ (Lit.int .i64 x.f2).wf = true ∧ (Lit.int .i64 x.f3).wf = true ∧ (x.f4.length ≤ maxLen ∧ ∀ y ∈ x.f4, y.size ≤ maxLen))) → a1.size ≤ maxLen → ∃ k, backhaullaw26_OrderFinds.f k a0_0 a0_1 l0_2 a1 = some true
end Go.Proofs.Ytefhljhpcpajgaa.F
set_option linter.unusedVariables false
namespace Go.Proofs.Ytefhljhpcpajgaa.Q
open Go.RowKit YtefhljhpcpajgaaW.PrintWords YtefhljhpcpajgaaW.PrintLast YtefhljhpcpajgaaW.PrintMore
theorem less_irrefl (l : List UInt8) : Op.bytesLess l l = false := by
  induction l with
  | nil => rfl
  | cons a l ih => simp [Op.bytesLess, ih]
theorem data_append (a b : ByteArray) : (a ++ b).data.toList = a.data.toList ++ b.data.toList := by simp [ByteArray.data_append]
def wide (w : Int) : Prop := w = 1 ∨ w = 2 ∨ w = 4 ∨ w = 8
instance (w : Int) : Decidable (wide w) := by unfold wide; infer_instance
end Go.Proofs.Ytefhljhpcpajgaa.Q
namespace Go.Proofs.Ytefhljhpcpajgaa.Q
open Go.RowKit YtefhljhpcpajgaaX YtefhljhpcpajgaaW.PrintWords YtefhljhpcpajgaaW.PrintLast YtefhljhpcpajgaaW.PrintMore
theorem less_cons (a b : UInt8) (x y : List UInt8) : Op.bytesLess (a :: x) (b :: y) = true ↔ a.toNat < b.toNat ∨ (a = b ∧ Op.bytesLess x y = true) := by
  simp only [Op.bytesLess, Bool.or_eq_true, Bool.and_eq_true, decide_eq_true_eq, beq_iff_eq, UInt8.lt_iff_toNat_lt]
theorem less_nil (x : List UInt8) : Op.bytesLess x [] = false := by cases x <;> rfl
theorem less_trans : ∀ (a b c : List UInt8), Op.bytesLess a b = true → Op.bytesLess b c = true → Op.bytesLess a c = true
  | _, [], _, h, _ => by rw [less_nil] at h; cases h
  | _, _ :: _, [], _, h => by rw [less_nil] at h; cases h
  | [], _ :: _, _ :: _, _, _ => rfl
  | a :: x, b :: y, c :: z, h1, h2 => by
    rw [less_cons] at h1 h2 ⊢
    rcases h1 with h1 | ⟨rfl, h1⟩
    · rcases h2 with h2 | ⟨rfl, h2⟩
      · exact .inl (by omega)
      exact .inl h1
    rcases h2 with h2 | ⟨rfl, h2⟩
    · exact .inl h2
    exact .inr ⟨rfl, less_trans x y z h1 h2⟩
def serB (l : List UInt8) : Prop := 1 ≤ l.length ∧ l.length ≤ 16 ∧ l.getLast? ≠ some 45 ∧ okL 3 (runes l) = true
instance (l : List UInt8) : Decidable (serB l) := by unfold serB; infer_instance
theorem checkS_or (s : ByteArray) : checkS s = 0 ∨ checkS s = 9 := by unfold checkS; split <;> simp
def lt8 (a b : ByteArray) : Prop := Op.bytesLess a.toList b.toList = true
instance (a b : ByteArray) : Decidable (lt8 a b) := by unfold lt8; infer_instance
theorem lt8_irrefl (a : ByteArray) : ¬ lt8 a a := by unfold lt8; rw [less_irrefl]; decide
theorem lt8_trans {a b c : ByteArray} (h : lt8 a b) (g : lt8 b c) : lt8 a c := less_trans _ _ _ h g
def notUp : Option ByteArray → ByteArray → Bool
  | none, _ => false
  | some q, s => !(Op.bytesLess q.toList s.toList)
def rowG : Option ByteArray → List ByteArray → Int
  | _, [] => 0
  | p, s :: l => if checkS s = 0 then (if notUp p s = true then 32 else rowG (some s) l) else 9
theorem notUp_some {q s : ByteArray} : notUp (some q) s = false ↔ lt8 q s := by simp [notUp, lt8]
theorem rowG_zero {l : List ByteArray} : ∀ {p : Option ByteArray}, rowG p l = 0 → (∀ s ∈ l, checkS s = 0) ∧ l.Pairwise lt8 ∧ ∀ q, p = some q → ∀ s ∈ l, lt8 q s := by
  induction l with
  | nil => intro p _; simp
  | cons a l ih =>
    intro p h
    simp only [rowG] at h
    by_cases h1 : checkS a = 0
    · rw [if_pos h1] at h
      by_cases h2 : notUp p a = true
      · rw [if_pos h2] at h; cases h
      rw [if_neg h2] at h
      obtain ⟨i1, i2, i3⟩ := ih h
      have hq : ∀ q, p = some q → lt8 q a := fun q e => by
        subst e
        exact notUp_some.1 (by simpa using h2)
      refine ⟨fun s hs => ?_, List.pairwise_cons.2 ⟨fun s hs => i3 a rfl s hs, i2⟩, fun q e s hs => ?_⟩
      · rcases List.mem_cons.1 hs with rfl | hs
        · exact h1
        exact i1 s hs
      rcases List.mem_cons.1 hs with rfl | hs
      · exact hq q e
      exact lt8_trans (hq q e) (i3 a rfl s hs)
    rw [if_neg h1] at h; cases h
theorem pair_get {l : List ByteArray} (h : l.Pairwise lt8) {i j : Nat} (hj : j < l.length) (hij : i < j) : lt8 (l[i]'(by omega)) l[j] := List.pairwise_iff_getElem.1 h i j _ hj hij
def idxT (l : List ByteArray) (s : ByteArray) : Option Nat := l.findIdx? (fun x => decide (x = s))
theorem idxT_some {l : List ByteArray} {s : ByteArray} {i : Nat} (h : i < l.length) (he : l[i] = s) (hn : ∀ j (h : j < l.length), j < i → l[j] ≠ s) : idxT l s = some i := by
  unfold idxT
  rw [List.findIdx?_eq_some_iff_getElem]
  exact ⟨h, by simp [he], fun j hj => by simpa using hn j (by omega) hj⟩
theorem idxT_none {l : List ByteArray} {s : ByteArray} (hn : ∀ j (h : j < l.length), l[j] ≠ s) : idxT l s = none := by
  unfold idxT
  rw [List.findIdx?_eq_none_iff]
  intro x hx
  obtain ⟨j, hj, rfl⟩ := List.mem_iff_getElem.1 hx
  simpa using hn j hj
theorem idxT_get {l : List ByteArray} {s : ByteArray} {i : Nat} (h : idxT l s = some i) : ∃ h : i < l.length, l[i] = s ∧ ∀ j (h : j < l.length), j < i → l[j] ≠ s := by
  unfold idxT at h
  rw [List.findIdx?_eq_some_iff_getElem] at h
  obtain ⟨h1, h2, h3⟩ := h
  exact ⟨h1, by simpa using h2, fun j hj hji => by simpa using h3 j hji⟩
def findT (l : List ByteArray) (s : ByteArray) : Int × Bool := match idxT l s with
  | some i => ((i : Int), true)
  | none => (if rowG none l = 0 then (l.countP (fun x => decide (lt8 x s)) : Int) else 0, false)
theorem findT_sorted {l : List ByteArray} {s : ByteArray} {n : Nat} (hs : l.Pairwise lt8) (hn : n ≤ l.length) (h1 : ∀ j (h : j < l.length), j < n → lt8 l[j] s) (h2 : ∀ j (h : j < l.length), n ≤ j → ¬ lt8 l[j] s) (h0 : rowG none l = 0) : findT l s = ((n : Int), decide (∃ h : n < l.length, l[n] = s)) := by
  have hlt : ∀ j (h : j < l.length), j < n → l[j] ≠ s := fun j hj hjn e => lt8_irrefl s (e ▸ h1 j hj hjn)
  unfold findT
  by_cases h : ∃ h : n < l.length, l[n] = s
  · obtain ⟨hn', he⟩ := h
    rw [idxT_some hn' he hlt]
    simp only [Prod.mk.injEq, true_and]
    exact (decide_eq_true ⟨hn', he⟩).symm
  rw [idxT_none (fun j hj e => ?_)]
  · simp only [if_pos h0]
    refine Prod.ext ?_ (decide_eq_false h).symm
    have : l.countP (fun x => decide (lt8 x s)) = n := by
      have e : l = l.take n ++ l.drop n := (List.take_append_drop n l).symm
      have a : (l.take n).countP (fun x => decide (lt8 x s)) = (l.take n).length := by
        rw [List.countP_eq_length]
        intro x hx
        obtain ⟨j, hj, rfl⟩ := List.mem_iff_getElem.1 hx
        rw [List.length_take] at hj
        rw [List.getElem_take]
        simpa using h1 j (by omega) (by omega)
      have b : (l.drop n).countP (fun x => decide (lt8 x s)) = 0 := by
        rw [List.countP_eq_zero]
        intro x hx
        obtain ⟨j, hj, rfl⟩ := List.mem_iff_getElem.1 hx
        rw [List.length_drop] at hj
        rw [List.getElem_drop]
        simpa using h2 (n + j) (by omega) (by omega)
      rw [e, List.countP_append, a, b, List.length_take]
      omega
    show (_ : Int) = _
    rw [this]
  rcases Nat.lt_or_ge j n with hjn | hjn
  · exact hlt j hj hjn e
  rcases Nat.lt_or_ge n j with hnj | hnj
  · have h3 := pair_get hs hj hnj
    rw [e] at h3
    exact h2 n (by omega) (Nat.le_refl _) h3
  have : j = n := by omega
  subst this
  exact h ⟨hj, e⟩
end Go.Proofs.Ytefhljhpcpajgaa.Q
namespace Go.Proofs.Ytefhljhpcpajgaa.Q
open Go.RowKit Ytefhljhpcpajgaa.F YtefhljhpcpajgaaX YtefhljhpcpajgaaW.PrintWords YtefhljhpcpajgaaW.PrintLast YtefhljhpcpajgaaW.PrintMore
theorem serial_check_f (s : ByteArray) (hs : s.size < 9223372036854775807) : serial_Check.f s = some (checkS s) := by
  unfold serial_Check.f serial_Fold.f checkS
  rw [if_pos hs, Option.bind_some]
  have e : (foldS s).1.toList = s.toList ↔ (foldS s).1 = s := by
    constructor
    · intro h
      rw [ByteArray.toList_eq, ByteArray.toList_eq] at h
      generalize (foldS s).1 = a at *
      cases a; cases s
      simpa [Array.toList_inj] using h
    intro h; rw [h]
  by_cases h1 : (foldS s).2 = 0
  · rw [if_pos h1]
    by_cases h2 : (foldS s).1.toList = s.toList
    · rw [if_pos h2, if_pos ⟨h1, e.1 h2⟩]
    rw [if_neg h2, if_neg (fun x => h2 (e.2 x.2))]
  rw [if_neg h1, if_neg (fun x => h1 x.1)]
theorem serial_row_l0 {l : List ByteArray} (hl : l.length < 4611686018427387904) (hs : ∀ x ∈ l, x.size < 1099511627776) (d : Nat) : ∀ (i : Nat), l.length - i = d → i ≤ l.length → Ev (fun k => serial_Row.l0 k l l (l.length : Int) (i : Int)) (rowG (if i = 0 then none else l[i - 1]?) (l.drop i)) := by
  induction d with
  | zero =>
    intro i hd hi
    refine Ev.step (fun k => by simp only [serial_Row.l0]; rfl) ?_
    refine Ev.neg (by omega) (Ev.ok ?_)
    rw [List.drop_eq_nil_of_le (by omega)]; rfl
  | succ d ih =>
    intro i hd hi
    have h : i < l.length := by omega
    refine Ev.step (fun k => by simp only [serial_Row.l0]; rfl) ?_
    refine Ev.pos (by omega) (Ev.pos (by omega) (Ev.pos (by omega) ?_))
    rw [drop_cons h, rdOf_nat h, wrap_eq (x := (i : Int) + 1) (by omega) (by omega)]
    have ih' := ih (i + 1) (by omega) (by omega)
    rw [if_neg (by omega), Nat.add_sub_cancel, List.getElem?_eq_getElem h] at ih'
    refine Ev.bindc (serial_check_f _ (by have := hs _ (List.getElem_mem h); omega)) ?_
    simp only [rowG]
    refine Ev.ite (fun h1 => ?_) (fun h1 => ?_)
    · rw [if_pos h1]
      refine Ev.ite (fun h2 => ?_) (fun h2 => ?_)
      · have h' : i - 1 < l.length := by omega
        rw [wrap_eq (x := (i : Int) - 1) (by omega) (by omega), show (i : Int) - 1 = ((i - 1 : Nat) : Int) by omega, rdOf_nat h', if_neg (show ¬ i = 0 by omega), List.getElem?_eq_getElem h']
        refine Ev.pos (by omega) (Ev.pos (by omega) ?_)
        refine Ev.ite (fun h3 => ?_) (fun h3 => ?_)
        · rw [if_neg (by simp [notUp, h3])]; exact ih'
        rw [if_pos (by simp [notUp, h3])]; exact Ev.ok rfl
      rw [if_pos (show i = 0 by omega), if_neg (by simp [notUp])]; exact ih'
    rw [if_neg h1, (checkS_or _).resolve_left h1]; exact Ev.ok rfl
theorem serial_row_f {l : List ByteArray} (hl : l.length < 4611686018427387904) (hs : ∀ x ∈ l, x.size < 1099511627776) : Ev (fun k => serial_Row.f k l) (rowG none l) := by
  unfold serial_Row.f
  exact serial_row_l0 hl hs l.length 0 (by omega) (by omega)
abbrev LnT := S71
theorem rdL {l : List LnT} {i : Nat} (h : i < l.length) : rd_T71 l (i : Int) = l[i] := by
  unfold rd_T71; simp [h]
def fewR (s : List ByteArray) : Bool := s.all fun x => decide (x.size ≤ 100)
def fewB (l : List LnT) : Bool := l.all fun x => decide (x.f4.length ≤ 40) && fewR x.f4
def fewP (l : List LnT) : Prop := l.length ≤ 20 ∧ ∀ x ∈ l, x.f4.length ≤ 40 ∧ ∀ s ∈ x.f4, s.size ≤ 100
theorem fewB_iff {l : List LnT} : fewB l = true ↔ ∀ x ∈ l, x.f4.length ≤ 40 ∧ ∀ s ∈ x.f4, s.size ≤ 100 := by
  unfold fewB fewR
  simp only [List.all_eq_true, Bool.and_eq_true, decide_eq_true_eq]
theorem few_l1 {l : List LnT} {i : Nat} {r : Bool} (hl : l.length ≤ 20) (hi : i < l.length) (h40 : l[i].f4.length ≤ 40) (hr : Ev (fun k => backhaullaw21_Few.l0 k l ((i + 1 : Nat) : Int)) r) (d : Nat) : ∀ (j : Nat), l[i].f4.length - j = d → j ≤ l[i].f4.length → Ev (fun k => backhaullaw21_Few.l1 k l (i : Int) (j : Int)) (fewR (l[i].f4.drop j) && r) := by
  induction d with
  | zero =>
    intro j hd hj
    refine Ev.step (fun k => by simp only [backhaullaw21_Few.l1]; rfl) (Ev.pos (by omega) (Ev.pos (by omega) ?_))
    rw [rdL hi, List.drop_eq_nil_of_le (by omega), wrap_eq (x := (i : Int) + 1) (by omega) (by omega)]
    exact Ev.neg (by omega) hr
  | succ d ih =>
    intro j hd hj
    have h : j < l[i].f4.length := by omega
    refine Ev.step (fun k => by simp only [backhaullaw21_Few.l1]; rfl) (Ev.pos (by omega) (Ev.pos (by omega) ?_))
    rw [rdL hi, rdOf_nat h, wrap_eq (x := (j : Int) + 1) (by omega) (by omega), drop_cons h]
    refine Ev.pos (by omega) (Ev.pos (by omega) (Ev.ite (fun h1 => Ev.ok ?_) (fun h1 => Ev.eq (ih (j + 1) (by omega) (by omega)) ?_)))
    · unfold fewR; rw [List.all_cons, decide_eq_false (by omega)]; rfl
    unfold fewR; rw [List.all_cons, decide_eq_true (by omega)]; rfl
theorem few_l0 {l : List LnT} (hl : l.length ≤ 20) (d : Nat) : ∀ (i : Nat), l.length - i = d → i ≤ l.length → Ev (fun k => backhaullaw21_Few.l0 k l (i : Int)) (fewB (l.drop i)) := by
  induction d with
  | zero =>
    intro i hd hi
    refine Ev.step (fun k => by simp only [backhaullaw21_Few.l0]; rfl) (Ev.neg (by omega) (Ev.ok ?_))
    rw [List.drop_eq_nil_of_le (by omega)]; rfl
  | succ d ih =>
    intro i hd hi
    have h : i < l.length := by omega
    refine Ev.step (fun k => by simp only [backhaullaw21_Few.l0]; rfl) (Ev.pos (by omega) (Ev.pos (by omega) ?_))
    rw [rdL h, drop_cons h]
    refine Ev.ite (fun h1 => Ev.ok ?_) (fun h1 => Ev.eq (few_l1 hl h (by omega) (ih (i + 1) (by omega) (by omega)) l[i].f4.length 0 (by omega) (by omega)) ?_)
    · unfold fewB; rw [List.all_cons, decide_eq_false (by omega)]; rfl
    unfold fewB; rw [List.all_cons, decide_eq_true (by omega), List.drop_zero]; rfl
theorem few_f (l : List LnT) : Ev (fun k => backhaullaw21_Few.f k l) (decide (l.length ≤ 20) && fewB l) := by
  unfold backhaullaw21_Few.f
  refine Ev.ite (fun h => Ev.ok (by rw [decide_eq_false (by omega)]; rfl)) (fun h => ?_)
  rw [decide_eq_true (by omega)]
  exact few_l0 (by omega) l.length 0 (by omega) (by omega)
theorem few_p {l : List LnT} (h : (decide (l.length ≤ 20) && fewB l) = true) : fewP l := by
  rw [Bool.and_eq_true, decide_eq_true_eq] at h
  exact ⟨h.1, fewB_iff.1 h.2⟩
def mayB (b c d : Int) : Bool := decide (0 ≤ b ∧ b ≤ 1000000000000 ∧ 0 ≤ c ∧ c ≤ b ∧ 0 ≤ d ∧ d ≤ 1000000000000 ∧ c + d ≤ 1000000000000)
def lineR (a b c d : Int) (s : List ByteArray) : Int := if a < 1 ∨ a > 999999 then 2 else if mayB b c d = true then (if s.length < 1 ∨ s.length > 20 then 9 else if rowG none s = 0 then 0 else 9) else 8
theorem in_f3 (a : Int) : cents_In.f a = some (decide (-1000000000000 ≤ a ∧ a ≤ 1000000000000)) := by
  unfold cents_In.f
  by_cases h : a ≥ -1000000000000
  · rw [if_pos h]; congr 1; exact decide_eq_decide.2 ⟨fun x => ⟨h, x⟩, fun x => x.2⟩
  rw [if_neg h]; congr 1; exact (decide_eq_false (fun x => h x.1)).symm
theorem paid_f3 (a : Int) : line_paid.f a = some (decide (0 ≤ a ∧ a ≤ 1000000000000)) := by
  unfold line_paid.f
  by_cases h : a ≥ 0
  · rw [if_pos h, in_f3, Option.bind_some]; congr 1; exact decide_eq_decide.2 ⟨fun x => ⟨h, x.2⟩, fun x => ⟨by omega, x.2⟩⟩
  rw [if_neg h]; congr 1; exact (decide_eq_false (fun x => h x.1)).symm
theorem price_f (a b c d : Int) (s : List ByteArray) : line_price_may.f a b c d s = some (mayB b c d) := by
  unfold line_price_may.f mayB
  rw [paid_f3, paid_f3, paid_f3]
  simp only [Option.bind_some, decide_eq_true_eq]
  by_cases h1 : 0 ≤ b ∧ b ≤ 1000000000000
  · by_cases h2 : 0 ≤ c ∧ c ≤ 1000000000000
    · by_cases h3 : 0 ≤ d ∧ d ≤ 1000000000000
      · by_cases h4 : c ≤ b
        · rw [if_pos h1, if_pos h2, if_pos h3, if_pos h4, in_f3, Option.bind_some, wrap_eq (by omega) (by omega)]
          congr 1; exact decide_eq_decide.2 (by omega)
        rw [if_pos h1, if_pos h2, if_pos h3, if_neg h4]; congr 1; exact (decide_eq_false (by omega)).symm
      rw [if_pos h1, if_pos h2, if_neg h3]; congr 1; exact (decide_eq_false (by omega)).symm
    rw [if_pos h1, if_neg h2]; congr 1; exact (decide_eq_false (by omega)).symm
  rw [if_neg h1]; congr 1; exact (decide_eq_false (by omega)).symm
theorem line_check_f {a b c d : Int} {s : List ByteArray} (hs : s.length ≤ 40) (hz : ∀ x ∈ s, x.size ≤ 100) : Ev (fun k => line_Check.f k a b c d s) (lineR a b c d s) := by
  unfold line_Check.f
  have key : ∀ t : Bool, (t = true ↔ (a < 1 ∨ a > 999999)) → Ev (fun k => line_Check.j0 k t a b c d s a b c d s) (lineR a b c d s) := by
    intro t ht
    unfold lineR
    refine Ev.step (fun k => by simp only [line_Check.j0]; rfl) (Ev.ite (fun h => Ev.ok (by rw [if_pos (ht.1 h)])) (fun h => ?_))
    rw [if_neg (fun g => h (ht.2 g))]
    refine Ev.bindc (price_f a b c d s) (Ev.ite (fun h1 => ?_) (fun h1 => Ev.ok (by rw [if_neg h1])))
    rw [if_pos h1]
    refine Ev.ite (fun h2 => Ev.ok (by rw [if_pos (by omega)])) (fun h2 => Ev.ite (fun h3 => Ev.ok (by rw [if_pos (by omega)])) (fun h3 => ?_))
    rw [if_neg (by omega)]
    refine Ev.bind (serial_row_f (by omega) (fun x hx => by have := hz x hx; omega)) (Ev.ite (fun h4 => Ev.ok (by rw [if_pos h4])) (fun h4 => Ev.ok (by rw [if_neg h4])))
  refine Ev.ite (fun h => key true (by simp [h])) (fun h => key _ (by simp; omega))
def linesB (l : List LnT) : Bool := l.all fun x => decide (lineR x.f0 x.f1 x.f2 x.f3 x.f4 = 0)
theorem line_amounts {x : LnT} (h : lineR x.f0 x.f1 x.f2 x.f3 x.f4 = 0) : 0 ≤ x.f2 ∧ x.f2 ≤ 1000000000000 ∧ 0 ≤ x.f3 ∧ x.f3 ≤ 1000000000000 := by
  unfold lineR at h
  split at h
  · cases h
  split at h
  · rename_i g
    have := of_decide_eq_true g
    omega
  cases h
def totL : Int → List LnT → Option Int
  | n, [] => some n
  | n, x :: r => if n + x.f2 + x.f3 > 1000000000000 then none else totL (n + x.f2 + x.f3) r
def totI (o : Option Int) : Int × Int := match o with
  | some m => (m, 0)
  | none => (0, 8)
theorem w01 : wrap64 (0 + 1) = 1 := by rw [wrap_eq (by decide) (by decide)]; rfl
theorem w12 : wrap64 (1 + 1) = 2 := by rw [wrap_eq (by decide) (by decide)]; rfl
theorem w23 : wrap64 (2 + 1) = 3 := by rw [wrap_eq (by decide) (by decide)]; rfl
theorem add_three {n p q : Int} (hn : 0 ≤ n) (hn' : n ≤ 1000000000000) (hp : 0 ≤ p) (hp' : p ≤ 1000000000000) (hq : 0 ≤ q) (hq' : q ≤ 1000000000000) : Ev (fun k => cents_Add.f k ([n, p, q] : List Int)) (if n + p + q > 1000000000000 then (0, 8) else (n + p + q, 0)) := by
  unfold cents_Add.f
  have r0 : rd [n, p, q] 0 = n := rfl
  have r1 : rd [n, p, q] 1 = p := rfl
  have r2 : rd [n, p, q] 2 = q := rfl
  refine Ev.step (fun k => by simp only [cents_Add.l0]; rfl) (Ev.pos (by simp) (Ev.pos (by decide) (Ev.pos (by simp) ?_)))
  rw [r0, wrap_eq (x := 0 + n) (by omega) (by omega), w01]
  refine Ev.bindc (in_f3 n) (Ev.pos (decide_eq_true (by omega)) (Ev.bindc (in_f3 _) (Ev.pos (decide_eq_true (by omega)) ?_)))
  refine Ev.step (fun k => by simp only [cents_Add.l0]; rfl) (Ev.pos (by simp) (Ev.pos (by decide) (Ev.pos (by simp) ?_)))
  rw [r1, wrap_eq (x := 0 + n + p) (by omega) (by omega), w12]
  refine Ev.bindc (in_f3 p) (Ev.pos (decide_eq_true (by omega)) (Ev.bindc (in_f3 _) (Ev.ite (fun h => ?_) (fun h => Ev.ok ?_))))
  · have h := of_decide_eq_true h
    refine Ev.step (fun k => by simp only [cents_Add.l0]; rfl) (Ev.pos (by simp) (Ev.pos (by decide) (Ev.pos (by simp) ?_)))
    rw [r2, wrap_eq (x := 0 + n + p + q) (by omega) (by omega), w23]
    refine Ev.bindc (in_f3 q) (Ev.pos (decide_eq_true (by omega)) (Ev.bindc (in_f3 _) (Ev.ite (fun h1 => ?_) (fun h1 => Ev.ok ?_))))
    · have h1 := of_decide_eq_true h1
      refine Ev.step (fun k => by simp only [cents_Add.l0]; rfl) (Ev.neg (by simp) (Ev.ok ?_))
      rw [if_neg (by omega), Int.zero_add]
    have h1 : ¬ (-1000000000000 ≤ 0 + n + p + q ∧ 0 + n + p + q ≤ 1000000000000) := fun g => h1 (decide_eq_true g)
    rw [if_pos (by omega)]
  have h : ¬ (-1000000000000 ≤ 0 + n + p ∧ 0 + n + p ≤ 1000000000000) := fun g => h (decide_eq_true g)
  rw [if_pos (by omega)]
theorem total_l0 {l : List LnT} (hl : l.length ≤ 20) (hx : ∀ x ∈ l, 0 ≤ x.f2 ∧ x.f2 ≤ 1000000000000 ∧ 0 ≤ x.f3 ∧ x.f3 ≤ 1000000000000) (d : Nat) : ∀ (i : Nat) (n : Int), l.length - i = d → i ≤ l.length → 0 ≤ n → n ≤ 1000000000000 → Ev (fun k => order_total.l0 k n l (l.length : Int) (i : Int)) (totI (totL n (l.drop i))) := by
  induction d with
  | zero =>
    intro i n hd hi h0 h1
    refine Ev.step (fun k => by simp only [order_total.l0]; rfl) (Ev.neg (by omega) (Ev.ok ?_))
    rw [List.drop_eq_nil_of_le (by omega)]; rfl
  | succ d ih =>
    intro i n hd hi h0 h1
    have h : i < l.length := by omega
    have hm := hx l[i] (List.getElem_mem h)
    refine Ev.step (fun k => by simp only [order_total.l0]; rfl) (Ev.pos (by omega) (Ev.pos (by omega) (Ev.pos (by omega) ?_)))
    rw [rdL h, drop_cons h, wrap_eq (x := (i : Int) + 1) (by omega) (by omega)]
    refine Ev.bind (add_three h0 h1 hm.1 hm.2.1 hm.2.2.1 hm.2.2.2) ?_
    simp only [totL]
    by_cases h2 : n + l[i].f2 + l[i].f3 > 1000000000000
    · rw [if_pos h2, if_pos h2]
      exact Ev.neg (by decide) (Ev.ok rfl)
    rw [if_neg h2, if_neg h2]
    exact Ev.pos rfl (ih (i + 1) _ (by omega) (by omega) (by dsimp only; omega) (by dsimp only; omega))
theorem serials_len {l : List LnT} (hf : fewP l) : (serialsOf l).length ≤ 800 := by
  have : ∀ r : List LnT, (∀ x ∈ r, x.f4.length ≤ 40) → (serialsOf r).length ≤ 40 * r.length := by
    intro r
    induction r with
    | nil => intro _; simp [serialsOf]
    | cons x r ih =>
      intro h
      have h1 := h x List.mem_cons_self
      have h2 := ih fun y hy => h y (List.mem_cons_of_mem _ hy)
      unfold serialsOf at *
      rw [List.flatMap_cons, List.length_append, List.length_cons]
      omega
  have h1 := this l fun x hx => (hf.2 x hx).1
  have := hf.1
  omega
theorem order_twice_f {l : List LnT} (hf : fewP l) : order_twice.f l = some (dupB [] (serialsOf l)) := by
  unfold order_twice.f
  have hn := serials_len hf
  rw [if_pos]
  refine ⟨?_, ?_⟩
  · rw [List.all_eq_true]
    intro x hx
    rw [List.all_eq_true]
    intro s hs
    have := (hf.2 x hx).2 s hs
    exact decide_eq_true (by unfold maxLen; omega)
  unfold maxLen; omega
def finB (l : List LnT) : Bool := (totL 0 l).isSome && !dupB [] (serialsOf l)
def ordR (a b : Int) (l : List LnT) : Int := if (1 ≤ a ∧ a ≤ 999999 ∧ 0 ≤ b ∧ b ≤ 1000000 ∧ 1 ≤ l.length ∧ l.length ≤ 8) ∧ linesB l = true ∧ finB l = true then 0 else 40
theorem lines_amounts {l : List LnT} (h : linesB l = true) : ∀ x ∈ l, 0 ≤ x.f2 ∧ x.f2 ≤ 1000000000000 ∧ 0 ≤ x.f3 ∧ x.f3 ≤ 1000000000000 := fun x hx => line_amounts (of_decide_eq_true (List.all_eq_true.1 h x hx))
theorem lines_step {l : List LnT} {i : Nat} (h : i < l.length) (hp : ∀ j (hj : j < l.length), j < i → lineR l[j].f0 l[j].f1 l[j].f2 l[j].f3 l[j].f4 = 0) (h1 : lineR l[i].f0 l[i].f1 l[i].f2 l[i].f3 l[i].f4 = 0) : ∀ j (hj : j < l.length), j < i + 1 → lineR l[j].f0 l[j].f1 l[j].f2 l[j].f3 l[j].f4 = 0 := fun j hj hji => by
  by_cases e : j = i
  · subst e; exact h1
  exact hp j hj (by omega)
theorem lines_all {l : List LnT} (hp : ∀ j (hj : j < l.length), j < l.length → lineR l[j].f0 l[j].f1 l[j].f2 l[j].f3 l[j].f4 = 0) : linesB l = true := by
  unfold linesB
  rw [List.all_eq_true]
  intro x hx
  obtain ⟨j, hj, rfl⟩ := List.mem_iff_getElem.1 hx
  exact decide_eq_true (hp j hj hj)
theorem lines_not {l : List LnT} {i : Nat} (h : i < l.length) (h1 : ¬ lineR l[i].f0 l[i].f1 l[i].f2 l[i].f3 l[i].f4 = 0) : ¬ linesB l = true := fun g => h1 (of_decide_eq_true (List.all_eq_true.1 g l[i] (List.getElem_mem h)))
theorem order_l0 {a b : Int} {l : List LnT} (hf : fewP l) (hh : 1 ≤ a ∧ a ≤ 999999 ∧ 0 ≤ b ∧ b ≤ 1000000 ∧ 1 ≤ l.length ∧ l.length ≤ 8) (d : Nat) : ∀ (i : Nat), l.length - i = d → i ≤ l.length → (∀ j (hj : j < l.length), j < i → lineR l[j].f0 l[j].f1 l[j].f2 l[j].f3 l[j].f4 = 0) → Ev (fun k => order_Check.l0 k l (l.length : Int) (i : Int) a b l) (ordR a b l) := by
  have h20 := hf.1
  induction d with
  | zero =>
    intro i hd hi hp
    have hb := lines_all (fun j hj _ => hp j hj (by omega))
    have ht : Ev (fun k => order_total.f k l) (totI (totL 0 l)) := by
      unfold order_total.f
      exact total_l0 h20 (lines_amounts hb) l.length 0 0 (by omega) (by omega) (by omega) (by omega)
    refine Ev.step (fun k => by simp only [order_Check.l0]; rfl) (Ev.neg (by omega) (Ev.bind ht ?_))
    unfold ordR finB
    cases e : totL 0 l with
    | none => exact Ev.neg (by decide) (Ev.ok (by rw [if_neg]; simp))
    | some m =>
      refine Ev.pos rfl (Ev.bindc (order_twice_f hf) (Ev.ite (fun h1 => Ev.ok (by rw [if_neg]; simp [h1])) (fun h1 => Ev.ok (by rw [if_pos]; exact ⟨hh, hb, by simp [h1]⟩))))
  | succ d ih =>
    intro i hd hi hp
    have h : i < l.length := by omega
    have hx := hf.2 l[i] (List.getElem_mem h)
    refine Ev.step (fun k => by simp only [order_Check.l0]; rfl) (Ev.pos (by omega) (Ev.pos (by omega) (Ev.pos (by omega) ?_)))
    rw [rdL h, wrap_eq (x := (i : Int) + 1) (by omega) (by omega)]
    refine Ev.bind (line_check_f hx.1 hx.2) (Ev.ite (fun h1 => ih (i + 1) (by omega) (by omega) (lines_step h hp h1)) (fun h1 => Ev.ok ?_))
    unfold ordR
    rw [if_neg fun g => lines_not h h1 g.2.1]
theorem order_check_f {a b : Int} {l : List LnT} (hf : fewP l) : Ev (fun k => order_Check.f k a b l) (ordR a b l) := by
  unfold order_Check.f
  have bad : ¬ (1 ≤ a ∧ a ≤ 999999 ∧ 0 ≤ b ∧ b ≤ 1000000 ∧ 1 ≤ l.length ∧ l.length ≤ 8) → Ev (fun k => order_Check.j0 k true a b l) (ordR a b l) := fun g =>
    Ev.step (fun k => by simp only [order_Check.j0]; rfl) (Ev.pos (by trivial) (Ev.ok (by unfold ordR; rw [if_neg fun x => g x.1])))
  have tm : policy_Time.f b = some (decide (0 ≤ b ∧ b ≤ 1000000)) := by
    unfold policy_Time.f policy_span_has.f
    by_cases h : 0 ≤ b
    · rw [if_pos (by omega)]; simp [h]
    rw [if_neg (by omega)]; simp [h]
  refine Ev.ite (fun h1 => bad (by omega)) (fun h1 => Ev.ite (fun h2 => bad (by omega)) (fun h2 => Ev.bindc tm (Ev.ite (fun h3 => ?_) (fun h3 => bad (fun g => h3 (decide_eq_true ⟨g.2.2.1, g.2.2.2.1⟩))))))
  have h3 := of_decide_eq_true h3
  refine Ev.ite (fun h4 => bad (by omega)) (fun h4 => ?_)
  by_cases h5 : (l.length : Int) > 8
  · rw [decide_eq_true h5]; exact bad (by omega)
  rw [decide_eq_false h5]
  exact Ev.step (fun k => by simp only [order_Check.j0]; rfl) (Ev.neg (by simp) (order_l0 hf (by omega) l.length 0 (by omega) (by omega) (fun j hj h => by omega)))
theorem cmp_less_text (a b : ByteArray) : cmp_Less_string.f a b = some (Op.bytesLess a.toList b.toList) := by
  simp [cmp_Less_string.f, cmp_isNaN_string.f]
theorem bst_l0 {l : List ByteArray} {t : ByteArray} (hl : l.length < 4611686018427387904) (h0 : rowG none l = 0) (hs : l.Pairwise lt8) (d : Nat) : ∀ (lo hi : Nat), hi - lo = d → lo ≤ hi → hi ≤ l.length →
    (∀ j (h : j < l.length), j < lo → lt8 l[j] t) → (∀ j (h : j < l.length), hi ≤ j → ¬ lt8 l[j] t) →
    Ev (fun k => slices_BinarySearch_string_string.l0 k l t (l.length : Int) (lo : Int) (hi : Int)) (findT l t) := by
  induction d using Nat.strongRecOn with
  | _ d ih =>
    intro lo hi hd hlo hhi h1 h2
    refine Ev.step (fun k => by simp only [slices_BinarySearch_string_string.l0]; rfl) ?_
    by_cases hlt : lo < hi
    · have hw : wrap64 ((IntKind.u64.wrap (wrap64 ((lo : Int) + (hi : Int)))) / 2) = (((lo + hi) / 2 : Nat) : Int) := by
        rw [wrap_eq (x := (lo : Int) + (hi : Int)) (by omega) (by omega), u64_eq (x := (lo : Int) + (hi : Int)) (by omega) (by omega), wrap_eq (x := ((lo : Int) + (hi : Int)) / 2) (by omega) (by omega)]; omega
      have hm : (lo + hi) / 2 < l.length := by omega
      rw [hw]
      refine Ev.pos (by omega) (Ev.pos (by omega) (Ev.pos (by omega) ?_))
      rw [rdOf_nat hm]
      refine Ev.bindc (cmp_less_text _ _) ?_
      refine Ev.ite (fun hc => ?_) (fun hc => ?_)
      · have hc' : lt8 l[(lo + hi) / 2] t := hc
        rw [wrap_eq (by omega) (by omega)]
        refine ih (hi - ((lo + hi) / 2 + 1)) (by omega) ((lo + hi) / 2 + 1) hi rfl (by omega) hhi (fun j hj hjl => ?_) h2
        rcases Nat.lt_or_ge j ((lo + hi) / 2) with hlt2 | hge
        · exact lt8_trans (pair_get hs hm hlt2) hc'
        have : j = (lo + hi) / 2 := by omega
        subst this; exact hc'
      have hc' : ¬ lt8 l[(lo + hi) / 2] t := hc
      refine ih ((lo + hi) / 2 - lo) (by omega) lo ((lo + hi) / 2) rfl (by omega) (by omega) h1 (fun j hj hjl => ?_)
      rcases Nat.lt_or_ge ((lo + hi) / 2) j with hlt2 | hge
      · exact fun x => hc' (lt8_trans (pair_get hs hj hlt2) x)
      have : j = (lo + hi) / 2 := by omega
      subst this; exact hc'
    have he : lo = hi := by omega
    subst he
    rw [findT_sorted hs hhi h1 h2 h0]
    refine Ev.neg (by omega) ?_
    refine Ev.ite (fun hc => ?_) (fun hc => ?_)
    · have hlo' : lo < l.length := by omega
      refine Ev.pos (by omega) (Ev.pos (by omega) ?_)
      rw [rdOf_nat hlo']
      refine Ev.ite (fun he => ?_) (fun he => ?_)
      · refine Ev.ok ?_
        rw [decide_eq_true (⟨hlo', bytes_ext.1 he⟩ : ∃ h : lo < l.length, l[lo] = t)]
      refine Ev.bindc (a := false) (by simp [slices_isNaN_string.f]) ?_
      refine Ev.neg (by simp) (Ev.ok ?_)
      rw [decide_eq_false (fun x : ∃ h : lo < l.length, l[lo] = t => he (by rw [x.2]))]
    refine Ev.ok ?_
    rw [decide_eq_false (fun x : ∃ h : lo < l.length, l[lo] = t => by have := x.1; omega)]
theorem bst_f {l : List ByteArray} {t : ByteArray} (hl : l.length < 4611686018427387904) (h0 : rowG none l = 0) : Ev (fun k => slices_BinarySearch_string_string.f k l t) (findT l t) := by
  unfold slices_BinarySearch_string_string.f
  exact bst_l0 hl h0 (rowG_zero h0).2.1 l.length 0 l.length (by omega) (by omega) (by omega) (fun j hj h => by omega) (fun j hj h => by omega)
def idxI (l : List ByteArray) (t : ByteArray) : Int := match idxT l t with
  | some i => (i : Int)
  | none => -1
theorem indext_l0 {l : List ByteArray} {t : ByteArray} (hl : l.length < 4611686018427387904) (d : Nat) : ∀ (i : Nat), l.length - i = d → i ≤ l.length → (∀ j (h : j < l.length), j < i → l[j] ≠ t) →
    Ev (fun k => slices_Index_string_string.l0 k l t (l.length : Int) (i : Int)) (idxI l t) := by
  induction d with
  | zero =>
    intro i hd hi h1
    refine Ev.step (fun k => by simp only [slices_Index_string_string.l0]; rfl) ?_
    refine Ev.neg (by omega) (Ev.ok ?_)
    unfold idxI
    rw [idxT_none (fun j hj => h1 j hj (by omega))]
  | succ d ih =>
    intro i hd hi h1
    have h : i < l.length := by omega
    refine Ev.step (fun k => by simp only [slices_Index_string_string.l0]; rfl) ?_
    refine Ev.pos (by omega) (Ev.pos (by omega) (Ev.pos (by omega) ?_))
    rw [rdOf_nat h]
    refine Ev.ite (fun he => Ev.ok ?_) (fun he => ?_)
    · unfold idxI
      rw [idxT_some h (bytes_ext.1 he).symm h1]
    rw [wrap_eq (by omega) (by omega)]
    exact ih (i + 1) (by omega) (by omega) (fun j hj hjl => by
      rcases Nat.lt_or_ge j i with h2 | h2
      · exact h1 j hj h2
      have : j = i := by omega
      subst this; exact fun e => he (by rw [e]))
theorem serial_find_f {l : List ByteArray} {t : ByteArray} (hl : l.length < 4611686018427387904) (hs : ∀ x ∈ l, x.size < 1099511627776) : Ev (fun k => serial_Find.f k l t) (findT l t) := by
  unfold serial_Find.f
  refine Ev.bind (serial_row_f hl hs) (Ev.ite (fun h => Ev.bind (bst_f hl h) (Ev.ok rfl)) (fun h => ?_))
  have hi : Ev (fun k => slices_Index_string_string.f k l t) (idxI l t) := by
    unfold slices_Index_string_string.f
    exact indext_l0 hl l.length 0 (by omega) (by omega) (fun j hj h => by omega)
  refine Ev.bind hi (Ev.ok ?_)
  unfold idxI findT
  cases e : idxT l t with
  | none => simp only [if_neg h]; rfl
  | some i =>
    have : mx (i : Int) 0 = i := by unfold mx; split <;> omega
    simp [this]
end Go.Proofs.Ytefhljhpcpajgaa.Q
set_option linter.unusedSimpArgs false
namespace Go.Proofs.Ytefhljhpcpajgaa.Q
open Go.RowKit Ytefhljhpcpajgaa.F YtefhljhpcpajgaaX YtefhljhpcpajgaaW.PrintWords YtefhljhpcpajgaaW.PrintLast YtefhljhpcpajgaaW.PrintMore
def findO : Nat → List LnT → ByteArray → Int × Int × Bool
  | _, [], _ => (0, 0, false)
  | i, x :: r, t => if (findT x.f4 t).2 = true then ((i : Int), (findT x.f4 t).1, true) else findO (i + 1) r t
def findP (a b : Int) (l : List LnT) (t : ByteArray) : Int × Int × Bool := if ordR a b l = 0 then findO 0 l t else (0, 0, false)
theorem few_sizes {l : List LnT} (hf : fewP l) {x : LnT} (hx : x ∈ l) : x.f4.length < 4611686018427387904 ∧ ∀ s ∈ x.f4, s.size < 1099511627776 := by
  have h := hf.2 x hx
  exact ⟨by omega, fun s hs => by have := h.2 s hs; omega⟩
theorem find_l0 {l : List LnT} {t : ByteArray} (hf : fewP l) (m : Nat) : ∀ i : Nat, l.length - i = m → i ≤ l.length → Ev (fun k => order_Find.l0 k t l (l.length : Int) (i : Int)) (findO i (l.drop i) t) := by
  have hl := hf.1
  induction m with
  | zero =>
    intro i hd hi
    rw [List.drop_eq_nil_of_le (by omega)]
    exact Ev.step (fun k => by simp only [order_Find.l0]; rfl) (Ev.neg (by omega) (Ev.ok rfl))
  | succ m ih =>
    intro i hd hi
    have h : i < l.length := by omega
    have hx := few_sizes hf (List.getElem_mem h)
    refine Ev.step (fun k => by simp only [order_Find.l0]; rfl) (Ev.pos (by omega) (Ev.pos (by omega) (Ev.pos (by omega) ?_)))
    rw [rdL h, drop_cons h, wrap_eq (x := (i : Int) + 1) (by omega) (by omega)]
    unfold findO
    refine Ev.bind (serial_find_f hx.1 hx.2) (Q.Ev.ite (fun q => Ev.ok (by rw [if_pos q])) (fun q => ?_))
    rw [if_neg q]
    exact ih (i + 1) (by omega) (by omega)
theorem order_find_f {a b : Int} {l : List LnT} {t : ByteArray} (hf : fewP l) : Ev (fun k => order_Find.f k a b l t) (findP a b l t) := by
  unfold order_Find.f findP
  refine Ev.bind (order_check_f hf) (Q.Ev.ite (fun q => ?_) (fun q => Ev.ok (by rw [if_neg q])))
  rw [if_pos q]
  exact find_l0 hf l.length 0 (by omega) (by omega)
theorem serials_l0 {l : List LnT} (hf : fewP l) (m : Nat) : ∀ (i : Nat) (acc : List ByteArray), l.length - i = m → i ≤ l.length → acc.length ≤ 40 * i → Ev (fun k => order_Serials.l0 k acc l (l.length : Int) (i : Int)) (acc ++ serialsOf (l.drop i)) := by
  have hl := hf.1
  induction m with
  | zero =>
    intro i acc hd hi ha
    refine Ev.step (fun k => by simp only [order_Serials.l0]; rfl) (Ev.neg (by omega) (Ev.ok ?_))
    rw [List.drop_eq_nil_of_le (by omega)]; simp [serialsOf]
  | succ m ih =>
    intro i acc hd hi ha
    have h : i < l.length := by omega
    have hx := (hf.2 _ (List.getElem_mem h)).1
    refine Ev.step (fun k => by simp only [order_Serials.l0]; rfl) (Ev.pos (by omega) (Ev.pos (by omega) (Ev.pos (by omega) ?_)))
    rw [rdL h, drop_cons h, wrap_eq (x := (i : Int) + 1) (by omega) (by omega)]
    have := ih (i + 1) (acc ++ l[i].f4) (by omega) (by omega) (by simp; omega)
    rw [show serialsOf (l[i] :: l.drop (i + 1)) = l[i].f4 ++ serialsOf (l.drop (i + 1)) by unfold serialsOf; rw [List.flatMap_cons], ← List.append_assoc]
    exact Ev.pos (by omega) this
def serP (a b : Int) (l : List LnT) : List ByteArray := if ordR a b l = 0 then serialsOf l else []
theorem order_serials_f {a b : Int} {l : List LnT} (hf : fewP l) : Ev (fun k => order_Serials.f k a b l) (serP a b l) := by
  unfold order_Serials.f serP
  refine Ev.bind (order_check_f hf) (Q.Ev.ite (fun q => ?_) (fun q => Ev.ok (by rw [if_neg q])))
  rw [if_pos q]
  have := serials_l0 hf l.length 0 [] (by omega) (by omega) (by simp)
  rw [List.drop_zero, List.nil_append] at this
  exact this
theorem dup_nodup : ∀ (l S : List ByteArray), dupB S l = false → l.Nodup ∧ ∀ x ∈ l, x ∉ S
  | [], S, _ => ⟨List.nodup_nil, fun x h => by cases h⟩
  | y :: r, S, h => by
    simp only [dupB, Bool.or_eq_false_iff] at h
    obtain ⟨h1, h2⟩ := dup_nodup r (S ++ [y]) h.2
    have h3 : y ∉ S := fun g => by
      have h := h.1
      rw [memB_iff.2 g] at h
      cases h
    refine ⟨List.nodup_cons.2 ⟨fun g => h2 y g (by simp), h1⟩, fun x hx => ?_⟩
    rcases List.mem_cons.1 hx with rfl | hx
    · exact h3
    exact fun g => h2 x hx (by simp [g])
theorem findT_at {l : List ByteArray} {k : Nat} {s : ByteArray} (h : l[k]? = some s) (hn : l.Nodup) : findT l s = ((k : Int), true) := by
  obtain ⟨hk, rfl⟩ := List.getElem?_eq_some_iff.1 h
  have e : idxT l l[k] = some k := idxT_some hk rfl (fun j hj hjk e => List.pairwise_iff_getElem.1 hn j k hj hk hjk e)
  unfold findT
  rw [e]
theorem findT_mem {l : List ByteArray} {s : ByteArray} : (findT l s).2 = true ↔ s ∈ l := by
  unfold findT
  cases e : idxT l s with
  | none =>
    unfold idxT at e
    rw [List.findIdx?_eq_none_iff] at e
    exact ⟨fun h => (by cases h), fun h => (by have := e s h; simp at this)⟩
  | some i =>
    obtain ⟨h, rfl, _⟩ := idxT_get e
    exact ⟨fun _ => List.getElem_mem h, fun _ => rfl⟩
theorem findO_at {s : ByteArray} {y : LnT} {k : Nat} : ∀ (l : List LnT) (i0 i : Nat), l[i]? = some y → y.f4[k]? = some s → (serialsOf l).Nodup → findO i0 l s = (((i0 + i : Nat) : Int), (k : Int), true)
  | [], i0, i, h, _, _ => by simp at h
  | x :: r, i0, i, h, hk, hn => by
    rw [serialsOf_cons] at hn
    obtain ⟨n1, n2, n3⟩ := List.nodup_append.1 hn
    unfold findO
    cases i with
    | zero =>
      simp only [List.getElem?_cons_zero, Option.some.injEq] at h
      subst h
      rw [findT_at hk n1]
      simp
    | succ i =>
      simp only [List.getElem?_cons_succ] at h
      have hm : s ∈ serialsOf r := by
        unfold serialsOf
        exact List.mem_flatMap.2 ⟨y, List.mem_of_getElem? h, List.mem_of_getElem? hk⟩
      rw [if_neg (fun e => n3 s (findT_mem.1 e) s hm rfl), findO_at r (i0 + 1) i h hk n2]
      congr 2
      omega
theorem findO_mem {s : ByteArray} : ∀ (l : List LnT) (i0 : Nat), (findO i0 l s).2.2 = memB (serialsOf l) s
  | [], i0 => rfl
  | x :: r, i0 => by
    unfold findO
    rw [serialsOf_cons]
    by_cases h : (findT x.f4 s).2 = true
    · rw [if_pos h]
      exact (memB_iff.2 (List.mem_append.2 (.inl (findT_mem.1 h)))).symm
    rw [if_neg h, findO_mem r (i0 + 1)]
    rw [Bool.eq_iff_iff, memB_iff, memB_iff]
    exact ⟨fun g => List.mem_append.2 (.inr g), fun g => (List.mem_append.1 g).resolve_left fun g => h (findT_mem.2 g)⟩
def offL (l : List LnT) (i : Nat) : Nat := (serialsOf (l.take i)).length
theorem offL_zero (l : List LnT) : offL l 0 = 0 := by unfold offL; simp [serialsOf]
theorem offL_succ {l : List LnT} {i : Nat} (h : i < l.length) : offL l (i + 1) = offL l i + l[i].f4.length := by
  unfold offL
  rw [List.take_succ_eq_append_getElem h]
  unfold serialsOf
  rw [List.flatMap_append, List.length_append]
  simp
theorem offL_end {l : List LnT} {i : Nat} (h : l.length ≤ i) : offL l i = (serialsOf l).length := by
  unfold offL
  rw [List.take_of_length_le h]
theorem serials_at {l : List LnT} {i k : Nat} (h : i < l.length) (hk : k < l[i].f4.length) : (serialsOf l)[offL l i + k]? = some l[i].f4[k] := by
  have e : serialsOf l = serialsOf (l.take i) ++ (l[i].f4 ++ serialsOf (l.drop (i + 1))) := by
    conv => lhs; rw [← List.take_append_drop i l, drop_cons h]
    unfold serialsOf
    rw [List.flatMap_append, List.flatMap_cons]
  rw [e]
  unfold offL
  rw [List.getElem?_append_right (by omega), Nat.add_sub_cancel_left, List.getElem?_append_left hk, List.getElem?_eq_getElem hk]
theorem mem_take_succ {l : List ByteArray} {n : Nat} {x s : ByteArray} (h : l[n]? = some x) : memB (l.take (n + 1)) s = (memB (l.take n) s || decide (x = s)) := by
  obtain ⟨hn, rfl⟩ := List.getElem?_eq_some_iff.1 h
  rw [List.take_succ_eq_append_getElem hn, Bool.eq_iff_iff, Bool.or_eq_true, memB_iff, memB_iff, decide_eq_true_eq, List.mem_append, List.mem_singleton]
  exact or_congr Iff.rfl eq_comm
end Go.Proofs.Ytefhljhpcpajgaa.Q
namespace Go.Proofs.Ytefhljhpcpajgaa.Pure
open Go.RowKit Ytefhljhpcpajgaa.F YtefhljhpcpajgaaX Ytefhljhpcpajgaa.Q YtefhljhpcpajgaaW.PrintWords YtefhljhpcpajgaaW.PrintLast
theorem finds_l1 {a b : Int} {l : List LnT} {s : ByteArray} {i : Nat} (hf : fewP l) (h0 : ordR a b l = 0) (hn : (serialsOf l).Nodup) (h : i < l.length)
    (hR : ∀ u : Bool, u = memB ((serialsOf l).take (offL l (i + 1))) s → Ev (fun k => backhaullaw26_OrderFinds.l0 k s (serialsOf l) ((offL l (i + 1) : Nat) : Int) u ((i + 1 : Nat) : Int) a b l) true) (m : Nat) :
    ∀ (j : Nat) (u : Bool), l[i].f4.length - j = m → j ≤ l[i].f4.length → u = memB ((serialsOf l).take (offL l i + j)) s → Ev (fun k => backhaullaw26_OrderFinds.l1 k s (serialsOf l) ((offL l i + j : Nat) : Int) u (i : Int) (j : Int) a b l) true := by
  have hl := hf.1
  have hx := hf.2 _ (List.getElem_mem h)
  have hsl := serials_len hf
  induction m with
  | zero =>
    intro j u hd hj hu
    refine Ev.step (fun k => by simp only [backhaullaw26_OrderFinds.l1]; rfl) (Ev.pos (by omega) (Ev.pos (by omega) ?_))
    rw [rdL h, wrap_eq (x := (i : Int) + 1) (by omega) (by omega)]
    have e : offL l i + j = offL l (i + 1) := by rw [offL_succ h]; omega
    rw [e] at hu ⊢
    exact Ev.neg (by omega) (hR u hu)
  | succ m ih =>
    intro j u hd hj hu
    have hjl : j < l[i].f4.length := by omega
    have hat := serials_at h hjl
    obtain ⟨hnl, hne⟩ := List.getElem?_eq_some_iff.1 hat
    have hfd := order_find_f (a := a) (b := b) (t := l[i].f4[j]) hf
    have ef : findP a b l l[i].f4[j] = ((i : Int), (j : Int), true) := by
      unfold findP
      rw [if_pos h0, findO_at l 0 i (List.getElem?_eq_getElem h) (List.getElem?_eq_getElem hjl) hn, Nat.zero_add]
    rw [ef] at hfd
    have hs := mem_take_succ (s := s) hat
    refine Ev.step (fun k => by simp only [backhaullaw26_OrderFinds.l1]; rfl) (Ev.pos (by omega) (Ev.pos (by omega) ?_))
    rw [rdL h, rdOf_nat hjl, rdOf_nat hnl, hne, wrap_eq (x := (j : Int) + 1) (by omega) (by omega), wrap_eq (x := ((offL l i + j : Nat) : Int) + 1) (by omega) (by omega)]
    refine Ev.pos (by omega) (Ev.pos (by omega) (Ev.bind hfd (Q.Ev.pos rfl (Q.Ev.pos rfl (Q.Ev.pos rfl (Q.Ev.neg (by omega) (Q.Ev.pos (by omega) (Q.Ev.pos (by omega) (Q.Ev.pos rfl ?_)))))))))
    refine Q.Ev.ite (fun c => ?_) (fun c => ?_)
    · exact ih (j + 1) true (by omega) (by omega) (by rw [← Nat.add_assoc, hs, ← hu, c]; rfl)
    refine ih (j + 1) _ (by omega) (by omega) ?_
    rw [← Nat.add_assoc, hs, ← hu, Bool.eq_false_iff.2 c, Bool.false_or, Bool.eq_iff_iff, decide_eq_true_eq, beq_iff_eq, bytes_ext]
theorem finds_l0 {a b : Int} {l : List LnT} {s : ByteArray} (hf : fewP l) (h0 : ordR a b l = 0) (hn : (serialsOf l).Nodup) (haw : backhaullaw26_awake.f = some true) (m : Nat) :
    ∀ (i : Nat) (u : Bool), l.length - i = m → i ≤ l.length → u = memB ((serialsOf l).take (offL l i)) s → Ev (fun k => backhaullaw26_OrderFinds.l0 k s (serialsOf l) ((offL l i : Nat) : Int) u (i : Int) a b l) true := by
  have hl := hf.1
  induction m with
  | zero =>
    intro i u hd hi hu
    have e : findP a b l s = findO 0 l s := by unfold findP; rw [if_pos h0]
    have hfd := order_find_f (a := a) (b := b) (t := s) hf
    rw [e] at hfd
    have e2 := findO_mem (s := s) l 0
    rw [offL_end (by omega), List.take_of_length_le (Nat.le_refl _)] at hu
    refine Ev.step (fun k => by simp only [backhaullaw26_OrderFinds.l0]; rfl) (Ev.neg (by omega) (Ev.bind hfd ?_))
    rw [offL_end (by omega)]
    refine Q.Ev.pos (by rw [e2, ← hu]; exact beq_self_eq_true u) (Q.Ev.pos rfl (Q.Ev.bindc haw (Q.Ev.pos rfl (Q.Ev.const rfl))))
  | succ m ih =>
    intro i u hd hi hu
    have h : i < l.length := by omega
    refine Ev.step (fun k => by simp only [backhaullaw26_OrderFinds.l0]; rfl) (Ev.pos (by omega) ?_)
    exact finds_l1 hf h0 hn h (fun u hu => ih (i + 1) u (by omega) (by omega) hu) l[i].f4.length 0 u (by omega) (by omega) hu
theorem OrderFinds : backhaullaw26_OrderFinds.Pure := by
  intro a b l s ha hb hl hs
  refine Ev.rounds (r := true) ?_
  have haw : backhaullaw26_awake.f = some true := rfl
  have out : ∀ u : Bool, u = true → Ev (fun k => backhaullaw26_OrderFinds.j0 k s u a b l) true := fun u hu =>
    Ev.step (fun k => by simp only [backhaullaw26_OrderFinds.j0]; rfl) (Q.Ev.pos hu (Q.Ev.bindc haw (Q.Ev.pos rfl (Q.Ev.const rfl))))
  unfold backhaullaw26_OrderFinds.f
  refine Ev.bind (few_f _) (Q.Ev.ite (fun q => ?_) (fun _ => out true rfl))
  have hf := few_p q
  refine Q.Ev.ite (fun _ => out true rfl) (fun _ => ?_)
  refine Ev.bind (order_check_f hf) ?_
  by_cases h0 : ordR a b l = 0
  · rw [h0]
    refine Ev.step (fun k => by simp only [backhaullaw26_OrderFinds.j0]; rfl) (Q.Ev.neg (by decide) ?_)
    have hser := order_serials_f (a := a) (b := b) hf
    have e : serP a b l = serialsOf l := by unfold serP; rw [if_pos h0]
    rw [e] at hser
    have hn : (serialsOf l).Nodup := by
      have hd : dupB [] (serialsOf l) = false := by
        unfold ordR finB at h0
        split at h0
        · rename_i g
          have := g.2.2
          rw [Bool.and_eq_true] at this
          simpa using this.2
        cases h0
      exact (dup_nodup _ _ hd).1
    refine Ev.bind hser ?_
    have := finds_l0 (s := s) hf h0 hn haw l.length 0 false (by omega) (by omega) (by rw [offL_zero]; rfl)
    rw [offL_zero] at this
    exact this
  exact out _ (by simpa using h0)
end Go.Proofs.Ytefhljhpcpajgaa.Pure
namespace Go.Proofs.YtefhljhpcpajgaaX
open Go.RowKit YtefhljhpcpajgaaW.PrintWords YtefhljhpcpajgaaW.PrintLast YtefhljhpcpajgaaW.PrintMore
def Opens {α : Type} (P : Program) (t : TypeId) (k : Kd α) (Ok : α → Prop) : Prop :=
  ∀ {H : Type} {enc : TypeId × Value → H} {w : World} {base : Nat} {spare : Nat → Bool} {held : Bool} {fuel : Nat} {cs : List Value} {x : DataW H × List MemPlace},
    DataW.trod enc P w base spare held fuel t cs = some x → ∃ a : α, k.K w a cs ∧ Ok a
theorem Opens.int {P : Program} {t : TypeId} {k : IntKind} (ht : P.underlying t = some (.int k)) : Opens P t (Kd.int k) (fun a => (Lit.int k a).wf = true) := by
  intro H enc w base spare held fuel cs x h
  obtain ⟨n, rfl, _, hw⟩ := DataW.trod_int ht h
  exact ⟨n, rfl, hw⟩
theorem Opens.bool {P : Program} {t : TypeId} (ht : P.underlying t = some .bool) : Opens P t Kd.bool (fun _ => True) := by
  intro H enc w base spare held fuel cs x h
  obtain ⟨n, rfl, _⟩ := DataW.trod_bool ht h
  exact ⟨n, rfl, trivial⟩
theorem Opens.string {P : Program} {t : TypeId} (ht : P.underlying t = some .string) : Opens P t Kd.string (fun a => a.size ≤ maxLen) := by
  intro H enc w base spare held fuel cs x h
  obtain ⟨s, rfl, _, hw⟩ := DataW.trod_string ht h
  exact ⟨s, rfl, hw⟩
theorem list_of {α : Type} {p : Nat → α → Prop} : ∀ n, (∀ i, i < n → ∃ a, p i a) → ∃ xs : List α, xs.length = n ∧ ∀ i a, xs[i]? = some a → p i a
  | 0, _ => ⟨[], rfl, fun i a h => by simp at h⟩
  | n + 1, h => by
    obtain ⟨xs, hl, hx⟩ := list_of n (fun i hi => h i (by omega))
    obtain ⟨a, ha⟩ := h n (by omega)
    refine ⟨xs ++ [a], by simp [hl], fun i b hb => ?_⟩
    rcases Nat.lt_or_ge i xs.length with h1 | h1
    · rw [List.getElem?_append_left h1] at hb
      exact hx i b hb
    rw [List.getElem?_append_right h1] at hb
    have h2 : i - xs.length = 0 := by
      have := (List.getElem?_eq_some_iff.1 hb).1
      simp at this; omega
    rw [h2] at hb
    have : a = b := by simpa using hb
    subst this
    have : i = n := by omega
    rw [this]; exact ha
theorem Opens.slice {α : Type} {P : Program} {t e : TypeId} {k : Kd α} {Ok : α → Prop} (ht : P.underlying t = some (.slice e)) (hc : P.cellsOf e = k.sz) (h : Opens P e k Ok) :
    Opens P t (Kd.slice e k) (fun xs => xs.length ≤ maxLen ∧ ∀ x ∈ xs, Ok x) := by
  intro H enc w base spare held fuel cs x hx
  rcases Go.Deep.open_slice ht hx with ⟨rfl, rfl⟩ | ⟨a, len, cap, m, n, D, Pl, rfl, hb, hl, hm, hmm, rfl, hel⟩
  · exact ⟨[], ⟨none, 0, rfl, by simp, rfl, by simp, fun h => absurd h (by simp)⟩, by simp [maxLen], by simp⟩
  have hlm : len ≤ m := by rw [hmm]; split <;> omega
  obtain ⟨xs, hlen, hxs⟩ := list_of (p := fun i (a' : α) => ∃ cs', w.cells? base (a.add (i * P.cellsOf e)) (P.cellsOf e) = some cs' ∧ k.K w a' cs' ∧ Ok a') len (fun i hi => by
    obtain ⟨cs', h1, h2⟩ := hel i (by omega)
    obtain ⟨a', h3, h4⟩ := h h2
    exact ⟨a', cs', h1, h3, h4⟩)
  have hlm2 : len ≤ maxLen := by omega
  refine ⟨xs, ⟨some a, cap, by rw [hlen], by rw [hlen]; exact hl, rfl, by rw [hlen]; simpa [maxLen] using hlm2, fun _ => ⟨a, rfl, fun j p hj => ?_⟩⟩, by rw [hlen]; exact hlm2, fun y hy => ?_⟩
  · obtain ⟨cs', h1, h2, _⟩ := hxs j p hj
    refine ⟨cs', k.K_len h2, h2, fun i u hu => ?_⟩
    obtain ⟨_, _, h3⟩ := World.cells?_some h1
    have h4 := h3 i (by have := (List.getElem?_eq_some_iff.1 hu).1; have := k.K_len h2; omega)
    rw [← hc, ← Go.Proofs.YtefhljhpcpajgaaW.PrintWords.add_add]
    rw [← hu]; exact h4
  obtain ⟨i, hi, rfl⟩ := List.mem_iff_getElem.1 hy
  obtain ⟨_, _, _, h3⟩ := hxs i _ (List.getElem?_eq_getElem hi)
  exact h3
theorem field_reads {H : Type} {enc : TypeId × Value → H} {P : Program} {w : World} {base : Nat} {spare : Nat → Bool} {held : Bool} {fuel : Nat} {t : TypeId} {cs : List Value} {x : DataW H × List MemPlace} {fs : Array Field}
    (ht : P.underlying t = some (.struct fs)) (h : DataW.trod enc P w base spare held fuel t cs = some x) :
    cs.length = P.cellsOf t ∧ ∃ n, ∀ (i : Nat) (f : Field), fs[i]? = some f → ∃ y, DataW.trod enc P w base spare held n f.type ((cs.drop f.offset).take (P.cellsOf f.type)) = some y := by
  obtain ⟨xs, n, _, _, hl, hx, hf⟩ := DataW.trod_struct ht h
  refine ⟨hl, n, fun i f hif => ?_⟩
  rw [hf i f hif]
  have hi := (Array.getElem?_eq_some_iff.1 hif).1
  exact ⟨_, List.getElem?_eq_getElem (by rw [hx]; exact hi)⟩
theorem band {a b : Bool} (h1 : a = true) (h2 : b = true) : (a && b) = true := by rw [h1, h2]; rfl
theorem mayEnter_of {P : Program} {L c : List Char} {rest : List (List Char)} (h : P.initOrder.toList = L) (h1 : behindMainWord (wordsSigns L) = c :: rest) (h2 : ((stripLifts liftWords (c :: rest)).2.head? == some "cut".toList) = true) (h3 : P.laysLater = false) (h4 : P.bearsReflect = false) (h5 : (stripLifts liftWords (c :: rest)).1 = []) (h6 : P.doorFits [] = true) : P.mayEnter = true := by
  unfold Program.mayEnter
  rw [h, h1]
  dsimp only
  rw [h2, h3, h4, h5, h6]
  simp
theorem make_of {P : Program} {L : List Char} {rest : List (List Char)} (h : P.initOrder.toList = L) (h1 : behindMainWord (wordsSigns L) = "cut".toList :: rest) : P.make = some .cut := by
  unfold Program.make
  rw [h, h1]
  dsimp only
  rw [if_neg (by decide), if_pos (by simp)]
end Go.Proofs.YtefhljhpcpajgaaX
set_option maxRecDepth 10000
namespace Go.Proofs.Ytefhljhpcpajgaa.Join
open YtefhljhpcpajgaaX
def initSigns : List Char := ['h', 'a', 'r', 'n', 'e', 's', 's', ' ', '5', '6', '5', 'd', 'd', 'd', '3', '6', '6', '5', 'c', '5', '5', '9', 'c', '2', '4', '9', 'e', '2', 'e', '3', '7', '8', 'c', '7', '1', 'b', 'b', 'b', '4', '7', '4', '9', '6', '8', '7', '8', 'a', '7', '0', 'b', '1', 'c', '4', '8', '9', 'f', '4', '3', '5', '5', '6', 'b', 'b', '7', 'f', '7', 'f', '7', '4', '9', '2', 'f', ' ', 'c', 'u', 't', ' ', 'a', 't', ' ', 'b', 'a', 'c', 'k', 'h', 'a', 'u', 'l', '/', 'b', 'a', 'c', 'k', 'h', 'a', 'u', 'l', 'l', 'a', 'w', '0', '2', '.', 'C', 'e', 'n', 't', 's', 'S', 'u', 'm', 's', ' ', 'b', 'a', 'c', 'k', 'h', 'a', 'u', 'l', '/', 'b', 'a', 'c', 'k', 'h', 'a', 'u', 'l', 'l', 'a', 'w', '0', '2', '.', 'C', 'e', 'n', 't', 's', 'S', 'h', 'a', 'r', 'e', 's', ' ', 'b', 'a', 'c', 'k', 'h', 'a', 'u', 'l', '/', 'b', 'a', 'c', 'k', 'h', 'a', 'u', 'l', 'l', 'a', 'w', '0', '2', '.', 'C', 'e', 'n', 't', 's', 'O', 'v', 'e', 'r', ' ', 'b', 'a', 'c', 'k', 'h', 'a', 'u', 'l', '/', 'b', 'a', 'c', 'k', 'h', 'a', 'u', 'l', 'l', 'a', 'w', '0', '2', '.', 'C', 'e', 'n', 't', 's', 'D', 'i', 'v', 's', ' ', 'b', 'a', 'c', 'k', 'h', 'a', 'u', 'l', '/', 'b', 'a', 'c', 'k', 'h', 'a', 'u', 'l', 'l', 'a', 'w', '0', '4', '.', 'F', 'e', 'e', 'T', 'e', 'l', 'l', 's', ' ', 'b', 'a', 'c', 'k', 'h', 'a', 'u', 'l', '/', 'b', 'a', 'c', 'k', 'h', 'a', 'u', 'l', 'l', 'a', 'w', '0', '4', '.', 'F', 'e', 'e', 'B', 'o', 'u', 'n', 'd', 's', ' ', 'b', 'a', 'c', 'k', 'h', 'a', 'u', 'l', '/', 'b', 'a', 'c', 'k', 'h', 'a', 'u', 'l', 'l', 'a', 'w', '0', '4', '.', 'F', 'e', 'e', 'S', 't', 'e', 'p', 's', ' ', 'b', 'a', 'c', 'k', 'h', 'a', 'u', 'l', '/', 'b', 'a', 'c', 'k', 'h', 'a', 'u', 'l', 'l', 'a', 'w', '0', '3', '.', 'S', 'h', 'a', 'r', 'e', 'D', 'e', 'a', 'l', 's', ' ', 'b', 'a', 'c', 'k', 'h', 'a', 'u', 'l', '/', 'b', 'a', 'c', 'k', 'h', 'a', 'u', 'l', 'l', 'a', 'w', '0', '3', '.', 'S', 'h', 'a', 'r', 'e', 'A', 'l', 'l', ' ', 'b', 'a', 'c', 'k', 'h', 'a', 'u', 'l', '/', 'b', 'a', 'c', 'k', 'h', 'a', 'u', 'l', 'l', 'a', 'w', '0', '3', '.', 'S', 'h', 'a', 'r', 'e', 'F', 'a', 'i', 'r', ' ', 'b', 'a', 'c', 'k', 'h', 'a', 'u', 'l', '/', 'b', 'a', 'c', 'k', 'h', 'a', 'u', 'l', 'l', 'a', 'w', '2', '1', '.', 'L', 'i', 'n', 'e', 'D', 'e', 'a', 'l', 's', ' ', 'b', 'a', 'c', 'k', 'h', 'a', 'u', 'l', '/', 'b', 'a', 'c', 'k', 'h', 'a', 'u', 'l', 'l', 'a', 'w', '2', '1', '.', 'L', 'i', 'n', 'e', 'T', 'e', 'l', 'l', 's', ' ', 'b', 'a', 'c', 'k', 'h', 'a', 'u', 'l', '/', 'b', 'a', 'c', 'k', 'h', 'a', 'u', 'l', 'l', 'a', 'w', '2', '1', '.', 'L', 'i', 'n', 'e', 'A', 'l', 'l', ' ', 'b', 'a', 'c', 'k', 'h', 'a', 'u', 'l', '/', 'b', 'a', 'c', 'k', 'h', 'a', 'u', 'l', 'l', 'a', 'w', '2', '1', '.', 'L', 'i', 'n', 'e', 'U', 'n', 'i', 't', 's', ' ', 'b', 'a', 'c', 'k', 'h', 'a', 'u', 'l', '/', 'b', 'a', 'c', 'k', 'h', 'a', 'u', 'l', 'l', 'a', 'w', '2', '2', '.', 'V', 'a', 'l', 'u', 'e', 'T', 'e', 'l', 'l', 's', ' ', 'b', 'a', 'c', 'k', 'h', 'a', 'u', 'l', '/', 'b', 'a', 'c', 'k', 'h', 'a', 'u', 'l', 'l', 'a', 'w', '2', '2', '.', 'V', 'a', 'l', 'u', 'e', 'B', 'o', 'u', 'n', 'd', 's', ' ', 'b', 'a', 'c', 'k', 'h', 'a', 'u', 'l', '/', 'b', 'a', 'c', 'k', 'h', 'a', 'u', 'l', 'l', 'a', 'w', '2', '2', '.', 'V', 'a', 'l', 'u', 'e', 'W', 'h', 'o', 'l', 'e', ' ', 'b', 'a', 'c', 'k', 'h', 'a', 'u', 'l', '/', 'b', 'a', 'c', 'k', 'h', 'a', 'u', 'l', 'l', 'a', 'w', '2', '6', '.', 'O', 'r', 'd', 'e', 'r', 'M', 'a', 'k', 'e', 's', ' ', 'b', 'a', 'c', 'k', 'h', 'a', 'u', 'l', '/', 'b', 'a', 'c', 'k', 'h', 'a', 'u', 'l', 'l', 'a', 'w', '2', '6', '.', 'O', 'r', 'd', 'e', 'r', 'T', 'e', 'l', 'l', 's', ' ', 'b', 'a', 'c', 'k', 'h', 'a', 'u', 'l', '/', 'b', 'a', 'c', 'k', 'h', 'a', 'u', 'l', 'l', 'a', 'w', '2', '6', '.', 'O', 'r', 'd', 'e', 'r', 'D', 'e', 'a', 'l', 's', ' ', 'b', 'a', 'c', 'k', 'h', 'a', 'u', 'l', '/', 'b', 'a', 'c', 'k', 'h', 'a', 'u', 'l', 'l', 'a', 'w', '2', '6', '.', 'O', 'r', 'd', 'e', 'r', 'F', 'i', 'n', 'd', 's']
theorem initText : Try.pinned.checked.prog.initOrder = String.ofList initSigns := by kernel_rfl
theorem initList : Try.pinned.checked.prog.initOrder.toList = initSigns := (congrArg String.toList initText).trans String.toList_ofList
theorem mayEnter_is : Try.pinned.checked.prog.mayEnter = true :=
  mayEnter_of (L := initSigns) (c := "cut".toList) (rest := (behindMainWord (wordsSigns initSigns)).tail) initList (by kernel_rfl) (by kernel_rfl) (by kernel_rfl) (by kernel_rfl) (by kernel_rfl) (by kernel_rfl)
theorem make_is : Try.pinned.checked.prog.make = some .cut :=
  make_of (L := initSigns) (rest := (behindMainWord (wordsSigns initSigns)).tail) initList (by kernel_rfl)
theorem lifts_is : Try.pinned.checked.prog.liftsFinal = false := by
  unfold Program.liftsFinal Program.headLifts
  rw [initList]
  kernel_rfl
end Go.Proofs.Ytefhljhpcpajgaa.Join
namespace Go.Proofs.Ytefhljhpcpajgaa.orderFinds
open Go.ChangeShapes Go.WideShapes Go.ChangeAt Go.RowKit YtefhljhpcpajgaaX Ytefhljhpcpajgaa.F YtefhljhpcpajgaaW.PrintWords YtefhljhpcpajgaaW.PrintLast YtefhljhpcpajgaaW.PrintMore
open Go.ChangeMaps (open_string shut_string)
theorem own : ownKnob Try.prog.godebug = none := by kernel_rfl
theorem laidOut : laidOutB Try.prog = true := by kernel_rfl
set_option maxRecDepth 100000 in
theorem opens_k71 : Opens Try.prog 71 k71 (fun x => ((Lit.int .i64 x.f0).wf = true ∧ (Lit.int .i64 x.f1).wf = true ∧ (Lit.int .i64 x.f2).wf = true ∧ (Lit.int .i64 x.f3).wf = true ∧ (x.f4.length ≤ maxLen ∧ ∀ y ∈ x.f4, y.size ≤ maxLen))) := by
  intro H enc w base spare held fuel cs x h
  obtain ⟨hl, n, hf⟩ := field_reads Try.underlying71 h
  have hl2 : cs.length = 5 := hl.trans (by kernel_rfl)
  match cs, hl2 with
  | [c0, c1, c2, c3, c4], _ =>
    obtain ⟨y0, h0⟩ := hf 0 _ rfl
    have e0 : Try.prog.cellsOf 3 = 1 := by kernel_rfl
    (try dsimp only at h0)
    (try simp only [e0] at h0)
    obtain ⟨a0, k0, o0⟩ := (Opens.int Try.underlying3) h0
    have k0' : ((Kd.int .i64)).K w a0 [c0] := k0
    obtain ⟨y1, h1⟩ := hf 1 _ rfl
    have e1 : Try.prog.cellsOf 3 = 1 := by kernel_rfl
    (try dsimp only at h1)
    (try simp only [e1] at h1)
    obtain ⟨a1, k1, o1⟩ := (Opens.int Try.underlying3) h1
    have k1' : ((Kd.int .i64)).K w a1 [c1] := k1
    obtain ⟨y2, h2⟩ := hf 2 _ rfl
    have e2 : Try.prog.cellsOf 3 = 1 := by kernel_rfl
    (try dsimp only at h2)
    (try simp only [e2] at h2)
    obtain ⟨a2, k2, o2⟩ := (Opens.int Try.underlying3) h2
    have k2' : ((Kd.int .i64)).K w a2 [c2] := k2
    obtain ⟨y3, h3⟩ := hf 3 _ rfl
    have e3 : Try.prog.cellsOf 3 = 1 := by kernel_rfl
    (try dsimp only at h3)
    (try simp only [e3] at h3)
    obtain ⟨a3, k3, o3⟩ := (Opens.int Try.underlying3) h3
    have k3' : ((Kd.int .i64)).K w a3 [c3] := k3
    obtain ⟨y4, h4⟩ := hf 4 _ rfl
    have e4 : Try.prog.cellsOf 69 = 1 := by kernel_rfl
    (try dsimp only at h4)
    (try simp only [e4] at h4)
    obtain ⟨a4, k4, o4⟩ := (Opens.slice Try.underlying69 (by kernel_rfl) (Opens.string Try.underlying9)) h4
    have k4' : ((Kd.slice 9 Kd.string)).K w a4 [c4] := k4
    exact ⟨(⟨a0, a1, a2, a3, a4⟩ : S71), ⟨[c0], [c1, c2, c3, c4], rfl, k0', ⟨[c1], [c2, c3, c4], rfl, k1', ⟨[c2], [c3, c4], rfl, k2', ⟨[c3], [c4], rfl, k3', k4'⟩⟩⟩⟩, ⟨o0, o1, o2, o3, o4⟩⟩
set_option maxRecDepth 100000 in
theorem opens_k99 : Opens Try.prog 99 k99 (fun x => ((Lit.int .i64 x.f0).wf = true ∧ (Lit.int .i64 x.f1).wf = true ∧ (x.f2.length ≤ maxLen ∧ ∀ y ∈ x.f2, ((Lit.int .i64 y.f0).wf = true ∧ (Lit.int .i64 y.f1).wf = true ∧ (Lit.int .i64 y.f2).wf = true ∧ (Lit.int .i64 y.f3).wf = true ∧ (y.f4.length ≤ maxLen ∧ ∀ x ∈ y.f4, x.size ≤ maxLen))))) := by
  intro H enc w base spare held fuel cs x h
  obtain ⟨hl, n, hf⟩ := field_reads Try.underlying99 h
  have hl2 : cs.length = 3 := hl.trans (by kernel_rfl)
  match cs, hl2 with
  | [c0, c1, c2], _ =>
    obtain ⟨y0, h0⟩ := hf 0 _ rfl
    have e0 : Try.prog.cellsOf 3 = 1 := by kernel_rfl
    (try dsimp only at h0)
    (try simp only [e0] at h0)
    obtain ⟨a0, k0, o0⟩ := (Opens.int Try.underlying3) h0
    have k0' : ((Kd.int .i64)).K w a0 [c0] := k0
    obtain ⟨y1, h1⟩ := hf 1 _ rfl
    have e1 : Try.prog.cellsOf 3 = 1 := by kernel_rfl
    (try dsimp only at h1)
    (try simp only [e1] at h1)
    obtain ⟨a1, k1, o1⟩ := (Opens.int Try.underlying3) h1
    have k1' : ((Kd.int .i64)).K w a1 [c1] := k1
    obtain ⟨y2, h2⟩ := hf 2 _ rfl
    have e2 : Try.prog.cellsOf 59 = 1 := by kernel_rfl
    (try dsimp only at h2)
    (try simp only [e2] at h2)
    obtain ⟨a2, k2, o2⟩ := (Opens.slice Try.underlying59 (by kernel_rfl) opens_k71) h2
    have k2' : ((Kd.slice 71 k71)).K w a2 [c2] := k2
    exact ⟨(⟨a0, a1, a2⟩ : S99), ⟨[c0], [c1, c2], rfl, k0', ⟨[c1], [c2], rfl, k1', k2'⟩⟩, ⟨o0, o1, o2⟩⟩
set_option maxRecDepth 100000 in
theorem lifted (os : Os) (started : os.Started) (H : Type) (enc : TypeId × Value → H) :
    ReturnsInHanded {} Try.checked os 23 .any (Rows.orderFindsSpec.pre6 enc Try.prog Try.f23 Rows.orderFindsRow.domain false) (Rows.orderFindsSpec.post enc Try.prog Try.f23 false true false false) := by
  refine returnsInHanded_of_change_sized (C := Try.checked) own started (by kernel_rfl) Try.func23
    (ChangeSpec.witness6 (enc := enc) (C := Try.checked) false ⟨#[], #[.agg #[.int .i64 0, .int .i64 0, .slice none 0 0], .string ByteArray.empty], []⟩ 8 (by kernel_rfl) (by kernel_rfl) (by kernel_rfl) (by kernel_rfl)) ?_
  intro W base args ds gs before hval0 hW hcnd hsz0 _
  have hval : ∀ (j : Nat) t v, Try.f23.params[j]? = some t → args[j]? = some v → Value.okWide Try.prog W .any base t v := hval0
  have hW' := hW
  obtain ⟨p, q, hA0, hV, rfl, hfz, hnd⟩ := hW
  have hA : DataW.TrodAll enc Try.prog W 0 (fun _ => true) true Try.f23.params.toList args.toList ds p := hA0
  rw [Try.params23] at hA hval
  obtain ⟨v0, vs0, d0, ds0, p0, q0, hargs, rfl, rfl, h0, r0⟩ := trodAll_cons hA
  obtain ⟨v1, vs1, d1, ds1, p1, q1, rfl, rfl, rfl, h1, r1⟩ := trodAll_cons r0
  obtain ⟨rfl, rfl, rfl⟩ := trodAll_nil r1
  obtain rfl : args = #[v0, v1] := by cases args; simp_all
  obtain ⟨rfl, rfl⟩ := trodVars_none hV
  have k0 := h0
  have lt0 : ∀ x ∈ p0, x.block < W.heap.size := by obtain ⟨m, hm⟩ := k0; exact DataW.trod_lt m _ _ _ hm
  obtain ⟨cs0, rfl, _⟩ := okWide_struct Try.underlying99 (hval 0 99 v0 rfl rfl)
  obtain ⟨f0, hf0⟩ := h0
  obtain ⟨x0, hk0, ho0⟩ := opens_k99 hf0
  obtain ⟨A0_2, c0_2, he0, hl0_2, hc0_2⟩ := k99_open hk0
  obtain rfl : cs0 = _ := Array.toList_inj.1 (he0.trans (List.toList_toArray).symm)
  have k1 := h1
  have lt1 : ∀ x ∈ p1, x.block < W.heap.size := by obtain ⟨m, hm⟩ := k1; exact DataW.trod_lt m _ _ _ hm
  obtain ⟨x1, rfl⟩ := okWide_string Try.underlying9 (hval 1 9 v1 rfl rfl)
  obtain ⟨f1, hf1⟩ := h1
  obtain ⟨z1, hk1, ho1⟩ := (Opens.string Try.underlying9) hf1
  obtain rfl : x1 = z1 := by have := hk1; injection this with this; injection this
  obtain ⟨k, h⟩ : ∃ k, backhaullaw26_OrderFinds.f k x0.f0 x0.f1 x0.f2 x1 = some true := Pure.OrderFinds x0.f0 x0.f1 x0.f2 x1 ho0.1 ho0.2.1 ho0.2.2 ho1
  refine (backhaullaw26_OrderFinds.calls k x0.f0 x0.f1 _ _ x0.f2 x1 W hc0_2 hl0_2 h).mono fun e W' hq => ?_
  obtain ⟨he, bel0⟩ := hq
  have bel : Below W.heap.size W W' := bel0
  subst he
  exact ⟨_, rfl, _, _, _, [], _, [], hW', trodAll_mk1 (shut_bool Try.underlying4 _), (trodAll_cons_mk (Below.trod laidOut (by kernel_rfl) (of_decide_eq_true (by kernel_rfl)) k0 bel lt0) (trodAll_cons_mk (Below.trod laidOut (by kernel_rfl) (of_decide_eq_true (by kernel_rfl)) k1 bel lt1) trodAll_mk0)), rfl, bel.frame _, fun h => by cases h⟩
theorem closed_ : joinedFacts Try.pinned.checked.prog 23 Try.f23 Rows.orderFindsSpec Rows.orderFindsRow = true := by
  unfold joinedFacts
  repeat' (with_reducible apply band)
  any_goals with_reducible exact Join.mayEnter_is
  any_goals (rw [Join.make_is]; kernel_rfl)
  any_goals (rw [Join.lifts_is]; kernel_rfl)
  all_goals kernel_rfl
theorem over : Rows.orderFindsRow.holds Try.pinned (OpenSpec.ofChange Rows.orderFindsSpec) :=
  OpenClaim.holds_of_wide 23 Try.f23 rfl rfl rfl rfl rfl rfl rfl ⟨rfl, rfl, rfl, rfl, rfl⟩ rfl rfl rfl rfl rfl (by kernel_rfl) Try.func23 closed_
    (of_decide_eq_true (by kernel_rfl)) (by unfold Func.isWrapper; first | (rw [if_pos (by decide +kernel)]; kernel_rfl) | (rw [if_neg (by decide +kernel)]; exact ⟨rfl, rfl⟩))
    (fun os started H enc _ => lifted os started H enc)
theorem proved : Rows.OrderFindsSaid := over
#print axioms proved
end Go.Proofs.Ytefhljhpcpajgaa.orderFinds
namespace Go.Proofs.Ytefhljhpcpajgaa
theorem orderFinds_holds : Rows.OrderFindsSaid := orderFinds.proved
end Go.Proofs.Ytefhljhpcpajgaa
