-- by prune.py (own program), out of the print
import Derived.Deep.Slices
import Derived.ChangeArms
import Derived.WideShapes
import Derived.OpenShut
import Derived.Test.YtefhljhpcpajgaaRows
import Derived.ProofKit
import Derived.ShutString
import Derived.ChangeOld
import Derived.SizedLaws
import Derived.Test.YtefhljhpcpajgaaZOrderTells6
namespace Go.Proofs.Ytefhljhpcpajgaa.F
open Go.RowKit YtefhljhpcpajgaaX YtefhljhpcpajgaaW.PrintWords YtefhljhpcpajgaaW.PrintLast YtefhljhpcpajgaaW.PrintMore
attribute [local go_sem] max2_int min2_int max_two min_two max_three min_three max_four min_four
attribute [local go_sem high] str_geq str_leq str_gtr
set_option linter.unusedVariables false
set_option linter.unusedSimpArgs false
def backhaulref26_Serials.f (k : Nat) (a0_0 : Int) (a0_1 : Int) (l0_2 : List (S71)) : Option (List ByteArray) := (backhaulref26_Check.f k a0_0 a0_1 l0_2).bind fun t102 => (if t102 = 0 then ((backhaulref26_all.f k l0_2).bind fun t103 => (some t103)) else (some ([] : List ByteArray)))
theorem backhaulref26_Serials.mono : ∀ a0 a1 a2 k, LeO (backhaulref26_Serials.f k a0 a1 a2) (backhaulref26_Serials.f (k + 1) a0 a1 a2) := by
  intro a0 a1 a2 k
  unfold backhaulref26_Serials.f
  repeat' (with_reducible first | exact backhaulref26_Check.mono _ _ _ _ | exact backhaulref26_all.mono _ _ | exact LeO.refl _ | exact LeO.none _ | refine LeO.ite ?_ ?_ | refine LeO.bind ?_ (fun _ => ?_))
set_option maxHeartbeats 8000000 in
set_option maxRecDepth 100000 in
theorem backhaulref26_Serials.calls (k : Nat) (a0_0 : Int) (a0_1 : Int) (A0_2 : Option Addr) (c0_2 : Nat) (l0_2 : List (S71)) (r : List ByteArray) (w : World) (hr0_2 : Kd.C k71 w A0_2 l0_2.length l0_2) (hc0_2 : l0_2.length ≤ c0_2) (h : backhaulref26_Serials.f k a0_0 a0_1 l0_2 = some r) :
    Calls Try.prog 94 #[.agg #[.int .i64 a0_0, .int .i64 a0_1, .slice A0_2 l0_2.length c0_2]] w fun e w' => ∃ v0_ : Value, e = .returned (v0_) ∧ Kd.R Kd.string 9 w' w.heap.size (fun _ => True) v0_ r ∧ Below w.heap.size w w' := by
  have hu99 := Try.underlying99
  have HR0_2 := zA hr0_2
  have HC0_2 := zA hc0_2
  clear hr0_2 hc0_2
  have HB := zA (Below.refl w.heap.size w)
  have H : ((backhaulref26_Check.f k a0_0 a0_1 l0_2).bind fun t102 => (if t102 = 0 then ((backhaulref26_all.f k l0_2).bind fun t103 => (some t103)) else (some ([] : List ByteArray)))) = some r := h
  clear h
  replace H := Option.bind_eq_some_iff.mp H
  obtain ⟨t102, A20, H⟩ := H
  try dsimp only at H
  have A2 := zA A20
  clear A20
  by_cases c3 : t102 = 0
  · rw [if_pos c3] at H
    have c3b0 : (t102 == 0) = true := beq_iff_eq.mpr c3; have c3b1 : (t102 != 0) = false := bne_eq_false_iff_eq.mpr c3; clear c3; replace H := Option.bind_eq_some_iff.mp H; obtain ⟨t103, A40, H⟩ := H; try dsimp only at H
    have A4 := zA A40; clear A40; obtain rfl := zKq H; go_enter Try.func94, Try.ntmps94; go_wp2_with (first | ((with_reducible refine gate_dst (N := 1) rfl ?_); refine box_event qr (N := 1) qr (cs := #[.int .i64 a0_0, .int .i64 a0_1, .slice A0_2 l0_2.length c0_2]) (t := 99) qg ?_; intro gb101 hg w5 hbox hb; have n0_ := zA (zV qB hb); have n1_ := zA (hbox); have n2_ := zA ((qS : w.heap.size ≤ gb101)); have n3_ := zA ((qS : w.heap.size ≤ gb101)); clear HB; have HB := n0_; have BK101 := n1_; have GW101 := n2_; have GE101 := n3_; clear n0_ n1_ n2_ n3_ hb hbox hg; obtain ⟨_, _, _, _, _, _⟩ := qc3f BK101.out) | ((with_reducible refine zJq (f := 91) rfl ?_); refine goesL_ (some 4) rfl rfl Try.func91 (by kernel_rfl) rfl #[.agg #[.int .i64 a0_0, .int .i64 a0_1, .slice A0_2 l0_2.length c0_2]] rfl qG ?_; (with_reducible refine (backhaulref26_Check.calls k a0_0 a0_1 _ _ l0_2 t102 _ ?side1 ?side2 A2.out).mono ?_); (case side1 => exact qC (Kd.C_below HR0_2.out HB.out)); (case side2 => exact HC0_2.out); rintro e w7 ⟨rfl, hb⟩; refine ⟨_, rfl, ?_⟩; have n0_ := zA (qX BK101.out hb); have n1_ := zA (zV qB hb); clear BK101 HB; have BK101 := n0_; have HB := n1_; clear n0_ n1_; (try clear hb); obtain ⟨_, _, _, _, _, _⟩ := qc3f BK101.out) | ((with_reducible refine zJq (f := 129) rfl ?_); refine goesL_ (some 8) rfl rfl Try.func129 (by kernel_rfl) rfl #[.slice A0_2 l0_2.length c0_2] rfl qG ?_; (with_reducible refine (backhaulref26_all.calls k _ _ l0_2 t103 _ ?side1 ?side2 A4.out).mono ?_); (case side1 => exact qC (Kd.C_below HR0_2.out HB.out)); (case side2 => exact HC0_2.out); rintro e w9 ⟨v104, rfl, ho0, hb⟩; refine ⟨_, rfl, ?_⟩; have n0_ := zA (Kd.R_lower ho0 (zW qB)); have n1_ := zA (qX BK101.out hb); have n2_ := zA (zV qB hb); clear BK101 HB; have HO105 := n0_; have BK101 := n1_; have HB := n2_; clear n0_ n1_ n2_; (try clear hb); (try clear ho0))); go_ret; exact ⟨_, qE, by (with_reducible repeat (first | apply Kd.R_alloc | apply Kd.R_drewN | apply Kd.R_drew)); exact HO105.out, qB⟩
  rw [if_neg c3] at H
  have c3b0 : (t102 == 0) = false := beq_eq_false_iff_ne.mpr c3
  have c3b1 : (t102 != 0) = true := bne_iff_ne.mpr c3
  obtain rfl := zKq H
  go_enter Try.func94, Try.ntmps94
  go_wp2_with (first | ((with_reducible refine gate_dst (N := 1) rfl ?_); refine box_event qr (N := 1) qr (cs := #[.int .i64 a0_0, .int .i64 a0_1, .slice A0_2 l0_2.length c0_2]) (t := 99) qg ?_; intro gb101 hg w10 hbox hb; have n0_ := zA (zV qB hb); have n1_ := zA (hbox); have n2_ := zA ((qS : w.heap.size ≤ gb101)); have n3_ := zA ((qS : w.heap.size ≤ gb101)); clear HB; have HB := n0_; have BK101 := n1_; have GW101 := n2_; have GE101 := n3_; clear n0_ n1_ n2_ n3_ hb hbox hg; obtain ⟨_, _, _, _, _, _⟩ := qc3f BK101.out) | ((with_reducible refine zJq (f := 91) rfl ?_); refine goesL_ (some 4) rfl rfl Try.func91 (by kernel_rfl) rfl #[.agg #[.int .i64 a0_0, .int .i64 a0_1, .slice A0_2 l0_2.length c0_2]] rfl qG ?_; (with_reducible refine (backhaulref26_Check.calls k a0_0 a0_1 _ _ l0_2 t102 _ ?side1 ?side2 A2.out).mono ?_); (case side1 => exact qC (Kd.C_below HR0_2.out HB.out)); (case side2 => exact HC0_2.out); rintro e w12 ⟨rfl, hb⟩; refine ⟨_, rfl, ?_⟩; have n0_ := zA (qX BK101.out hb); have n1_ := zA (zV qB hb); clear BK101 HB; have BK101 := n0_; have HB := n1_; clear n0_ n1_; (try clear hb)))
  go_ret
  exact ⟨_, qE, qN, qB⟩
def backhaullaw26_OrderTells.j0 : Nat → ByteArray → Bool → Int → Int → List (S71) → Int → Int → List (S71) → Option (Bool)
  | 0, _, _, _, _, _, _, _, _ => none
  | k + 1, x2, x31, x102000, x102001, x102002, x103000, x103001, x103002 => if x31 = true then ((backhaullaw26_awake.f).bind fun t105 => (if t105 = true then (some true) else (some false))) else ((order_Find.f k x102000 x102001 x102002 x2).bind fun bt106 => ((backhaulref26_Find.f k x102000 x102001 x102002 x2).bind fun bt109 => ((order_Paid.f k x102000 x102001 x102002).bind fun bt112 => ((backhaulref26_Paid.f k x102000 x102001 x102002).bind fun bt114 => ((order_Check.f k x102000 x102001 x102002).bind fun t116 => ((backhaulref26_Check.f k x102000 x102001 x102002).bind fun t117 => (if t116 = t117 then (if bt106.1 = bt109.1 then (if bt106.2.1 = bt109.2.1 then (if (bt106.2.2 == bt109.2.2) = true then ((order_Serials.f k x102000 x102001 x102002).bind fun t118 => ((backhaulref26_Serials.f k x102000 x102001 x102002).bind fun t121 => ((backhaulref01_SameTexts.f k t118 t121).bind fun t124 => (if t124 = true then (if bt112.1 = bt114.1 then (if bt112.2 = bt114.2 then ((order_Same.f k x102000 x102001 x102002 x103000 x103001 x103002).bind fun t125 => ((backhaulref26_Same.f k x102000 x102001 x102002 x103000 x103001 x103002).bind fun t126 => (if (t125 == t126) = true then ((backhaullaw26_awake.f).bind fun t127 => (if t127 = true then (some true) else (some false))) else (some false)))) else (some false)) else (some false)) else (some false))))) else (some false)) else (some false)) else (some false)) else (some false))))))))
def backhaullaw26_OrderTells.f (k : Nat) (a0_0 : Int) (a0_1 : Int) (l0_2 : List (S71)) (a1_0 : Int) (a1_1 : Int) (l1_2 : List (S71)) (a2 : ByteArray) : Option (Bool) := (backhaullaw21_Few.f k l0_2).bind fun t103 => (if t103 = true then ((backhaullaw21_Few.f k l1_2).bind fun t104 => (if t104 = true then (backhaullaw26_OrderTells.j0 k a2 (decide ((a2.size : Int) > 200)) a0_0 a0_1 l0_2 a1_0 a1_1 l1_2) else (backhaullaw26_OrderTells.j0 k a2 true a0_0 a0_1 l0_2 a1_0 a1_1 l1_2))) else (backhaullaw26_OrderTells.j0 k a2 true a0_0 a0_1 l0_2 a1_0 a1_1 l1_2))
theorem backhaullaw26_OrderTells.mono_l : ∀ k, (∀ y0 y1 y2 y3 y4 y5 y6 y7, LeO (backhaullaw26_OrderTells.j0 k y0 y1 y2 y3 y4 y5 y6 y7) (backhaullaw26_OrderTells.j0 (k + 1) y0 y1 y2 y3 y4 y5 y6 y7))
  | 0 => fun _ _ _ _ _ _ _ _ r h => by simp [backhaullaw26_OrderTells.j0] at h
  | k + 1 => by
    have ih0 := backhaullaw26_OrderTells.mono_l k
    intro y0 y1 y2 y3 y4 y5 y6 y7
    unfold backhaullaw26_OrderTells.j0
    repeat' (with_reducible first | exact ih0 _ _ _ _ _ _ _ _ | exact backhaullaw21_Few.mono _ _ | exact backhaulref01_SameTexts.mono _ _ _ | exact backhaulref26_Check.mono _ _ _ _ | exact backhaulref26_Find.mono _ _ _ _ _ | exact backhaulref26_Paid.mono _ _ _ _ | exact backhaulref26_Same.mono _ _ _ _ _ _ _ | exact backhaulref26_Serials.mono _ _ _ _ | exact order_Check.mono _ _ _ _ | exact order_Find.mono _ _ _ _ _ | exact order_Paid.mono _ _ _ _ | exact order_Same.mono _ _ _ _ _ _ _ | exact order_Serials.mono _ _ _ _ | exact LeO.refl _ | exact LeO.none _ | refine LeO.ite ?_ ?_ | refine LeO.bind ?_ (fun _ => ?_))
theorem backhaullaw26_OrderTells.mono : ∀ a0 a1 a2 a3 a4 a5 a6 k, LeO (backhaullaw26_OrderTells.f k a0 a1 a2 a3 a4 a5 a6) (backhaullaw26_OrderTells.f (k + 1) a0 a1 a2 a3 a4 a5 a6) := by
  intro a0 a1 a2 a3 a4 a5 a6 k
  have ih0 := backhaullaw26_OrderTells.mono_l k
  unfold backhaullaw26_OrderTells.f
  repeat' (with_reducible first | exact ih0 _ _ _ _ _ _ _ _ | exact backhaullaw21_Few.mono _ _ | exact backhaulref01_SameTexts.mono _ _ _ | exact backhaulref26_Check.mono _ _ _ _ | exact backhaulref26_Find.mono _ _ _ _ _ | exact backhaulref26_Paid.mono _ _ _ _ | exact backhaulref26_Same.mono _ _ _ _ _ _ _ | exact backhaulref26_Serials.mono _ _ _ _ | exact order_Check.mono _ _ _ _ | exact order_Find.mono _ _ _ _ _ | exact order_Paid.mono _ _ _ _ | exact order_Same.mono _ _ _ _ _ _ _ | exact order_Serials.mono _ _ _ _ | exact LeO.refl _ | exact LeO.none _ | refine LeO.ite ?_ ?_ | refine LeO.bind ?_ (fun _ => ?_))
def backhaullaw26_OrderTells.T7 : Bool × List (List Nat × List Nat) := (true, [([], []), ([0], [0]), ([], []), ([2, 1], [2]), ([1, 3], [1, 3]), ([4, 3], [4]), ([5], [5]), ([5], [5]), ([6, 7, 5], [5, 6, 7]), ([5, 8], [5, 8]), ([9, 5], [9]), ([10], [10]), ([10], [10]), ([11, 12, 10], [10, 11, 12]), ([10, 13], [10, 13]), ([14, 10], [14]), ([15], [15]), ([15], [15]), ([16, 17, 15], [15, 16, 17]), ([15, 18], [15, 18]), ([19, 15], [19]), ([20], [20]), ([21, 20, 20], [20, 21]), ([20], [20]), ([23, 22, 20], [20, 23]), ([22, 24, 24, 20], [20, 22, 24]), ([20, 25], [20, 25]), ([26, 25], [26]), ([27], [27]), ([27], [27]), ([28, 29, 27], [27, 28, 29]), ([27, 30], [27, 30]), ([31, 27], [31]), ([32], [32]), ([32], [32]), ([33, 34, 32], [32, 33, 34]), ([32, 35], [32, 35]), ([36, 32], [36]), ([37], [37]), ([37], [37]), ([38, 39, 37, 37], [37, 38, 39]), ([37], [37]), ([37], [37]), ([41, 42, 40, 37], [37, 41, 42]), ([40, 43, 37], [37, 40, 43]), ([37, 44], [37, 44]), ([45, 43], [45]), ([46, 46], [46]), ([46, 47], [46, 47]), ([48, 47, 0, 1, 2, 3, 4, 5, 6, 7, 8, 9, 10, 11, 12, 13, 14, 15, 16, 17, 18, 19, 20, 21, 22, 23, 24, 25, 26, 27, 28, 29, 30, 31, 32, 33, 34, 35, 36, 37, 38, 39, 40, 41, 42, 43, 44, 45, 46, 47, 48], [48])])
def backhaullaw26_OrderTells.B7 : List Nat := [0, 1, 0, 7, 15, 31, 63, 63, 255, 511, 1023, 2047, 2047, 8191, 16383, 32767, 65535, 65535, 262143, 524287, 1048575, 2097151, 4194303, 2097151, 16777215, 33554431, 67108863, 134217727, 268435455, 268435455, 1073741823, 2147483647, 4294967295, 8589934591, 8589934591, 34359738367, 68719476735, 137438953471, 274877906943, 274877906943, 1099511627775, 274877906943, 274877906943, 8796093022207, 17592186044415, 35184372088831, 70368744177663, 140737488355327, 281474976710655, 562949953421311]
theorem backhaullaw26_OrderTells.tab7 : rtab .any (opsOf Try.f21 7) = backhaullaw26_OrderTells.T7 := by kernel_rfl
theorem backhaullaw26_OrderTells.bits7 : waitsOk backhaullaw26_OrderTells.T7.2 backhaullaw26_OrderTells.B7 = true := by kernel_rfl
set_option maxHeartbeats 8000000 in
set_option maxRecDepth 100000 in
theorem backhaullaw26_OrderTells.calls (k : Nat) (a0_0 : Int) (a0_1 : Int) (A0_2 : Option Addr) (c0_2 : Nat) (l0_2 : List (S71)) (a1_0 : Int) (a1_1 : Int) (A1_2 : Option Addr) (c1_2 : Nat) (l1_2 : List (S71)) (a2 : ByteArray) (w : World) (hr0_2 : Kd.C k71 w A0_2 l0_2.length l0_2) (hc0_2 : l0_2.length ≤ c0_2) (hr1_2 : Kd.C k71 w A1_2 l1_2.length l1_2) (hc1_2 : l1_2.length ≤ c1_2) (h : backhaullaw26_OrderTells.f k a0_0 a0_1 l0_2 a1_0 a1_1 l1_2 a2 = some true) :
    Calls Try.prog 21 #[.agg #[.int .i64 a0_0, .int .i64 a0_1, .slice A0_2 l0_2.length c0_2], .agg #[.int .i64 a1_0, .int .i64 a1_1, .slice A1_2 l1_2.length c1_2], .string a2] w fun e w' => e = .returned (.bool true) ∧ Below w.heap.size w w' := by
  have hu99 := Try.underlying99
  have HR0_2 := zA hr0_2
  have HC0_2 := zA hc0_2
  clear hr0_2 hc0_2
  have HR1_2 := zA hr1_2
  have HC1_2 := zA hc1_2
  clear hr1_2 hc1_2
  have HB := zA (Below.refl w.heap.size w)
  have H : ((backhaullaw21_Few.f k l0_2).bind fun t103 => (if t103 = true then ((backhaullaw21_Few.f k l1_2).bind fun t104 => (if t104 = true then (backhaullaw26_OrderTells.j0 k a2 (decide ((a2.size : Int) > 200)) a0_0 a0_1 l0_2 a1_0 a1_1 l1_2) else (backhaullaw26_OrderTells.j0 k a2 true a0_0 a0_1 l0_2 a1_0 a1_1 l1_2))) else (backhaullaw26_OrderTells.j0 k a2 true a0_0 a0_1 l0_2 a1_0 a1_1 l1_2))) = some true := h
  clear h
  have HC4 := zA H
  clear H
  go_enter Try.func21, Try.ntmps21
  go_upto_region 1 with (first | ((with_reducible refine gate_dst (N := 3) rfl ?_); (try (refine gate_guard (by rfl) ?_; dsimp only)); refine box_event qr (N := 3) qr (cs := #[.int .i64 a0_0, .int .i64 a0_1, .slice A0_2 l0_2.length c0_2]) (t := 99) qg ?_; intro gb101 hg w5 hbox hb; have n0_ := zA (zV qB hb); have n1_ := zA (hbox); have n2_ := zA ((qS : w.heap.size ≤ gb101)); have n3_ := zA ((qS : w.heap.size ≤ gb101)); clear HB; have HB := n0_; have BK101 := n1_; have GW101 := n2_; have GE101 := n3_; clear n0_ n1_ n2_ n3_ hb hbox hg) | ((with_reducible refine gate_dst (N := 4) rfl ?_); (try (refine gate_guard (by rfl) ?_; dsimp only)); refine box_event qr (N := 4) qr (cs := #[.int .i64 a1_0, .int .i64 a1_1, .slice A1_2 l1_2.length c1_2]) (t := 99) qg ?_; intro gb102 hg w6 hbox hb; have n0_ := zA (qX BK101.out hb); have n1_ := zA (zV qB hb); have n2_ := zA (hbox); have n3_ := zA ((qS : w.heap.size ≤ gb102)); have n4_ := zA ((qS : w.heap.size ≤ gb102)); have n5_ := zA ((by rw [hg]; exact zLq (qL BK101.out) : gb101 ≠ gb102)); have n6_ := zA ((by rw [hg]; exact zMq (qL BK101.out) : gb102 ≠ gb101)); clear BK101 HB; have BK101 := n0_; have HB := n1_; have BK102 := n2_; have GW102 := n3_; have GE102 := n4_; have NB101_102 := n5_; have NB102_101 := n6_; clear n0_ n1_ n2_ n3_ n4_ n5_ n6_ hb hbox hg))
  (try simp only [Act.put, zH, zI, zJ])
  go_cut [31] (fun v31 wc => ∃ (kq : Nat) (x31_3 : Bool), v31 = .bool x31_3 ∧ Aside0 (backhaullaw26_OrderTells.j0 kq a2 x31_3 a0_0 a0_1 l0_2 a1_0 a1_1 l1_2 = some true) ∧ Aside0 (kq ≤ k) ∧ Aside0 (wc.heap[gb101]? = some (.cells #[.int .i64 a0_0, .int .i64 a0_1, (.slice A0_2 l0_2.length c0_2)] 99 (0, 0))) ∧ Aside0 (wc.heap[gb102]? = some (.cells #[.int .i64 a1_0, .int .i64 a1_1, (.slice A1_2 l1_2.length c1_2)] 99 (0, 0))) ∧ Aside0 (Below w.heap.size w wc))
  case first =>
    have H := HC4.out; clear HC4; replace H := Option.bind_eq_some_iff.mp H; obtain ⟨t103, A70, H⟩ := H; try dsimp only at H
    have A7 := zA A70; clear A70; by_cases c8 : t103 = true
    · subst c8
      have H1 : ((backhaullaw21_Few.f k l1_2).bind fun t104 => (if t104 = true then (backhaullaw26_OrderTells.j0 k a2 (decide ((a2.size : Int) > 200)) a0_0 a0_1 l0_2 a1_0 a1_1 l1_2) else (backhaullaw26_OrderTells.j0 k a2 true a0_0 a0_1 l0_2 a1_0 a1_1 l1_2))) = some true := by first | (rw [if_pos rfl] at H; exact H) | rfl
      clear H; have H := H1; clear H1; replace H := Option.bind_eq_some_iff.mp H; obtain ⟨t104, A90, H⟩ := H; try dsimp only at H
      have A9 := zA A90; clear A90; by_cases c10 : t104 = true
      · subst c10
        have H1 : (backhaullaw26_OrderTells.j0 k a2 (decide ((a2.size : Int) > 200)) a0_0 a0_1 l0_2 a1_0 a1_1 l1_2) = some true := by first | (rw [if_pos rfl] at H; exact H) | rfl
        clear H; have H := H1; clear H1; have H' := zA H; clear H; have hnb11 := NB101_102.out; have hnc11 := NB102_101.out; obtain ⟨_, _, _, _, _, _⟩ := qc3f BK101.out; go_wp2_with (first | ((with_reducible refine zJq (f := 60) rfl ?_); refine goesL_ (some 19) rfl rfl Try.func60 (by kernel_rfl) rfl #[.slice A0_2 l0_2.length c0_2] rfl qG ?_; (with_reducible refine (backhaullaw21_Few.calls k _ _ l0_2 true _ ?side1 ?side2 A7.out).mono ?_); (case side1 => exact qC (Kd.C_below HR0_2.out HB.out)); (case side2 => exact HC0_2.out); rintro e w' ⟨rfl, ⟨nd, rfl⟩⟩; refine ⟨_, rfl, ?_⟩; obtain ⟨_, _, _, _, _, _⟩ := qc3f BK102.out) | (go_at_call 60; (with_reducible refine (backhaullaw21_Few.calls k _ _ l1_2 true _ ?side1 ?side2 A9.out).mono ?_); (case side1 => exact qC (Kd.C_below HR1_2.out qB)); (case side2 => exact HC1_2.out); rintro e w' ⟨rfl, ⟨nd, rfl⟩⟩)); go_meet
        case rel => exact ⟨_, (decide ((a2.size : Int) > 200)), (by first | rfl | (simp; done) | (simp [*]; done)), H', ⟨by first | omega | exact Nat.le_refl _⟩, ⟨by exact BK101.out⟩, ⟨by exact BK102.out⟩, ⟨qB⟩⟩
      replace c10 := Bool.eq_false_iff.mpr c10; subst c10; have H1 : (backhaullaw26_OrderTells.j0 k a2 true a0_0 a0_1 l0_2 a1_0 a1_1 l1_2) = some true := by first | (rw [if_neg (show ¬ (false = true) by decide)] at H; exact H) | rfl
      clear H; have H := H1; clear H1; have H' := zA H; clear H; have hnb14 := NB101_102.out; have hnc14 := NB102_101.out; obtain ⟨_, _, _, _, _, _⟩ := qc3f BK101.out; go_wp2_with (first | ((with_reducible refine zJq (f := 60) rfl ?_); refine goesL_ (some 19) rfl rfl Try.func60 (by kernel_rfl) rfl #[.slice A0_2 l0_2.length c0_2] rfl qG ?_; (with_reducible refine (backhaullaw21_Few.calls k _ _ l0_2 true _ ?side1 ?side2 A7.out).mono ?_); (case side1 => exact qC (Kd.C_below HR0_2.out HB.out)); (case side2 => exact HC0_2.out); rintro e w' ⟨rfl, ⟨nd, rfl⟩⟩; refine ⟨_, rfl, ?_⟩; obtain ⟨_, _, _, _, _, _⟩ := qc3f BK102.out) | (go_at_call 60; (with_reducible refine (backhaullaw21_Few.calls k _ _ l1_2 false _ ?side1 ?side2 A9.out).mono ?_); (case side1 => exact qC (Kd.C_below HR1_2.out qB)); (case side2 => exact HC1_2.out); rintro e w' ⟨rfl, ⟨nd, rfl⟩⟩)); go_meet
      case rel => exact ⟨_, (true), (by first | rfl | (simp; done) | (simp [*]; done)), H', ⟨by first | omega | exact Nat.le_refl _⟩, ⟨by exact BK101.out⟩, ⟨by exact BK102.out⟩, ⟨qB⟩⟩
    replace c8 := Bool.eq_false_iff.mpr c8; subst c8; have H1 : (backhaullaw26_OrderTells.j0 k a2 true a0_0 a0_1 l0_2 a1_0 a1_1 l1_2) = some true := by first | (rw [if_neg (show ¬ (false = true) by decide)] at H; exact H) | rfl
    clear H; have H := H1; clear H1; have H' := zA H; clear H; have hnb17 := NB101_102.out; have hnc17 := NB102_101.out; obtain ⟨_, _, _, _, _, _⟩ := qc3f BK101.out; go_wp2_with (first | ((with_reducible refine zJq (f := 60) rfl ?_); refine goesL_ (some 19) rfl rfl Try.func60 (by kernel_rfl) rfl #[.slice A0_2 l0_2.length c0_2] rfl qG ?_; (with_reducible refine (backhaullaw21_Few.calls k _ _ l0_2 false _ ?side1 ?side2 A7.out).mono ?_); (case side1 => exact qC (Kd.C_below HR0_2.out HB.out)); (case side2 => exact HC0_2.out); rintro e w' ⟨rfl, ⟨nd, rfl⟩⟩; refine ⟨_, rfl, ?_⟩)); go_meet
    case rel => exact ⟨_, (true), (by first | rfl | (simp; done) | (simp [*]; done)), H', ⟨by first | omega | exact Nat.le_refl _⟩, ⟨by exact BK101.out⟩, ⟨by exact BK102.out⟩, ⟨qB⟩⟩
  case rest =>
    clear HC4; try clear c1
    try clear c2
    try clear p2
    try clear c6
    try clear c8
    try clear c10
    try clear c11
    try clear c14
    try clear c17
    obtain ⟨kq, x31_3, rfl, HA, HJ3, BK101, BK102, HB⟩ := hcut; cases kq with
    | zero => exact absurd HA.out (by simp [backhaullaw26_OrderTells.j0])
    | succ kj3 =>
      have H := HA.out; clear HA; simp only [backhaullaw26_OrderTells.j0] at H; by_cases c19 : x31_3 = true
      · subst c19
        have H1 : ((backhaullaw26_awake.f).bind fun t105 => (if t105 = true then (some true) else (some false))) = some true := by first | (rw [if_pos rfl] at H; exact H) | rfl
        clear H; have H := H1; clear H1; replace H := Option.bind_eq_some_iff.mp H; obtain ⟨t105, A200, H⟩ := H; try dsimp only at H
        have A20 := zA A200; clear A200; by_cases c21 : t105 = true
        · subst c21
          have H1 : (some true) = some true := by first | (rw [if_pos rfl] at H; exact H) | rfl
          clear H; have H := H1; clear H1; clear H; go_wp2_with (first | ((with_reducible refine zJq (f := 82) rfl ?_); refine goesL_ (some 32) rfl rfl Try.func82 (by kernel_rfl) rfl #[] rfl qG ?_; (with_reducible refine (backhaullaw26_awake.calls  true _ A20.out).mono ?_); rintro e w22 ⟨rfl, hb⟩; refine ⟨_, rfl, ?_⟩; have n0_ := zA (qX BK101.out hb); have n1_ := zA (qX BK102.out hb); have n2_ := zA (zV qB hb); clear BK101 BK102 HB; have BK101 := n0_; have BK102 := n1_; have HB := n2_; clear n0_ n1_ n2_; (try clear hb))); go_ret; exact ⟨qE, qB⟩
        replace c21 := Bool.eq_false_iff.mpr c21; subst c21; have H1 : (some false) = some true := by first | (rw [if_neg (show ¬ (false = true) by decide)] at H; exact H) | rfl
        clear H; have H := H1; clear H1; exact absurd H (by simp)
      replace c19 := Bool.eq_false_iff.mpr c19; subst c19; have H1 : ((order_Find.f kj3 a0_0 a0_1 l0_2 a2).bind fun bt106 => ((backhaulref26_Find.f kj3 a0_0 a0_1 l0_2 a2).bind fun bt109 => ((order_Paid.f kj3 a0_0 a0_1 l0_2).bind fun bt112 => ((backhaulref26_Paid.f kj3 a0_0 a0_1 l0_2).bind fun bt114 => ((order_Check.f kj3 a0_0 a0_1 l0_2).bind fun t116 => ((backhaulref26_Check.f kj3 a0_0 a0_1 l0_2).bind fun t117 => (if t116 = t117 then (if bt106.1 = bt109.1 then (if bt106.2.1 = bt109.2.1 then (if (bt106.2.2 == bt109.2.2) = true then ((order_Serials.f kj3 a0_0 a0_1 l0_2).bind fun t118 => ((backhaulref26_Serials.f kj3 a0_0 a0_1 l0_2).bind fun t121 => ((backhaulref01_SameTexts.f kj3 t118 t121).bind fun t124 => (if t124 = true then (if bt112.1 = bt114.1 then (if bt112.2 = bt114.2 then ((order_Same.f kj3 a0_0 a0_1 l0_2 a1_0 a1_1 l1_2).bind fun t125 => ((backhaulref26_Same.f kj3 a0_0 a0_1 l0_2 a1_0 a1_1 l1_2).bind fun t126 => (if (t125 == t126) = true then ((backhaullaw26_awake.f).bind fun t127 => (if t127 = true then (some true) else (some false))) else (some false)))) else (some false)) else (some false)) else (some false))))) else (some false)) else (some false)) else (some false)) else (some false)))))))) = some true := by first | (rw [if_neg (show ¬ (false = true) by decide)] at H; exact H) | rfl
      clear H; have H := H1; clear H1; replace H := Option.bind_eq_some_iff.mp H; obtain ⟨⟨t106, t107, t108⟩, A230, H⟩ := H; try dsimp only at H
      have A23 := zA A230; clear A230; replace H := Option.bind_eq_some_iff.mp H; obtain ⟨⟨t109, t110, t111⟩, A240, H⟩ := H; try dsimp only at H
      have A24 := zA A240; clear A240; replace H := Option.bind_eq_some_iff.mp H; obtain ⟨⟨t112, t113⟩, A250, H⟩ := H; try dsimp only at H
      have A25 := zA A250; clear A250; replace H := Option.bind_eq_some_iff.mp H; obtain ⟨⟨t114, t115⟩, A260, H⟩ := H; try dsimp only at H
      have A26 := zA A260; clear A260; replace H := Option.bind_eq_some_iff.mp H; obtain ⟨t116, A270, H⟩ := H; try dsimp only at H
      have A27 := zA A270; clear A270; replace H := Option.bind_eq_some_iff.mp H; obtain ⟨t117, A280, H⟩ := H; try dsimp only at H
      have A28 := zA A280; clear A280; by_cases c29 : t116 = t117
      · rw [if_pos c29] at H
        have c29b0 : (t116 == t117) = true := beq_iff_eq.mpr c29; have c29b1 : (t116 != t117) = false := bne_eq_false_iff_eq.mpr c29; clear c29; by_cases c30 : t106 = t109
        · rw [if_pos c30] at H
          have c30b0 : (t106 == t109) = true := beq_iff_eq.mpr c30; have c30b1 : (t106 != t109) = false := bne_eq_false_iff_eq.mpr c30; clear c30; by_cases c31 : t107 = t110
          · rw [if_pos c31] at H
            have c31b0 : (t107 == t110) = true := beq_iff_eq.mpr c31; have c31b1 : (t107 != t110) = false := bne_eq_false_iff_eq.mpr c31; clear c31; by_cases c32 : (t108 == t111) = true
            · rw [if_pos c32] at H
              have c32b0 : (t108 == t111) = true := c32; (try (have c32b1 : decide (t108 = t111) = true := by simpa using c32))
              (try (have c32b2 : (t108 == t111) = true := by simpa using c32))
              clear c32; replace H := Option.bind_eq_some_iff.mp H; obtain ⟨t118, A330, H⟩ := H; try dsimp only at H
              have A33 := zA A330; clear A330; replace H := Option.bind_eq_some_iff.mp H; obtain ⟨t121, A340, H⟩ := H; try dsimp only at H
              have A34 := zA A340; clear A340; replace H := Option.bind_eq_some_iff.mp H; obtain ⟨t124, A350, H⟩ := H; try dsimp only at H
              have A35 := zA A350; clear A350; by_cases c36 : t124 = true
              · subst c36
                have H1 : (if t112 = t114 then (if t113 = t115 then ((order_Same.f kj3 a0_0 a0_1 l0_2 a1_0 a1_1 l1_2).bind fun t125 => ((backhaulref26_Same.f kj3 a0_0 a0_1 l0_2 a1_0 a1_1 l1_2).bind fun t126 => (if (t125 == t126) = true then ((backhaullaw26_awake.f).bind fun t127 => (if t127 = true then (some true) else (some false))) else (some false)))) else (some false)) else (some false)) = some true := by first | (rw [if_pos rfl] at H; exact H) | rfl
                clear H; have H := H1; clear H1; by_cases c37 : t112 = t114
                · rw [if_pos c37] at H
                  have c37b0 : (t112 == t114) = true := beq_iff_eq.mpr c37; have c37b1 : (t112 != t114) = false := bne_eq_false_iff_eq.mpr c37; clear c37; by_cases c38 : t113 = t115
                  · rw [if_pos c38] at H
                    have c38b0 : (t113 == t115) = true := beq_iff_eq.mpr c38; have c38b1 : (t113 != t115) = false := bne_eq_false_iff_eq.mpr c38; clear c38; replace H := Option.bind_eq_some_iff.mp H; obtain ⟨t125, A390, H⟩ := H; try dsimp only at H
                    have A39 := zA A390; clear A390; replace H := Option.bind_eq_some_iff.mp H; obtain ⟨t126, A400, H⟩ := H; try dsimp only at H
                    have A40 := zA A400; clear A400; by_cases c41 : (t125 == t126) = true
                    · rw [if_pos c41] at H
                      have c41b0 : (t125 == t126) = true := c41; (try (have c41b1 : decide (t125 = t126) = true := by simpa using c41))
                      (try (have c41b2 : (t125 == t126) = true := by simpa using c41))
                      clear c41; replace H := Option.bind_eq_some_iff.mp H; obtain ⟨t127, A420, H⟩ := H; try dsimp only at H
                      have A42 := zA A420; clear A420; by_cases c43 : t127 = true
                      · subst c43
                        have H1 : (some true) = some true := by first | (rw [if_pos rfl] at H; exact H) | rfl
                        clear H; have H := H1; clear H1; clear H; have hnb44 := NB101_102.out; have hnc44 := NB102_101.out; obtain ⟨_, _, _, _, _, _⟩ := qc3f BK101.out; try go_wp2_with (first | ((with_reducible refine zJq (f := 86) rfl ?_); refine goesL_ (some 36) rfl rfl Try.func86 (by kernel_rfl) rfl #[.agg #[.int .i64 a0_0, .int .i64 a0_1, .slice A0_2 l0_2.length c0_2], .string a2] rfl qG ?_; (with_reducible refine (order_Find.calls kj3 a0_0 a0_1 _ _ l0_2 a2 t106 t107 t108 _ ?side1 ?side2 A23.out).mono ?_); (case side1 => exact qC (Kd.C_below HR0_2.out HB.out)); (case side2 => exact HC0_2.out); rintro e w46 ⟨rfl, hb⟩; refine ⟨_, rfl, ?_⟩; have n0_ := zA (qX BK101.out hb); have n1_ := zA (qX BK102.out hb); have n2_ := zA (zV qB hb); clear BK101 BK102 HB; have BK101 := n0_; have BK102 := n1_; have HB := n2_; clear n0_ n1_ n2_; (try clear hb); obtain ⟨_, _, _, _, _, _⟩ := qc3f BK101.out) | ((with_reducible refine zJq (f := 87) rfl ?_); refine goesL_ (some 43) rfl rfl Try.func87 (by kernel_rfl) rfl #[.agg #[.int .i64 a0_0, .int .i64 a0_1, .slice A0_2 l0_2.length c0_2], .string a2] rfl qG ?_; (with_reducible refine (backhaulref26_Find.calls kj3 a0_0 a0_1 _ _ l0_2 a2 t109 t110 t111 _ ?side1 ?side2 A24.out).mono ?_); (case side1 => exact qC (Kd.C_below HR0_2.out HB.out)); (case side2 => exact HC0_2.out); rintro e w48 ⟨rfl, hb⟩; refine ⟨_, rfl, ?_⟩; have n0_ := zA (qX BK101.out hb); have n1_ := zA (qX BK102.out hb); have n2_ := zA (zV qB hb); clear BK101 BK102 HB; have BK101 := n0_; have BK102 := n1_; have HB := n2_; clear n0_ n1_ n2_; (try clear hb); obtain ⟨_, _, _, _, _, _⟩ := qc3f BK101.out) | ((with_reducible refine zJq (f := 88) rfl ?_); refine goesL_ (some 49) rfl rfl Try.func88 (by kernel_rfl) rfl #[.agg #[.int .i64 a0_0, .int .i64 a0_1, .slice A0_2 l0_2.length c0_2]] rfl qG ?_; (with_reducible refine (order_Paid.calls kj3 a0_0 a0_1 _ _ l0_2 t112 t113 _ ?side1 ?side2 A25.out).mono ?_); (case side1 => exact qC (Kd.C_below HR0_2.out HB.out)); (case side2 => exact HC0_2.out); rintro e w50 ⟨rfl, hb⟩; refine ⟨_, rfl, ?_⟩; have n0_ := zA (qX BK101.out hb); have n1_ := zA (qX BK102.out hb); have n2_ := zA (zV qB hb); clear BK101 BK102 HB; have BK101 := n0_; have BK102 := n1_; have HB := n2_; clear n0_ n1_ n2_; (try clear hb); obtain ⟨_, _, _, _, _, _⟩ := qc3f BK101.out) | ((with_reducible refine zJq (f := 89) rfl ?_); refine goesL_ (some 54) rfl rfl Try.func89 (by kernel_rfl) rfl #[.agg #[.int .i64 a0_0, .int .i64 a0_1, .slice A0_2 l0_2.length c0_2]] rfl qG ?_; (with_reducible refine (backhaulref26_Paid.calls kj3 a0_0 a0_1 _ _ l0_2 t114 t115 _ ?side1 ?side2 A26.out).mono ?_); (case side1 => exact qC (Kd.C_below HR0_2.out HB.out)); (case side2 => exact HC0_2.out); rintro e w52 ⟨rfl, hb⟩; refine ⟨_, rfl, ?_⟩; have n0_ := zA (qX BK101.out hb); have n1_ := zA (qX BK102.out hb); have n2_ := zA (zV qB hb); clear BK101 BK102 HB; have BK101 := n0_; have BK102 := n1_; have HB := n2_; clear n0_ n1_ n2_; (try clear hb)))
                        have n0_ := zA (zAq BK101.out); have n1_ := zA (zAq BK102.out); have n2_ := zA (zC HB.out); clear BK101; clear BK102; clear HB; have BK101 := n0_; have BK102 := n1_; have HB := n2_; clear n0_ n1_ n2_; refine start_ (n := 50) (S := fun w' => w'.cell? ⟨gb101, 0, none⟩ = some (.int .i64 a0_0) ∧ w'.cell? ⟨gb101, 1, none⟩ = some (.int .i64 a0_1) ∧ w'.cell? ⟨gb101, 2, none⟩ = some (.slice A0_2 l0_2.length c0_2) ∧ w'.cell? ⟨gb102, 0, none⟩ = some (.int .i64 a1_0) ∧ w'.cell? ⟨gb102, 1, none⟩ = some (.int .i64 a1_1) ∧ w'.cell? ⟨gb102, 2, none⟩ = some (.slice A1_2 l1_2.length c1_2)) (ds := []) #[o0, o0, o0, o0, o0, o0, o0, o0, o0, o0, o0, o0, o0, o0, o0, o0, o0, o0, o0, o0, o0, o0, o0, o0, o0, o0, o0, o0, o0, o0, o0, o0, o0, o0, o0, o0, o0, o0, o0, o0, o0, o0, o0, o0, o0, o0, o0, o0, o0, o0] (by kernel_rfl) rfl rfl ⟨(zF BK101.out 0).trans rfl, (zF BK101.out 1).trans rfl, (zF BK101.out 2).trans rfl, (zF BK102.out 0).trans rfl, (zF BK102.out 1).trans rfl, (zF BK102.out 2).trans rfl⟩ (fun hHeld => ?_); refine with_tabW backhaullaw26_OrderTells.tab7 backhaullaw26_OrderTells.bits7 (fun HT_ HW_ => ?_); generalize w52.drew = w53 at BK101 BK102 HB hHeld ⊢; refine take_ (i := 0) (N := some 57) (v := ?_) (a' := ?_) #[o1, o0, o0, o0, o0, o0, o0, o0, o0, o0, o0, o0, o0, o0, o0, o0, o0, o0, o0, o0, o0, o0, o0, o0, o0, o0, o0, o0, o0, o0, o0, o0, o0, o0, o0, o0, o0, o0, o0, o0, o0, o0, o0, o0, o0, o0, o0, o0, o0, o0] rfl rfl (take_ofW HT_.out HW_.out (by kernel_rfl)) (fun _ _ _ h => h) (Or.inl ⟨by rfl, ?_⟩) hHeld ?_ ?_; rotate_left
                        · rintro w' ⟨s0, s1, s2, s3, s4, s5⟩
                          go_simp; with_reducible rfl
                        rotate_left
                        · simp only [Act.put, zH, zI, zJ, i64_w, i32_w]
                          rfl
                        refine take_ (i := 2) (N := some 59) (v := ?_) (a' := ?_) #[o1, o0, o1, o0, o0, o0, o0, o0, o0, o0, o0, o0, o0, o0, o0, o0, o0, o0, o0, o0, o0, o0, o0, o0, o0, o0, o0, o0, o0, o0, o0, o0, o0, o0, o0, o0, o0, o0, o0, o0, o0, o0, o0, o0, o0, o0, o0, o0, o0, o0] rfl rfl (take_ofW HT_.out HW_.out (by kernel_rfl)) (fun _ _ _ h => h) (Or.inl ⟨by rfl, ?_⟩) hHeld ?_ ?_; rotate_left
                        · rintro w' ⟨s0, s1, s2, s3, s4, s5⟩
                          go_simp; with_reducible rfl
                        rotate_left
                        · simp only [Act.put, zH, zI, zJ, i64_w, i32_w]
                          rfl
                        refine one_ (i := 1) (N := some 58) #[o1, o1, o1, o0, o0, o0, o0, o0, o0, o0, o0, o0, o0, o0, o0, o0, o0, o0, o0, o0, o0, o0, o0, o0, o0, o0, o0, o0, o0, o0, o0, o0, o0, o0, o0, o0, o0, o0, o0, o0, o0, o0, o0, o0, o0, o0, o0, o0, o0, o0] rfl rfl (one_of HT_.out (by kernel_rfl)) (by decide) (fun K hK => ?_); refine goes_ Try.func90 (by kernel_rfl) rfl #[.agg #[.int .i64 a0_0, .int .i64 a0_1, .slice A0_2 l0_2.length c0_2]] (by rfl) rfl rfl qG ?_; with_reducible refine (order_Check.calls kj3 a0_0 a0_1 _ _ l0_2 t116 _ ?side1 ?side2 A27.out).mono ?_
                        (case side1 => exact qC (Kd.C_below HR0_2.out HB.out))
                        (case side2 => exact HC0_2.out)
                        rintro e w54 ⟨rfl, hb⟩; refine ⟨_, rfl, ?_⟩; have n0_ := zA (qX BK101.out hb); have n1_ := zA (qX BK102.out hb); have n2_ := zA (zV qB hb); clear BK101; clear BK102; clear HB; have BK101 := n0_; have BK102 := n1_; have HB := n2_; clear n0_ n1_ n2_; (try clear hb); (try clear hb2); (try clear hk); (try clear hi); refine hK.out _ _ ⟨(zF BK101.out 0).trans rfl, (zF BK101.out 1).trans rfl, (zF BK101.out 2).trans rfl, (zF BK102.out 0).trans rfl, (zF BK102.out 1).trans rfl, (zF BK102.out 2).trans rfl⟩ (fun hHeld => ?_); clear hK K; refine norm_ (a' := ?_) ?_ ?_; rotate_left
                        · show Act.put _ (some 58) _ = _
                          simp only [Act.put, zH, zI, zJ, i64_w, i32_w]; rfl
                        refine one_ (i := 3) (N := some 60) #[o1, o1, o1, o1, o0, o0, o0, o0, o0, o0, o0, o0, o0, o0, o0, o0, o0, o0, o0, o0, o0, o0, o0, o0, o0, o0, o0, o0, o0, o0, o0, o0, o0, o0, o0, o0, o0, o0, o0, o0, o0, o0, o0, o0, o0, o0, o0, o0, o0, o0] rfl rfl (one_of HT_.out (by kernel_rfl)) (by decide) (fun K hK => ?_); refine goes_ Try.func91 (by kernel_rfl) rfl #[.agg #[.int .i64 a0_0, .int .i64 a0_1, .slice A0_2 l0_2.length c0_2]] (by rfl) rfl rfl qG ?_; with_reducible refine (backhaulref26_Check.calls kj3 a0_0 a0_1 _ _ l0_2 t117 _ ?side1 ?side2 A28.out).mono ?_
                        (case side1 => exact qC (Kd.C_below HR0_2.out HB.out))
                        (case side2 => exact HC0_2.out)
                        rintro e w55 ⟨rfl, hb⟩; refine ⟨_, rfl, ?_⟩; have n0_ := zA (qX BK101.out hb); have n1_ := zA (qX BK102.out hb); have n2_ := zA (zV qB hb); clear BK101; clear BK102; clear HB; have BK101 := n0_; have BK102 := n1_; have HB := n2_; clear n0_ n1_ n2_; (try clear hb); (try clear hb2); (try clear hk); (try clear hi); refine hK.out _ _ ⟨(zF BK101.out 0).trans rfl, (zF BK101.out 1).trans rfl, (zF BK101.out 2).trans rfl, (zF BK102.out 0).trans rfl, (zF BK102.out 1).trans rfl, (zF BK102.out 2).trans rfl⟩ (fun hHeld => ?_); clear hK K; refine norm_ (a' := ?_) ?_ ?_; rotate_left
                        · show Act.put _ (some 60) _ = _
                          simp only [Act.put, zH, zI, zJ, i64_w, i32_w]; rfl
                        refine pure_ (i := 4) (N := some 61) #[o1, o1, o1, o1, o1, o0, o0, o0, o0, o0, o0, o0, o0, o0, o0, o0, o0, o0, o0, o0, o0, o0, o0, o0, o0, o0, o0, o0, o0, o0, o0, o0, o0, o0, o0, o0, o0, o0, o0, o0, o0, o0, o0, o0, o0, o0, o0, o0, o0, o0] rfl rfl (any_of HT_.out (by kernel_rfl)) (fun _ _ _ h => h) (Or.inl ⟨by rfl, qy⟩) qz ?_; refine pure_ (i := 5) (N := some 62) #[o1, o1, o1, o1, o1, o1, o0, o0, o0, o0, o0, o0, o0, o0, o0, o0, o0, o0, o0, o0, o0, o0, o0, o0, o0, o0, o0, o0, o0, o0, o0, o0, o0, o0, o0, o0, o0, o0, o0, o0, o0, o0, o0, o0, o0, o0, o0, o0, o0, o0] rfl rfl (any_of HT_.out (by kernel_rfl)) (fun _ _ _ h => h) (Or.inl ⟨by rfl, qy⟩) qz ?_; refine pure_ (i := 6) (N := some 63) #[o1, o1, o1, o1, o1, o1, o1, o0, o0, o0, o0, o0, o0, o0, o0, o0, o0, o0, o0, o0, o0, o0, o0, o0, o0, o0, o0, o0, o0, o0, o0, o0, o0, o0, o0, o0, o0, o0, o0, o0, o0, o0, o0, o0, o0, o0, o0, o0, o0, o0] rfl rfl (any_of HT_.out (by kernel_rfl)) (fun _ _ _ h => h) (Or.inl ⟨by rfl, qy⟩) qz ?_; refine pure_ (i := 7) (N := some 64) #[o1, o1, o1, o1, o1, o1, o1, o1, o0, o0, o0, o0, o0, o0, o0, o0, o0, o0, o0, o0, o0, o0, o0, o0, o0, o0, o0, o0, o0, o0, o0, o0, o0, o0, o0, o0, o0, o0, o0, o0, o0, o0, o0, o0, o0, o0, o0, o0, o0, o0] rfl rfl (any_of HT_.out (by kernel_rfl)) (fun _ _ _ h => h) (Or.inl ⟨by rfl, qy⟩) qz ?_; refine pure_ (i := 8) (N := some 65) #[o1, o1, o1, o1, o1, o1, o1, o1, o1, o0, o0, o0, o0, o0, o0, o0, o0, o0, o0, o0, o0, o0, o0, o0, o0, o0, o0, o0, o0, o0, o0, o0, o0, o0, o0, o0, o0, o0, o0, o0, o0, o0, o0, o0, o0, o0, o0, o0, o0, o0] rfl rfl (any_of HT_.out (by kernel_rfl)) (fun _ _ _ h => h) (Or.inl ⟨by rfl, qy⟩) qz ?_; refine pure_ (i := 9) (N := some 66) #[o1, o1, o1, o1, o1, o1, o1, o1, o1, o1, o0, o0, o0, o0, o0, o0, o0, o0, o0, o0, o0, o0, o0, o0, o0, o0, o0, o0, o0, o0, o0, o0, o0, o0, o0, o0, o0, o0, o0, o0, o0, o0, o0, o0, o0, o0, o0, o0, o0, o0] rfl rfl (any_of HT_.out (by kernel_rfl)) (fun _ _ _ h => h) (Or.inl ⟨by rfl, qy⟩) qz ?_; refine pure_ (i := 10) (N := some 67) #[o1, o1, o1, o1, o1, o1, o1, o1, o1, o1, o1, o0, o0, o0, o0, o0, o0, o0, o0, o0, o0, o0, o0, o0, o0, o0, o0, o0, o0, o0, o0, o0, o0, o0, o0, o0, o0, o0, o0, o0, o0, o0, o0, o0, o0, o0, o0, o0, o0, o0] rfl rfl (any_of HT_.out (by kernel_rfl)) (fun _ _ _ h => h) (Or.inl ⟨by rfl, qy⟩) qz ?_
                        refine pure_ (i := 11) (N := some 68) #[o1, o1, o1, o1, o1, o1, o1, o1, o1, o1, o1, o1, o0, o0, o0, o0, o0, o0, o0, o0, o0, o0, o0, o0, o0, o0, o0, o0, o0, o0, o0, o0, o0, o0, o0, o0, o0, o0, o0, o0, o0, o0, o0, o0, o0, o0, o0, o0, o0, o0] rfl rfl (any_of HT_.out (by kernel_rfl)) (fun _ _ _ h => h) (Or.inl ⟨by rfl, qy⟩) qz ?_; refine pure_ (i := 12) (N := some 69) #[o1, o1, o1, o1, o1, o1, o1, o1, o1, o1, o1, o1, o1, o0, o0, o0, o0, o0, o0, o0, o0, o0, o0, o0, o0, o0, o0, o0, o0, o0, o0, o0, o0, o0, o0, o0, o0, o0, o0, o0, o0, o0, o0, o0, o0, o0, o0, o0, o0, o0] rfl rfl (any_of HT_.out (by kernel_rfl)) (fun _ _ _ h => h) (Or.inl ⟨by rfl, qy⟩) qz ?_; refine pure_ (i := 13) (N := some 70) #[o1, o1, o1, o1, o1, o1, o1, o1, o1, o1, o1, o1, o1, o1, o0, o0, o0, o0, o0, o0, o0, o0, o0, o0, o0, o0, o0, o0, o0, o0, o0, o0, o0, o0, o0, o0, o0, o0, o0, o0, o0, o0, o0, o0, o0, o0, o0, o0, o0, o0] rfl rfl (any_of HT_.out (by kernel_rfl)) (fun _ _ _ h => h) (Or.inl ⟨by rfl, qy⟩) qz ?_; refine pure_ (i := 14) (N := some 71) #[o1, o1, o1, o1, o1, o1, o1, o1, o1, o1, o1, o1, o1, o1, o1, o0, o0, o0, o0, o0, o0, o0, o0, o0, o0, o0, o0, o0, o0, o0, o0, o0, o0, o0, o0, o0, o0, o0, o0, o0, o0, o0, o0, o0, o0, o0, o0, o0, o0, o0] rfl rfl (any_of HT_.out (by kernel_rfl)) (fun _ _ _ h => h) (Or.inl ⟨by rfl, qy⟩) qz ?_; refine pure_ (i := 15) (N := some 72) #[o1, o1, o1, o1, o1, o1, o1, o1, o1, o1, o1, o1, o1, o1, o1, o1, o0, o0, o0, o0, o0, o0, o0, o0, o0, o0, o0, o0, o0, o0, o0, o0, o0, o0, o0, o0, o0, o0, o0, o0, o0, o0, o0, o0, o0, o0, o0, o0, o0, o0] rfl rfl (any_of HT_.out (by kernel_rfl)) (fun _ _ _ h => h) (Or.inl ⟨by rfl, qy⟩) qz ?_; refine pure_ (i := 16) (N := some 73) #[o1, o1, o1, o1, o1, o1, o1, o1, o1, o1, o1, o1, o1, o1, o1, o1, o1, o0, o0, o0, o0, o0, o0, o0, o0, o0, o0, o0, o0, o0, o0, o0, o0, o0, o0, o0, o0, o0, o0, o0, o0, o0, o0, o0, o0, o0, o0, o0, o0, o0] rfl rfl (any_of HT_.out (by kernel_rfl)) (fun _ _ _ h => h) (Or.inl ⟨by rfl, qy⟩) qz ?_; refine pure_ (i := 17) (N := some 74) #[o1, o1, o1, o1, o1, o1, o1, o1, o1, o1, o1, o1, o1, o1, o1, o1, o1, o1, o0, o0, o0, o0, o0, o0, o0, o0, o0, o0, o0, o0, o0, o0, o0, o0, o0, o0, o0, o0, o0, o0, o0, o0, o0, o0, o0, o0, o0, o0, o0, o0] rfl rfl (any_of HT_.out (by kernel_rfl)) (fun _ _ _ h => h) (Or.inl ⟨by rfl, qy⟩) qz ?_
                        refine pure_ (i := 18) (N := some 75) #[o1, o1, o1, o1, o1, o1, o1, o1, o1, o1, o1, o1, o1, o1, o1, o1, o1, o1, o1, o0, o0, o0, o0, o0, o0, o0, o0, o0, o0, o0, o0, o0, o0, o0, o0, o0, o0, o0, o0, o0, o0, o0, o0, o0, o0, o0, o0, o0, o0, o0] rfl rfl (any_of HT_.out (by kernel_rfl)) (fun _ _ _ h => h) (Or.inl ⟨by rfl, qy⟩) qz ?_; refine pure_ (i := 19) (N := some 76) #[o1, o1, o1, o1, o1, o1, o1, o1, o1, o1, o1, o1, o1, o1, o1, o1, o1, o1, o1, o1, o0, o0, o0, o0, o0, o0, o0, o0, o0, o0, o0, o0, o0, o0, o0, o0, o0, o0, o0, o0, o0, o0, o0, o0, o0, o0, o0, o0, o0, o0] rfl rfl (any_of HT_.out (by kernel_rfl)) (fun _ _ _ h => h) (Or.inl ⟨by rfl, qy⟩) qz ?_; refine pure_ (i := 20) (N := some 77) #[o1, o1, o1, o1, o1, o1, o1, o1, o1, o1, o1, o1, o1, o1, o1, o1, o1, o1, o1, o1, o1, o0, o0, o0, o0, o0, o0, o0, o0, o0, o0, o0, o0, o0, o0, o0, o0, o0, o0, o0, o0, o0, o0, o0, o0, o0, o0, o0, o0, o0] rfl rfl (any_of HT_.out (by kernel_rfl)) (fun _ _ _ h => h) (Or.inl ⟨by rfl, qy⟩) qz ?_; refine take_ (i := 21) (N := some 78) (v := ?_) (a' := ?_) #[o1, o1, o1, o1, o1, o1, o1, o1, o1, o1, o1, o1, o1, o1, o1, o1, o1, o1, o1, o1, o1, o1, o0, o0, o0, o0, o0, o0, o0, o0, o0, o0, o0, o0, o0, o0, o0, o0, o0, o0, o0, o0, o0, o0, o0, o0, o0, o0, o0, o0] rfl rfl (take_ofW HT_.out HW_.out (by kernel_rfl)) (fun _ _ _ h => h) (Or.inl ⟨by rfl, ?_⟩) hHeld ?_ ?_; rotate_left
                        · rintro w' ⟨s0, s1, s2, s3, s4, s5⟩
                          go_simp; with_reducible rfl
                        rotate_left
                        · simp only [Act.put, zH, zI, zJ, i64_w, i32_w]
                          rfl
                        refine take_ (i := 23) (N := some 80) (v := ?_) (a' := ?_) #[o1, o1, o1, o1, o1, o1, o1, o1, o1, o1, o1, o1, o1, o1, o1, o1, o1, o1, o1, o1, o1, o1, o0, o1, o0, o0, o0, o0, o0, o0, o0, o0, o0, o0, o0, o0, o0, o0, o0, o0, o0, o0, o0, o0, o0, o0, o0, o0, o0, o0] rfl rfl (take_ofW HT_.out HW_.out (by kernel_rfl)) (fun _ _ _ h => h) (Or.inl ⟨by rfl, ?_⟩) hHeld ?_ ?_; rotate_left
                        · rintro w' ⟨s0, s1, s2, s3, s4, s5⟩
                          go_simp; with_reducible rfl
                        rotate_left
                        · simp only [Act.put, zH, zI, zJ, i64_w, i32_w]
                          rfl
                        refine one_ (i := 22) (N := some 79) #[o1, o1, o1, o1, o1, o1, o1, o1, o1, o1, o1, o1, o1, o1, o1, o1, o1, o1, o1, o1, o1, o1, o1, o1, o0, o0, o0, o0, o0, o0, o0, o0, o0, o0, o0, o0, o0, o0, o0, o0, o0, o0, o0, o0, o0, o0, o0, o0, o0, o0] rfl rfl (one_of HT_.out (by kernel_rfl)) (by decide) (fun K hK => ?_); refine goes_ Try.func93 (by kernel_rfl) rfl #[.agg #[.int .i64 a0_0, .int .i64 a0_1, .slice A0_2 l0_2.length c0_2]] (by rfl) rfl rfl qG ?_; with_reducible refine (order_Serials.calls kj3 a0_0 a0_1 _ _ l0_2 t118 _ ?side1 ?side2 A33.out).mono ?_
                        (case side1 => exact qC (Kd.C_below HR0_2.out HB.out))
                        (case side2 => exact HC0_2.out)
                        rintro e w56 ⟨v119, rfl, ho0, hb⟩; refine ⟨_, rfl, ?_⟩; have n0_ := zA (Kd.R_lower ho0 (zW qB)); have n1_ := zA (qX BK101.out hb); have n2_ := zA (qX BK102.out hb); have n3_ := zA (zV qB hb); clear BK101; clear BK102; clear HB; have HO120 := n0_; have BK101 := n1_; have BK102 := n2_; have HB := n3_; clear n0_ n1_ n2_ n3_; (try clear hb); (try clear hb2); (try clear hk); (try clear hi); (try clear ho0); refine hK.out _ _ ⟨(zF BK101.out 0).trans rfl, (zF BK101.out 1).trans rfl, (zF BK101.out 2).trans rfl, (zF BK102.out 0).trans rfl, (zF BK102.out 1).trans rfl, (zF BK102.out 2).trans rfl⟩ (fun hHeld => ?_); clear hK K; refine norm_ (a' := ?_) ?_ ?_; rotate_left
                        · show Act.put _ (some 79) _ = _
                          simp only [Act.put, zH, zI, zJ, i64_w, i32_w]; rfl
                        refine one_ (i := 24) (N := some 81) #[o1, o1, o1, o1, o1, o1, o1, o1, o1, o1, o1, o1, o1, o1, o1, o1, o1, o1, o1, o1, o1, o1, o1, o1, o1, o0, o0, o0, o0, o0, o0, o0, o0, o0, o0, o0, o0, o0, o0, o0, o0, o0, o0, o0, o0, o0, o0, o0, o0, o0] rfl rfl (one_of HT_.out (by kernel_rfl)) (by decide) (fun K hK => ?_); refine goes_ Try.func94 (by kernel_rfl) rfl #[.agg #[.int .i64 a0_0, .int .i64 a0_1, .slice A0_2 l0_2.length c0_2]] (by rfl) rfl rfl qG ?_; with_reducible refine (backhaulref26_Serials.calls kj3 a0_0 a0_1 _ _ l0_2 t121 _ ?side1 ?side2 A34.out).mono ?_
                        (case side1 => exact qC (Kd.C_below HR0_2.out HB.out))
                        (case side2 => exact HC0_2.out)
                        rintro e w57 ⟨v122, rfl, ho0, hb⟩; refine ⟨_, rfl, ?_⟩; have n0_ := zA (Kd.R_elder' (by (with_reducible repeat (first | apply Kd.R_alloc | apply Kd.R_drewN | apply Kd.R_drew)); exact HO120.out) (Kd.R_base ho0) hb); have n1_ := zA (Kd.R_lower (Kd.R_new' ho0 (Kd.R_lt (by (with_reducible repeat (first | apply Kd.R_alloc | apply Kd.R_drewN | apply Kd.R_drew)); exact HO120.out))) (zW qB)); have n2_ := zA (qX BK101.out hb); have n3_ := zA (qX BK102.out hb); have n4_ := zA (zV qB hb); clear HO120; clear BK101; clear BK102; clear HB; have HO120 := n0_; have HO123 := n1_; have BK101 := n2_; have BK102 := n3_; have HB := n4_; clear n0_ n1_ n2_ n3_ n4_; (try clear hb); (try clear hb2); (try clear hk); (try clear hi); (try clear ho0); obtain ⟨Ao58, co58, eo58⟩ := Kd.R_slice HO120.out; (first | subst eo58 | (injection eo58 with f1_ f2_ f3_; have f4_ := f1_.symm; have f5_ := f3_.symm; clear f1_ f2_ f3_; subst f4_; subst f5_))
                        obtain ⟨Ao59, co59, eo59⟩ := Kd.R_slice HO123.out; (first | subst eo59 | (injection eo59 with f1_ f2_ f3_; have f4_ := f1_.symm; have f5_ := f3_.symm; clear f1_ f2_ f3_; subst f4_; subst f5_))
                        refine hK.out _ _ ⟨(zF BK101.out 0).trans rfl, (zF BK101.out 1).trans rfl, (zF BK101.out 2).trans rfl, (zF BK102.out 0).trans rfl, (zF BK102.out 1).trans rfl, (zF BK102.out 2).trans rfl⟩ (fun hHeld => ?_); clear hK K; refine norm_ (a' := ?_) ?_ ?_; rotate_left
                        · show Act.put _ (some 81) _ = _
                          simp only [Act.put, zH, zI, zJ, i64_w, i32_w]; rfl
                        refine one_ (i := 25) (N := some 82) #[o1, o1, o1, o1, o1, o1, o1, o1, o1, o1, o1, o1, o1, o1, o1, o1, o1, o1, o1, o1, o1, o1, o1, o1, o1, o1, o0, o0, o0, o0, o0, o0, o0, o0, o0, o0, o0, o0, o0, o0, o0, o0, o0, o0, o0, o0, o0, o0, o0, o0] rfl rfl (one_of HT_.out (by kernel_rfl)) (by decide) (fun K hK => ?_); refine goes_ Try.func92 (by kernel_rfl) rfl #[.slice Ao58 t118.length co58, .slice Ao59 t121.length co59] (by rfl) rfl rfl qG ?_; with_reducible refine (backhaulref01_SameTexts.calls kj3 _ _ t118 _ _ t121 true _ ?side1 ?side2 ?side3 ?side4 A35.out).mono ?_
                        (case side1 => repeat (first | exact (Kd.R_reads' HO120.out).2.2 | (with_reducible refine Kd.C_alloc ?_ _) | (with_reducible refine Kd.C_drewN ?_ _) | (with_reducible refine Kd.C_drew ?_)))
                        (case side2 => exact (Kd.R_reads' HO120.out).2.1)
                        (case side3 => repeat (first | exact (Kd.R_reads' HO123.out).2.2 | (with_reducible refine Kd.C_alloc ?_ _) | (with_reducible refine Kd.C_drewN ?_ _) | (with_reducible refine Kd.C_drew ?_)))
                        (case side4 => exact (Kd.R_reads' HO123.out).2.1)
                        rintro e w' ⟨rfl, ⟨nd, rfl⟩⟩; refine ⟨_, rfl, ?_⟩; refine hK.out _ _ ⟨(zF BK101.out 0).trans rfl, (zF BK101.out 1).trans rfl, (zF BK101.out 2).trans rfl, (zF BK102.out 0).trans rfl, (zF BK102.out 1).trans rfl, (zF BK102.out 2).trans rfl⟩ (fun hHeld => ?_); clear hK K; refine norm_ (a' := ?_) ?_ ?_; rotate_left
                        · show Act.put _ (some 82) _ = _
                          simp only [Act.put, zH, zI, zJ, i64_w, i32_w]; rfl
                        refine pure_ (i := 26) (N := some 83) #[o1, o1, o1, o1, o1, o1, o1, o1, o1, o1, o1, o1, o1, o1, o1, o1, o1, o1, o1, o1, o1, o1, o1, o1, o1, o1, o1, o0, o0, o0, o0, o0, o0, o0, o0, o0, o0, o0, o0, o0, o0, o0, o0, o0, o0, o0, o0, o0, o0, o0] rfl rfl (any_of HT_.out (by kernel_rfl)) (fun _ _ _ h => h) (Or.inl ⟨by rfl, qy⟩) qz ?_; refine pure_ (i := 27) (N := some 84) #[o1, o1, o1, o1, o1, o1, o1, o1, o1, o1, o1, o1, o1, o1, o1, o1, o1, o1, o1, o1, o1, o1, o1, o1, o1, o1, o1, o1, o0, o0, o0, o0, o0, o0, o0, o0, o0, o0, o0, o0, o0, o0, o0, o0, o0, o0, o0, o0, o0, o0] rfl rfl (any_of HT_.out (by kernel_rfl)) (fun _ _ _ h => h) (Or.inl ⟨by rfl, qy⟩) qz ?_; refine pure_ (i := 28) (N := some 85) #[o1, o1, o1, o1, o1, o1, o1, o1, o1, o1, o1, o1, o1, o1, o1, o1, o1, o1, o1, o1, o1, o1, o1, o1, o1, o1, o1, o1, o1, o0, o0, o0, o0, o0, o0, o0, o0, o0, o0, o0, o0, o0, o0, o0, o0, o0, o0, o0, o0, o0] rfl rfl (any_of HT_.out (by kernel_rfl)) (fun _ _ _ h => h) (Or.inl ⟨by rfl, qy⟩) qz ?_; refine pure_ (i := 29) (N := some 86) #[o1, o1, o1, o1, o1, o1, o1, o1, o1, o1, o1, o1, o1, o1, o1, o1, o1, o1, o1, o1, o1, o1, o1, o1, o1, o1, o1, o1, o1, o1, o0, o0, o0, o0, o0, o0, o0, o0, o0, o0, o0, o0, o0, o0, o0, o0, o0, o0, o0, o0] rfl rfl (any_of HT_.out (by kernel_rfl)) (fun _ _ _ h => h) (Or.inl ⟨by rfl, qy⟩) qz ?_; refine pure_ (i := 30) (N := some 87) #[o1, o1, o1, o1, o1, o1, o1, o1, o1, o1, o1, o1, o1, o1, o1, o1, o1, o1, o1, o1, o1, o1, o1, o1, o1, o1, o1, o1, o1, o1, o1, o0, o0, o0, o0, o0, o0, o0, o0, o0, o0, o0, o0, o0, o0, o0, o0, o0, o0, o0] rfl rfl (any_of HT_.out (by kernel_rfl)) (fun _ _ _ h => h) (Or.inl ⟨by rfl, qy⟩) qz ?_; refine pure_ (i := 31) (N := some 88) #[o1, o1, o1, o1, o1, o1, o1, o1, o1, o1, o1, o1, o1, o1, o1, o1, o1, o1, o1, o1, o1, o1, o1, o1, o1, o1, o1, o1, o1, o1, o1, o1, o0, o0, o0, o0, o0, o0, o0, o0, o0, o0, o0, o0, o0, o0, o0, o0, o0, o0] rfl rfl (any_of HT_.out (by kernel_rfl)) (fun _ _ _ h => h) (Or.inl ⟨by rfl, qy⟩) qz ?_; refine pure_ (i := 32) (N := some 89) #[o1, o1, o1, o1, o1, o1, o1, o1, o1, o1, o1, o1, o1, o1, o1, o1, o1, o1, o1, o1, o1, o1, o1, o1, o1, o1, o1, o1, o1, o1, o1, o1, o1, o0, o0, o0, o0, o0, o0, o0, o0, o0, o0, o0, o0, o0, o0, o0, o0, o0] rfl rfl (any_of HT_.out (by kernel_rfl)) (fun _ _ _ h => h) (Or.inl ⟨by rfl, qy⟩) qz ?_
                        refine pure_ (i := 33) (N := some 90) #[o1, o1, o1, o1, o1, o1, o1, o1, o1, o1, o1, o1, o1, o1, o1, o1, o1, o1, o1, o1, o1, o1, o1, o1, o1, o1, o1, o1, o1, o1, o1, o1, o1, o1, o0, o0, o0, o0, o0, o0, o0, o0, o0, o0, o0, o0, o0, o0, o0, o0] rfl rfl (any_of HT_.out (by kernel_rfl)) (fun _ _ _ h => h) (Or.inl ⟨by rfl, qy⟩) qz ?_; refine pure_ (i := 34) (N := some 91) #[o1, o1, o1, o1, o1, o1, o1, o1, o1, o1, o1, o1, o1, o1, o1, o1, o1, o1, o1, o1, o1, o1, o1, o1, o1, o1, o1, o1, o1, o1, o1, o1, o1, o1, o1, o0, o0, o0, o0, o0, o0, o0, o0, o0, o0, o0, o0, o0, o0, o0] rfl rfl (any_of HT_.out (by kernel_rfl)) (fun _ _ _ h => h) (Or.inl ⟨by rfl, qy⟩) qz ?_; refine pure_ (i := 35) (N := some 92) #[o1, o1, o1, o1, o1, o1, o1, o1, o1, o1, o1, o1, o1, o1, o1, o1, o1, o1, o1, o1, o1, o1, o1, o1, o1, o1, o1, o1, o1, o1, o1, o1, o1, o1, o1, o1, o0, o0, o0, o0, o0, o0, o0, o0, o0, o0, o0, o0, o0, o0] rfl rfl (any_of HT_.out (by kernel_rfl)) (fun _ _ _ h => h) (Or.inl ⟨by rfl, qy⟩) qz ?_; refine pure_ (i := 36) (N := some 93) #[o1, o1, o1, o1, o1, o1, o1, o1, o1, o1, o1, o1, o1, o1, o1, o1, o1, o1, o1, o1, o1, o1, o1, o1, o1, o1, o1, o1, o1, o1, o1, o1, o1, o1, o1, o1, o1, o0, o0, o0, o0, o0, o0, o0, o0, o0, o0, o0, o0, o0] rfl rfl (any_of HT_.out (by kernel_rfl)) (fun _ _ _ h => h) (Or.inl ⟨by rfl, qy⟩) qz ?_; refine pure_ (i := 37) (N := some 94) #[o1, o1, o1, o1, o1, o1, o1, o1, o1, o1, o1, o1, o1, o1, o1, o1, o1, o1, o1, o1, o1, o1, o1, o1, o1, o1, o1, o1, o1, o1, o1, o1, o1, o1, o1, o1, o1, o1, o0, o0, o0, o0, o0, o0, o0, o0, o0, o0, o0, o0] rfl rfl (any_of HT_.out (by kernel_rfl)) (fun _ _ _ h => h) (Or.inl ⟨by rfl, qy⟩) qz ?_; refine take_ (i := 38) (N := some 95) (v := ?_) (a' := ?_) #[o1, o1, o1, o1, o1, o1, o1, o1, o1, o1, o1, o1, o1, o1, o1, o1, o1, o1, o1, o1, o1, o1, o1, o1, o1, o1, o1, o1, o1, o1, o1, o1, o1, o1, o1, o1, o1, o1, o1, o0, o0, o0, o0, o0, o0, o0, o0, o0, o0, o0] rfl rfl (take_ofW HT_.out HW_.out (by kernel_rfl)) (fun _ _ _ h => h) (Or.inl ⟨by rfl, ?_⟩) hHeld ?_ ?_; rotate_left
                        · rintro w' ⟨s0, s1, s2, s3, s4, s5⟩
                          go_simp; with_reducible rfl
                        rotate_left
                        · simp only [Act.put, zH, zI, zJ, i64_w, i32_w]
                          rfl
                        refine take_ (i := 39) (N := some 96) (v := ?_) (a' := ?_) #[o1, o1, o1, o1, o1, o1, o1, o1, o1, o1, o1, o1, o1, o1, o1, o1, o1, o1, o1, o1, o1, o1, o1, o1, o1, o1, o1, o1, o1, o1, o1, o1, o1, o1, o1, o1, o1, o1, o1, o1, o0, o0, o0, o0, o0, o0, o0, o0, o0, o0] rfl rfl (take_ofW HT_.out HW_.out (by kernel_rfl)) (fun _ _ _ h => h) (Or.inl ⟨by rfl, ?_⟩) hHeld ?_ ?_; rotate_left
                        · rintro w' ⟨s0, s1, s2, s3, s4, s5⟩
                          go_simp; with_reducible rfl
                        rotate_left
                        · simp only [Act.put, zH, zI, zJ, i64_w, i32_w]
                          rfl
                        refine take_ (i := 41) (N := some 98) (v := ?_) (a' := ?_) #[o1, o1, o1, o1, o1, o1, o1, o1, o1, o1, o1, o1, o1, o1, o1, o1, o1, o1, o1, o1, o1, o1, o1, o1, o1, o1, o1, o1, o1, o1, o1, o1, o1, o1, o1, o1, o1, o1, o1, o1, o0, o1, o0, o0, o0, o0, o0, o0, o0, o0] rfl rfl (take_ofW HT_.out HW_.out (by kernel_rfl)) (fun _ _ _ h => h) (Or.inl ⟨by rfl, ?_⟩) hHeld ?_ ?_; rotate_left
                        · rintro w' ⟨s0, s1, s2, s3, s4, s5⟩
                          go_simp; with_reducible rfl
                        rotate_left
                        · simp only [Act.put, zH, zI, zJ, i64_w, i32_w]
                          rfl
                        refine take_ (i := 42) (N := some 99) (v := ?_) (a' := ?_) #[o1, o1, o1, o1, o1, o1, o1, o1, o1, o1, o1, o1, o1, o1, o1, o1, o1, o1, o1, o1, o1, o1, o1, o1, o1, o1, o1, o1, o1, o1, o1, o1, o1, o1, o1, o1, o1, o1, o1, o1, o0, o1, o1, o0, o0, o0, o0, o0, o0, o0] rfl rfl (take_ofW HT_.out HW_.out (by kernel_rfl)) (fun _ _ _ h => h) (Or.inl ⟨by rfl, ?_⟩) hHeld ?_ ?_; rotate_left
                        · rintro w' ⟨s0, s1, s2, s3, s4, s5⟩
                          go_simp; with_reducible rfl
                        rotate_left
                        · simp only [Act.put, zH, zI, zJ, i64_w, i32_w]
                          rfl
                        refine one_ (i := 40) (N := some 97) #[o1, o1, o1, o1, o1, o1, o1, o1, o1, o1, o1, o1, o1, o1, o1, o1, o1, o1, o1, o1, o1, o1, o1, o1, o1, o1, o1, o1, o1, o1, o1, o1, o1, o1, o1, o1, o1, o1, o1, o1, o1, o1, o1, o0, o0, o0, o0, o0, o0, o0] rfl rfl (one_of HT_.out (by kernel_rfl)) (by decide) (fun K hK => ?_); refine goes_ Try.func95 (by kernel_rfl) rfl #[.agg #[.int .i64 a0_0, .int .i64 a0_1, .slice A0_2 l0_2.length c0_2], .agg #[.int .i64 a1_0, .int .i64 a1_1, .slice A1_2 l1_2.length c1_2]] (by rfl) rfl rfl qG ?_; with_reducible refine (order_Same.calls kj3 a0_0 a0_1 _ _ l0_2 a1_0 a1_1 _ _ l1_2 t125 _ ?side1 ?side2 ?side3 ?side4 A39.out).mono ?_
                        (case side1 => exact qC (Kd.C_below HR0_2.out qB))
                        (case side2 => exact HC0_2.out)
                        (case side3 => exact qC (Kd.C_below HR1_2.out qB))
                        (case side4 => exact HC1_2.out)
                        rintro e w60 ⟨rfl, hb⟩; refine ⟨_, rfl, ?_⟩; have n0_ := zA (Kd.R_below (by (with_reducible repeat (first | apply Kd.R_alloc | apply Kd.R_drewN | apply Kd.R_drew)); exact HO120.out) hb); have n1_ := zA (Kd.R_below (by (with_reducible repeat (first | apply Kd.R_alloc | apply Kd.R_drewN | apply Kd.R_drew)); exact HO123.out) hb); have n2_ := zA (qX BK101.out hb); have n3_ := zA (qX BK102.out hb); have n4_ := zA (zV qB hb); clear HO120; clear HO123; clear BK101; clear BK102; clear HB; have HO120 := n0_; have HO123 := n1_; have BK101 := n2_; have BK102 := n3_; have HB := n4_; clear n0_ n1_ n2_ n3_ n4_; (try clear hb); (try clear hb2); (try clear hk); (try clear hi); refine hK.out _ _ ⟨(zF BK101.out 0).trans rfl, (zF BK101.out 1).trans rfl, (zF BK101.out 2).trans rfl, (zF BK102.out 0).trans rfl, (zF BK102.out 1).trans rfl, (zF BK102.out 2).trans rfl⟩ (fun hHeld => ?_); clear hK K; refine norm_ (a' := ?_) ?_ ?_; rotate_left
                        · show Act.put _ (some 97) _ = _
                          simp only [Act.put, zH, zI, zJ, i64_w, i32_w]; rfl
                        refine one_ (i := 43) (N := some 100) #[o1, o1, o1, o1, o1, o1, o1, o1, o1, o1, o1, o1, o1, o1, o1, o1, o1, o1, o1, o1, o1, o1, o1, o1, o1, o1, o1, o1, o1, o1, o1, o1, o1, o1, o1, o1, o1, o1, o1, o1, o1, o1, o1, o1, o0, o0, o0, o0, o0, o0] rfl rfl (one_of HT_.out (by kernel_rfl)) (by decide) (fun K hK => ?_); refine goes_ Try.func85 (by kernel_rfl) rfl #[.agg #[.int .i64 a0_0, .int .i64 a0_1, .slice A0_2 l0_2.length c0_2], .agg #[.int .i64 a1_0, .int .i64 a1_1, .slice A1_2 l1_2.length c1_2]] (by rfl) rfl rfl qG ?_; with_reducible refine (backhaulref26_Same.calls kj3 a0_0 a0_1 _ _ l0_2 a1_0 a1_1 _ _ l1_2 t126 _ ?side1 ?side2 ?side3 ?side4 A40.out).mono ?_
                        (case side1 => exact qC (Kd.C_below HR0_2.out HB.out))
                        (case side2 => exact HC0_2.out)
                        (case side3 => exact qC (Kd.C_below HR1_2.out HB.out))
                        (case side4 => exact HC1_2.out)
                        rintro e w61 ⟨rfl, hb⟩; refine ⟨_, rfl, ?_⟩; have n0_ := zA (Kd.R_below (by (with_reducible repeat (first | apply Kd.R_alloc | apply Kd.R_drewN | apply Kd.R_drew)); exact HO120.out) hb); have n1_ := zA (Kd.R_below (by (with_reducible repeat (first | apply Kd.R_alloc | apply Kd.R_drewN | apply Kd.R_drew)); exact HO123.out) hb); have n2_ := zA (qX BK101.out hb); have n3_ := zA (qX BK102.out hb); have n4_ := zA (zV qB hb); clear HO120; clear HO123; clear BK101; clear BK102; clear HB; have HO120 := n0_; have HO123 := n1_; have BK101 := n2_; have BK102 := n3_; have HB := n4_; clear n0_ n1_ n2_ n3_ n4_; (try clear hb); (try clear hb2); (try clear hk); (try clear hi); refine hK.out _ _ ⟨(zF BK101.out 0).trans rfl, (zF BK101.out 1).trans rfl, (zF BK101.out 2).trans rfl, (zF BK102.out 0).trans rfl, (zF BK102.out 1).trans rfl, (zF BK102.out 2).trans rfl⟩ (fun hHeld => ?_); clear hK K; refine norm_ (a' := ?_) ?_ ?_; rotate_left
                        · show Act.put _ (some 100) _ = _
                          simp only [Act.put, zH, zI, zJ, i64_w, i32_w]; rfl
                        refine pure_ (i := 44) (N := some 101) #[o1, o1, o1, o1, o1, o1, o1, o1, o1, o1, o1, o1, o1, o1, o1, o1, o1, o1, o1, o1, o1, o1, o1, o1, o1, o1, o1, o1, o1, o1, o1, o1, o1, o1, o1, o1, o1, o1, o1, o1, o1, o1, o1, o1, o1, o0, o0, o0, o0, o0] rfl rfl (any_of HT_.out (by kernel_rfl)) (fun _ _ _ h => h) (Or.inl ⟨by rfl, qy⟩) qz ?_; refine pure_ (i := 45) (N := some 102) #[o1, o1, o1, o1, o1, o1, o1, o1, o1, o1, o1, o1, o1, o1, o1, o1, o1, o1, o1, o1, o1, o1, o1, o1, o1, o1, o1, o1, o1, o1, o1, o1, o1, o1, o1, o1, o1, o1, o1, o1, o1, o1, o1, o1, o1, o1, o0, o0, o0, o0] rfl rfl (any_of HT_.out (by kernel_rfl)) (fun _ _ _ h => h) (Or.inl ⟨by rfl, qy⟩) qz ?_; refine pure_ (i := 46) (N := some 103) #[o1, o1, o1, o1, o1, o1, o1, o1, o1, o1, o1, o1, o1, o1, o1, o1, o1, o1, o1, o1, o1, o1, o1, o1, o1, o1, o1, o1, o1, o1, o1, o1, o1, o1, o1, o1, o1, o1, o1, o1, o1, o1, o1, o1, o1, o1, o1, o0, o0, o0] rfl rfl (any_of HT_.out (by kernel_rfl)) (fun _ _ _ h => h) (Or.inl ⟨by rfl, qy⟩) qz ?_; refine one_ (i := 47) (N := some 104) #[o1, o1, o1, o1, o1, o1, o1, o1, o1, o1, o1, o1, o1, o1, o1, o1, o1, o1, o1, o1, o1, o1, o1, o1, o1, o1, o1, o1, o1, o1, o1, o1, o1, o1, o1, o1, o1, o1, o1, o1, o1, o1, o1, o1, o1, o1, o1, o1, o0, o0] rfl rfl (one_of HT_.out (by kernel_rfl)) (by decide) (fun K hK => ?_); refine goes_ Try.func82 (by kernel_rfl) rfl #[] (by rfl) rfl rfl qG ?_; with_reducible refine (backhaullaw26_awake.calls  true _ A42.out).mono ?_
                        rintro e w62 ⟨rfl, hb⟩; refine ⟨_, rfl, ?_⟩; have n0_ := zA (Kd.R_below (by (with_reducible repeat (first | apply Kd.R_alloc | apply Kd.R_drewN | apply Kd.R_drew)); exact HO120.out) hb); have n1_ := zA (Kd.R_below (by (with_reducible repeat (first | apply Kd.R_alloc | apply Kd.R_drewN | apply Kd.R_drew)); exact HO123.out) hb); have n2_ := zA (qX BK101.out hb); have n3_ := zA (qX BK102.out hb); have n4_ := zA (zV qB hb); clear HO120; clear HO123; clear BK101; clear BK102; clear HB; have HO120 := n0_; have HO123 := n1_; have BK101 := n2_; have BK102 := n3_; have HB := n4_; clear n0_ n1_ n2_ n3_ n4_; (try clear hb); (try clear hb2); (try clear hk); (try clear hi); refine hK.out _ _ ⟨(zF BK101.out 0).trans rfl, (zF BK101.out 1).trans rfl, (zF BK101.out 2).trans rfl, (zF BK102.out 0).trans rfl, (zF BK102.out 1).trans rfl, (zF BK102.out 2).trans rfl⟩ (fun hHeld => ?_); clear hK K; refine norm_ (a' := ?_) ?_ ?_; rotate_left
                        · show Act.put _ (some 104) _ = _
                          simp only [Act.put, zH, zI, zJ, i64_w, i32_w]; rfl
                        refine pure_ (i := 48) (N := some 105) #[o1, o1, o1, o1, o1, o1, o1, o1, o1, o1, o1, o1, o1, o1, o1, o1, o1, o1, o1, o1, o1, o1, o1, o1, o1, o1, o1, o1, o1, o1, o1, o1, o1, o1, o1, o1, o1, o1, o1, o1, o1, o1, o1, o1, o1, o1, o1, o1, o1, o0] rfl rfl (any_of HT_.out (by kernel_rfl)) (fun _ _ _ h => h) (Or.inl ⟨by rfl, qy⟩) qz ?_; refine pure_ (i := 49) (N := some 6) #[o1, o1, o1, o1, o1, o1, o1, o1, o1, o1, o1, o1, o1, o1, o1, o1, o1, o1, o1, o1, o1, o1, o1, o1, o1, o1, o1, o1, o1, o1, o1, o1, o1, o1, o1, o1, o1, o1, o1, o1, o1, o1, o1, o1, o1, o1, o1, o1, o1, o1] rfl rfl (any_of HT_.out (by kernel_rfl)) (fun _ _ _ h => h) (Or.inl ⟨by rfl, qy⟩) qz ?_; refine done_ (done_of HT_.out (by kernel_rfl)) ?_; try go_wp2
                        go_ret; exact ⟨qE, qB⟩
                      replace c43 := Bool.eq_false_iff.mpr c43; subst c43; have H1 : (some false) = some true := by first | (rw [if_neg (show ¬ (false = true) by decide)] at H; exact H) | rfl
                      clear H; have H := H1; clear H1; exact absurd H (by simp)
                    rw [if_neg c41] at H; have c41b0 : (t125 == t126) = false := by simpa using c41
                    (try (have c41b1 : decide (t125 = t126) = false := by simpa using c41))
                    (try (have c41b2 : (t125 == t126) = false := by simpa using c41))
                    (try (have c41b3 : ¬ (t125 = t126) := by simpa using c41))
                    clear c41; exact absurd H (by simp)
                  rw [if_neg c38] at H; have c38b0 : (t113 == t115) = false := beq_eq_false_iff_ne.mpr c38; have c38b1 : (t113 != t115) = true := bne_iff_ne.mpr c38; exact absurd H (by simp)
                rw [if_neg c37] at H; have c37b0 : (t112 == t114) = false := beq_eq_false_iff_ne.mpr c37; have c37b1 : (t112 != t114) = true := bne_iff_ne.mpr c37; exact absurd H (by simp)
              replace c36 := Bool.eq_false_iff.mpr c36; subst c36; have H1 : (some false) = some true := by first | (rw [if_neg (show ¬ (false = true) by decide)] at H; exact H) | rfl
              clear H; have H := H1; clear H1; exact absurd H (by simp)
            rw [if_neg c32] at H; have c32b0 : (t108 == t111) = false := by simpa using c32
            (try (have c32b1 : decide (t108 = t111) = false := by simpa using c32))
            (try (have c32b2 : (t108 == t111) = false := by simpa using c32))
            (try (have c32b3 : ¬ (t108 = t111) := by simpa using c32))
            clear c32; exact absurd H (by simp)
          rw [if_neg c31] at H; have c31b0 : (t107 == t110) = false := beq_eq_false_iff_ne.mpr c31; have c31b1 : (t107 != t110) = true := bne_iff_ne.mpr c31; exact absurd H (by simp)
        rw [if_neg c30] at H; have c30b0 : (t106 == t109) = false := beq_eq_false_iff_ne.mpr c30; have c30b1 : (t106 != t109) = true := bne_iff_ne.mpr c30; exact absurd H (by simp)
      rw [if_neg c29] at H; have c29b0 : (t116 == t117) = false := beq_eq_false_iff_ne.mpr c29; have c29b1 : (t116 != t117) = true := bne_iff_ne.mpr c29; exact absurd H (by simp)
def backhaullaw26_OrderTells.Pure : Prop := ∀ (a0_0 : Int) (a0_1 : Int) (l0_2 : List (S71)) (a1_0 : Int) (a1_1 : Int) (l1_2 : List (S71)) (a2 : ByteArray), (Lit.int .i64 a0_0).wf = true → (Lit.int .i64 a0_1).wf = true → (l0_2.length ≤ maxLen ∧ ∀ x ∈ l0_2, ((Lit.int .i64 x.f0).wf = true ∧ (Lit.int .i64 x.f1).wf = true ∧ (Lit.int .i64 x.f2).wf = true ∧ (Lit.int .i64 x.f3).wf = true ∧ (x.f4.length ≤ maxLen ∧ ∀ y ∈ x.f4, y.size ≤ maxLen))) → (Lit.int .i64 a1_0).wf = true → (Lit.int .i64 a1_1).wf = true → (l1_2.length ≤ maxLen ∧ ∀ x ∈ l1_2, ((Lit.int .i64 x.f0).wf = true ∧ (Lit.int .i64 x.f1).wf = true ∧ (Lit.int .i64 x.f2).wf = true ∧ (Lit.int .i64 x.f3).wf = true ∧ (x.f4.length ≤ maxLen ∧ ∀ y ∈ x.f4, y.size ≤ maxLen))) → a2.size ≤ maxLen → ∃ k, backhaullaw26_OrderTells.f k a0_0 a0_1 l0_2 a1_0 a1_1 l1_2 a2 = some true
end Go.Proofs.Ytefhljhpcpajgaa.F
set_option linter.unusedVariables false
namespace Go.Proofs.Ytefhljhpcpajgaa.Q
open Go.RowKit YtefhljhpcpajgaaW.PrintWords YtefhljhpcpajgaaW.PrintLast YtefhljhpcpajgaaW.PrintMore
theorem less_irrefl (l : List UInt8) : Op.bytesLess l l = false := by
  induction l with
  | nil => rfl
  | cons a l ih => simp [Op.bytesLess, ih]
def bytesB (l : List UInt8) : ByteArray := ⟨l.toArray⟩
theorem data_append (a b : ByteArray) : (a ++ b).data.toList = a.data.toList ++ b.data.toList := by simp [ByteArray.data_append]
theorem size_data (a : ByteArray) : a.data.toList.length = a.size := by rw [Array.length_toList]; rfl
theorem bt_data (s : ByteArray) (i : Nat) (h : i < s.size) : bt s (i : Int) = ((s.data.toList[i]'(by rw [size_data]; exact h)).toNat : Int) := by
  unfold bt
  rw [dif_pos (by simpa using h)]
  simp [ByteArray.getElem_eq_getElem_data]
def wide (w : Int) : Prop := w = 1 ∨ w = 2 ∨ w = 4 ∨ w = 8
instance (w : Int) : Decidable (wide w) := by unfold wide; infer_instance
def natI (l : List UInt8) : List Int := l.map (fun b => (b.toNat : Int))
theorem strOfNums_nat (l : List UInt8) : strOfNums (natI l) = bytesB l := by
  unfold strOfNums natI bytesB
  rw [List.map_map]
  congr 2
  exact (List.map_congr_left fun b _ => by simp).trans (List.map_id l)
end Go.Proofs.Ytefhljhpcpajgaa.Q
namespace Go.Proofs.Ytefhljhpcpajgaa.Q
open Go.RowKit YtefhljhpcpajgaaX YtefhljhpcpajgaaW.PrintWords YtefhljhpcpajgaaW.PrintLast YtefhljhpcpajgaaW.PrintMore
theorem less_cons (a b : UInt8) (x y : List UInt8) : Op.bytesLess (a :: x) (b :: y) = true ↔ a.toNat < b.toNat ∨ (a = b ∧ Op.bytesLess x y = true) := by
  simp only [Op.bytesLess, Bool.or_eq_true, Bool.and_eq_true, decide_eq_true_eq, beq_iff_eq, UInt8.lt_iff_toNat_lt]
theorem less_nil (x : List UInt8) : Op.bytesLess x [] = false := by cases x <;> rfl
theorem less_trans : ∀ (a b c : List UInt8), Op.bytesLess a b = true → Op.bytesLess b c = true → Op.bytesLess a c = true
  | _, [], _, h, _ => by rw [less_nil] at h; cases h
  | _, _ :: _, [], _, h => by rw [less_nil] at h; cases h
  | [], _ :: _, _ :: _, _, _ => rfl
  | a :: x, b :: y, c :: z, h1, h2 => by
    rw [less_cons] at h1 h2 ⊢
    rcases h1 with h1 | ⟨rfl, h1⟩
    · rcases h2 with h2 | ⟨rfl, h2⟩
      · exact .inl (by omega)
      exact .inl h1
    rcases h2 with h2 | ⟨rfl, h2⟩
    · exact .inl h2
    exact .inr ⟨rfl, less_trans x y z h1 h2⟩
def up8 (b : UInt8) : UInt8 := if 97 ≤ b.toNat ∧ b.toNat ≤ 122 then UInt8.ofNat (b.toNat - 32) else b
theorem up8_toNat (b : UInt8) : ((up8 b).toNat : Int) = upI b.toNat := by
  unfold up8 upI
  by_cases h : 97 ≤ b.toNat ∧ b.toNat ≤ 122
  · rw [if_pos h, if_pos (by omega)]
    have : (UInt8.ofNat (b.toNat - 32)).toNat = b.toNat - 32 := by simp; omega
    rw [this]; omega
  rw [if_neg h, if_neg (by omega)]
theorem up8_of (b : UInt8) : UInt8.ofNat (upI b.toNat).toNat = up8 b := by
  apply UInt8.toNat_inj.1
  have h := up8_toNat b
  have h2 := (up8 b).toNat_lt
  have : (upI b.toNat).toNat = (up8 b).toNat := by omega
  rw [this]; simp
theorem up_runes (l : List UInt8) : ((runes l).map fun r => UInt8.ofNat (upI r).toNat) = l.map up8 := by
  simp only [runes, List.map_map]
  exact List.map_congr_left fun b _ => up8_of b
def serB (l : List UInt8) : Prop := 1 ≤ l.length ∧ l.length ≤ 16 ∧ l.getLast? ≠ some 45 ∧ okL 3 (runes l) = true
instance (l : List UInt8) : Decidable (serB l) := by unfold serB; infer_instance
theorem foldS_eq (s : ByteArray) : foldS s = if serB s.data.toList then (⟨(s.data.toList.map up8).toArray⟩, 0) else (⟨#[]⟩, 9) := by
  unfold foldS
  rw [up_runes]
  by_cases h : s.size < 1 ∨ s.size > 16 ∨ s.data.toList.getLast? = some 45 ∨ okL 3 (runes s.data.toList) = false
  · rw [if_pos h, if_neg]
    rintro ⟨h1, h2, h3, h4⟩
    rw [size_data] at h1 h2
    rcases h with h | h | h | h
    · omega
    · omega
    · exact h3 h
    rw [h] at h4; cases h4
  rw [if_neg h, if_pos]
  refine ⟨by rw [size_data]; omega, by rw [size_data]; omega, fun x => h (.inr (.inr (.inl x))), ?_⟩
  cases e : okL 3 (runes s.data.toList)
  · exact absurd (.inr (.inr (.inr e))) h
  rfl
theorem checkS_or (s : ByteArray) : checkS s = 0 ∨ checkS s = 9 := by unfold checkS; split <;> simp
def lt8 (a b : ByteArray) : Prop := Op.bytesLess a.toList b.toList = true
instance (a b : ByteArray) : Decidable (lt8 a b) := by unfold lt8; infer_instance
theorem lt8_irrefl (a : ByteArray) : ¬ lt8 a a := by unfold lt8; rw [less_irrefl]; decide
theorem lt8_trans {a b c : ByteArray} (h : lt8 a b) (g : lt8 b c) : lt8 a c := less_trans _ _ _ h g
def notUp : Option ByteArray → ByteArray → Bool
  | none, _ => false
  | some q, s => !(Op.bytesLess q.toList s.toList)
def rowG : Option ByteArray → List ByteArray → Int
  | _, [] => 0
  | p, s :: l => if checkS s = 0 then (if notUp p s = true then 32 else rowG (some s) l) else 9
theorem notUp_some {q s : ByteArray} : notUp (some q) s = false ↔ lt8 q s := by simp [notUp, lt8]
theorem rowG_zero {l : List ByteArray} : ∀ {p : Option ByteArray}, rowG p l = 0 → (∀ s ∈ l, checkS s = 0) ∧ l.Pairwise lt8 ∧ ∀ q, p = some q → ∀ s ∈ l, lt8 q s := by
  induction l with
  | nil => intro p _; simp
  | cons a l ih =>
    intro p h
    simp only [rowG] at h
    by_cases h1 : checkS a = 0
    · rw [if_pos h1] at h
      by_cases h2 : notUp p a = true
      · rw [if_pos h2] at h; cases h
      rw [if_neg h2] at h
      obtain ⟨i1, i2, i3⟩ := ih h
      have hq : ∀ q, p = some q → lt8 q a := fun q e => by
        subst e
        exact notUp_some.1 (by simpa using h2)
      refine ⟨fun s hs => ?_, List.pairwise_cons.2 ⟨fun s hs => i3 a rfl s hs, i2⟩, fun q e s hs => ?_⟩
      · rcases List.mem_cons.1 hs with rfl | hs
        · exact h1
        exact i1 s hs
      rcases List.mem_cons.1 hs with rfl | hs
      · exact hq q e
      exact lt8_trans (hq q e) (i3 a rfl s hs)
    rw [if_neg h1] at h; cases h
theorem pair_get {l : List ByteArray} (h : l.Pairwise lt8) {i j : Nat} (hj : j < l.length) (hij : i < j) : lt8 (l[i]'(by omega)) l[j] := List.pairwise_iff_getElem.1 h i j _ hj hij
def idxT (l : List ByteArray) (s : ByteArray) : Option Nat := l.findIdx? (fun x => decide (x = s))
theorem idxT_some {l : List ByteArray} {s : ByteArray} {i : Nat} (h : i < l.length) (he : l[i] = s) (hn : ∀ j (h : j < l.length), j < i → l[j] ≠ s) : idxT l s = some i := by
  unfold idxT
  rw [List.findIdx?_eq_some_iff_getElem]
  exact ⟨h, by simp [he], fun j hj => by simpa using hn j (by omega) hj⟩
theorem idxT_none {l : List ByteArray} {s : ByteArray} (hn : ∀ j (h : j < l.length), l[j] ≠ s) : idxT l s = none := by
  unfold idxT
  rw [List.findIdx?_eq_none_iff]
  intro x hx
  obtain ⟨j, hj, rfl⟩ := List.mem_iff_getElem.1 hx
  simpa using hn j hj
def findT (l : List ByteArray) (s : ByteArray) : Int × Bool := match idxT l s with
  | some i => ((i : Int), true)
  | none => (if rowG none l = 0 then (l.countP (fun x => decide (lt8 x s)) : Int) else 0, false)
theorem findT_sorted {l : List ByteArray} {s : ByteArray} {n : Nat} (hs : l.Pairwise lt8) (hn : n ≤ l.length) (h1 : ∀ j (h : j < l.length), j < n → lt8 l[j] s) (h2 : ∀ j (h : j < l.length), n ≤ j → ¬ lt8 l[j] s) (h0 : rowG none l = 0) : findT l s = ((n : Int), decide (∃ h : n < l.length, l[n] = s)) := by
  have hlt : ∀ j (h : j < l.length), j < n → l[j] ≠ s := fun j hj hjn e => lt8_irrefl s (e ▸ h1 j hj hjn)
  unfold findT
  by_cases h : ∃ h : n < l.length, l[n] = s
  · obtain ⟨hn', he⟩ := h
    rw [idxT_some hn' he hlt]
    simp only [Prod.mk.injEq, true_and]
    exact (decide_eq_true ⟨hn', he⟩).symm
  rw [idxT_none (fun j hj e => ?_)]
  · simp only [if_pos h0]
    refine Prod.ext ?_ (decide_eq_false h).symm
    have : l.countP (fun x => decide (lt8 x s)) = n := by
      have e : l = l.take n ++ l.drop n := (List.take_append_drop n l).symm
      have a : (l.take n).countP (fun x => decide (lt8 x s)) = (l.take n).length := by
        rw [List.countP_eq_length]
        intro x hx
        obtain ⟨j, hj, rfl⟩ := List.mem_iff_getElem.1 hx
        rw [List.length_take] at hj
        rw [List.getElem_take]
        simpa using h1 j (by omega) (by omega)
      have b : (l.drop n).countP (fun x => decide (lt8 x s)) = 0 := by
        rw [List.countP_eq_zero]
        intro x hx
        obtain ⟨j, hj, rfl⟩ := List.mem_iff_getElem.1 hx
        rw [List.length_drop] at hj
        rw [List.getElem_drop]
        simpa using h2 (n + j) (by omega) (by omega)
      rw [e, List.countP_append, a, b, List.length_take]
      omega
    show (_ : Int) = _
    rw [this]
  rcases Nat.lt_or_ge j n with hjn | hjn
  · exact hlt j hj hjn e
  rcases Nat.lt_or_ge n j with hnj | hnj
  · have h3 := pair_get hs hj hnj
    rw [e] at h3
    exact h2 n (by omega) (Nat.le_refl _) h3
  have : j = n := by omega
  subst this
  exact h ⟨hj, e⟩
end Go.Proofs.Ytefhljhpcpajgaa.Q
namespace Go.Proofs.Ytefhljhpcpajgaa.Q
open Go.RowKit Ytefhljhpcpajgaa.F YtefhljhpcpajgaaX YtefhljhpcpajgaaW.PrintWords YtefhljhpcpajgaaW.PrintLast YtefhljhpcpajgaaW.PrintMore
theorem ref01_class_f (r : Int) : backhaulref01_Class.f 20 r = some (clsI r) := by
  unfold backhaulref01_Class.f clsI
  simp only [backhaulref01_Class.j0, backhaulref01_Class.j1]
  (repeat' split) <;> simp_all <;> omega
theorem ref01_class_ev (r : Int) : Ev (fun k => backhaulref01_Class.f k r) (clsI r) := Ev.of (fun k => backhaulref01_Class.mono r k) (ref01_class_f r)
def foldRest (last : Int) (t l : List UInt8) : ByteArray × Int := if okL last (runes l) = true then (bytesB (t ++ l.map up8), 0) else (⟨#[]⟩, 9)
theorem cls_45 {b : UInt8} : clsI b.toNat = 3 ↔ b = 45 := by
  have h45 : (45 : UInt8).toNat = 45 := rfl
  have hn := b.toNat_lt
  constructor
  · intro h
    apply UInt8.toNat_inj.1
    unfold clsI at h
    (repeat' split at h) <;> omega
  rintro rfl; decide
theorem okL_iff {last : Int} {b : UInt8} {l : List UInt8} : okL last (runes (b :: l)) = true ↔ (clsI b.toNat ≠ 0 ∧ ¬ (b = 45 ∧ last = 3)) ∧ okL (clsI b.toNat) (runes l) = true := by
  show (mayB (clsI b.toNat) last && okL (clsI b.toNat) (runes l)) = true ↔ _
  rw [Bool.and_eq_true]
  have : mayB (clsI b.toNat) last = true ↔ clsI b.toNat ≠ 0 ∧ ¬ (b = 45 ∧ last = 3) := by
    unfold mayB
    rw [← cls_45]
    simp only [Bool.and_eq_true, Bool.or_eq_true, bne_iff_ne]
    omega
  rw [this]
theorem bt_nat {s : ByteArray} {i : Nat} (h : i < s.data.toList.length) : bt s (i : Int) = ((s.data.toList[i]).toNat : Int) := bt_data s i (by rw [← size_data]; exact h)
theorem bt_45 {s : ByteArray} {i : Nat} (h : i < s.data.toList.length) : bt s (i : Int) = 45 ↔ s.data.toList[i] = 45 := by
  rw [bt_nat h]
  constructor
  · intro x; apply UInt8.toNat_inj.1; show _ = 45; omega
  intro x; rw [x]; rfl
theorem ref01_fold_j2 {s : ByteArray} {i : Nat} {t : List UInt8} {b : UInt8} {r : ByteArray × Int} (ht : t.length < 100) (hi : i < 100) (h : Ev (fun k => backhaulref01_Fold.l0 k s (natI (t ++ [up8 b])) (((i + 1 : Nat)) : Int)) r) : Ev (fun k => backhaulref01_Fold.j2 k s (natI t) (i : Int) (b.toNat : Int) false) r := by
  have hl : (natI t).length = t.length := by simp [natI]
  have hn := b.toNat_lt
  have e : ∀ x : Int, x = ((up8 b).toNat : Int) → natI t ++ [x] = natI (t ++ [up8 b]) := by rintro x rfl; simp [natI]
  refine Ev.step (fun k => by simp only [backhaulref01_Fold.j2]; rfl) ?_
  rw [wrap_eq (by omega) (by omega)]
  refine Ev.neg (by decide) (Ev.ite (fun h1 => Ev.ite (fun h2 => Ev.pos (by omega) ?_) (fun h2 => Ev.pos (by omega) ?_)) (fun h1 => Ev.pos (by omega) ?_))
  · rw [e _ (by rw [up8_toNat]; unfold upI; rw [if_pos (by omega)]; omega)]; exact h
  · rw [e _ (by rw [up8_toNat]; unfold upI; rw [if_neg (by omega)])]; exact h
  rw [e _ (by rw [up8_toNat]; unfold upI; rw [if_neg (by omega)])]; exact h
theorem ref01_fold_bad {s : ByteArray} {i c : Int} {o : List Int} {last : Int} {t l : List UInt8} (h : ¬ okL last (runes l) = true) : Ev (fun k => backhaulref01_Fold.j2 k s o i c true) (foldRest last t l) := by
  refine Ev.step (fun k => by simp only [backhaulref01_Fold.j2]; rfl) ?_
  refine Ev.pos trivial (Ev.ok ?_)
  unfold foldRest
  rw [if_neg h]
theorem ref01_fold_l0 {s : ByteArray} (hs : s.size ≤ 16) (h0 : ∀ h : 0 < s.data.toList.length, s.data.toList[0] ≠ 45) (d : Nat) : ∀ (i : Nat) (t : List UInt8) (last : Int), s.size - i = d → i ≤ s.size → t.length = i → (i = 0 ∨ ∃ h : i - 1 < s.data.toList.length, last = clsI (s.data.toList[i - 1]).toNat) → Ev (fun k => backhaulref01_Fold.l0 k s (natI t) (i : Int)) (foldRest last t (s.data.toList.drop i)) := by
  have hsz := size_data s
  induction d with
  | zero =>
    intro i t last hd hi ht hla
    refine Ev.step (fun k => by simp only [backhaulref01_Fold.l0]; rfl) ?_
    refine Ev.neg (by omega) (Ev.ok ?_)
    rw [List.drop_eq_nil_of_le (by omega)]
    unfold foldRest
    rw [if_pos (show okL last (runes []) = true from rfl), strOfNums_nat, List.map_nil, List.append_nil]
  | succ d ih =>
    intro i t last hd hi ht hla
    have h : i < s.data.toList.length := by omega
    have hb : bt s (i : Int) = ((s.data.toList[i]).toNat : Int) := bt_nat h
    have hn := (s.data.toList[i]).toNat_lt
    have hw : wrap32 (((s.data.toList[i]).toNat : Int)) = ((s.data.toList[i]).toNat : Int) := by unfold wrap32; omega
    refine Ev.step (fun k => by simp only [backhaulref01_Fold.l0]; rfl) ?_
    refine Ev.pos (by omega) (Ev.pos (by omega) ?_)
    rw [drop_cons h, hb, hw]
    have hd1 : s.size - (i + 1) = d := by clear hb hw ih hla hn ht; omega
    have hd2 : i + 1 ≤ s.size := by clear hb hw ih hla hn ht; omega
    have good : okL last (runes (s.data.toList[i] :: s.data.toList.drop (i + 1))) = okL (clsI (s.data.toList[i]).toNat) (runes (s.data.toList.drop (i + 1))) → Ev (fun k => backhaulref01_Fold.j2 k s (natI t) (i : Int) ((s.data.toList[i]).toNat : Int) false) (foldRest last t (s.data.toList[i] :: s.data.toList.drop (i + 1))) := by
      intro e
      refine ref01_fold_j2 (by omega) (by omega) (Ev.eq (ih (i + 1) (t ++ [up8 s.data.toList[i]]) (clsI (s.data.toList[i]).toNat) hd1 hd2 (by simp [ht]) (.inr ⟨by simpa using h, by simp⟩)) ?_)
      unfold foldRest
      rw [e, List.map_cons, List.append_assoc]
      rfl
    have eq_of : (clsI (s.data.toList[i]).toNat ≠ 0 ∧ ¬ (s.data.toList[i] = 45 ∧ last = 3)) → okL last (runes (s.data.toList[i] :: s.data.toList.drop (i + 1))) = okL (clsI (s.data.toList[i]).toNat) (runes (s.data.toList.drop (i + 1))) := by
      intro hg
      rw [Bool.eq_iff_iff, okL_iff]
      exact ⟨fun x => x.2, fun x => ⟨hg, x⟩⟩
    refine Ev.bind (ref01_class_ev _) (Ev.ite (fun h1 => ?_) (fun h1 => ?_))
    · exact ref01_fold_bad (fun x => (okL_iff.1 x).1.1 h1)
    refine Ev.ite (fun h2 => ?_) (fun h2 => ?_)
    · have h45 : s.data.toList[i] = 45 := by apply UInt8.toNat_inj.1; show _ = 45; omega
      have hi1 : 1 ≤ i := by
        rcases Nat.eq_zero_or_pos i with h' | h'
        · subst h'; exact absurd h45 (h0 h)
        exact h'
      obtain ⟨hp, hl⟩ := hla.resolve_left (by omega)
      rw [wrap_eq (x := (i : Int) - 1) (by omega) (by omega), show (i : Int) - 1 = ((i - 1 : Nat) : Int) by omega]
      refine Ev.pos (by omega) (Ev.pos (by omega) ?_)
      by_cases h3 : s.data.toList[i - 1] = 45
      · rw [show (bt s ((i - 1 : Nat) : Int) == 45) = true from beq_iff_eq.2 ((bt_45 hp).2 h3)]
        exact ref01_fold_bad (fun x => (okL_iff.1 x).1.2 ⟨h45, by rw [hl]; exact cls_45.2 h3⟩)
      rw [show (bt s ((i - 1 : Nat) : Int) == 45) = false from beq_eq_false_iff_ne.2 (fun x => h3 ((bt_45 hp).1 x))]
      exact good (eq_of ⟨h1, fun x => h3 (cls_45.1 (by rw [← hl]; exact x.2))⟩)
    exact good (eq_of ⟨h1, fun x => h2 (by rw [x.1]; rfl)⟩)
theorem last_get {l : List UInt8} (h : l.length - 1 < l.length) : l.getLast? = some (l[l.length - 1]) := by
  rw [List.getLast?_eq_getElem?, List.getElem?_eq_getElem h]
theorem ref01_fold_f (s : ByteArray) (hs : s.size < 1099511627776) : Ev (fun k => backhaulref01_Fold.f k s) (foldS s) := by
  have hsz := size_data s
  have bad : ¬ serB s.data.toList → Ev (fun k => backhaulref01_Fold.j0 k s true) (foldS s) := by
    intro h
    refine Ev.step (fun k => by simp only [backhaulref01_Fold.j0]; rfl) ?_
    refine Ev.pos trivial (Ev.ok ?_)
    rw [foldS_eq, if_neg h]
  unfold backhaulref01_Fold.f
  refine Ev.ite (fun h => bad (fun x => by have := x.1; omega)) (fun h => Ev.ite (fun h1 => bad (fun x => by have := x.2.1; omega)) (fun h1 => Ev.pos (by omega) ?_))
  have hl0 : 0 < s.data.toList.length := by omega
  have e0 : bt s 0 = 45 ↔ s.data.toList[0] = 45 := bt_45 (i := 0) hl0
  refine Ev.ite (fun h2 => bad (fun x => ?_)) (fun h2 => ?_)
  · have h3 := x.2.2.2
    have h4 : s.data.toList = s.data.toList[0] :: s.data.toList.drop 1 := by
      have := drop_cons (l := s.data.toList) (i := 0) hl0
      simpa using this
    rw [h4] at h3
    exact (okL_iff.1 h3).1.2 ⟨e0.1 h2, rfl⟩
  have hlast : s.data.toList.length - 1 < s.data.toList.length := by omega
  rw [wrap_eq (by omega) (by omega), show (s.size : Int) - 1 = ((s.data.toList.length - 1 : Nat) : Int) by omega]
  refine Ev.pos (by omega) (Ev.pos (by omega) ?_)
  by_cases h3 : s.data.toList[s.data.toList.length - 1] = 45
  · rw [show (bt s ((s.data.toList.length - 1 : Nat) : Int) == 45) = true from beq_iff_eq.2 ((bt_45 hlast).2 h3)]
    exact bad (fun x => x.2.2.1 (by rw [last_get hlast, h3]))
  rw [show (bt s ((s.data.toList.length - 1 : Nat) : Int) == 45) = false from beq_eq_false_iff_ne.2 (fun x => h3 ((bt_45 hlast).1 x))]
  refine Ev.step (fun k => by simp only [backhaulref01_Fold.j0]; rfl) ?_
  refine Ev.neg (by decide) (Ev.eq (ref01_fold_l0 (by omega) (fun _ x => h2 (e0.2 x)) s.size 0 [] 3 (by omega) (by omega) rfl (.inl rfl)) ?_)
  rw [List.drop_zero, foldS_eq]
  unfold foldRest
  by_cases h4 : okL 3 (runes s.data.toList) = true
  · rw [if_pos h4, if_pos ⟨by omega, by omega, by rw [last_get hlast]; intro x; exact h3 (Option.some.inj x), h4⟩]; rfl
  rw [if_neg h4, if_neg (fun x => h4 x.2.2.2)]
theorem check_toList (s : ByteArray) : (if (foldS s).2 = 0 then (if (foldS s).1.toList = s.toList then some (0 : Int) else some 9) else some 9) = some (checkS s) := by
  unfold checkS
  by_cases h1 : (foldS s).2 = 0
  · rw [if_pos h1]
    by_cases h2 : (foldS s).1.toList = s.toList
    · rw [if_pos h2, if_pos ⟨h1, bytes_ext.1 h2⟩]
    rw [if_neg h2, if_neg (fun x => h2 (by rw [x.2]))]
  rw [if_neg h1, if_neg (fun x => h1 x.1)]
theorem ref01_check_f (s : ByteArray) (hs : s.size < 1099511627776) : Ev (fun k => backhaulref01_Check.f k s) (checkS s) := by
  unfold backhaulref01_Check.f
  exact Ev.bind (ref01_fold_f s hs) (Ev.const (check_toList s))
theorem serial_check_f (s : ByteArray) (hs : s.size < 9223372036854775807) : serial_Check.f s = some (checkS s) := by
  unfold serial_Check.f serial_Fold.f checkS
  rw [if_pos hs, Option.bind_some]
  have e : (foldS s).1.toList = s.toList ↔ (foldS s).1 = s := by
    constructor
    · intro h
      rw [ByteArray.toList_eq, ByteArray.toList_eq] at h
      generalize (foldS s).1 = a at *
      cases a; cases s
      simpa [Array.toList_inj] using h
    intro h; rw [h]
  by_cases h1 : (foldS s).2 = 0
  · rw [if_pos h1]
    by_cases h2 : (foldS s).1.toList = s.toList
    · rw [if_pos h2, if_pos ⟨h1, e.1 h2⟩]
    rw [if_neg h2, if_neg (fun x => h2 (e.2 x.2))]
  rw [if_neg h1, if_neg (fun x => h1 x.1)]
theorem serial_row_l0 {l : List ByteArray} (hl : l.length < 4611686018427387904) (hs : ∀ x ∈ l, x.size < 1099511627776) (d : Nat) : ∀ (i : Nat), l.length - i = d → i ≤ l.length → Ev (fun k => serial_Row.l0 k l l (l.length : Int) (i : Int)) (rowG (if i = 0 then none else l[i - 1]?) (l.drop i)) := by
  induction d with
  | zero =>
    intro i hd hi
    refine Ev.step (fun k => by simp only [serial_Row.l0]; rfl) ?_
    refine Ev.neg (by omega) (Ev.ok ?_)
    rw [List.drop_eq_nil_of_le (by omega)]; rfl
  | succ d ih =>
    intro i hd hi
    have h : i < l.length := by omega
    refine Ev.step (fun k => by simp only [serial_Row.l0]; rfl) ?_
    refine Ev.pos (by omega) (Ev.pos (by omega) (Ev.pos (by omega) ?_))
    rw [drop_cons h, rdOf_nat h, wrap_eq (x := (i : Int) + 1) (by omega) (by omega)]
    have ih' := ih (i + 1) (by omega) (by omega)
    rw [if_neg (by omega), Nat.add_sub_cancel, List.getElem?_eq_getElem h] at ih'
    refine Ev.bindc (serial_check_f _ (by have := hs _ (List.getElem_mem h); omega)) ?_
    simp only [rowG]
    refine Ev.ite (fun h1 => ?_) (fun h1 => ?_)
    · rw [if_pos h1]
      refine Ev.ite (fun h2 => ?_) (fun h2 => ?_)
      · have h' : i - 1 < l.length := by omega
        rw [wrap_eq (x := (i : Int) - 1) (by omega) (by omega), show (i : Int) - 1 = ((i - 1 : Nat) : Int) by omega, rdOf_nat h', if_neg (show ¬ i = 0 by omega), List.getElem?_eq_getElem h']
        refine Ev.pos (by omega) (Ev.pos (by omega) ?_)
        refine Ev.ite (fun h3 => ?_) (fun h3 => ?_)
        · rw [if_neg (by simp [notUp, h3])]; exact ih'
        rw [if_pos (by simp [notUp, h3])]; exact Ev.ok rfl
      rw [if_pos (show i = 0 by omega), if_neg (by simp [notUp])]; exact ih'
    rw [if_neg h1, (checkS_or _).resolve_left h1]; exact Ev.ok rfl
theorem serial_row_f {l : List ByteArray} (hl : l.length < 4611686018427387904) (hs : ∀ x ∈ l, x.size < 1099511627776) : Ev (fun k => serial_Row.f k l) (rowG none l) := by
  unfold serial_Row.f
  exact serial_row_l0 hl hs l.length 0 (by omega) (by omega)
theorem ref01_row_l0 {l : List ByteArray} (hl : l.length < 4611686018427387904) (hs : ∀ x ∈ l, x.size < 1099511627776) (d : Nat) : ∀ (i : Nat), l.length - i = d → i ≤ l.length → Ev (fun k => backhaulref01_Row.l0 k l (i : Int)) (rowG (if i = 0 then none else l[i - 1]?) (l.drop i)) := by
  induction d with
  | zero =>
    intro i hd hi
    refine Ev.step (fun k => by simp only [backhaulref01_Row.l0]; rfl) ?_
    refine Ev.neg (by omega) (Ev.ok ?_)
    rw [List.drop_eq_nil_of_le (by omega)]; rfl
  | succ d ih =>
    intro i hd hi
    have h : i < l.length := by omega
    refine Ev.step (fun k => by simp only [backhaulref01_Row.l0]; rfl) ?_
    refine Ev.pos (by omega) (Ev.pos (by omega) ?_)
    rw [drop_cons h, rdOf_nat h, wrap_eq (x := (i : Int) + 1) (by omega) (by omega)]
    have ih' := ih (i + 1) (by omega) (by omega)
    rw [if_neg (by omega), Nat.add_sub_cancel, List.getElem?_eq_getElem h] at ih'
    refine Ev.bind (ref01_check_f _ (hs _ (List.getElem_mem h))) ?_
    simp only [rowG]
    refine Ev.ite (fun h1 => ?_) (fun h1 => ?_)
    · rw [if_pos h1]
      refine Ev.ite (fun h2 => ?_) (fun h2 => ?_)
      · have h' : i - 1 < l.length := by omega
        rw [wrap_eq (x := (i : Int) - 1) (by omega) (by omega), show (i : Int) - 1 = ((i - 1 : Nat) : Int) by omega, rdOf_nat h', if_neg (show ¬ i = 0 by omega), List.getElem?_eq_getElem h']
        refine Ev.pos (by omega) (Ev.pos (by omega) ?_)
        refine Ev.ite (fun h3 => ?_) (fun h3 => ?_)
        · rw [if_neg (by simp [notUp, h3])]; exact ih'
        rw [if_pos (by simp [notUp, h3])]; exact Ev.ok rfl
      rw [if_pos (show i = 0 by omega), if_neg (by simp [notUp])]; exact ih'
    rw [if_neg h1]; exact Ev.ok rfl
theorem ref01_row_f {l : List ByteArray} (hl : l.length < 4611686018427387904) (hs : ∀ x ∈ l, x.size < 1099511627776) : Ev (fun k => backhaulref01_Row.f k l) (rowG none l) := by
  unfold backhaulref01_Row.f
  exact ref01_row_l0 hl hs l.length 0 (by omega) (by omega)
abbrev LnT := S71
theorem rdL {l : List LnT} {i : Nat} (h : i < l.length) : rd_T71 l (i : Int) = l[i] := by
  unfold rd_T71; simp [h]
def fewR (s : List ByteArray) : Bool := s.all fun x => decide (x.size ≤ 100)
def fewB (l : List LnT) : Bool := l.all fun x => decide (x.f4.length ≤ 40) && fewR x.f4
def fewP (l : List LnT) : Prop := l.length ≤ 20 ∧ ∀ x ∈ l, x.f4.length ≤ 40 ∧ ∀ s ∈ x.f4, s.size ≤ 100
theorem fewB_iff {l : List LnT} : fewB l = true ↔ ∀ x ∈ l, x.f4.length ≤ 40 ∧ ∀ s ∈ x.f4, s.size ≤ 100 := by
  unfold fewB fewR
  simp only [List.all_eq_true, Bool.and_eq_true, decide_eq_true_eq]
theorem few_l1 {l : List LnT} {i : Nat} {r : Bool} (hl : l.length ≤ 20) (hi : i < l.length) (h40 : l[i].f4.length ≤ 40) (hr : Ev (fun k => backhaullaw21_Few.l0 k l ((i + 1 : Nat) : Int)) r) (d : Nat) : ∀ (j : Nat), l[i].f4.length - j = d → j ≤ l[i].f4.length → Ev (fun k => backhaullaw21_Few.l1 k l (i : Int) (j : Int)) (fewR (l[i].f4.drop j) && r) := by
  induction d with
  | zero =>
    intro j hd hj
    refine Ev.step (fun k => by simp only [backhaullaw21_Few.l1]; rfl) (Ev.pos (by omega) (Ev.pos (by omega) ?_))
    rw [rdL hi, List.drop_eq_nil_of_le (by omega), wrap_eq (x := (i : Int) + 1) (by omega) (by omega)]
    exact Ev.neg (by omega) hr
  | succ d ih =>
    intro j hd hj
    have h : j < l[i].f4.length := by omega
    refine Ev.step (fun k => by simp only [backhaullaw21_Few.l1]; rfl) (Ev.pos (by omega) (Ev.pos (by omega) ?_))
    rw [rdL hi, rdOf_nat h, wrap_eq (x := (j : Int) + 1) (by omega) (by omega), drop_cons h]
    refine Ev.pos (by omega) (Ev.pos (by omega) (Ev.ite (fun h1 => Ev.ok ?_) (fun h1 => Ev.eq (ih (j + 1) (by omega) (by omega)) ?_)))
    · unfold fewR; rw [List.all_cons, decide_eq_false (by omega)]; rfl
    unfold fewR; rw [List.all_cons, decide_eq_true (by omega)]; rfl
theorem few_l0 {l : List LnT} (hl : l.length ≤ 20) (d : Nat) : ∀ (i : Nat), l.length - i = d → i ≤ l.length → Ev (fun k => backhaullaw21_Few.l0 k l (i : Int)) (fewB (l.drop i)) := by
  induction d with
  | zero =>
    intro i hd hi
    refine Ev.step (fun k => by simp only [backhaullaw21_Few.l0]; rfl) (Ev.neg (by omega) (Ev.ok ?_))
    rw [List.drop_eq_nil_of_le (by omega)]; rfl
  | succ d ih =>
    intro i hd hi
    have h : i < l.length := by omega
    refine Ev.step (fun k => by simp only [backhaullaw21_Few.l0]; rfl) (Ev.pos (by omega) (Ev.pos (by omega) ?_))
    rw [rdL h, drop_cons h]
    refine Ev.ite (fun h1 => Ev.ok ?_) (fun h1 => Ev.eq (few_l1 hl h (by omega) (ih (i + 1) (by omega) (by omega)) l[i].f4.length 0 (by omega) (by omega)) ?_)
    · unfold fewB; rw [List.all_cons, decide_eq_false (by omega)]; rfl
    unfold fewB; rw [List.all_cons, decide_eq_true (by omega), List.drop_zero]; rfl
theorem few_f (l : List LnT) : Ev (fun k => backhaullaw21_Few.f k l) (decide (l.length ≤ 20) && fewB l) := by
  unfold backhaullaw21_Few.f
  refine Ev.ite (fun h => Ev.ok (by rw [decide_eq_false (by omega)]; rfl)) (fun h => ?_)
  rw [decide_eq_true (by omega)]
  exact few_l0 (by omega) l.length 0 (by omega) (by omega)
theorem few_p {l : List LnT} (h : (decide (l.length ≤ 20) && fewB l) = true) : fewP l := by
  rw [Bool.and_eq_true, decide_eq_true_eq] at h
  exact ⟨h.1, fewB_iff.1 h.2⟩
def mayB (b c d : Int) : Bool := decide (0 ≤ b ∧ b ≤ 1000000000000 ∧ 0 ≤ c ∧ c ≤ b ∧ 0 ≤ d ∧ d ≤ 1000000000000 ∧ c + d ≤ 1000000000000)
def lineR (a b c d : Int) (s : List ByteArray) : Int := if a < 1 ∨ a > 999999 then 2 else if mayB b c d = true then (if s.length < 1 ∨ s.length > 20 then 9 else if rowG none s = 0 then 0 else 9) else 8
theorem in_f3 (a : Int) : cents_In.f a = some (decide (-1000000000000 ≤ a ∧ a ≤ 1000000000000)) := by
  unfold cents_In.f
  by_cases h : a ≥ -1000000000000
  · rw [if_pos h]; congr 1; exact decide_eq_decide.2 ⟨fun x => ⟨h, x⟩, fun x => x.2⟩
  rw [if_neg h]; congr 1; exact (decide_eq_false (fun x => h x.1)).symm
theorem paid_f3 (a : Int) : line_paid.f a = some (decide (0 ≤ a ∧ a ≤ 1000000000000)) := by
  unfold line_paid.f
  by_cases h : a ≥ 0
  · rw [if_pos h, in_f3, Option.bind_some]; congr 1; exact decide_eq_decide.2 ⟨fun x => ⟨h, x.2⟩, fun x => ⟨by omega, x.2⟩⟩
  rw [if_neg h]; congr 1; exact (decide_eq_false (fun x => h x.1)).symm
theorem price_f (a b c d : Int) (s : List ByteArray) : line_price_may.f a b c d s = some (mayB b c d) := by
  unfold line_price_may.f mayB
  rw [paid_f3, paid_f3, paid_f3]
  simp only [Option.bind_some, decide_eq_true_eq]
  by_cases h1 : 0 ≤ b ∧ b ≤ 1000000000000
  · by_cases h2 : 0 ≤ c ∧ c ≤ 1000000000000
    · by_cases h3 : 0 ≤ d ∧ d ≤ 1000000000000
      · by_cases h4 : c ≤ b
        · rw [if_pos h1, if_pos h2, if_pos h3, if_pos h4, in_f3, Option.bind_some, wrap_eq (by omega) (by omega)]
          congr 1; exact decide_eq_decide.2 (by omega)
        rw [if_pos h1, if_pos h2, if_pos h3, if_neg h4]; congr 1; exact (decide_eq_false (by omega)).symm
      rw [if_pos h1, if_pos h2, if_neg h3]; congr 1; exact (decide_eq_false (by omega)).symm
    rw [if_pos h1, if_neg h2]; congr 1; exact (decide_eq_false (by omega)).symm
  rw [if_neg h1]; congr 1; exact (decide_eq_false (by omega)).symm
theorem line_check_f {a b c d : Int} {s : List ByteArray} (hs : s.length ≤ 40) (hz : ∀ x ∈ s, x.size ≤ 100) : Ev (fun k => line_Check.f k a b c d s) (lineR a b c d s) := by
  unfold line_Check.f
  have key : ∀ t : Bool, (t = true ↔ (a < 1 ∨ a > 999999)) → Ev (fun k => line_Check.j0 k t a b c d s a b c d s) (lineR a b c d s) := by
    intro t ht
    unfold lineR
    refine Ev.step (fun k => by simp only [line_Check.j0]; rfl) (Ev.ite (fun h => Ev.ok (by rw [if_pos (ht.1 h)])) (fun h => ?_))
    rw [if_neg (fun g => h (ht.2 g))]
    refine Ev.bindc (price_f a b c d s) (Ev.ite (fun h1 => ?_) (fun h1 => Ev.ok (by rw [if_neg h1])))
    rw [if_pos h1]
    refine Ev.ite (fun h2 => Ev.ok (by rw [if_pos (by omega)])) (fun h2 => Ev.ite (fun h3 => Ev.ok (by rw [if_pos (by omega)])) (fun h3 => ?_))
    rw [if_neg (by omega)]
    refine Ev.bind (serial_row_f (by omega) (fun x hx => by have := hz x hx; omega)) (Ev.ite (fun h4 => Ev.ok (by rw [if_pos h4])) (fun h4 => Ev.ok (by rw [if_neg h4])))
  refine Ev.ite (fun h => key true (by simp [h])) (fun h => key _ (by simp; omega))
theorem ref_line_f {a b c d : Int} {s : List ByteArray} (hc : -9223372036854775808 ≤ c) (hs : s.length ≤ 40) (hz : ∀ x ∈ s, x.size ≤ 100) : Ev (fun k => backhaulref21_Check.f k a b c d s) (lineR a b c d s) := by
  unfold backhaulref21_Check.f
  have k1 : ¬ (a < 1 ∨ a > 999999) → ∀ t : Bool, (t = true ↔ ¬ mayB b c d = true) → Ev (fun k => backhaulref21_Check.j1 k t a b c d s) (lineR a b c d s) := by
    intro ha t ht
    unfold lineR
    rw [if_neg ha]
    refine Ev.step (fun k => by simp only [backhaulref21_Check.j1]; rfl) (Ev.ite (fun h => Ev.ok (by rw [if_neg (ht.1 h)])) (fun h => ?_))
    rw [if_pos (Classical.byContradiction fun g => h (ht.2 g))]
    refine Ev.ite (fun h2 => Ev.ok (by rw [if_pos (by omega)])) (fun h2 => Ev.ite (fun h3 => Ev.ok (by rw [if_pos (by omega)])) (fun h3 => ?_))
    rw [if_neg (by omega)]
    refine Ev.bind (ref01_row_f (by omega) (fun x hx => by have := hz x hx; omega)) (Ev.ite (fun h4 => Ev.ok (by rw [if_pos h4])) (fun h4 => Ev.ok (by rw [if_neg h4])))
  have key : ∀ t : Bool, (t = true ↔ (a < 1 ∨ a > 999999)) → Ev (fun k => backhaulref21_Check.j0 k t a b c d s) (lineR a b c d s) := by
    intro t ht
    refine Ev.step (fun k => by simp only [backhaulref21_Check.j0]; rfl) (Ev.ite (fun h => Ev.ok (by unfold lineR; rw [if_pos (ht.1 h)])) (fun h => ?_))
    have ha : ¬ (a < 1 ∨ a > 999999) := fun g => h (ht.2 g)
    have no : ¬ (0 ≤ b ∧ b ≤ 1000000000000 ∧ 0 ≤ c ∧ c ≤ b ∧ 0 ≤ d ∧ d ≤ 1000000000000 ∧ c + d ≤ 1000000000000) → (true = true ↔ ¬ mayB b c d = true) := fun g => ⟨fun _ e => g (of_decide_eq_true e), fun _ => rfl⟩
    refine Ev.ite (fun h1 => k1 ha _ (no (by omega))) (fun h1 => Ev.ite (fun h2 => k1 ha _ (no (by omega))) (fun h2 => Ev.ite (fun h3 => k1 ha _ (no (by omega))) (fun h3 => Ev.ite (fun h4 => k1 ha _ (no (by omega))) (fun h4 => Ev.ite (fun h5 => k1 ha _ (no (by omega))) (fun h5 => Ev.ite (fun h6 => k1 ha _ (no (by omega))) (fun h6 => k1 ha _ ?_))))))
    rw [wrap_eq (by omega) (by omega), decide_eq_true_eq]
    unfold mayB
    rw [decide_eq_true_eq]
    omega
  refine Ev.ite (fun h => key true (by simp [h])) (fun h => key _ (by simp; omega))
def linesB (l : List LnT) : Bool := l.all fun x => decide (lineR x.f0 x.f1 x.f2 x.f3 x.f4 = 0)
theorem line_amounts {x : LnT} (h : lineR x.f0 x.f1 x.f2 x.f3 x.f4 = 0) : 0 ≤ x.f2 ∧ x.f2 ≤ 1000000000000 ∧ 0 ≤ x.f3 ∧ x.f3 ≤ 1000000000000 := by
  unfold lineR at h
  split at h
  · cases h
  split at h
  · rename_i g
    have := of_decide_eq_true g
    omega
  cases h
def totL : Int → List LnT → Option Int
  | n, [] => some n
  | n, x :: r => if n + x.f2 + x.f3 > 1000000000000 then none else totL (n + x.f2 + x.f3) r
def totI (o : Option Int) : Int × Int := match o with
  | some m => (m, 0)
  | none => (0, 8)
def costI (o : Option Int) : Int := match o with
  | some m => m
  | none => -1
theorem totL_nonneg : ∀ (l : List LnT) (n m : Int), 0 ≤ n → (∀ x ∈ l, 0 ≤ x.f2 ∧ 0 ≤ x.f3) → totL n l = some m → 0 ≤ m
  | [], n, m, hn, _, h => by simp only [totL, Option.some.injEq] at h; omega
  | x :: r, n, m, hn, hx, h => by
    have h0 := hx x List.mem_cons_self
    simp only [totL] at h
    split at h
    · cases h
    exact totL_nonneg r _ m (by omega) (fun y hy => hx y (List.mem_cons_of_mem _ hy)) h
theorem w01 : wrap64 (0 + 1) = 1 := by rw [wrap_eq (by decide) (by decide)]; rfl
theorem w12 : wrap64 (1 + 1) = 2 := by rw [wrap_eq (by decide) (by decide)]; rfl
theorem w23 : wrap64 (2 + 1) = 3 := by rw [wrap_eq (by decide) (by decide)]; rfl
theorem add_three {n p q : Int} (hn : 0 ≤ n) (hn' : n ≤ 1000000000000) (hp : 0 ≤ p) (hp' : p ≤ 1000000000000) (hq : 0 ≤ q) (hq' : q ≤ 1000000000000) : Ev (fun k => cents_Add.f k ([n, p, q] : List Int)) (if n + p + q > 1000000000000 then (0, 8) else (n + p + q, 0)) := by
  unfold cents_Add.f
  have r0 : rd [n, p, q] 0 = n := rfl
  have r1 : rd [n, p, q] 1 = p := rfl
  have r2 : rd [n, p, q] 2 = q := rfl
  refine Ev.step (fun k => by simp only [cents_Add.l0]; rfl) (Ev.pos (by simp) (Ev.pos (by decide) (Ev.pos (by simp) ?_)))
  rw [r0, wrap_eq (x := 0 + n) (by omega) (by omega), w01]
  refine Ev.bindc (in_f3 n) (Ev.pos (decide_eq_true (by omega)) (Ev.bindc (in_f3 _) (Ev.pos (decide_eq_true (by omega)) ?_)))
  refine Ev.step (fun k => by simp only [cents_Add.l0]; rfl) (Ev.pos (by simp) (Ev.pos (by decide) (Ev.pos (by simp) ?_)))
  rw [r1, wrap_eq (x := 0 + n + p) (by omega) (by omega), w12]
  refine Ev.bindc (in_f3 p) (Ev.pos (decide_eq_true (by omega)) (Ev.bindc (in_f3 _) (Ev.ite (fun h => ?_) (fun h => Ev.ok ?_))))
  · have h := of_decide_eq_true h
    refine Ev.step (fun k => by simp only [cents_Add.l0]; rfl) (Ev.pos (by simp) (Ev.pos (by decide) (Ev.pos (by simp) ?_)))
    rw [r2, wrap_eq (x := 0 + n + p + q) (by omega) (by omega), w23]
    refine Ev.bindc (in_f3 q) (Ev.pos (decide_eq_true (by omega)) (Ev.bindc (in_f3 _) (Ev.ite (fun h1 => ?_) (fun h1 => Ev.ok ?_))))
    · have h1 := of_decide_eq_true h1
      refine Ev.step (fun k => by simp only [cents_Add.l0]; rfl) (Ev.neg (by simp) (Ev.ok ?_))
      rw [if_neg (by omega), Int.zero_add]
    have h1 : ¬ (-1000000000000 ≤ 0 + n + p + q ∧ 0 + n + p + q ≤ 1000000000000) := fun g => h1 (decide_eq_true g)
    rw [if_pos (by omega)]
  have h : ¬ (-1000000000000 ≤ 0 + n + p ∧ 0 + n + p ≤ 1000000000000) := fun g => h (decide_eq_true g)
  rw [if_pos (by omega)]
theorem total_l0 {l : List LnT} (hl : l.length ≤ 20) (hx : ∀ x ∈ l, 0 ≤ x.f2 ∧ x.f2 ≤ 1000000000000 ∧ 0 ≤ x.f3 ∧ x.f3 ≤ 1000000000000) (d : Nat) : ∀ (i : Nat) (n : Int), l.length - i = d → i ≤ l.length → 0 ≤ n → n ≤ 1000000000000 → Ev (fun k => order_total.l0 k n l (l.length : Int) (i : Int)) (totI (totL n (l.drop i))) := by
  induction d with
  | zero =>
    intro i n hd hi h0 h1
    refine Ev.step (fun k => by simp only [order_total.l0]; rfl) (Ev.neg (by omega) (Ev.ok ?_))
    rw [List.drop_eq_nil_of_le (by omega)]; rfl
  | succ d ih =>
    intro i n hd hi h0 h1
    have h : i < l.length := by omega
    have hm := hx l[i] (List.getElem_mem h)
    refine Ev.step (fun k => by simp only [order_total.l0]; rfl) (Ev.pos (by omega) (Ev.pos (by omega) (Ev.pos (by omega) ?_)))
    rw [rdL h, drop_cons h, wrap_eq (x := (i : Int) + 1) (by omega) (by omega)]
    refine Ev.bind (add_three h0 h1 hm.1 hm.2.1 hm.2.2.1 hm.2.2.2) ?_
    simp only [totL]
    by_cases h2 : n + l[i].f2 + l[i].f3 > 1000000000000
    · rw [if_pos h2, if_pos h2]
      exact Ev.neg (by decide) (Ev.ok rfl)
    rw [if_neg h2, if_neg h2]
    exact Ev.pos rfl (ih (i + 1) _ (by omega) (by omega) (by dsimp only; omega) (by dsimp only; omega))
theorem cost_l0 {l : List LnT} (hl : l.length ≤ 20) (hx : ∀ x ∈ l, 0 ≤ x.f2 ∧ x.f2 ≤ 1000000000000 ∧ 0 ≤ x.f3 ∧ x.f3 ≤ 1000000000000) (d : Nat) : ∀ (i : Nat) (n : Int), l.length - i = d → i ≤ l.length → 0 ≤ n → n ≤ 1000000000000 → Ev (fun k => backhaulref26_cost.l0 k l n (i : Int)) (costI (totL n (l.drop i))) := by
  induction d with
  | zero =>
    intro i n hd hi h0 h1
    refine Ev.step (fun k => by simp only [backhaulref26_cost.l0]; rfl) (Ev.neg (by omega) (Ev.ok ?_))
    rw [List.drop_eq_nil_of_le (by omega)]; rfl
  | succ d ih =>
    intro i n hd hi h0 h1
    have h : i < l.length := by omega
    have hm := hx l[i] (List.getElem_mem h)
    refine Ev.step (fun k => by simp only [backhaulref26_cost.l0]; rfl) (Ev.pos (by omega) (Ev.pos (by omega) ?_))
    rw [rdL h, drop_cons h, wrap_eq (x := (i : Int) + 1) (by omega) (by omega), wrap_eq (x := n + l[i].f2) (by omega) (by omega), wrap_eq (x := n + l[i].f2 + l[i].f3) (by omega) (by omega)]
    simp only [totL]
    refine Ev.ite (fun h2 => Ev.ok (by rw [if_pos h2]; rfl)) (fun h2 => ?_)
    rw [if_neg h2]
    exact ih (i + 1) _ (by omega) (by omega) (by omega) (by omega)
theorem all_l0' {l : List LnT} (hf : fewP l) (d : Nat) : ∀ (i : Nat) (acc : List ByteArray), l.length - i = d → i ≤ l.length → acc.length ≤ 40 * i → Ev (fun k => backhaulref26_all.l0 k l acc (i : Int)) (acc ++ serialsOf (l.drop i)) := by
  induction d with
  | zero =>
    intro i acc hd hi ha
    refine Ev.step (fun k => by simp only [backhaulref26_all.l0]; rfl) (Ev.neg (by omega) (Ev.ok ?_))
    rw [List.drop_eq_nil_of_le (by omega)]; simp [serialsOf]
  | succ d ih =>
    intro i acc hd hi ha
    have h : i < l.length := by omega
    have h20 := hf.1
    have h40 := (hf.2 l[i] (List.getElem_mem h)).1
    refine Ev.step (fun k => by simp only [backhaulref26_all.l0]; rfl) (Ev.pos (by omega) (Ev.pos (by omega) ?_))
    rw [rdL h, drop_cons h, wrap_eq (x := (i : Int) + 1) (by omega) (by omega)]
    refine Ev.pos (by omega) (Ev.eq (ih (i + 1) _ (by omega) (by omega) (by rw [List.length_append]; omega)) ?_)
    unfold serialsOf
    rw [List.flatMap_cons, List.append_assoc]
theorem serials_len {l : List LnT} (hf : fewP l) : (serialsOf l).length ≤ 800 := by
  have : ∀ r : List LnT, (∀ x ∈ r, x.f4.length ≤ 40) → (serialsOf r).length ≤ 40 * r.length := by
    intro r
    induction r with
    | nil => intro _; simp [serialsOf]
    | cons x r ih =>
      intro h
      have h1 := h x List.mem_cons_self
      have h2 := ih fun y hy => h y (List.mem_cons_of_mem _ hy)
      unfold serialsOf at *
      rw [List.flatMap_cons, List.length_append, List.length_cons]
      omega
  have h1 := this l fun x hx => (hf.2 x hx).1
  have := hf.1
  omega
theorem twice_l1 {s : List ByteArray} {i : Nat} {r : Bool} (hs : s.length ≤ 800) (hi : i < s.length) (hr : Ev (fun k => backhaulref26_twice.l0 k s ((i + 1 : Nat) : Int)) r) (d : Nat) : ∀ (j : Nat), i - j = d → j ≤ i → Ev (fun k => backhaulref26_twice.l1 k s (i : Int) (j : Int)) (memB ((s.take i).drop j) s[i] || r) := by
  induction d with
  | zero =>
    intro j hd hj
    refine Ev.step (fun k => by simp only [backhaulref26_twice.l1]; rfl) (Ev.neg (by omega) ?_)
    rw [wrap_eq (x := (i : Int) + 1) (by omega) (by omega), List.drop_eq_nil_of_le (by rw [List.length_take]; omega)]
    refine Ev.eq hr ?_
    have : memB [] s[i] = false := by
      rw [← Bool.not_eq_true, memB_iff]; simp
    rw [this, Bool.false_or]
  | succ d ih =>
    intro j hd hj
    have hj' : j < s.length := by omega
    have hjt : j < (s.take i).length := by rw [List.length_take]; omega
    refine Ev.step (fun k => by simp only [backhaulref26_twice.l1]; rfl) (Ev.pos (by omega) (Ev.pos (by omega) (Ev.pos (by omega) (Ev.pos (by omega) (Ev.pos (by omega) ?_)))))
    rw [rdOf_nat hi, rdOf_nat hj', wrap_eq (x := (j : Int) + 1) (by omega) (by omega), drop_cons hjt, List.getElem_take]
    have hm : memB (s[j] :: (s.take i).drop (j + 1)) s[i] = true ↔ s[i] = s[j] ∨ memB ((s.take i).drop (j + 1)) s[i] = true := by
      rw [memB_iff, memB_iff, List.mem_cons]
    refine Ev.ite (fun h1 => Ev.ok ?_) (fun h1 => Ev.eq (ih (j + 1) (by omega) (by omega)) ?_)
    · rw [hm.2 (.inl (bytes_ext.1 h1)), Bool.true_or]
    congr 1
    rw [Bool.eq_iff_iff, hm]
    exact ⟨.inr, fun h => h.resolve_left fun e => h1 (by rw [e])⟩
theorem twice_l0 {s : List ByteArray} (hs : s.length ≤ 800) (d : Nat) : ∀ (i : Nat), s.length - i = d → i ≤ s.length → Ev (fun k => backhaulref26_twice.l0 k s (i : Int)) (dupB (s.take i) (s.drop i)) := by
  induction d with
  | zero =>
    intro i hd hi
    refine Ev.step (fun k => by simp only [backhaulref26_twice.l0]; rfl) (Ev.neg (by omega) (Ev.ok ?_))
    rw [List.drop_eq_nil_of_le (by omega)]; rfl
  | succ d ih =>
    intro i hd hi
    have h : i < s.length := by omega
    refine Ev.step (fun k => by simp only [backhaulref26_twice.l0]; rfl) (Ev.pos (by omega) ?_)
    refine Ev.eq (twice_l1 hs h (ih (i + 1) (by omega) (by omega)) i 0 (by omega) (by omega)) ?_
    rw [drop_cons h, List.drop_zero]
    simp only [dupB]
    rw [List.take_append_getElem h]
theorem ref_twice_f {s : List ByteArray} (hs : s.length ≤ 800) : Ev (fun k => backhaulref26_twice.f k s) (dupB [] s) := by
  unfold backhaulref26_twice.f
  exact twice_l0 hs s.length 0 (by omega) (by omega)
theorem order_twice_f {l : List LnT} (hf : fewP l) : order_twice.f l = some (dupB [] (serialsOf l)) := by
  unfold order_twice.f
  have hn := serials_len hf
  rw [if_pos]
  refine ⟨?_, ?_⟩
  · rw [List.all_eq_true]
    intro x hx
    rw [List.all_eq_true]
    intro s hs
    have := (hf.2 x hx).2 s hs
    exact decide_eq_true (by unfold maxLen; omega)
  unfold maxLen; omega
def finB (l : List LnT) : Bool := (totL 0 l).isSome && !dupB [] (serialsOf l)
def ordR (a b : Int) (l : List LnT) : Int := if (1 ≤ a ∧ a ≤ 999999 ∧ 0 ≤ b ∧ b ≤ 1000000 ∧ 1 ≤ l.length ∧ l.length ≤ 8) ∧ linesB l = true ∧ finB l = true then 0 else 40
theorem lines_amounts {l : List LnT} (h : linesB l = true) : ∀ x ∈ l, 0 ≤ x.f2 ∧ x.f2 ≤ 1000000000000 ∧ 0 ≤ x.f3 ∧ x.f3 ≤ 1000000000000 := fun x hx => line_amounts (of_decide_eq_true (List.all_eq_true.1 h x hx))
theorem lines_step {l : List LnT} {i : Nat} (h : i < l.length) (hp : ∀ j (hj : j < l.length), j < i → lineR l[j].f0 l[j].f1 l[j].f2 l[j].f3 l[j].f4 = 0) (h1 : lineR l[i].f0 l[i].f1 l[i].f2 l[i].f3 l[i].f4 = 0) : ∀ j (hj : j < l.length), j < i + 1 → lineR l[j].f0 l[j].f1 l[j].f2 l[j].f3 l[j].f4 = 0 := fun j hj hji => by
  by_cases e : j = i
  · subst e; exact h1
  exact hp j hj (by omega)
theorem lines_all {l : List LnT} (hp : ∀ j (hj : j < l.length), j < l.length → lineR l[j].f0 l[j].f1 l[j].f2 l[j].f3 l[j].f4 = 0) : linesB l = true := by
  unfold linesB
  rw [List.all_eq_true]
  intro x hx
  obtain ⟨j, hj, rfl⟩ := List.mem_iff_getElem.1 hx
  exact decide_eq_true (hp j hj hj)
theorem lines_not {l : List LnT} {i : Nat} (h : i < l.length) (h1 : ¬ lineR l[i].f0 l[i].f1 l[i].f2 l[i].f3 l[i].f4 = 0) : ¬ linesB l = true := fun g => h1 (of_decide_eq_true (List.all_eq_true.1 g l[i] (List.getElem_mem h)))
theorem order_l0 {a b : Int} {l : List LnT} (hf : fewP l) (hh : 1 ≤ a ∧ a ≤ 999999 ∧ 0 ≤ b ∧ b ≤ 1000000 ∧ 1 ≤ l.length ∧ l.length ≤ 8) (d : Nat) : ∀ (i : Nat), l.length - i = d → i ≤ l.length → (∀ j (hj : j < l.length), j < i → lineR l[j].f0 l[j].f1 l[j].f2 l[j].f3 l[j].f4 = 0) → Ev (fun k => order_Check.l0 k l (l.length : Int) (i : Int) a b l) (ordR a b l) := by
  have h20 := hf.1
  induction d with
  | zero =>
    intro i hd hi hp
    have hb := lines_all (fun j hj _ => hp j hj (by omega))
    have ht : Ev (fun k => order_total.f k l) (totI (totL 0 l)) := by
      unfold order_total.f
      exact total_l0 h20 (lines_amounts hb) l.length 0 0 (by omega) (by omega) (by omega) (by omega)
    refine Ev.step (fun k => by simp only [order_Check.l0]; rfl) (Ev.neg (by omega) (Ev.bind ht ?_))
    unfold ordR finB
    cases e : totL 0 l with
    | none => exact Ev.neg (by decide) (Ev.ok (by rw [if_neg]; simp))
    | some m =>
      refine Ev.pos rfl (Ev.bindc (order_twice_f hf) (Ev.ite (fun h1 => Ev.ok (by rw [if_neg]; simp [h1])) (fun h1 => Ev.ok (by rw [if_pos]; exact ⟨hh, hb, by simp [h1]⟩))))
  | succ d ih =>
    intro i hd hi hp
    have h : i < l.length := by omega
    have hx := hf.2 l[i] (List.getElem_mem h)
    refine Ev.step (fun k => by simp only [order_Check.l0]; rfl) (Ev.pos (by omega) (Ev.pos (by omega) (Ev.pos (by omega) ?_)))
    rw [rdL h, wrap_eq (x := (i : Int) + 1) (by omega) (by omega)]
    refine Ev.bind (line_check_f hx.1 hx.2) (Ev.ite (fun h1 => ih (i + 1) (by omega) (by omega) (lines_step h hp h1)) (fun h1 => Ev.ok ?_))
    unfold ordR
    rw [if_neg fun g => lines_not h h1 g.2.1]
theorem order_check_f {a b : Int} {l : List LnT} (hf : fewP l) : Ev (fun k => order_Check.f k a b l) (ordR a b l) := by
  unfold order_Check.f
  have bad : ¬ (1 ≤ a ∧ a ≤ 999999 ∧ 0 ≤ b ∧ b ≤ 1000000 ∧ 1 ≤ l.length ∧ l.length ≤ 8) → Ev (fun k => order_Check.j0 k true a b l) (ordR a b l) := fun g =>
    Ev.step (fun k => by simp only [order_Check.j0]; rfl) (Ev.pos (by trivial) (Ev.ok (by unfold ordR; rw [if_neg fun x => g x.1])))
  have tm : policy_Time.f b = some (decide (0 ≤ b ∧ b ≤ 1000000)) := by
    unfold policy_Time.f policy_span_has.f
    by_cases h : 0 ≤ b
    · rw [if_pos (by omega)]; simp [h]
    rw [if_neg (by omega)]; simp [h]
  refine Ev.ite (fun h1 => bad (by omega)) (fun h1 => Ev.ite (fun h2 => bad (by omega)) (fun h2 => Ev.bindc tm (Ev.ite (fun h3 => ?_) (fun h3 => bad (fun g => h3 (decide_eq_true ⟨g.2.2.1, g.2.2.2.1⟩))))))
  have h3 := of_decide_eq_true h3
  refine Ev.ite (fun h4 => bad (by omega)) (fun h4 => ?_)
  by_cases h5 : (l.length : Int) > 8
  · rw [decide_eq_true h5]; exact bad (by omega)
  rw [decide_eq_false h5]
  exact Ev.step (fun k => by simp only [order_Check.j0]; rfl) (Ev.neg (by simp) (order_l0 hf (by omega) l.length 0 (by omega) (by omega) (fun j hj h => by omega)))
theorem ref_order_l0 {a b : Int} {l : List LnT} (hf : fewP l) (hw : ∀ x ∈ l, -9223372036854775808 ≤ x.f2) (hh : 1 ≤ a ∧ a ≤ 999999 ∧ 0 ≤ b ∧ b ≤ 1000000 ∧ 1 ≤ l.length ∧ l.length ≤ 8) (d : Nat) : ∀ (i : Nat), l.length - i = d → i ≤ l.length → (∀ j (hj : j < l.length), j < i → lineR l[j].f0 l[j].f1 l[j].f2 l[j].f3 l[j].f4 = 0) → Ev (fun k => backhaulref26_Check.l0 k (i : Int) a b l) (ordR a b l) := by
  have h20 := hf.1
  induction d with
  | zero =>
    intro i hd hi hp
    have hb := lines_all (fun j hj _ => hp j hj (by omega))
    have ha := lines_amounts hb
    have ht : Ev (fun k => backhaulref26_cost.f k l) (costI (totL 0 l)) := by
      unfold backhaulref26_cost.f
      exact cost_l0 h20 ha l.length 0 0 (by omega) (by omega) (by omega) (by omega)
    have hall : Ev (fun k => backhaulref26_all.f k l) (serialsOf l) := by
      unfold backhaulref26_all.f
      exact all_l0' hf l.length 0 [] (by omega) (by omega) (by simp)
    refine Ev.step (fun k => by simp only [backhaulref26_Check.l0]; rfl) (Ev.neg (by omega) (Ev.bind ht ?_))
    unfold ordR finB
    cases e : totL 0 l with
    | none => exact Ev.pos (by decide) (Ev.ok (by rw [if_neg]; simp))
    | some m =>
      have hm := totL_nonneg l 0 m (by omega) (fun x hx => ⟨(ha x hx).1, (ha x hx).2.2.1⟩) e
      refine Ev.neg (by show ¬ m < 0; omega) (Ev.bind hall (Ev.bind (ref_twice_f (serials_len hf)) (Ev.ite (fun h1 => Ev.ok (by rw [if_neg]; simp [h1])) (fun h1 => Ev.ok (by rw [if_pos]; exact ⟨hh, hb, by simp [h1]⟩)))))
  | succ d ih =>
    intro i hd hi hp
    have h : i < l.length := by omega
    have hx := hf.2 l[i] (List.getElem_mem h)
    refine Ev.step (fun k => by simp only [backhaulref26_Check.l0]; rfl) (Ev.pos (by omega) (Ev.pos (by omega) ?_))
    rw [rdL h, wrap_eq (x := (i : Int) + 1) (by omega) (by omega)]
    refine Ev.bind (ref_line_f (hw l[i] (List.getElem_mem h)) hx.1 hx.2) (Ev.ite (fun h1 => ih (i + 1) (by omega) (by omega) (lines_step h hp h1)) (fun h1 => Ev.ok ?_))
    unfold ordR
    rw [if_neg fun g => lines_not h h1 g.2.1]
theorem ref_order_f {a b : Int} {l : List LnT} (hf : fewP l) (hw : ∀ x ∈ l, -9223372036854775808 ≤ x.f2) : Ev (fun k => backhaulref26_Check.f k a b l) (ordR a b l) := by
  unfold backhaulref26_Check.f
  have bad : ¬ (1 ≤ a ∧ a ≤ 999999 ∧ 0 ≤ b ∧ b ≤ 1000000 ∧ 1 ≤ l.length ∧ l.length ≤ 8) → Ev (fun k => backhaulref26_Check.j0 k true a b l) (ordR a b l) := fun g =>
    Ev.step (fun k => by simp only [backhaulref26_Check.j0]; rfl) (Ev.pos (by trivial) (Ev.ok (by unfold ordR; rw [if_neg fun x => g x.1])))
  refine Ev.ite (fun h1 => bad (by omega)) (fun h1 => Ev.ite (fun h2 => bad (by omega)) (fun h2 => Ev.ite (fun h3 => bad (by omega)) (fun h3 => Ev.ite (fun h4 => bad (by omega)) (fun h4 => Ev.ite (fun h5 => bad (by omega)) (fun h5 => ?_)))))
  by_cases h6 : (l.length : Int) > 8
  · rw [decide_eq_true h6]; exact bad (by omega)
  rw [decide_eq_false h6]
  exact Ev.step (fun k => by simp only [backhaulref26_Check.j0]; rfl) (Ev.neg (by simp) (ref_order_l0 hf hw (by omega) l.length 0 (by omega) (by omega) (fun j hj h => by omega)))
theorem cmp_less_text (a b : ByteArray) : cmp_Less_string.f a b = some (Op.bytesLess a.toList b.toList) := by
  simp [cmp_Less_string.f, cmp_isNaN_string.f]
theorem bst_l0 {l : List ByteArray} {t : ByteArray} (hl : l.length < 4611686018427387904) (h0 : rowG none l = 0) (hs : l.Pairwise lt8) (d : Nat) : ∀ (lo hi : Nat), hi - lo = d → lo ≤ hi → hi ≤ l.length →
    (∀ j (h : j < l.length), j < lo → lt8 l[j] t) → (∀ j (h : j < l.length), hi ≤ j → ¬ lt8 l[j] t) →
    Ev (fun k => slices_BinarySearch_string_string.l0 k l t (l.length : Int) (lo : Int) (hi : Int)) (findT l t) := by
  induction d using Nat.strongRecOn with
  | _ d ih =>
    intro lo hi hd hlo hhi h1 h2
    refine Ev.step (fun k => by simp only [slices_BinarySearch_string_string.l0]; rfl) ?_
    by_cases hlt : lo < hi
    · have hw : wrap64 ((IntKind.u64.wrap (wrap64 ((lo : Int) + (hi : Int)))) / 2) = (((lo + hi) / 2 : Nat) : Int) := by
        rw [wrap_eq (x := (lo : Int) + (hi : Int)) (by omega) (by omega), u64_eq (x := (lo : Int) + (hi : Int)) (by omega) (by omega), wrap_eq (x := ((lo : Int) + (hi : Int)) / 2) (by omega) (by omega)]; omega
      have hm : (lo + hi) / 2 < l.length := by omega
      rw [hw]
      refine Ev.pos (by omega) (Ev.pos (by omega) (Ev.pos (by omega) ?_))
      rw [rdOf_nat hm]
      refine Ev.bindc (cmp_less_text _ _) ?_
      refine Ev.ite (fun hc => ?_) (fun hc => ?_)
      · have hc' : lt8 l[(lo + hi) / 2] t := hc
        rw [wrap_eq (by omega) (by omega)]
        refine ih (hi - ((lo + hi) / 2 + 1)) (by omega) ((lo + hi) / 2 + 1) hi rfl (by omega) hhi (fun j hj hjl => ?_) h2
        rcases Nat.lt_or_ge j ((lo + hi) / 2) with hlt2 | hge
        · exact lt8_trans (pair_get hs hm hlt2) hc'
        have : j = (lo + hi) / 2 := by omega
        subst this; exact hc'
      have hc' : ¬ lt8 l[(lo + hi) / 2] t := hc
      refine ih ((lo + hi) / 2 - lo) (by omega) lo ((lo + hi) / 2) rfl (by omega) (by omega) h1 (fun j hj hjl => ?_)
      rcases Nat.lt_or_ge ((lo + hi) / 2) j with hlt2 | hge
      · exact fun x => hc' (lt8_trans (pair_get hs hj hlt2) x)
      have : j = (lo + hi) / 2 := by omega
      subst this; exact hc'
    have he : lo = hi := by omega
    subst he
    rw [findT_sorted hs hhi h1 h2 h0]
    refine Ev.neg (by omega) ?_
    refine Ev.ite (fun hc => ?_) (fun hc => ?_)
    · have hlo' : lo < l.length := by omega
      refine Ev.pos (by omega) (Ev.pos (by omega) ?_)
      rw [rdOf_nat hlo']
      refine Ev.ite (fun he => ?_) (fun he => ?_)
      · refine Ev.ok ?_
        rw [decide_eq_true (⟨hlo', bytes_ext.1 he⟩ : ∃ h : lo < l.length, l[lo] = t)]
      refine Ev.bindc (a := false) (by simp [slices_isNaN_string.f]) ?_
      refine Ev.neg (by simp) (Ev.ok ?_)
      rw [decide_eq_false (fun x : ∃ h : lo < l.length, l[lo] = t => he (by rw [x.2]))]
    refine Ev.ok ?_
    rw [decide_eq_false (fun x : ∃ h : lo < l.length, l[lo] = t => by have := x.1; omega)]
theorem bst_f {l : List ByteArray} {t : ByteArray} (hl : l.length < 4611686018427387904) (h0 : rowG none l = 0) : Ev (fun k => slices_BinarySearch_string_string.f k l t) (findT l t) := by
  unfold slices_BinarySearch_string_string.f
  exact bst_l0 hl h0 (rowG_zero h0).2.1 l.length 0 l.length (by omega) (by omega) (by omega) (fun j hj h => by omega) (fun j hj h => by omega)
def idxI (l : List ByteArray) (t : ByteArray) : Int := match idxT l t with
  | some i => (i : Int)
  | none => -1
theorem indext_l0 {l : List ByteArray} {t : ByteArray} (hl : l.length < 4611686018427387904) (d : Nat) : ∀ (i : Nat), l.length - i = d → i ≤ l.length → (∀ j (h : j < l.length), j < i → l[j] ≠ t) →
    Ev (fun k => slices_Index_string_string.l0 k l t (l.length : Int) (i : Int)) (idxI l t) := by
  induction d with
  | zero =>
    intro i hd hi h1
    refine Ev.step (fun k => by simp only [slices_Index_string_string.l0]; rfl) ?_
    refine Ev.neg (by omega) (Ev.ok ?_)
    unfold idxI
    rw [idxT_none (fun j hj => h1 j hj (by omega))]
  | succ d ih =>
    intro i hd hi h1
    have h : i < l.length := by omega
    refine Ev.step (fun k => by simp only [slices_Index_string_string.l0]; rfl) ?_
    refine Ev.pos (by omega) (Ev.pos (by omega) (Ev.pos (by omega) ?_))
    rw [rdOf_nat h]
    refine Ev.ite (fun he => Ev.ok ?_) (fun he => ?_)
    · unfold idxI
      rw [idxT_some h (bytes_ext.1 he).symm h1]
    rw [wrap_eq (by omega) (by omega)]
    exact ih (i + 1) (by omega) (by omega) (fun j hj hjl => by
      rcases Nat.lt_or_ge j i with h2 | h2
      · exact h1 j hj h2
      have : j = i := by omega
      subst this; exact fun e => he (by rw [e]))
theorem serial_find_f {l : List ByteArray} {t : ByteArray} (hl : l.length < 4611686018427387904) (hs : ∀ x ∈ l, x.size < 1099511627776) : Ev (fun k => serial_Find.f k l t) (findT l t) := by
  unfold serial_Find.f
  refine Ev.bind (serial_row_f hl hs) (Ev.ite (fun h => Ev.bind (bst_f hl h) (Ev.ok rfl)) (fun h => ?_))
  have hi : Ev (fun k => slices_Index_string_string.f k l t) (idxI l t) := by
    unfold slices_Index_string_string.f
    exact indext_l0 hl l.length 0 (by omega) (by omega) (fun j hj h => by omega)
  refine Ev.bind hi (Ev.ok ?_)
  unfold idxI findT
  cases e : idxT l t with
  | none => simp only [if_neg h]; rfl
  | some i =>
    have : mx (i : Int) 0 = i := by unfold mx; split <;> omega
    simp [this]
end Go.Proofs.Ytefhljhpcpajgaa.Q
set_option linter.unusedSimpArgs false
namespace Go.Proofs.Ytefhljhpcpajgaa.Q
open Go.RowKit Ytefhljhpcpajgaa.F YtefhljhpcpajgaaX YtefhljhpcpajgaaW.PrintWords YtefhljhpcpajgaaW.PrintLast YtefhljhpcpajgaaW.PrintMore
def findO : Nat → List LnT → ByteArray → Int × Int × Bool
  | _, [], _ => (0, 0, false)
  | i, x :: r, t => if (findT x.f4 t).2 = true then ((i : Int), (findT x.f4 t).1, true) else findO (i + 1) r t
def findP (a b : Int) (l : List LnT) (t : ByteArray) : Int × Int × Bool := if ordR a b l = 0 then findO 0 l t else (0, 0, false)
theorem few_sizes {l : List LnT} (hf : fewP l) {x : LnT} (hx : x ∈ l) : x.f4.length < 4611686018427387904 ∧ ∀ s ∈ x.f4, s.size < 1099511627776 := by
  have h := hf.2 x hx
  exact ⟨by omega, fun s hs => by have := h.2 s hs; omega⟩
theorem find_l0 {l : List LnT} {t : ByteArray} (hf : fewP l) (m : Nat) : ∀ i : Nat, l.length - i = m → i ≤ l.length → Ev (fun k => order_Find.l0 k t l (l.length : Int) (i : Int)) (findO i (l.drop i) t) := by
  have hl := hf.1
  induction m with
  | zero =>
    intro i hd hi
    rw [List.drop_eq_nil_of_le (by omega)]
    exact Ev.step (fun k => by simp only [order_Find.l0]; rfl) (Ev.neg (by omega) (Ev.ok rfl))
  | succ m ih =>
    intro i hd hi
    have h : i < l.length := by omega
    have hx := few_sizes hf (List.getElem_mem h)
    refine Ev.step (fun k => by simp only [order_Find.l0]; rfl) (Ev.pos (by omega) (Ev.pos (by omega) (Ev.pos (by omega) ?_)))
    rw [rdL h, drop_cons h, wrap_eq (x := (i : Int) + 1) (by omega) (by omega)]
    unfold findO
    refine Ev.bind (serial_find_f hx.1 hx.2) (Q.Ev.ite (fun q => Ev.ok (by rw [if_pos q])) (fun q => ?_))
    rw [if_neg q]
    exact ih (i + 1) (by omega) (by omega)
theorem order_find_f {a b : Int} {l : List LnT} {t : ByteArray} (hf : fewP l) : Ev (fun k => order_Find.f k a b l t) (findP a b l t) := by
  unfold order_Find.f findP
  refine Ev.bind (order_check_f hf) (Q.Ev.ite (fun q => ?_) (fun q => Ev.ok (by rw [if_neg q])))
  rw [if_pos q]
  exact find_l0 hf l.length 0 (by omega) (by omega)
theorem rfind_l1 {a b : Int} {l : List LnT} {t : ByteArray} {i : Nat} {R : Int × Int × Bool} (hf : fewP l) (h : i < l.length) (hR : Ev (fun k => backhaulref26_Find.l0 k t ((i + 1 : Nat) : Int) a b l) R) (m : Nat) : ∀ j : Nat, l[i].f4.length - j = m → j ≤ l[i].f4.length → (∀ n (q : n < l[i].f4.length), n < j → l[i].f4[n] ≠ t) →
    Ev (fun k => backhaulref26_Find.l1 k t (i : Int) (j : Int) a b l) (if (findT l[i].f4 t).2 = true then ((i : Int), (findT l[i].f4 t).1, true) else R) := by
  have hl := hf.1
  have hx := hf.2 _ (List.getElem_mem h)
  induction m with
  | zero =>
    intro j hd hj hn
    have e : idxT l[i].f4 t = none := idxT_none (fun n q => hn n q (by omega))
    refine Ev.step (fun k => by simp only [backhaulref26_Find.l1]; rfl) (Ev.pos (by omega) (Ev.pos (by omega) ?_))
    rw [rdL h, wrap_eq (x := (i : Int) + 1) (by omega) (by omega)]
    have e2 : (findT l[i].f4 t).2 = false := by unfold findT; rw [e]
    rw [if_neg (by rw [e2]; decide)]
    exact Ev.neg (by omega) hR
  | succ m ih =>
    intro j hd hj hn
    have hjl : j < l[i].f4.length := by omega
    refine Ev.step (fun k => by simp only [backhaulref26_Find.l1]; rfl) (Ev.pos (by omega) (Ev.pos (by omega) ?_))
    rw [rdL h, rdOf_nat hjl, wrap_eq (x := (j : Int) + 1) (by omega) (by omega)]
    refine Ev.pos (by omega) (Ev.pos (by omega) (Q.Ev.ite (fun he => Ev.ok ?_) (fun he => ?_)))
    · have e : idxT l[i].f4 t = some j := idxT_some hjl (bytes_ext.1 he) hn
      have e2 : findT l[i].f4 t = ((j : Int), true) := by unfold findT; rw [e]
      rw [e2]
      exact (if_pos rfl).symm
    exact ih (j + 1) (by omega) (by omega) (fun n q hnj => by
      rcases Nat.lt_or_ge n j with h2 | h2
      · exact hn n q h2
      have : n = j := by omega
      subst this; exact fun e => he (by rw [e]))
theorem rfind_l0 {a b : Int} {l : List LnT} {t : ByteArray} (hf : fewP l) (hw : ∀ x ∈ l, -9223372036854775808 ≤ x.f2) (m : Nat) : ∀ i : Nat, l.length - i = m → i ≤ l.length → Ev (fun k => backhaulref26_Find.l0 k t (i : Int) a b l) (if ordR a b l = 0 then findO i (l.drop i) t else (0, 0, false)) := by
  have hl := hf.1
  have out : ∀ (i : Int) (u : Bool), ¬ u = true → Ev (fun k => backhaulref26_Find.j1 k t i u a b l) (0, 0, false) := fun i u hu =>
    Ev.step (fun k => by simp only [backhaulref26_Find.j1]; rfl) (Q.Ev.neg hu (Ev.ok rfl))
  induction m with
  | zero =>
    intro i hd hi
    rw [List.drop_eq_nil_of_le (by omega)]
    have e : (if ordR a b l = 0 then findO i [] t else (0, 0, false)) = (0, 0, false) := by split <;> rfl
    rw [e]
    exact Ev.step (fun k => by simp only [backhaulref26_Find.l0]; rfl) (Ev.neg (by omega) (out _ false (by decide)))
  | succ m ih =>
    intro i hd hi
    have h : i < l.length := by omega
    refine Ev.step (fun k => by simp only [backhaulref26_Find.l0]; rfl) (Ev.pos (by omega) (Ev.bind (ref_order_f hf hw) ?_))
    by_cases q : ordR a b l = 0
    · have ih := ih (i + 1) (by omega) (by omega)
      rw [if_pos q] at ih ⊢
      rw [drop_cons h]
      unfold findO
      have go : ∀ u : Bool, u = true → Ev (fun k => backhaulref26_Find.j1 k t (i : Int) u a b l) (if (findT l[i].f4 t).2 = true then ((i : Int), (findT l[i].f4 t).1, true) else findO (i + 1) (l.drop (i + 1)) t) := fun u hu =>
        Ev.step (fun k => by simp only [backhaulref26_Find.j1]; rfl) (Q.Ev.pos hu (rfind_l1 hf h ih l[i].f4.length 0 (by omega) (by omega) (fun n q hn => by omega)))
      exact go _ (by rw [q]; rfl)
    rw [if_neg q]
    exact out _ _ (fun e => q (eq_of_beq e))
theorem ref_find_f {a b : Int} {l : List LnT} {t : ByteArray} (hf : fewP l) (hw : ∀ x ∈ l, -9223372036854775808 ≤ x.f2) : Ev (fun k => backhaulref26_Find.f k a b l t) (findP a b l t) := by
  unfold backhaulref26_Find.f findP
  exact rfind_l0 hf hw l.length 0 (by omega) (by omega)
theorem serials_l0 {l : List LnT} (hf : fewP l) (m : Nat) : ∀ (i : Nat) (acc : List ByteArray), l.length - i = m → i ≤ l.length → acc.length ≤ 40 * i → Ev (fun k => order_Serials.l0 k acc l (l.length : Int) (i : Int)) (acc ++ serialsOf (l.drop i)) := by
  have hl := hf.1
  induction m with
  | zero =>
    intro i acc hd hi ha
    refine Ev.step (fun k => by simp only [order_Serials.l0]; rfl) (Ev.neg (by omega) (Ev.ok ?_))
    rw [List.drop_eq_nil_of_le (by omega)]; simp [serialsOf]
  | succ m ih =>
    intro i acc hd hi ha
    have h : i < l.length := by omega
    have hx := (hf.2 _ (List.getElem_mem h)).1
    refine Ev.step (fun k => by simp only [order_Serials.l0]; rfl) (Ev.pos (by omega) (Ev.pos (by omega) (Ev.pos (by omega) ?_)))
    rw [rdL h, drop_cons h, wrap_eq (x := (i : Int) + 1) (by omega) (by omega)]
    have := ih (i + 1) (acc ++ l[i].f4) (by omega) (by omega) (by simp; omega)
    rw [show serialsOf (l[i] :: l.drop (i + 1)) = l[i].f4 ++ serialsOf (l.drop (i + 1)) by unfold serialsOf; rw [List.flatMap_cons], ← List.append_assoc]
    exact Ev.pos (by omega) this
def serP (a b : Int) (l : List LnT) : List ByteArray := if ordR a b l = 0 then serialsOf l else []
theorem order_serials_f {a b : Int} {l : List LnT} (hf : fewP l) : Ev (fun k => order_Serials.f k a b l) (serP a b l) := by
  unfold order_Serials.f serP
  refine Ev.bind (order_check_f hf) (Q.Ev.ite (fun q => ?_) (fun q => Ev.ok (by rw [if_neg q])))
  rw [if_pos q]
  have := serials_l0 hf l.length 0 [] (by omega) (by omega) (by simp)
  rw [List.drop_zero, List.nil_append] at this
  exact this
theorem ref_serials_f {a b : Int} {l : List LnT} (hf : fewP l) (hw : ∀ x ∈ l, -9223372036854775808 ≤ x.f2) : Ev (fun k => backhaulref26_Serials.f k a b l) (serP a b l) := by
  unfold backhaulref26_Serials.f serP
  refine Ev.bind (ref_order_f hf hw) (Q.Ev.ite (fun q => ?_) (fun q => Ev.ok (by rw [if_neg q])))
  rw [if_pos q]
  have := all_l0' hf l.length 0 [] (by omega) (by omega) (by simp)
  rw [List.drop_zero, List.nil_append] at this
  unfold backhaulref26_all.f
  exact Ev.bind this (Ev.ok rfl)
end Go.Proofs.Ytefhljhpcpajgaa.Q
namespace Go.Proofs.Ytefhljhpcpajgaa.Q
open Go.RowKit Ytefhljhpcpajgaa.F YtefhljhpcpajgaaW.PrintWords YtefhljhpcpajgaaW.PrintLast YtefhljhpcpajgaaW.PrintMore
theorem same_texts_l0 {a b : List ByteArray} (hl : a.length < 9223372036854775807) (hab : a.length = b.length) (d : Nat) : ∀ i : Nat, a.length - i = d → i ≤ a.length →
    Ev (fun k => backhaulref01_SameTexts.l0 k a b (i : Int)) (decide (a.drop i = b.drop i)) := by
  induction d with
  | zero =>
    intro i hd hi
    refine Ev.step (fun k => by simp only [backhaulref01_SameTexts.l0]; rfl) ?_
    refine Ev.neg (by omega) (Ev.ok ?_)
    rw [List.drop_eq_nil_of_le (by omega), List.drop_eq_nil_of_le (by omega)]; simp
  | succ d ih =>
    intro i hd hi
    have h : i < a.length := by omega
    have h' : i < b.length := by omega
    refine Ev.step (fun k => by simp only [backhaulref01_SameTexts.l0]; rfl) ?_
    refine Ev.pos (by omega) (Ev.pos (by omega) (Ev.pos (by omega) ?_))
    rw [rdOf_nat h, rdOf_nat h', drop_cons h, drop_cons h']
    refine Ev.ite (fun he => ?_) (fun he => Ev.ok ?_)
    · rw [wrap_eq (by omega) (by omega)]
      refine Ev.eq (ih (i + 1) (by omega) (by omega)) ?_
      rw [bytes_ext.1 he]
      exact decide_eq_decide.2 ⟨fun e => by rw [e], fun e => by injection e⟩
    exact (decide_eq_false (fun e => he (by injection e with e1; rw [e1]))).symm
theorem same_texts_f {a b : List ByteArray} (hl : a.length < 9223372036854775807) : Ev (fun k => backhaulref01_SameTexts.f k a b) (decide (a = b)) := by
  unfold backhaulref01_SameTexts.f
  refine Ev.ite (fun h => ?_) (fun h => Ev.ok ?_)
  · exact same_texts_l0 hl (by omega) a.length 0 (by omega) (by omega)
  have : ¬ a = b := fun e => h (by rw [e])
  simp [this]
end Go.Proofs.Ytefhljhpcpajgaa.Q
namespace Go.Proofs.Ytefhljhpcpajgaa.Pure
open Go.RowKit Ytefhljhpcpajgaa.F YtefhljhpcpajgaaX Ytefhljhpcpajgaa.Q YtefhljhpcpajgaaW.PrintWords YtefhljhpcpajgaaW.PrintLast
theorem equal_texts_l0 {a b : List ByteArray} (hl : a.length < 4611686018427387904) (hab : a.length = b.length) (d : Nat) : ∀ i : Nat, a.length - i = d → i ≤ a.length → Ev (fun k => slices_Equal_string_string.l0 k a b (a.length : Int) (i : Int)) (decide (a.drop i = b.drop i)) := by
  induction d with
  | zero =>
    intro i hd hi
    refine Ev.step (fun k => by simp only [slices_Equal_string_string.l0]; rfl) (Ev.neg (by omega) (Ev.ok ?_))
    rw [List.drop_eq_nil_of_le (by omega), List.drop_eq_nil_of_le (by omega)]
    exact (decide_eq_true rfl).symm
  | succ d ih =>
    intro i hd hi
    have h : i < a.length := by omega
    have h' : i < b.length := by omega
    refine Ev.step (fun k => by simp only [slices_Equal_string_string.l0]; rfl) (Ev.pos (by omega) (Ev.pos (by omega) (Ev.pos (by omega) (Ev.pos (by omega) ?_))))
    rw [rdOf_nat h, rdOf_nat h', wrap_eq (x := (i : Int) + 1) (by omega) (by omega), drop_cons h, drop_cons h']
    refine Q.Ev.ite (fun c => ?_) (fun c => Ev.ok ?_)
    · refine Ev.eq (ih (i + 1) (by omega) (by omega)) ?_
      rw [bytes_ext.1 c]
      exact decide_eq_decide.2 ⟨fun e => by rw [e], fun e => (List.cons.inj e).2⟩
    exact (decide_eq_false (fun e => c (by rw [(List.cons.inj e).1]))).symm
theorem equal_texts_f {a b : List ByteArray} (hl : a.length < 4611686018427387904) : Ev (fun k => slices_Equal_string_string.f k a b) (decide (a = b)) := by
  unfold slices_Equal_string_string.f
  refine Q.Ev.ite (fun c => ?_) (fun c => Ev.ok ?_)
  · exact equal_texts_l0 hl (by omega) a.length 0 (by omega) (by omega)
  exact (decide_eq_false (fun e => c (by rw [e]))).symm
def sameX (x y : LnT) : Bool := decide (x.f0 = y.f0) && (decide (x.f1 = y.f1) && (decide (x.f2 = y.f2) && (decide (x.f3 = y.f3) && decide (x.f4 = y.f4))))
def sameB (l m : List LnT) : Bool := decide (l.length = m.length) && (List.zipWith sameX l m).all id
theorem ifs {c : Prop} [Decidable c] {a : Nat → Option Bool} {r : Bool} (h : Ev a r) : Ev (fun k => if c then a k else some false) (decide c && r) := by
  by_cases e : c
  · simp only [if_pos e, decide_eq_true e, Bool.true_and]; exact h
  simp only [if_neg e, decide_eq_false e, Bool.false_and]; exact Ev.ok rfl
theorem same_line1 (x y : LnT) (h : x.f4.length ≤ 40) : Ev (fun k => order_Same_1.f k x.f0 x.f1 x.f2 x.f3 x.f4 y.f0 y.f1 y.f2 y.f3 y.f4) (sameX x y) := by
  unfold order_Same_1.f sameX
  exact ifs (ifs (ifs (ifs (Ev.bind (equal_texts_f (by omega)) (Ev.ok rfl)))))
theorem same_line2 (x y : LnT) (h : x.f4.length ≤ 40) : Ev (fun k => backhaulref21_SameLine.f k x.f0 x.f1 x.f2 x.f3 x.f4 y.f0 y.f1 y.f2 y.f3 y.f4) (sameX x y) := by
  unfold backhaulref21_SameLine.f sameX
  exact ifs (ifs (ifs (ifs (Ev.bind (same_texts_f (by omega)) (Ev.ok rfl)))))
def restB (l m : List LnT) (i : Nat) : Bool := (List.zipWith sameX (l.drop i) (m.drop i)).all id
theorem restB_end {l m : List LnT} {i : Nat} (h : l.length ≤ i) : restB l m i = true := by
  unfold restB
  rw [List.drop_eq_nil_of_le h]
  rfl
theorem restB_cons {l m : List LnT} {i : Nat} (h : i < l.length) (h' : i < m.length) : restB l m i = (sameX l[i] m[i] && restB l m (i + 1)) := by
  unfold restB
  rw [drop_cons h, drop_cons h']
  rfl
theorem same_l0 {l m : List LnT} (hf : fewP l) (hlm : l.length = m.length) (d : Nat) : ∀ i : Nat, l.length - i = d → i ≤ l.length → Ev (fun k => backhaulref21_SameLines.l0 k l m (i : Int)) (restB l m i) := by
  have hl := hf.1
  induction d with
  | zero =>
    intro i hd hi
    refine Ev.step (fun k => by simp only [backhaulref21_SameLines.l0]; rfl) (Ev.neg (by omega) (Ev.ok ?_))
    rw [restB_end (by omega)]
  | succ d ih =>
    intro i hd hi
    have h : i < l.length := by omega
    have h' : i < m.length := by omega
    refine Ev.step (fun k => by simp only [backhaulref21_SameLines.l0]; rfl) (Ev.pos (by omega) (Ev.pos (by omega) (Ev.pos (by omega) ?_)))
    rw [rdL h, rdL h', wrap_eq (x := (i : Int) + 1) (by omega) (by omega), restB_cons h h']
    refine Ev.bind (same_line2 _ _ (hf.2 _ (List.getElem_mem h)).1) (Q.Ev.ite (fun c => ?_) (fun c => Ev.ok ?_))
    · rw [c, Bool.true_and]; exact ih (i + 1) (by omega) (by omega)
    rw [Bool.eq_false_iff.2 c, Bool.false_and]
theorem same_lines2 {l m : List LnT} (hf : fewP l) : Ev (fun k => backhaulref21_SameLines.f k l m) (sameB l m) := by
  unfold backhaulref21_SameLines.f sameB
  refine Q.Ev.ite (fun c => ?_) (fun c => Ev.ok ?_)
  · rw [decide_eq_true (by omega), Bool.true_and]
    exact same_l0 hf (by omega) l.length 0 (by omega) (by omega)
  rw [decide_eq_false (by omega), Bool.false_and]
theorem eqfunc_l0 {l m : List LnT} (hf : fewP l) (hlm : l.length = m.length) (d : Nat) : ∀ i : Nat, l.length - i = d → i ≤ l.length → Ev (fun k => slices_EqualFunc_order_Same_1.l0 k m l (l.length : Int) (i : Int)) (restB l m i) := by
  have hl := hf.1
  induction d with
  | zero =>
    intro i hd hi
    refine Ev.step (fun k => by simp only [slices_EqualFunc_order_Same_1.l0]; rfl) (Ev.neg (by omega) (Ev.ok ?_))
    rw [restB_end (by omega)]
  | succ d ih =>
    intro i hd hi
    have h : i < l.length := by omega
    have h' : i < m.length := by omega
    refine Ev.step (fun k => by simp only [slices_EqualFunc_order_Same_1.l0]; rfl) (Ev.pos (by omega) (Ev.pos (by omega) (Ev.pos (by omega) (Ev.pos (by omega) ?_))))
    rw [rdL h, rdL h', wrap_eq (x := (i : Int) + 1) (by omega) (by omega), restB_cons h h']
    refine Ev.bind (same_line1 _ _ (hf.2 _ (List.getElem_mem h)).1) (Q.Ev.ite (fun c => ?_) (fun c => Ev.ok ?_))
    · rw [c, Bool.true_and]; exact ih (i + 1) (by omega) (by omega)
    rw [Bool.eq_false_iff.2 c, Bool.false_and]
theorem same_lines1 {l m : List LnT} (hf : fewP l) : Ev (fun k => slices_EqualFunc_order_Same_1.f k l m) (sameB l m) := by
  unfold slices_EqualFunc_order_Same_1.f sameB
  refine Q.Ev.ite (fun c => ?_) (fun c => Ev.ok ?_)
  · rw [decide_eq_true (by omega), Bool.true_and]
    exact eqfunc_l0 hf (by omega) l.length 0 (by omega) (by omega)
  rw [decide_eq_false (by omega), Bool.false_and]
def paidP (a b : Int) (l : List LnT) : Int × Int := if ordR a b l = 0 then ((totL 0 l).getD 0, 0) else (0, 40)
theorem ord_zero {a b : Int} {l : List LnT} (h : ordR a b l = 0) : linesB l = true ∧ ∃ m, totL 0 l = some m := by
  unfold ordR finB at h
  split at h
  · rename_i g
    have := g.2.2
    rw [Bool.and_eq_true] at this
    exact ⟨g.2.1, Option.isSome_iff_exists.1 this.1⟩
  cases h
theorem ord_or (a b : Int) (l : List LnT) : ordR a b l = 0 ∨ ordR a b l = 40 := by
  unfold ordR
  split
  · exact .inl rfl
  exact .inr rfl
theorem order_paid_f {a b : Int} {l : List LnT} (hf : fewP l) : Ev (fun k => order_Paid.f k a b l) (paidP a b l) := by
  unfold order_Paid.f paidP
  refine Ev.bind (order_check_f hf) (Q.Ev.ite (fun q => ?_) (fun q => Ev.ok ?_))
  · obtain ⟨hb, m, hm⟩ := ord_zero q
    have ht := total_l0 (l := l) hf.1 (lines_amounts hb) l.length 0 0 (by omega) (by omega) (by omega) (by omega)
    rw [List.drop_zero, hm] at ht
    rw [if_pos q, hm]
    unfold order_total.f
    exact Ev.bind ht (Ev.ok rfl)
  rw [if_neg q, (ord_or a b l).resolve_left q]
theorem ref_paid_f {a b : Int} {l : List LnT} (hf : fewP l) (hw : ∀ x ∈ l, -9223372036854775808 ≤ x.f2) : Ev (fun k => backhaulref26_Paid.f k a b l) (paidP a b l) := by
  unfold backhaulref26_Paid.f paidP
  refine Ev.bind (ref_order_f hf hw) (Q.Ev.ite (fun q => ?_) (fun q => Ev.ok (by rw [if_neg q])))
  obtain ⟨hb, m, hm⟩ := ord_zero q
  have ht := cost_l0 (l := l) hf.1 (lines_amounts hb) l.length 0 0 (by omega) (by omega) (by omega) (by omega)
  rw [List.drop_zero, hm] at ht
  rw [if_pos q, hm]
  unfold backhaulref26_cost.f
  exact Ev.bind ht (Ev.ok rfl)
theorem serP_len {a b : Int} {l : List LnT} (hf : fewP l) : (serP a b l).length < 9223372036854775807 := by
  unfold serP
  split
  · have := serials_len hf
    omega
  decide
theorem OrderTells : backhaullaw26_OrderTells.Pure := by
  intro a b l c d m s ha hb hl hc hd hm hs
  refine Ev.rounds (r := true) ?_
  have haw : backhaullaw26_awake.f = some true := rfl
  have hw : ∀ x ∈ l, -9223372036854775808 ≤ x.f2 := fun x hx => (i64_bounds (hl.2 x hx).2.2.1).1
  have out : ∀ u : Bool, u = true → Ev (fun k => backhaullaw26_OrderTells.j0 k s u a b l c d m) true := fun u hu =>
    Ev.step (fun k => by simp only [backhaullaw26_OrderTells.j0]; rfl) (Q.Ev.pos hu (Q.Ev.bindc haw (Q.Ev.pos rfl (Q.Ev.const rfl))))
  unfold backhaullaw26_OrderTells.f
  refine Ev.bind (few_f _) (Q.Ev.ite (fun q => ?_) (fun _ => out true rfl))
  refine Ev.bind (few_f _) (Q.Ev.ite (fun q2 => ?_) (fun _ => out true rfl))
  have hf := few_p q
  by_cases g : decide ((s.size : Int) > 200) = true
  · exact out _ g
  refine Ev.step (fun k => by simp only [backhaullaw26_OrderTells.j0]; rfl) (Q.Ev.neg g ?_)
  refine Ev.bind (order_find_f hf) (Ev.bind (ref_find_f hf hw) (Ev.bind (order_paid_f hf) (Ev.bind (ref_paid_f hf hw) (Ev.bind (order_check_f hf) (Ev.bind (ref_order_f hf hw) ?_)))))
  refine Q.Ev.pos rfl (Q.Ev.pos rfl (Q.Ev.pos rfl (Q.Ev.pos (beq_self_eq_true _) ?_)))
  refine Ev.bind (order_serials_f hf) (Ev.bind (ref_serials_f hf hw) (Ev.bind (same_texts_f (serP_len hf)) (Q.Ev.pos (decide_eq_true rfl) (Q.Ev.pos rfl (Q.Ev.pos rfl ?_)))))
  have s1 : Ev (fun k => order_Same.f k a b l c d m) (decide (a = c) && (decide (b = d) && sameB l m)) := by
    unfold order_Same.f
    exact ifs (ifs (Ev.bind (same_lines1 hf) (Ev.ok rfl)))
  have s2 : Ev (fun k => backhaulref26_Same.f k a b l c d m) (decide (a = c) && (decide (b = d) && sameB l m)) := by
    unfold backhaulref26_Same.f
    exact ifs (ifs (Ev.bind (same_lines2 hf) (Ev.ok rfl)))
  exact Ev.bind s1 (Ev.bind s2 (Q.Ev.pos (beq_self_eq_true _) (Q.Ev.bindc haw (Q.Ev.pos rfl (Q.Ev.const rfl)))))
end Go.Proofs.Ytefhljhpcpajgaa.Pure
namespace Go.Proofs.YtefhljhpcpajgaaX
open Go.RowKit YtefhljhpcpajgaaW.PrintWords YtefhljhpcpajgaaW.PrintLast YtefhljhpcpajgaaW.PrintMore
def Opens {α : Type} (P : Program) (t : TypeId) (k : Kd α) (Ok : α → Prop) : Prop :=
  ∀ {H : Type} {enc : TypeId × Value → H} {w : World} {base : Nat} {spare : Nat → Bool} {held : Bool} {fuel : Nat} {cs : List Value} {x : DataW H × List MemPlace},
    DataW.trod enc P w base spare held fuel t cs = some x → ∃ a : α, k.K w a cs ∧ Ok a
theorem Opens.int {P : Program} {t : TypeId} {k : IntKind} (ht : P.underlying t = some (.int k)) : Opens P t (Kd.int k) (fun a => (Lit.int k a).wf = true) := by
  intro H enc w base spare held fuel cs x h
  obtain ⟨n, rfl, _, hw⟩ := DataW.trod_int ht h
  exact ⟨n, rfl, hw⟩
theorem Opens.bool {P : Program} {t : TypeId} (ht : P.underlying t = some .bool) : Opens P t Kd.bool (fun _ => True) := by
  intro H enc w base spare held fuel cs x h
  obtain ⟨n, rfl, _⟩ := DataW.trod_bool ht h
  exact ⟨n, rfl, trivial⟩
theorem Opens.string {P : Program} {t : TypeId} (ht : P.underlying t = some .string) : Opens P t Kd.string (fun a => a.size ≤ maxLen) := by
  intro H enc w base spare held fuel cs x h
  obtain ⟨s, rfl, _, hw⟩ := DataW.trod_string ht h
  exact ⟨s, rfl, hw⟩
theorem list_of {α : Type} {p : Nat → α → Prop} : ∀ n, (∀ i, i < n → ∃ a, p i a) → ∃ xs : List α, xs.length = n ∧ ∀ i a, xs[i]? = some a → p i a
  | 0, _ => ⟨[], rfl, fun i a h => by simp at h⟩
  | n + 1, h => by
    obtain ⟨xs, hl, hx⟩ := list_of n (fun i hi => h i (by omega))
    obtain ⟨a, ha⟩ := h n (by omega)
    refine ⟨xs ++ [a], by simp [hl], fun i b hb => ?_⟩
    rcases Nat.lt_or_ge i xs.length with h1 | h1
    · rw [List.getElem?_append_left h1] at hb
      exact hx i b hb
    rw [List.getElem?_append_right h1] at hb
    have h2 : i - xs.length = 0 := by
      have := (List.getElem?_eq_some_iff.1 hb).1
      simp at this; omega
    rw [h2] at hb
    have : a = b := by simpa using hb
    subst this
    have : i = n := by omega
    rw [this]; exact ha
theorem Opens.slice {α : Type} {P : Program} {t e : TypeId} {k : Kd α} {Ok : α → Prop} (ht : P.underlying t = some (.slice e)) (hc : P.cellsOf e = k.sz) (h : Opens P e k Ok) :
    Opens P t (Kd.slice e k) (fun xs => xs.length ≤ maxLen ∧ ∀ x ∈ xs, Ok x) := by
  intro H enc w base spare held fuel cs x hx
  rcases Go.Deep.open_slice ht hx with ⟨rfl, rfl⟩ | ⟨a, len, cap, m, n, D, Pl, rfl, hb, hl, hm, hmm, rfl, hel⟩
  · exact ⟨[], ⟨none, 0, rfl, by simp, rfl, by simp, fun h => absurd h (by simp)⟩, by simp [maxLen], by simp⟩
  have hlm : len ≤ m := by rw [hmm]; split <;> omega
  obtain ⟨xs, hlen, hxs⟩ := list_of (p := fun i (a' : α) => ∃ cs', w.cells? base (a.add (i * P.cellsOf e)) (P.cellsOf e) = some cs' ∧ k.K w a' cs' ∧ Ok a') len (fun i hi => by
    obtain ⟨cs', h1, h2⟩ := hel i (by omega)
    obtain ⟨a', h3, h4⟩ := h h2
    exact ⟨a', cs', h1, h3, h4⟩)
  have hlm2 : len ≤ maxLen := by omega
  refine ⟨xs, ⟨some a, cap, by rw [hlen], by rw [hlen]; exact hl, rfl, by rw [hlen]; simpa [maxLen] using hlm2, fun _ => ⟨a, rfl, fun j p hj => ?_⟩⟩, by rw [hlen]; exact hlm2, fun y hy => ?_⟩
  · obtain ⟨cs', h1, h2, _⟩ := hxs j p hj
    refine ⟨cs', k.K_len h2, h2, fun i u hu => ?_⟩
    obtain ⟨_, _, h3⟩ := World.cells?_some h1
    have h4 := h3 i (by have := (List.getElem?_eq_some_iff.1 hu).1; have := k.K_len h2; omega)
    rw [← hc, ← Go.Proofs.YtefhljhpcpajgaaW.PrintWords.add_add]
    rw [← hu]; exact h4
  obtain ⟨i, hi, rfl⟩ := List.mem_iff_getElem.1 hy
  obtain ⟨_, _, _, h3⟩ := hxs i _ (List.getElem?_eq_getElem hi)
  exact h3
theorem field_reads {H : Type} {enc : TypeId × Value → H} {P : Program} {w : World} {base : Nat} {spare : Nat → Bool} {held : Bool} {fuel : Nat} {t : TypeId} {cs : List Value} {x : DataW H × List MemPlace} {fs : Array Field}
    (ht : P.underlying t = some (.struct fs)) (h : DataW.trod enc P w base spare held fuel t cs = some x) :
    cs.length = P.cellsOf t ∧ ∃ n, ∀ (i : Nat) (f : Field), fs[i]? = some f → ∃ y, DataW.trod enc P w base spare held n f.type ((cs.drop f.offset).take (P.cellsOf f.type)) = some y := by
  obtain ⟨xs, n, _, _, hl, hx, hf⟩ := DataW.trod_struct ht h
  refine ⟨hl, n, fun i f hif => ?_⟩
  rw [hf i f hif]
  have hi := (Array.getElem?_eq_some_iff.1 hif).1
  exact ⟨_, List.getElem?_eq_getElem (by rw [hx]; exact hi)⟩
theorem band {a b : Bool} (h1 : a = true) (h2 : b = true) : (a && b) = true := by rw [h1, h2]; rfl
theorem mayEnter_of {P : Program} {L c : List Char} {rest : List (List Char)} (h : P.initOrder.toList = L) (h1 : behindMainWord (wordsSigns L) = c :: rest) (h2 : ((stripLifts liftWords (c :: rest)).2.head? == some "cut".toList) = true) (h3 : P.laysLater = false) (h4 : P.bearsReflect = false) (h5 : (stripLifts liftWords (c :: rest)).1 = []) (h6 : P.doorFits [] = true) : P.mayEnter = true := by
  unfold Program.mayEnter
  rw [h, h1]
  dsimp only
  rw [h2, h3, h4, h5, h6]
  simp
theorem make_of {P : Program} {L : List Char} {rest : List (List Char)} (h : P.initOrder.toList = L) (h1 : behindMainWord (wordsSigns L) = "cut".toList :: rest) : P.make = some .cut := by
  unfold Program.make
  rw [h, h1]
  dsimp only
  rw [if_neg (by decide), if_pos (by simp)]
end Go.Proofs.YtefhljhpcpajgaaX
set_option maxRecDepth 10000
namespace Go.Proofs.Ytefhljhpcpajgaa.Join
open YtefhljhpcpajgaaX
def initSigns : List Char := ['h', 'a', 'r', 'n', 'e', 's', 's', ' ', '5', '6', '5', 'd', 'd', 'd', '3', '6', '6', '5', 'c', '5', '5', '9', 'c', '2', '4', '9', 'e', '2', 'e', '3', '7', '8', 'c', '7', '1', 'b', 'b', 'b', '4', '7', '4', '9', '6', '8', '7', '8', 'a', '7', '0', 'b', '1', 'c', '4', '8', '9', 'f', '4', '3', '5', '5', '6', 'b', 'b', '7', 'f', '7', 'f', '7', '4', '9', '2', 'f', ' ', 'c', 'u', 't', ' ', 'a', 't', ' ', 'b', 'a', 'c', 'k', 'h', 'a', 'u', 'l', '/', 'b', 'a', 'c', 'k', 'h', 'a', 'u', 'l', 'l', 'a', 'w', '0', '2', '.', 'C', 'e', 'n', 't', 's', 'S', 'u', 'm', 's', ' ', 'b', 'a', 'c', 'k', 'h', 'a', 'u', 'l', '/', 'b', 'a', 'c', 'k', 'h', 'a', 'u', 'l', 'l', 'a', 'w', '0', '2', '.', 'C', 'e', 'n', 't', 's', 'S', 'h', 'a', 'r', 'e', 's', ' ', 'b', 'a', 'c', 'k', 'h', 'a', 'u', 'l', '/', 'b', 'a', 'c', 'k', 'h', 'a', 'u', 'l', 'l', 'a', 'w', '0', '2', '.', 'C', 'e', 'n', 't', 's', 'O', 'v', 'e', 'r', ' ', 'b', 'a', 'c', 'k', 'h', 'a', 'u', 'l', '/', 'b', 'a', 'c', 'k', 'h', 'a', 'u', 'l', 'l', 'a', 'w', '0', '2', '.', 'C', 'e', 'n', 't', 's', 'D', 'i', 'v', 's', ' ', 'b', 'a', 'c', 'k', 'h', 'a', 'u', 'l', '/', 'b', 'a', 'c', 'k', 'h', 'a', 'u', 'l', 'l', 'a', 'w', '0', '4', '.', 'F', 'e', 'e', 'T', 'e', 'l', 'l', 's', ' ', 'b', 'a', 'c', 'k', 'h', 'a', 'u', 'l', '/', 'b', 'a', 'c', 'k', 'h', 'a', 'u', 'l', 'l', 'a', 'w', '0', '4', '.', 'F', 'e', 'e', 'B', 'o', 'u', 'n', 'd', 's', ' ', 'b', 'a', 'c', 'k', 'h', 'a', 'u', 'l', '/', 'b', 'a', 'c', 'k', 'h', 'a', 'u', 'l', 'l', 'a', 'w', '0', '4', '.', 'F', 'e', 'e', 'S', 't', 'e', 'p', 's', ' ', 'b', 'a', 'c', 'k', 'h', 'a', 'u', 'l', '/', 'b', 'a', 'c', 'k', 'h', 'a', 'u', 'l', 'l', 'a', 'w', '0', '3', '.', 'S', 'h', 'a', 'r', 'e', 'D', 'e', 'a', 'l', 's', ' ', 'b', 'a', 'c', 'k', 'h', 'a', 'u', 'l', '/', 'b', 'a', 'c', 'k', 'h', 'a', 'u', 'l', 'l', 'a', 'w', '0', '3', '.', 'S', 'h', 'a', 'r', 'e', 'A', 'l', 'l', ' ', 'b', 'a', 'c', 'k', 'h', 'a', 'u', 'l', '/', 'b', 'a', 'c', 'k', 'h', 'a', 'u', 'l', 'l', 'a', 'w', '0', '3', '.', 'S', 'h', 'a', 'r', 'e', 'F', 'a', 'i', 'r', ' ', 'b', 'a', 'c', 'k', 'h', 'a', 'u', 'l', '/', 'b', 'a', 'c', 'k', 'h', 'a', 'u', 'l', 'l', 'a', 'w', '2', '1', '.', 'L', 'i', 'n', 'e', 'D', 'e', 'a', 'l', 's', ' ', 'b', 'a', 'c', 'k', 'h', 'a', 'u', 'l', '/', 'b', 'a', 'c', 'k', 'h', 'a', 'u', 'l', 'l', 'a', 'w', '2', '1', '.', 'L', 'i', 'n', 'e', 'T', 'e', 'l', 'l', 's', ' ', 'b', 'a', 'c', 'k', 'h', 'a', 'u', 'l', '/', 'b', 'a', 'c', 'k', 'h', 'a', 'u', 'l', 'l', 'a', 'w', '2', '1', '.', 'L', 'i', 'n', 'e', 'A', 'l', 'l', ' ', 'b', 'a', 'c', 'k', 'h', 'a', 'u', 'l', '/', 'b', 'a', 'c', 'k', 'h', 'a', 'u', 'l', 'l', 'a', 'w', '2', '1', '.', 'L', 'i', 'n', 'e', 'U', 'n', 'i', 't', 's', ' ', 'b', 'a', 'c', 'k', 'h', 'a', 'u', 'l', '/', 'b', 'a', 'c', 'k', 'h', 'a', 'u', 'l', 'l', 'a', 'w', '2', '2', '.', 'V', 'a', 'l', 'u', 'e', 'T', 'e', 'l', 'l', 's', ' ', 'b', 'a', 'c', 'k', 'h', 'a', 'u', 'l', '/', 'b', 'a', 'c', 'k', 'h', 'a', 'u', 'l', 'l', 'a', 'w', '2', '2', '.', 'V', 'a', 'l', 'u', 'e', 'B', 'o', 'u', 'n', 'd', 's', ' ', 'b', 'a', 'c', 'k', 'h', 'a', 'u', 'l', '/', 'b', 'a', 'c', 'k', 'h', 'a', 'u', 'l', 'l', 'a', 'w', '2', '2', '.', 'V', 'a', 'l', 'u', 'e', 'W', 'h', 'o', 'l', 'e', ' ', 'b', 'a', 'c', 'k', 'h', 'a', 'u', 'l', '/', 'b', 'a', 'c', 'k', 'h', 'a', 'u', 'l', 'l', 'a', 'w', '2', '6', '.', 'O', 'r', 'd', 'e', 'r', 'M', 'a', 'k', 'e', 's', ' ', 'b', 'a', 'c', 'k', 'h', 'a', 'u', 'l', '/', 'b', 'a', 'c', 'k', 'h', 'a', 'u', 'l', 'l', 'a', 'w', '2', '6', '.', 'O', 'r', 'd', 'e', 'r', 'T', 'e', 'l', 'l', 's', ' ', 'b', 'a', 'c', 'k', 'h', 'a', 'u', 'l', '/', 'b', 'a', 'c', 'k', 'h', 'a', 'u', 'l', 'l', 'a', 'w', '2', '6', '.', 'O', 'r', 'd', 'e', 'r', 'D', 'e', 'a', 'l', 's', ' ', 'b', 'a', 'c', 'k', 'h', 'a', 'u', 'l', '/', 'b', 'a', 'c', 'k', 'h', 'a', 'u', 'l', 'l', 'a', 'w', '2', '6', '.', 'O', 'r', 'd', 'e', 'r', 'F', 'i', 'n', 'd', 's']
theorem initText : Try.pinned.checked.prog.initOrder = String.ofList initSigns := by kernel_rfl
theorem initList : Try.pinned.checked.prog.initOrder.toList = initSigns := (congrArg String.toList initText).trans String.toList_ofList
theorem mayEnter_is : Try.pinned.checked.prog.mayEnter = true :=
  mayEnter_of (L := initSigns) (c := "cut".toList) (rest := (behindMainWord (wordsSigns initSigns)).tail) initList (by kernel_rfl) (by kernel_rfl) (by kernel_rfl) (by kernel_rfl) (by kernel_rfl) (by kernel_rfl)
theorem make_is : Try.pinned.checked.prog.make = some .cut :=
  make_of (L := initSigns) (rest := (behindMainWord (wordsSigns initSigns)).tail) initList (by kernel_rfl)
theorem lifts_is : Try.pinned.checked.prog.liftsFinal = false := by
  unfold Program.liftsFinal Program.headLifts
  rw [initList]
  kernel_rfl
end Go.Proofs.Ytefhljhpcpajgaa.Join
namespace Go.Proofs.Ytefhljhpcpajgaa.orderTells
open Go.ChangeShapes Go.WideShapes Go.ChangeAt Go.RowKit YtefhljhpcpajgaaX Ytefhljhpcpajgaa.F YtefhljhpcpajgaaW.PrintWords YtefhljhpcpajgaaW.PrintLast YtefhljhpcpajgaaW.PrintMore
open Go.ChangeMaps (open_string shut_string)
theorem own : ownKnob Try.prog.godebug = none := by kernel_rfl
theorem laidOut : laidOutB Try.prog = true := by kernel_rfl
set_option maxRecDepth 100000 in
theorem opens_k71 : Opens Try.prog 71 k71 (fun x => ((Lit.int .i64 x.f0).wf = true ∧ (Lit.int .i64 x.f1).wf = true ∧ (Lit.int .i64 x.f2).wf = true ∧ (Lit.int .i64 x.f3).wf = true ∧ (x.f4.length ≤ maxLen ∧ ∀ y ∈ x.f4, y.size ≤ maxLen))) := by
  intro H enc w base spare held fuel cs x h
  obtain ⟨hl, n, hf⟩ := field_reads Try.underlying71 h
  have hl2 : cs.length = 5 := hl.trans (by kernel_rfl)
  match cs, hl2 with
  | [c0, c1, c2, c3, c4], _ =>
    obtain ⟨y0, h0⟩ := hf 0 _ rfl
    have e0 : Try.prog.cellsOf 3 = 1 := by kernel_rfl
    (try dsimp only at h0)
    (try simp only [e0] at h0)
    obtain ⟨a0, k0, o0⟩ := (Opens.int Try.underlying3) h0
    have k0' : ((Kd.int .i64)).K w a0 [c0] := k0
    obtain ⟨y1, h1⟩ := hf 1 _ rfl
    have e1 : Try.prog.cellsOf 3 = 1 := by kernel_rfl
    (try dsimp only at h1)
    (try simp only [e1] at h1)
    obtain ⟨a1, k1, o1⟩ := (Opens.int Try.underlying3) h1
    have k1' : ((Kd.int .i64)).K w a1 [c1] := k1
    obtain ⟨y2, h2⟩ := hf 2 _ rfl
    have e2 : Try.prog.cellsOf 3 = 1 := by kernel_rfl
    (try dsimp only at h2)
    (try simp only [e2] at h2)
    obtain ⟨a2, k2, o2⟩ := (Opens.int Try.underlying3) h2
    have k2' : ((Kd.int .i64)).K w a2 [c2] := k2
    obtain ⟨y3, h3⟩ := hf 3 _ rfl
    have e3 : Try.prog.cellsOf 3 = 1 := by kernel_rfl
    (try dsimp only at h3)
    (try simp only [e3] at h3)
    obtain ⟨a3, k3, o3⟩ := (Opens.int Try.underlying3) h3
    have k3' : ((Kd.int .i64)).K w a3 [c3] := k3
    obtain ⟨y4, h4⟩ := hf 4 _ rfl
    have e4 : Try.prog.cellsOf 69 = 1 := by kernel_rfl
    (try dsimp only at h4)
    (try simp only [e4] at h4)
    obtain ⟨a4, k4, o4⟩ := (Opens.slice Try.underlying69 (by kernel_rfl) (Opens.string Try.underlying9)) h4
    have k4' : ((Kd.slice 9 Kd.string)).K w a4 [c4] := k4
    exact ⟨(⟨a0, a1, a2, a3, a4⟩ : S71), ⟨[c0], [c1, c2, c3, c4], rfl, k0', ⟨[c1], [c2, c3, c4], rfl, k1', ⟨[c2], [c3, c4], rfl, k2', ⟨[c3], [c4], rfl, k3', k4'⟩⟩⟩⟩, ⟨o0, o1, o2, o3, o4⟩⟩
set_option maxRecDepth 100000 in
theorem opens_k99 : Opens Try.prog 99 k99 (fun x => ((Lit.int .i64 x.f0).wf = true ∧ (Lit.int .i64 x.f1).wf = true ∧ (x.f2.length ≤ maxLen ∧ ∀ y ∈ x.f2, ((Lit.int .i64 y.f0).wf = true ∧ (Lit.int .i64 y.f1).wf = true ∧ (Lit.int .i64 y.f2).wf = true ∧ (Lit.int .i64 y.f3).wf = true ∧ (y.f4.length ≤ maxLen ∧ ∀ x ∈ y.f4, x.size ≤ maxLen))))) := by
  intro H enc w base spare held fuel cs x h
  obtain ⟨hl, n, hf⟩ := field_reads Try.underlying99 h
  have hl2 : cs.length = 3 := hl.trans (by kernel_rfl)
  match cs, hl2 with
  | [c0, c1, c2], _ =>
    obtain ⟨y0, h0⟩ := hf 0 _ rfl
    have e0 : Try.prog.cellsOf 3 = 1 := by kernel_rfl
    (try dsimp only at h0)
    (try simp only [e0] at h0)
    obtain ⟨a0, k0, o0⟩ := (Opens.int Try.underlying3) h0
    have k0' : ((Kd.int .i64)).K w a0 [c0] := k0
    obtain ⟨y1, h1⟩ := hf 1 _ rfl
    have e1 : Try.prog.cellsOf 3 = 1 := by kernel_rfl
    (try dsimp only at h1)
    (try simp only [e1] at h1)
    obtain ⟨a1, k1, o1⟩ := (Opens.int Try.underlying3) h1
    have k1' : ((Kd.int .i64)).K w a1 [c1] := k1
    obtain ⟨y2, h2⟩ := hf 2 _ rfl
    have e2 : Try.prog.cellsOf 59 = 1 := by kernel_rfl
    (try dsimp only at h2)
    (try simp only [e2] at h2)
    obtain ⟨a2, k2, o2⟩ := (Opens.slice Try.underlying59 (by kernel_rfl) opens_k71) h2
    have k2' : ((Kd.slice 71 k71)).K w a2 [c2] := k2
    exact ⟨(⟨a0, a1, a2⟩ : S99), ⟨[c0], [c1, c2], rfl, k0', ⟨[c1], [c2], rfl, k1', k2'⟩⟩, ⟨o0, o1, o2⟩⟩
set_option maxRecDepth 100000 in
theorem lifted (os : Os) (started : os.Started) (H : Type) (enc : TypeId × Value → H) :
    ReturnsInHanded {} Try.checked os 21 .any (Rows.orderTellsSpec.pre6 enc Try.prog Try.f21 Rows.orderTellsRow.domain false) (Rows.orderTellsSpec.post enc Try.prog Try.f21 false true false false) := by
  refine returnsInHanded_of_change_sized (C := Try.checked) own started (by kernel_rfl) Try.func21
    (ChangeSpec.witness6 (enc := enc) (C := Try.checked) false ⟨#[], #[.agg #[.int .i64 0, .int .i64 0, .slice none 0 0], .agg #[.int .i64 0, .int .i64 0, .slice none 0 0], .string ByteArray.empty], []⟩ 8 (by kernel_rfl) (by kernel_rfl) (by kernel_rfl) (by kernel_rfl)) ?_
  intro W base args ds gs before hval0 hW hcnd hsz0 _
  have hval : ∀ (j : Nat) t v, Try.f21.params[j]? = some t → args[j]? = some v → Value.okWide Try.prog W .any base t v := hval0
  have hW' := hW
  obtain ⟨p, q, hA0, hV, rfl, hfz, hnd⟩ := hW
  have hA : DataW.TrodAll enc Try.prog W 0 (fun _ => true) true Try.f21.params.toList args.toList ds p := hA0
  rw [Try.params21] at hA hval
  obtain ⟨v0, vs0, d0, ds0, p0, q0, hargs, rfl, rfl, h0, r0⟩ := trodAll_cons hA
  obtain ⟨v1, vs1, d1, ds1, p1, q1, rfl, rfl, rfl, h1, r1⟩ := trodAll_cons r0
  obtain ⟨v2, vs2, d2, ds2, p2, q2, rfl, rfl, rfl, h2, r2⟩ := trodAll_cons r1
  obtain ⟨rfl, rfl, rfl⟩ := trodAll_nil r2
  obtain rfl : args = #[v0, v1, v2] := by cases args; simp_all
  obtain ⟨rfl, rfl⟩ := trodVars_none hV
  have k0 := h0
  have lt0 : ∀ x ∈ p0, x.block < W.heap.size := by obtain ⟨m, hm⟩ := k0; exact DataW.trod_lt m _ _ _ hm
  obtain ⟨cs0, rfl, _⟩ := okWide_struct Try.underlying99 (hval 0 99 v0 rfl rfl)
  obtain ⟨f0, hf0⟩ := h0
  obtain ⟨x0, hk0, ho0⟩ := opens_k99 hf0
  obtain ⟨A0_2, c0_2, he0, hl0_2, hc0_2⟩ := k99_open hk0
  obtain rfl : cs0 = _ := Array.toList_inj.1 (he0.trans (List.toList_toArray).symm)
  have k1 := h1
  have lt1 : ∀ x ∈ p1, x.block < W.heap.size := by obtain ⟨m, hm⟩ := k1; exact DataW.trod_lt m _ _ _ hm
  obtain ⟨cs1, rfl, _⟩ := okWide_struct Try.underlying99 (hval 1 99 v1 rfl rfl)
  obtain ⟨f1, hf1⟩ := h1
  obtain ⟨x1, hk1, ho1⟩ := opens_k99 hf1
  obtain ⟨A1_2, c1_2, he1, hl1_2, hc1_2⟩ := k99_open hk1
  obtain rfl : cs1 = _ := Array.toList_inj.1 (he1.trans (List.toList_toArray).symm)
  have k2 := h2
  have lt2 : ∀ x ∈ p2, x.block < W.heap.size := by obtain ⟨m, hm⟩ := k2; exact DataW.trod_lt m _ _ _ hm
  obtain ⟨x2, rfl⟩ := okWide_string Try.underlying9 (hval 2 9 v2 rfl rfl)
  obtain ⟨f2, hf2⟩ := h2
  obtain ⟨z2, hk2, ho2⟩ := (Opens.string Try.underlying9) hf2
  obtain rfl : x2 = z2 := by have := hk2; injection this with this; injection this
  obtain ⟨k, h⟩ : ∃ k, backhaullaw26_OrderTells.f k x0.f0 x0.f1 x0.f2 x1.f0 x1.f1 x1.f2 x2 = some true := Pure.OrderTells x0.f0 x0.f1 x0.f2 x1.f0 x1.f1 x1.f2 x2 ho0.1 ho0.2.1 ho0.2.2 ho1.1 ho1.2.1 ho1.2.2 ho2
  refine (backhaullaw26_OrderTells.calls k x0.f0 x0.f1 _ _ x0.f2 x1.f0 x1.f1 _ _ x1.f2 x2 W hc0_2 hl0_2 hc1_2 hl1_2 h).mono fun e W' hq => ?_
  obtain ⟨he, bel0⟩ := hq
  have bel : Below W.heap.size W W' := bel0
  subst he
  exact ⟨_, rfl, _, _, _, [], _, [], hW', trodAll_mk1 (shut_bool Try.underlying4 _), (trodAll_cons_mk (Below.trod laidOut (by kernel_rfl) (of_decide_eq_true (by kernel_rfl)) k0 bel lt0) (trodAll_cons_mk (Below.trod laidOut (by kernel_rfl) (of_decide_eq_true (by kernel_rfl)) k1 bel lt1) (trodAll_cons_mk (Below.trod laidOut (by kernel_rfl) (of_decide_eq_true (by kernel_rfl)) k2 bel lt2) trodAll_mk0))), rfl, bel.frame _, fun h => by cases h⟩
theorem closed_ : joinedFacts Try.pinned.checked.prog 21 Try.f21 Rows.orderTellsSpec Rows.orderTellsRow = true := by
  unfold joinedFacts
  repeat' (with_reducible apply band)
  any_goals with_reducible exact Join.mayEnter_is
  any_goals (rw [Join.make_is]; kernel_rfl)
  any_goals (rw [Join.lifts_is]; kernel_rfl)
  all_goals kernel_rfl
theorem over : Rows.orderTellsRow.holds Try.pinned (OpenSpec.ofChange Rows.orderTellsSpec) :=
  OpenClaim.holds_of_wide 21 Try.f21 rfl rfl rfl rfl rfl rfl rfl ⟨rfl, rfl, rfl, rfl, rfl⟩ rfl rfl rfl rfl rfl (by kernel_rfl) Try.func21 closed_
    (of_decide_eq_true (by kernel_rfl)) (by unfold Func.isWrapper; first | (rw [if_pos (by decide +kernel)]; kernel_rfl) | (rw [if_neg (by decide +kernel)]; exact ⟨rfl, rfl⟩))
    (fun os started H enc _ => lifted os started H enc)
theorem proved : Rows.OrderTellsSaid := over
#print axioms proved
end Go.Proofs.Ytefhljhpcpajgaa.orderTells
namespace Go.Proofs.Ytefhljhpcpajgaa
theorem orderTells_holds : Rows.OrderTellsSaid := orderTells.proved
end Go.Proofs.Ytefhljhpcpajgaa
