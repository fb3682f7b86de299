-- by prune.py (own program), out of the print
import Derived.Deep.Slices
import Derived.ChangeArms
import Derived.WideShapes
import Derived.OpenShut
import Derived.Test.YtdpcgigjlcpofaaRows
import Derived.ProofKit
import Derived.ShutString
import Derived.ChangeOld
import Derived.SizedLaws
import Derived.Carry
import Derived.Test.YtdpcgigjlcpofaaZBatchWhole5
namespace Go.Proofs.Ytdpcgigjlcpofaa.F
open Go.RowKit YtdpcgigjlcpofaaX YtdpcgigjlcpofaaW.PrintWords YtdpcgigjlcpofaaW.PrintLast YtdpcgigjlcpofaaW.PrintMore
attribute [local go_sem] max2_int min2_int max_two min_two max_three min_three max_four min_four
attribute [local go_sem high] str_geq str_leq str_gtr
set_option linter.unusedVariables false
set_option linter.unusedSimpArgs false
mutual
def backhaullaw15_BatchWhole.j0 : Nat → List (S166) → Bool → List (List (S164)) → Option (Bool)
  | 0, _, _, _ => none
  | k + 1, x1, x20, x102000 => if x20 = true then ((backhaullaw15_awake.f).bind fun t104 => (if t104 = true then (some true) else (some false))) else ((backhaullaw15_of.f k x102000).bind fun bt105 => ((batch_Apply.f k x102000 x1).bind fun bt110 => ((backhaullaw15_same.f k x102000 bt105.1 bt105.2).bind fun t116 => (if t116 = true then (if bt110.2.2 = 0 then (backhaullaw15_BatchWhole.l0 k x1 bt110.2.1 0 x102000 bt110.1) else (if (bt110.1.length : Int) = 0 then (if bt110.2.1 ≥ 0 then (if bt110.2.1 < (x1.length : Int) then ((backhaullaw15_awake.f).bind fun t117 => (if t117 = true then (some true) else (some false))) else (if bt110.2.1 = 0 then ((backhaullaw15_awake.f).bind fun t118 => (if t118 = true then (some true) else (some false))) else (some false))) else (some false)) else (some false))) else (some false)))))
def backhaullaw15_BatchWhole.l0 : Nat → List (S166) → Int → Int → List (List (S164)) → List (List (S164)) → Option (Bool)
  | 0, _, _, _, _, _ => none
  | k + 1, x1, x7, x9, x102000, x116000 => if x9 < (x1.length : Int) then (if 0 ≤ x9 then (if x9 ≤ (wrap64 (x9 + 1)) then (if (wrap64 (x9 + 1)) ≤ (x1.length : Int) then ((batch_Apply.f k x102000 ((x1.take ((wrap64 (x9 + 1)) : Int).toNat).drop (x9 : Int).toNat)).bind fun bt123 => (if bt123.2.1 = 1 then (if bt123.2.2 = 0 then (backhaullaw15_BatchWhole.l0 k x1 x7 (wrap64 (x9 + 1)) bt123.1 x116000) else (some false)) else (some false))) else (none)) else (none)) else (none)) else ((backhaullaw15_of.f k x116000).bind fun bt129 => ((backhaullaw15_same.f k x102000 bt129.1 bt129.2).bind fun t133 => (if t133 = true then (if x7 = (x1.length : Int) then ((batch_Check.f k x116000).bind fun t134 => (if t134 = 0 then ((backhaullaw15_awake.f).bind fun t135 => (if t135 = true then (some true) else (some false))) else (some false))) else (some false)) else (some false))))
end
def backhaullaw15_BatchWhole.f (k : Nat) (l0_0 : List (List (S164))) (l1 : List (S166)) : Option (Bool) := (backhaullaw15_few.f k l0_0).bind fun t102 => (if t102 = true then ((backhaullaw15_short.f k l1).bind fun t103 => (backhaullaw15_BatchWhole.j0 k l1 (!t103) l0_0)) else (backhaullaw15_BatchWhole.j0 k l1 true l0_0))
theorem backhaullaw15_BatchWhole.mono_l : ∀ k, (∀ y0 y1 y2, LeO (backhaullaw15_BatchWhole.j0 k y0 y1 y2) (backhaullaw15_BatchWhole.j0 (k + 1) y0 y1 y2)) ∧ (∀ y0 y1 y2 y3 y4, LeO (backhaullaw15_BatchWhole.l0 k y0 y1 y2 y3 y4) (backhaullaw15_BatchWhole.l0 (k + 1) y0 y1 y2 y3 y4))
  | 0 => ⟨fun _ _ _ r h => by simp [backhaullaw15_BatchWhole.j0] at h, fun _ _ _ _ _ r h => by simp [backhaullaw15_BatchWhole.l0] at h⟩
  | k + 1 => by
    obtain ⟨ih0, ih1⟩ := backhaullaw15_BatchWhole.mono_l k
    refine ⟨?_, ?_⟩
    · intro y0 y1 y2
      unfold backhaullaw15_BatchWhole.j0
      repeat' (with_reducible first | exact ih0 _ _ _ | exact ih1 _ _ _ _ _ | exact backhaullaw15_few.mono _ _ | exact backhaullaw15_of.mono _ _ | exact backhaullaw15_same.mono _ _ _ _ | exact backhaullaw15_short.mono _ _ | exact batch_Apply.mono _ _ _ | exact batch_Check.mono _ _ | exact LeO.refl _ | exact LeO.none _ | refine LeO.ite ?_ ?_ | refine LeO.bind ?_ (fun _ => ?_))
    intro y0 y1 y2 y3 y4
    unfold backhaullaw15_BatchWhole.l0
    repeat' (with_reducible first | exact ih0 _ _ _ | exact ih1 _ _ _ _ _ | exact backhaullaw15_few.mono _ _ | exact backhaullaw15_of.mono _ _ | exact backhaullaw15_same.mono _ _ _ _ | exact backhaullaw15_short.mono _ _ | exact batch_Apply.mono _ _ _ | exact batch_Check.mono _ _ | exact LeO.refl _ | exact LeO.none _ | refine LeO.ite ?_ ?_ | refine LeO.bind ?_ (fun _ => ?_))
theorem backhaullaw15_BatchWhole.mono : ∀ a0 a1 k, LeO (backhaullaw15_BatchWhole.f k a0 a1) (backhaullaw15_BatchWhole.f (k + 1) a0 a1) := by
  intro a0 a1 k
  obtain ⟨ih0, ih1⟩ := backhaullaw15_BatchWhole.mono_l k
  unfold backhaullaw15_BatchWhole.f
  repeat' (with_reducible first | exact ih0 _ _ _ | exact ih1 _ _ _ _ _ | exact backhaullaw15_few.mono _ _ | exact backhaullaw15_of.mono _ _ | exact backhaullaw15_same.mono _ _ _ _ | exact backhaullaw15_short.mono _ _ | exact batch_Apply.mono _ _ _ | exact batch_Check.mono _ _ | exact LeO.refl _ | exact LeO.none _ | refine LeO.ite ?_ ?_ | refine LeO.bind ?_ (fun _ => ?_))
def backhaullaw15_BatchWhole.T12 : Bool × List (List Nat × List Nat) := (true, [([], []), ([], []), ([], []), ([], []), ([3], [3]), ([1, 2, 4], [1, 2, 4]), ([0, 5], [0, 5]), ([6], [6]), ([7], [7]), ([7], [7]), ([7], [7]), ([], []), ([11, 8, 6, 0, 1, 2, 3, 4, 5, 6, 7, 8, 11], [8, 11]), ([9, 12, 0, 1, 2, 3, 4, 5, 6, 7, 8, 9, 11, 12], [9]), ([10, 13, 0, 1, 2, 3, 4, 5, 6, 7, 8, 9, 10, 11, 12, 13], [10])])
def backhaullaw15_BatchWhole.B12 : List Nat := [0, 0, 0, 0, 8, 30, 63, 127, 255, 255, 255, 0, 2559, 7167, 16383]
theorem backhaullaw15_BatchWhole.tab12 : rtab .any (opsOf Try.f10 12) = backhaullaw15_BatchWhole.T12 := by kernel_rfl
theorem backhaullaw15_BatchWhole.bits12 : waitsOk backhaullaw15_BatchWhole.T12.2 backhaullaw15_BatchWhole.B12 = true := by kernel_rfl
def backhaullaw15_BatchWhole.T16 : Bool × List (List Nat × List Nat) := (true, [([], []), ([], []), ([1], [1]), ([0, 2, 2], [0, 2]), ([3, 3], [3]), ([4], [4]), ([4], [4]), ([6, 4], [4, 6]), ([5, 7, 4], [4, 5, 7]), ([4, 8], [4, 8]), ([9, 4], [9]), ([10], [10]), ([11, 10, 10], [10, 11]), ([12, 10], [10, 12]), ([10, 13], [10, 13]), ([14, 12], [14]), ([15, 15], [15]), ([15, 16], [15, 16]), ([17, 16, 0, 1, 2, 3, 4, 5, 6, 7, 8, 9, 10, 11, 12, 13, 14, 15, 16, 17], [17])])
def backhaullaw15_BatchWhole.B16 : List Nat := [0, 0, 2, 7, 15, 31, 31, 95, 255, 511, 1023, 2047, 4095, 8191, 16383, 32767, 65535, 131071, 262143]
theorem backhaullaw15_BatchWhole.tab16 : rtab .any (opsOf Try.f10 16) = backhaullaw15_BatchWhole.T16 := by kernel_rfl
theorem backhaullaw15_BatchWhole.bits16 : waitsOk backhaullaw15_BatchWhole.T16.2 backhaullaw15_BatchWhole.B16 = true := by kernel_rfl
set_option maxHeartbeats 8000000 in
set_option maxRecDepth 100000 in
theorem backhaullaw15_BatchWhole.calls (k : Nat) (P0_0_ : Nat → Prop) (A0_0 : Option Addr) (c0_0 : Nat) (l0_0 : List (List (S164))) (A1 : Option Addr) (c1 : Nat) (l1 : List (S166)) (w : World) (hs0_0 : Kd.V (Kd.slice 164 k164) 162 w w.heap.size (fun k_ => P0_0_ k_) (.slice A0_0 l0_0.length c0_0) l0_0) (hr1 : Kd.C k166 w A1 l1.length l1) (hc1 : l1.length ≤ c1) (h : backhaullaw15_BatchWhole.f k l0_0 l1 = some true) :
    Calls Try.prog 10 #[.agg #[.slice A0_0 l0_0.length c0_0], .slice A1 l1.length c1] w fun e w' => e = .returned (.bool true) ∧ Below w.heap.size w w' := by
  have hu75 := Try.underlying75
  have hu82 := Try.underlying82
  have HO0_0 := zA (show Kd.V (Kd.slice 164 k164) 162 w w.heap.size (fun k_ => (P0_0_ k_ ∨ w.heap.size ≤ k_)) (.slice A0_0 l0_0.length c0_0) l0_0 from Kd.V_mono hs0_0 (fun k_ hk => .inl hk))
  have HR1 := zA hr1
  have HC1 := zA hc1
  clear hr1 hc1
  have HB := zA (Below.refl w.heap.size w)
  have H : ((backhaullaw15_few.f k l0_0).bind fun t102 => (if t102 = true then ((backhaullaw15_short.f k l1).bind fun t103 => (backhaullaw15_BatchWhole.j0 k l1 (!t103) l0_0)) else (backhaullaw15_BatchWhole.j0 k l1 true l0_0))) = some true := h
  clear h
  have HC3 := zA H
  clear H
  go_enter Try.func10, Try.ntmps10
  go_upto_region 1 with (first | ((with_reducible refine gate_dst (N := 2) rfl ?_); (try (refine gate_guard (by rfl) ?_; dsimp only)); refine box_event qr (N := 2) qr (cs := #[.slice A0_0 l0_0.length c0_0]) (t := 75) qg ?_; intro gb101 hg w4 hbox hb; have n0_ := zA (Kd.V_below (Kd.V_elderB (by (with_reducible repeat (first | apply Kd.V_alloc | apply Kd.V_drewN | apply Kd.V_drew)); exact HO0_0.out) gb101 (Nat.le_of_eq hg.symm)) hb); have n1_ := zA (zV qB hb); have n2_ := zA (hbox); have n3_ := zA ((qS : w.heap.size ≤ gb101)); have n4_ := zA ((qS : w.heap.size ≤ gb101)); clear HO0_0 HB; have HO0_0 := n0_; have HB := n1_; have BK101 := n2_; have GW101 := n3_; have GE101 := n4_; clear n0_ n1_ n2_ n3_ n4_ hb hbox hg))
  (try simp only [Act.put, zH, zI, zJ])
  go_cut [20] (fun v20 wc => ∃ (kq : Nat) (x20_2 : Bool), v20 = .bool x20_2 ∧ Aside0 (backhaullaw15_BatchWhole.j0 kq l1 x20_2 l0_0 = some true) ∧ Aside0 (kq ≤ k) ∧ Aside0 (Kd.V (Kd.slice 164 k164) 162 wc w.heap.size (fun k_ => (P0_0_ k_ ∨ w.heap.size ≤ k_) ∧ k_ ≠ gb101) (.slice A0_0 l0_0.length c0_0) l0_0) ∧ Aside0 (wc.heap[gb101]? = some (.cells #[(.slice A0_0 l0_0.length c0_0)] 75 (0, 0))) ∧ Aside0 (Below w.heap.size w wc))
  case first =>
    have H := HC3.out; clear HC3; replace H := Option.bind_eq_some_iff.mp H; obtain ⟨t102, A50, H⟩ := H; try dsimp only at H
    have A5 := zA A50; clear A50; by_cases c6 : t102 = true
    · subst c6
      have H1 : ((backhaullaw15_short.f k l1).bind fun t103 => (backhaullaw15_BatchWhole.j0 k l1 (!t103) l0_0)) = some true := by first | (rw [if_pos rfl] at H; exact H) | rfl
      clear H; have H := H1; clear H1; replace H := Option.bind_eq_some_iff.mp H; obtain ⟨t103, A70, H⟩ := H; try dsimp only at H
      have A7 := zA A70; clear A70; have H' := zA H; clear H; have hcz8_0 : w4.cell? ⟨gb101, 0, none⟩ = some (.slice A0_0 l0_0.length c0_0) := (zF BK101.out 0).trans rfl; have hfz8_0 := zG BK101.out 0; go_wp2_with (first | ((with_reducible refine zJq (f := 41) rfl ?_); refine goesL_ (some 14) rfl rfl Try.func41 (by kernel_rfl) rfl #[.agg #[.slice A0_0 l0_0.length c0_0]] rfl qG ?_; (with_reducible refine (backhaullaw15_few.calls k _ _ l0_0 true _ ?side1 ?side2 A5.out).mono ?_); (case side1 => repeat (first | exact (Kd.V_reads' HO0_0.out).2.2 | (with_reducible refine Kd.C_alloc ?_ _) | (with_reducible refine Kd.C_drewN ?_ _) | (with_reducible refine Kd.C_drew ?_))); (case side2 => exact (Kd.V_reads' HO0_0.out).2.1); rintro e w9 ⟨rfl, hb⟩; refine ⟨_, rfl, ?_⟩; have n0_ := zA (Kd.V_below (by (with_reducible repeat (first | apply Kd.V_alloc | apply Kd.V_drewN | apply Kd.V_drew)); exact HO0_0.out) hb); have n1_ := zA (qX BK101.out hb); have n2_ := zA (zV qB hb); clear HO0_0 BK101 HB; have HO0_0 := n0_; have BK101 := n1_; have HB := n2_; clear n0_ n1_ n2_; (try clear hb)) | (go_at_call 42; (with_reducible refine (backhaullaw15_short.calls k _ _ l1 t103 _ ?side1 ?side2 A7.out).mono ?_); (case side1 => exact qC (Kd.C_below HR1.out HB.out)); (case side2 => exact HC1.out); rintro e w' ⟨rfl, ⟨nd, rfl⟩⟩)); go_meet
      case rel => exact ⟨_, (!t103), (by first | rfl | (simp; done) | (simp [*]; done)), H', ⟨by first | omega | exact Nat.le_refl _⟩, ⟨by (with_reducible repeat (first | apply Kd.V_alloc | apply Kd.V_drewN | apply Kd.V_drew)); exact HO0_0.out⟩, ⟨by exact BK101.out⟩, ⟨qB⟩⟩
    replace c6 := Bool.eq_false_iff.mpr c6; subst c6; have H1 : (backhaullaw15_BatchWhole.j0 k l1 true l0_0) = some true := by first | (rw [if_neg (show ¬ (false = true) by decide)] at H; exact H) | rfl
    clear H; have H := H1; clear H1; have H' := zA H; clear H; have hcz10_0 : w4.cell? ⟨gb101, 0, none⟩ = some (.slice A0_0 l0_0.length c0_0) := (zF BK101.out 0).trans rfl; have hfz10_0 := zG BK101.out 0; go_wp2_with (first | ((with_reducible refine zJq (f := 41) rfl ?_); refine goesL_ (some 14) rfl rfl Try.func41 (by kernel_rfl) rfl #[.agg #[.slice A0_0 l0_0.length c0_0]] rfl qG ?_; (with_reducible refine (backhaullaw15_few.calls k _ _ l0_0 false _ ?side1 ?side2 A5.out).mono ?_); (case side1 => repeat (first | exact (Kd.V_reads' HO0_0.out).2.2 | (with_reducible refine Kd.C_alloc ?_ _) | (with_reducible refine Kd.C_drewN ?_ _) | (with_reducible refine Kd.C_drew ?_))); (case side2 => exact (Kd.V_reads' HO0_0.out).2.1); rintro e w11 ⟨rfl, hb⟩; refine ⟨_, rfl, ?_⟩; have n0_ := zA (Kd.V_below (by (with_reducible repeat (first | apply Kd.V_alloc | apply Kd.V_drewN | apply Kd.V_drew)); exact HO0_0.out) hb); have n1_ := zA (qX BK101.out hb); have n2_ := zA (zV qB hb); clear HO0_0 BK101 HB; have HO0_0 := n0_; have BK101 := n1_; have HB := n2_; clear n0_ n1_ n2_; (try clear hb))); go_meet
    case rel => exact ⟨_, (true), (by first | rfl | (simp; done) | (simp [*]; done)), H', ⟨by first | omega | exact Nat.le_refl _⟩, ⟨by (with_reducible repeat (first | apply Kd.V_alloc | apply Kd.V_drewN | apply Kd.V_drew)); exact HO0_0.out⟩, ⟨by exact BK101.out⟩, ⟨qB⟩⟩
  case rest =>
    clear HC3; try clear c1
    try clear p2
    try clear c4
    try clear c6
    try clear c10
    try clear hcz10_0
    try clear hcz8_0
    try clear hfz10_0
    try clear hfz8_0
    obtain ⟨kq, x20_2, rfl, HA, HJ2, HO_102000, BK101, HB⟩ := hcut; cases kq with
    | zero => exact absurd HA.out (by simp [backhaullaw15_BatchWhole.j0])
    | succ kj2 =>
      have H := HA.out; clear HA; simp only [backhaullaw15_BatchWhole.j0] at H; by_cases c12 : x20_2 = true
      · subst c12
        have H1 : ((backhaullaw15_awake.f).bind fun t104 => (if t104 = true then (some true) else (some false))) = some true := by first | (rw [if_pos rfl] at H; exact H) | rfl
        clear H; have H := H1; clear H1; replace H := Option.bind_eq_some_iff.mp H; obtain ⟨t104, A130, H⟩ := H; try dsimp only at H
        have A13 := zA A130; clear A130; by_cases c14 : t104 = true
        · subst c14
          have H1 : (some true) = some true := by first | (rw [if_pos rfl] at H; exact H) | rfl
          clear H; have H := H1; clear H1; clear H; go_wp2_with (first | ((with_reducible refine zJq (f := 43) rfl ?_); refine goesL_ (some 21) rfl rfl Try.func43 (by kernel_rfl) rfl #[] rfl qG ?_; (with_reducible refine (backhaullaw15_awake.calls  true _ A13.out).mono ?_); rintro e w15 ⟨rfl, hb⟩; refine ⟨_, rfl, ?_⟩; have n0_ := zA (Kd.V_below (by (with_reducible repeat (first | apply Kd.V_alloc | apply Kd.V_drewN | apply Kd.V_drew)); exact HO_102000.out) hb); have n1_ := zA (qX BK101.out hb); have n2_ := zA (zV qB hb); clear HO_102000 BK101 HB; have HO_102000 := n0_; have BK101 := n1_; have HB := n2_; clear n0_ n1_ n2_; (try clear hb))); go_ret; exact ⟨qE, qB⟩
        replace c14 := Bool.eq_false_iff.mpr c14; subst c14; have H1 : (some false) = some true := by first | (rw [if_neg (show ¬ (false = true) by decide)] at H; exact H) | rfl
        clear H; have H := H1; clear H1; exact absurd H (by simp)
      replace c12 := Bool.eq_false_iff.mpr c12; subst c12; have H1 : ((backhaullaw15_of.f kj2 l0_0).bind fun bt105 => ((batch_Apply.f kj2 l0_0 l1).bind fun bt110 => ((backhaullaw15_same.f kj2 l0_0 bt105.1 bt105.2).bind fun t116 => (if t116 = true then (if bt110.2.2 = 0 then (backhaullaw15_BatchWhole.l0 kj2 l1 bt110.2.1 0 l0_0 bt110.1) else (if (bt110.1.length : Int) = 0 then (if bt110.2.1 ≥ 0 then (if bt110.2.1 < (l1.length : Int) then ((backhaullaw15_awake.f).bind fun t117 => (if t117 = true then (some true) else (some false))) else (if bt110.2.1 = 0 then ((backhaullaw15_awake.f).bind fun t118 => (if t118 = true then (some true) else (some false))) else (some false))) else (some false)) else (some false))) else (some false))))) = some true := by first | (rw [if_neg (show ¬ (false = true) by decide)] at H; exact H) | rfl
      clear H; have H := H1; clear H1; replace H := Option.bind_eq_some_iff.mp H; obtain ⟨⟨t105, t106⟩, A160, H⟩ := H; try dsimp only at H
      have A16 := zA A160; clear A160; replace H := Option.bind_eq_some_iff.mp H; obtain ⟨⟨t110, t113, t114⟩, A170, H⟩ := H; try dsimp only at H
      have A17 := zA A170; clear A170; replace H := Option.bind_eq_some_iff.mp H; obtain ⟨t116, A180, H⟩ := H; try dsimp only at H
      have A18 := zA A180; clear A180; by_cases c19 : t116 = true
      · subst c19
        have H1 : (if t114 = 0 then (backhaullaw15_BatchWhole.l0 kj2 l1 t113 0 l0_0 t110) else (if (t110.length : Int) = 0 then (if t113 ≥ 0 then (if t113 < (l1.length : Int) then ((backhaullaw15_awake.f).bind fun t117 => (if t117 = true then (some true) else (some false))) else (if t113 = 0 then ((backhaullaw15_awake.f).bind fun t118 => (if t118 = true then (some true) else (some false))) else (some false))) else (some false)) else (some false))) = some true := by first | (rw [if_pos rfl] at H; exact H) | rfl
        clear H; have H := H1; clear H1; by_cases c20 : t114 = 0
        · rw [if_pos c20] at H
          have c20b0 : (t114 == 0) = true := beq_iff_eq.mpr c20; have c20b1 : (t114 != 0) = false := bne_eq_false_iff_eq.mpr c20; clear c20; have H' := zA H; clear H; have hcz21_0 : wc.cell? ⟨gb101, 0, none⟩ = some (.slice A0_0 l0_0.length c0_0) := (zF BK101.out 0).trans rfl; have hfz21_0 := zG BK101.out 0; go_wp2_with (first | ((with_reducible refine zJq (f := 44) rfl ?_); refine goesL_ (some 23) rfl rfl Try.func44 (by kernel_rfl) rfl #[.agg #[.slice A0_0 l0_0.length c0_0]] rfl qG ?_; (with_reducible refine (backhaullaw15_of.calls kj2 _ _ l0_0 t105 t106 _ ?side1 ?side2 A16.out).mono ?_); (case side1 => repeat (first | exact (Kd.V_reads' HO_102000.out).2.2 | (with_reducible refine Kd.C_alloc ?_ _) | (with_reducible refine Kd.C_drewN ?_ _) | (with_reducible refine Kd.C_drew ?_))); (case side2 => exact (Kd.V_reads' HO_102000.out).2.1); rintro e w22 ⟨v107, rfl, ho0, hb⟩; refine ⟨_, rfl, ?_⟩; have n0_ := zA (Kd.V_elder' (by (with_reducible repeat (first | apply Kd.V_alloc | apply Kd.V_drewN | apply Kd.V_drew)); exact HO_102000.out) (Kd.R_base ho0) hb); have n1_ := zA (Kd.R_lower (Kd.R_newM (M := fun k_ => (w.heap.size ≤ k_)) ho0 (zW qB) (fun k_ h_ => h_)) (zW qB)); have n2_ := zA (qX BK101.out hb); have n3_ := zA (zV qB hb); clear HO_102000 BK101 HB; have HO_102000 := n0_; have HO108 := n1_; have BK101 := n2_; have HB := n3_; clear n0_ n1_ n2_ n3_; (try clear hb); (try clear ho0)) | ((with_reducible refine gate_dst (N := 5) rfl ?_); (try (refine gate_guard (by rfl) ?_; dsimp only)); refine box_event qr (N := 5) qr (cs := #[.int .i64 0, .slice none 0 0]) (t := 82) qg ?_; intro gb109 hg w23 hbox hb; have n0_ := zA (Kd.V_below (Kd.V_elderB (by (with_reducible repeat (first | apply Kd.V_alloc | apply Kd.V_drewN | apply Kd.V_drew)); exact HO_102000.out) gb109 (Nat.le_of_eq hg.symm)) hb); have n1_ := zA (Kd.R_below (by (with_reducible repeat (first | apply Kd.R_alloc | apply Kd.R_drewN | apply Kd.R_drew)); exact HO108.out) hb); have n2_ := zA (qX BK101.out hb); have n3_ := zA (zV qB hb); have n4_ := zA (hbox); have n5_ := zA ((qS : w.heap.size ≤ gb109)); have n6_ := zA ((qS : w.heap.size ≤ gb109)); have n7_ := zA ((by rw [hg]; exact zLq (qL BK101.out) : gb101 ≠ gb109)); have n8_ := zA ((by rw [hg]; exact zMq (qL BK101.out) : gb109 ≠ gb101)); clear HO_102000 HO108 BK101 HB; have HO_102000 := n0_; have HO108 := n1_; have BK101 := n2_; have HB := n3_; have BK109 := n4_; have GW109 := n5_; have GE109 := n6_; have NB101_109 := n7_; have NB109_101 := n8_; clear n0_ n1_ n2_ n3_ n4_ n5_ n6_ n7_ n8_ hb hbox hg; have hnb24 := NB109_101.out; have hnc24 := NB101_109.out; obtain ⟨_, _, _, _⟩ := qc2f BK109.out; obtain ⟨Ao26, co26, eo26⟩ := Kd.R_slice HO108.out; subst eo26) | ((with_reducible refine gate_store (t := 82) (p := 5) rfl ?_); refine store_event (t := 82) (p := 5) (v := ?vo_w27) (w1 := ((w23.setCell ⟨gb109, 0, none⟩ (.int .i64 t105)).setCell ⟨gb109, 1, none⟩ (.slice Ao26 t106.length co26))) ?hg ?ho ?hn ?hr ?_; (case ho => rfl); (case hg => rfl); (case hn => rfl); (case hr => first | (go_simp; done) | (go_simp; rfl)); intro w27 hw; have n0_ : Aside0 (Kd.V (Kd.slice 164 k164) 162 w27 w.heap.size (fun k_ => (P0_0_ k_ ∨ w.heap.size ≤ k_) ∧ some k_ ≠ (.slice Ao26 t106.length co26 : Value).ownBlock ∧ k_ ≠ gb101 ∧ k_ ≠ gb109) (.slice A0_0 l0_0.length c0_0) l0_0) := ⟨(by rw [hw]; exact (by (with_reducible repeat (first | apply Kd.V_alloc | apply Kd.V_drewN | apply Kd.V_drew)); exact Kd.V_mono (Kd.V_far (p := ⟨gb109, 1, none⟩) (Kd.V_far (p := ⟨gb109, 0, none⟩) (Kd.V_mono HO_102000.out (fun k_ hk => (⟨hk, hk.2⟩ : _ ∧ k_ ≠ gb109))) (fun _ hk => hk.2) (.int .i64 t105)) (fun _ hk => hk.2) (.slice Ao26 t106.length co26)) (fun _ hk => ⟨hk.1.1.1.1, ⟨hk.1.1.2, ⟨hk.1.1.1.2, hk.1.2⟩⟩⟩)))⟩; have n1_ : Aside0 (Kd.R k169 169 w27 w.heap.size (fun k_ => (w.heap.size ≤ k_)) (.slice Ao26 t106.length co26) t106) := ⟨(by rw [hw]; exact (by (with_reducible repeat (first | apply Kd.R_alloc | apply Kd.R_drewN | apply Kd.R_drew)); exact Kd.R_mono (Kd.R_far (p := ⟨gb109, 1, none⟩) (Kd.R_far (p := ⟨gb109, 0, none⟩) (Kd.R_types HO108.out BK109.out (by decide)) (fun _ hk => hk.2) (.int .i64 t105)) (fun _ hk => hk.2) (.slice Ao26 t106.length co26)) (fun _ hk => hk.1.1)))⟩; have n2_ : Aside0 (w27.heap[gb101]? = some (.cells #[.slice A0_0 l0_0.length c0_0] 75 (0, 0))) := ⟨(by rw [hw]; exact (qW BK101.out))⟩; have n3_ : Aside0 (w27.heap[gb109]? = some (.cells #[.int .i64 t105, .slice Ao26 t106.length co26] 82 (0, 0))) := ⟨(by rw [hw]; exact (qV BK109.out))⟩; have n4_ : Aside0 (Below w.heap.size w w27) := ⟨(by rw [hw]; exact qB)⟩; clear hw HO_102000 HO108 BK101 BK109 HB; have HO_102000 := n0_; have HO108 := n1_; have BK101 := n2_; have BK109 := n3_; have HB := n4_; clear n0_ n1_ n2_ n3_ n4_; have hcz28_0 : w27.cell? ⟨gb101, 0, none⟩ = some (.slice A0_0 l0_0.length c0_0) := (zF BK101.out 0).trans rfl; have hfz28_0 := zG BK101.out 0) | ((with_reducible refine zJq (f := 45) rfl ?_); refine goesL_ (some 27) rfl rfl Try.func45 (by kernel_rfl) rfl #[.agg #[.slice A0_0 l0_0.length c0_0], .slice A1 l1.length c1] rfl qG ?_; (with_reducible refine (batch_Apply.calls kj2 (fun k_ => ((P0_0_ k_ ∨ w.heap.size ≤ k_) ∧ (some k_ ≠ (.slice Ao26 t106.length co26 : Value).ownBlock ∧ (k_ ≠ gb101 ∧ k_ ≠ gb109)))) _ _ l0_0 _ _ l1 t110 t113 t114 _ ?side1 ?side2 ?side3 A17.out).mono ?_); (case side1 => exact HO_102000.out); (case side2 => exact qC (Kd.C_below HR1.out HB.out)); (case side3 => exact HC1.out); rintro e w29 ⟨v111, rfl, ho0, hb⟩; refine ⟨_, rfl, ?_⟩; have n0_ := zA (Kd.V_elder' (by (with_reducible repeat (first | apply Kd.V_alloc | apply Kd.V_drewN | apply Kd.V_drew)); exact HO_102000.out) (Kd.N_base ho0) hb); have n1_ := zA (Kd.R_below (by (with_reducible repeat (first | apply Kd.R_alloc | apply Kd.R_drewN | apply Kd.R_drew)); exact HO108.out) hb); have n2_ := zA (Kd.N_lower (Kd.N_mono (ok' := fun k_ => (P0_0_ k_ ∨ w.heap.size ≤ k_) ∧ some k_ ≠ (.slice Ao26 t106.length co26 : Value).ownBlock ∧ k_ ≠ gb101 ∧ k_ ≠ gb109) ho0 (fun k_ hk_ => ⟨Or.elim hk_ (fun hs_ => hs_.1) (fun hn_ => (.inr (Nat.le_trans (zW qB) hn_))), Or.elim hk_ (fun hs_ => hs_.2.1) (fun hn_ => (Kd.fresh' (Kd.R_lt (by (with_reducible repeat (first | apply Kd.R_alloc | apply Kd.R_drewN | apply Kd.R_drew)); exact HO108.out)) k_ hn_)), Or.elim hk_ (fun hs_ => hs_.2.2.1) (fun hn_ => (Kd.freshB (g := gb101) (o := .cells #[.slice A0_0 l0_0.length c0_0] 75 (0, 0)) (qW BK101.out) k_ hn_)), Or.elim hk_ (fun hs_ => hs_.2.2.2) (fun hn_ => (Kd.freshB (g := gb109) (o := .cells #[.int .i64 t105, .slice Ao26 t106.length co26] 82 (0, 0)) (qW BK109.out) k_ hn_))⟩)) (zW qB)); have n3_ := zA (qX BK101.out hb); have n4_ := zA (qX BK109.out hb); have n5_ := zA (zV qB hb); clear HO_102000 HO108 BK101 BK109 HB; have HO_102000 := n0_; have HO108 := n1_; have HO112 := n2_; have BK101 := n3_; have BK109 := n4_; have HB := n5_; clear n0_ n1_ n2_ n3_ n4_ n5_; (try clear hb); (try clear ho0)) | ((with_reducible refine gate_dst (N := 6) rfl ?_); (try (refine gate_guard (by rfl) ?_; dsimp only)); refine box_event qr (N := 6) qr (cs := #[.slice none 0 0]) (t := 75) qg ?_; intro gb115 hg w30 hbox hb; have n0_ := zA (Kd.V_below (Kd.V_elderB (by (with_reducible repeat (first | apply Kd.V_alloc | apply Kd.V_drewN | apply Kd.V_drew)); exact HO_102000.out) gb115 (Nat.le_of_eq hg.symm)) hb); have n1_ := zA (Kd.R_below (by (with_reducible repeat (first | apply Kd.R_alloc | apply Kd.R_drewN | apply Kd.R_drew)); exact HO108.out) hb); have n2_ := zA (Kd.N_below (Kd.N_elderB (by (with_reducible repeat (first | apply Kd.N_alloc | apply Kd.N_drewN | apply Kd.N_drew)); exact HO112.out) gb115 (Nat.le_of_eq hg.symm)) hb); have n3_ := zA (qX BK101.out hb); have n4_ := zA (qX BK109.out hb); have n5_ := zA (zV qB hb); have n6_ := zA (hbox); have n7_ := zA ((qS : w.heap.size ≤ gb115)); have n8_ := zA ((qS : w.heap.size ≤ gb115)); have n9_ := zA ((by rw [hg]; exact zLq (qL BK101.out) : gb101 ≠ gb115)); have n10_ := zA ((by rw [hg]; exact zMq (qL BK101.out) : gb115 ≠ gb101)); have n11_ := zA ((by rw [hg]; exact zLq (qL BK109.out) : gb109 ≠ gb115)); have n12_ := zA ((by rw [hg]; exact zMq (qL BK109.out) : gb115 ≠ gb109)); clear HO_102000 HO108 HO112 BK101 BK109 HB; have HO_102000 := n0_; have HO108 := n1_; have HO112 := n2_; have BK101 := n3_; have BK109 := n4_; have HB := n5_; have BK115 := n6_; have GW115 := n7_; have GE115 := n8_; have NB101_115 := n9_; have NB115_101 := n10_; have NB109_115 := n11_; have NB115_109 := n12_; clear n0_ n1_ n2_ n3_ n4_ n5_ n6_ n7_ n8_ n9_ n10_ n11_ n12_ hb hbox hg; obtain ⟨Ao31, co31, eo31⟩ := Kd.N_slice HO112.out; subst eo31; have hnb32 := NB115_101.out; have hnc32 := NB101_115.out; have hnb33 := NB115_109.out; have hnc33 := NB109_115.out; have hcz34_0 : w30.cell? ⟨gb115, 0, none⟩ = some (.slice none 0 0) := (zF BK115.out 0).trans rfl; have hfz34_0 := zG BK115.out 0; have hcz35_0 : w30.cell? ⟨gb101, 0, none⟩ = some (.slice A0_0 l0_0.length c0_0) := (zF BK101.out 0).trans rfl; have hfz35_0 := zG BK101.out 0; obtain ⟨_, _, _, _⟩ := qc2f BK109.out) | ((with_reducible refine zJq (f := 54) rfl ?_); refine goesL_ (some 33) rfl rfl Try.func54 (by kernel_rfl) rfl #[.agg #[.slice A0_0 l0_0.length c0_0], .agg #[.int .i64 t105, .slice Ao26 t106.length co26]] rfl qG ?_; (with_reducible refine (backhaullaw15_same.calls kj2 _ _ l0_0 t105 _ _ t106 true _ ?side1 ?side2 ?side3 ?side4 A18.out).mono ?_); (case side1 => refine (Kd.V_reads' (e := 162) (base := w.heap.size) (ok := fun k_ => ((((P0_0_ k_ ∨ w.heap.size ≤ k_) ∧ (some k_ ≠ (.slice Ao26 t106.length co26 : Value).ownBlock ∧ (k_ ≠ gb101 ∧ k_ ≠ gb109))) ∧ some k_ ≠ (.slice Ao31 t110.length co31 : Value).ownBlock) ∧ k_ ≠ gb115)) (n := l0_0.length) (c := c0_0) ?_).2.2; exact (by (with_reducible repeat (first | apply Kd.V_alloc | apply Kd.V_drewN | apply Kd.V_drew)); exact (Kd.V_mono (Kd.V_far (p := ⟨gb115, 0, none⟩) (Kd.V_mono HO_102000.out (fun k_ hk => (⟨hk, hk.2⟩ : _ ∧ k_ ≠ gb115))) (fun _ hk => hk.2) (.slice Ao31 t110.length co31)) (fun _ h_ => by first | exact h_.1 | (have h2_ := h_.1; simp only [and_assoc, and_left_comm, and_comm] at h2_ ⊢; exact h2_))))); (case side2 => exact (Kd.V_reads' HO_102000.out).2.1); (case side3 => refine (Kd.R_reads' (e := 169) (base := w.heap.size) (ok := fun k_ => (w.heap.size ≤ k_)) (n := t106.length) (c := co26) ?_).2.2; exact (by (with_reducible repeat (first | apply Kd.R_alloc | apply Kd.R_drewN | apply Kd.R_drew)); exact (Kd.R_mono (Kd.R_far (p := ⟨gb115, 0, none⟩) (Kd.R_types HO108.out BK115.out (by decide)) (fun _ hk => hk.2) (.slice Ao31 t110.length co31)) (fun _ h_ => by first | exact h_.1 | (have h2_ := h_.1; simp only [and_assoc, and_left_comm, and_comm] at h2_ ⊢; exact h2_))))); (case side4 => exact (Kd.R_reads' HO108.out).2.1); rintro e w37 ⟨rfl, hb⟩; refine ⟨_, rfl, ?_⟩; have n0_ := zA (Kd.V_below (by (with_reducible repeat (first | apply Kd.V_alloc | apply Kd.V_drewN | apply Kd.V_drew)); exact (Kd.V_mono (Kd.V_far (p := ⟨gb115, 0, none⟩) (Kd.V_mono HO_102000.out (fun k_ hk => (⟨hk, hk.2⟩ : _ ∧ k_ ≠ gb115))) (fun _ hk => hk.2) (.slice Ao31 t110.length co31)) (fun _ h_ => h_.1))) hb); have n1_ := zA (Kd.R_below (by (with_reducible repeat (first | apply Kd.R_alloc | apply Kd.R_drewN | apply Kd.R_drew)); exact (Kd.R_mono (Kd.R_far (p := ⟨gb115, 0, none⟩) (Kd.R_types HO108.out BK115.out (by decide)) (fun _ hk => hk.2) (.slice Ao31 t110.length co31)) (fun _ h_ => h_.1))) hb); have n2_ := zA (Kd.N_below (by (with_reducible repeat (first | apply Kd.N_alloc | apply Kd.N_drewN | apply Kd.N_drew)); exact (Kd.N_mono (Kd.N_far (p := ⟨gb115, 0, none⟩) (Kd.N_mono HO112.out (fun k_ hk => (⟨hk, hk.2⟩ : _ ∧ k_ ≠ gb115))) (fun _ hk => hk.2) (.slice Ao31 t110.length co31)) (fun _ h_ => h_.1))) hb); have n3_ := zA (qX BK101.out hb); have n4_ := zA (qX BK109.out hb); have n5_ := zA (zX (g := gb115) (o := .cells #[.slice Ao31 t110.length co31] 75 (0, 0)) (by (with_reducible repeat (first | refine zY ?_ _ | refine zAq ?_ | refine zZ ?_ _)); refine blk_put (cs := #[.slice none 0 0]) ?_ 0 _ rfl; exact BK115.out) hb); have n6_ := zA (zV qB hb); clear HO_102000 HO108 HO112 BK101 BK109 BK115 HB; have HO_102000 := n0_; have HO108 := n1_; have HO112 := n2_; have BK101 := n3_; have BK109 := n4_; have BK115 := n5_; have HB := n6_; clear n0_ n1_ n2_ n3_ n4_ n5_ n6_; (try clear hb)))
          go_loopg [9] kj2 (fun kq v9 w' => ∃ (x9_2 : Int) (x102000_2 : List (List (S164))) (u102000 : Value), v9 = .int .i64 x9_2 ∧ Aside0 (backhaullaw15_BatchWhole.l0 kq l1 t113 x9_2 x102000_2 t110 = some true) ∧ Aside0 (kq ≤ kj2) ∧ Aside0 (Kd.V (Kd.slice 164 k164) 162 w' w.heap.size (fun k_ => (P0_0_ k_ ∨ w.heap.size ≤ k_) ∧ some k_ ≠ ((.slice Ao26 t106.length co26) : Value).ownBlock ∧ some k_ ≠ ((.slice Ao31 t110.length co31) : Value).ownBlock ∧ k_ ≠ gb101 ∧ k_ ≠ gb109 ∧ k_ ≠ gb115) u102000 x102000_2) ∧ Aside0 (Kd.R k169 169 w' w.heap.size (fun k_ => (w.heap.size ≤ k_)) (.slice Ao26 t106.length co26) t106) ∧ Aside0 (Kd.N (Kd.slice 164 k164) 162 w' w.heap.size (fun k_ => (P0_0_ k_ ∨ w.heap.size ≤ k_) ∧ some k_ ≠ ((.slice Ao26 t106.length co26) : Value).ownBlock ∧ k_ ≠ gb101 ∧ k_ ≠ gb109 ∧ k_ ≠ gb115) (.slice Ao31 t110.length co31) t110) ∧ Aside0 (w'.heap[gb101]? = some (.cells #[u102000] 75 (0, 0))) ∧ Aside0 (w'.heap[gb109]? = some (.cells #[.int .i64 t105, (.slice Ao26 t106.length co26)] 82 (0, 0))) ∧ Aside0 (w'.heap[gb115]? = some (.cells #[(.slice Ao31 t110.length co31)] 75 (0, 0))) ∧ Aside0 (Below w.heap.size w w'))
          case atStart => exact ⟨(0), (l0_0), (.slice A0_0 l0_0.length c0_0), (by first | rfl | (simp; done) | (simp [*]; done)), H', ⟨Nat.le_refl _⟩, ⟨by (with_reducible repeat (first | apply Kd.V_alloc | apply Kd.V_drewN | apply Kd.V_drew)); exact Kd.V_mono HO_102000.out (fun _ hk => ⟨hk.1.1.1, ⟨hk.1.1.2.1, ⟨hk.1.2, ⟨hk.1.1.2.2.1, ⟨hk.1.1.2.2.2, hk.2⟩⟩⟩⟩⟩)⟩, ⟨by (with_reducible repeat (first | apply Kd.R_alloc | apply Kd.R_drewN | apply Kd.R_drew)); exact HO108.out⟩, ⟨by (with_reducible repeat (first | apply Kd.N_alloc | apply Kd.N_drewN | apply Kd.N_drew)); exact Kd.N_mono HO112.out (fun _ hk => ⟨hk.1.1, ⟨hk.1.2.1, ⟨hk.1.2.2.1, ⟨hk.1.2.2.2, hk.2⟩⟩⟩⟩)⟩, ⟨by exact BK101.out⟩, ⟨by exact BK109.out⟩, ⟨by exact BK115.out⟩, ⟨qB⟩⟩
          case round =>
            clear H'; try clear c1
            try clear c2
            try clear p2
            try clear c3
            try clear c4
            try clear c5
            try clear c6
            try clear c10
            try clear c12
            try clear c14
            try clear c19
            try clear c20
            try clear c20b0
            try clear c20b1
            try clear c24
            try clear c32
            try clear c33
            try clear hcz10_0
            try clear hcz21_0
            try clear hcz28_0
            try clear hcz34_0
            try clear hcz35_0
            try clear hcz8_0
            try clear hfz10_0
            try clear hfz21_0
            try clear hfz28_0
            try clear hfz34_0
            try clear hfz35_0
            try clear hfz8_0
            try clear p2
            obtain ⟨x9_2, x102000_2, u102000, rfl, HA, HK2, HO_102000, HO_110001, HO_116000, BK101, BK109, BK115, HB⟩ := hrel; cases gk with
            | zero => exact absurd HA.out (by simp [backhaullaw15_BatchWhole.l0])
            | succ k2 =>
              have H := HA.out; clear HA; simp only [backhaullaw15_BatchWhole.l0] at H; by_cases c38 : x9_2 < (l1.length : Int)
              · rw [if_pos c38] at H
                have c38b0 : decide (x9_2 < (l1.length : Int)) = true := zFq c38; clear c38; by_cases c39 : 0 ≤ x9_2
                · rw [if_pos c39] at H
                  have c39b0 := eq_true c39; have c39b1 : decide (0 ≤ x9_2) = true := zFq c39; clear c39; by_cases c40 : x9_2 ≤ (wrap64 (x9_2 + 1))
                  · rw [if_pos c40] at H
                    have c40b0 := eq_true c40; have c40b1 : decide (x9_2 ≤ (wrap64 (x9_2 + 1))) = true := zFq c40; by_cases c41 : (wrap64 (x9_2 + 1)) ≤ (l1.length : Int)
                    · rw [if_pos c41] at H
                      have c41b0 := eq_true c41; have c41b1 : decide ((wrap64 (x9_2 + 1)) ≤ (l1.length : Int)) = true := zFq c41; obtain ⟨y119, hy119⟩ : ∃ y_ : List (S166), y_ = ((l1.take ((wrap64 (x9_2 + 1)) : Int).toNat).drop (x9_2 : Int).toNat) := ⟨_, rfl⟩
                      replace H : ((batch_Apply.f k2 x102000_2 y119).bind fun bt123 => (if bt123.2.1 = 1 then (if bt123.2.2 = 0 then (backhaullaw15_BatchWhole.l0 k2 l1 t113 (wrap64 (x9_2 + 1)) bt123.1 t110) else (some false)) else (some false))) = some true := by first | (rw [hy119]; with_reducible exact H) | (have H2_ := (Option.bind_some _ _).symm.trans H; rw [hy119]; with_reducible exact H2_) | (have H2_ := (Option.bind_some _ _).symm.trans H; with_reducible exact H2_) | with_reducible exact H | (rw [hy119]; exact H) | exact H
                      have Ny119 := zA hy119; clear hy119; replace H := Option.bind_eq_some_iff.mp H; obtain ⟨⟨t123, t126, t127⟩, A420, H⟩ := H; try dsimp only at H
                      have A42 := zA A420; clear A420; by_cases c43 : t126 = 1
                      · rw [if_pos c43] at H
                        have c43b0 : (t126 == 1) = true := beq_iff_eq.mpr c43; have c43b1 : (t126 != 1) = false := bne_eq_false_iff_eq.mpr c43; clear c43; by_cases c44 : t127 = 0
                        · rw [if_pos c44] at H
                          have c44b0 : (t127 == 0) = true := beq_iff_eq.mpr c44; have c44b1 : (t127 != 0) = false := bne_eq_false_iff_eq.mpr c44; clear c44; have H' := zA H; clear H; obtain ⟨Ao45, co45, eo45⟩ := Kd.V_slice HO_102000.out; subst eo45; try go_wp2
                          have n0_ := zA (Kd.V_drew HO_102000.out); have n1_ := zA (Kd.R_drew HO_110001.out); have n2_ := zA (Kd.N_drew HO_116000.out); have n3_ := zA (zAq BK101.out); have n4_ := zA (zAq BK109.out); have n5_ := zA (zAq BK115.out); have n6_ := zA (zC HB.out); clear HO_102000; clear HO_110001; clear HO_116000; clear BK101; clear BK109; clear BK115; clear HB; have HO_102000 := n0_; have HO_110001 := n1_; have HO_116000 := n2_; have BK101 := n3_; have BK109 := n4_; have BK115 := n5_; have HB := n6_; clear n0_ n1_ n2_ n3_ n4_ n5_ n6_; have q47 : ((wrap64 (x9_2 + 1)) : Int) ≤ ((l1.length : Int) : Int) := of_decide_eq_true qA; obtain ⟨i047, hi047, _, hsz47, _⟩ := info_parts info166; have hroom47 : l1.length ≤ c1 := HC1.out; have hC47 : Kd.C k166 _ A1 l1.length l1 := HR1.out; have ql47 : (x9_2 : Int) ≤ ((wrap64 (x9_2 + 1)) : Int) := of_decide_eq_true qA; have q047 : (0 : Int) ≤ (x9_2 : Int) := of_decide_eq_true qA; have hcut47 := cut_mid (P := Try.prog) 76 166 .i64 .i64 Try.underlying76 hi047 4 hsz47 A1 l1.length c1 x9_2 (wrap64 (x9_2 + 1)) q047 ql47 q47 hroom47; have hr47 := Kd.C_mid (lo := (x9_2 : Int).toNat) (hi := ((wrap64 (x9_2 + 1)) : Int).toNat) (c := c1) hC47 (by omega) (by omega) hroom47; obtain ⟨A47, hA47⟩ : ∃ Ax_, Ax_ = (if c1 = (x9_2 : Int).toNat then A1 else (A1 : Option Addr).map (·.add ((x9_2 : Int).toNat * 4))) := ⟨_, rfl⟩
                          obtain ⟨c47, hc47⟩ : ∃ cx_, cx_ = c1 - (x9_2 : Int).toNat := ⟨_, rfl⟩
                          have hy47 : y119.length = ((wrap64 (x9_2 + 1)) : Int).toNat - (x9_2 : Int).toNat := (by rw [Ny119.out, zP, zQ] <;> omega)
                          rw [show ((l1).take ((wrap64 (x9_2 + 1)) : Int).toNat).drop (x9_2 : Int).toNat = y119 from Ny119.out.symm] at hr47; replace hr47 : Kd.C k166 _ A47 y119.length y119 := (by rw [hA47]; exact hr47)
                          rw [← hy47, ← hA47, ← hc47] at hcut47; have HR122 := zA hr47; have HC122 := zA (show y119.length ≤ c47 from by rw [hy47, hc47]; exact Nat.sub_le_sub_right (Nat.le_trans (by omega) hroom47) _); clear hr47 hC47 hroom47 hi047 hsz47 hc47; have KY47 := zA hy47; have KA47 := zA hA47; clear hy47 hA47; replace q47 := eq_true q47; refine start_ (n := 15) (S := fun w' => w'.cell? ⟨gb101, 0, none⟩ = some (.slice Ao45 x102000_2.length co45)) (ds := []) #[o0, o0, o0, o0, o0, o0, o0, o0, o0, o0, o0, o0, o0, o0, o0] (by kernel_rfl) rfl rfl ((zF BK101.out 0).trans rfl) (fun hHeld => ?_); refine with_tabW backhaullaw15_BatchWhole.tab12 backhaullaw15_BatchWhole.bits12 (fun HT_ HW_ => ?_); generalize wr.drew = w46 at HO_102000 HO_110001 HO_116000 BK101 BK109 BK115 HB HR122 hHeld ⊢; refine pure_ (i := 1) (N := some 66) #[o0, o1, o0, o0, o0, o0, o0, o0, o0, o0, o0, o0, o0, o0, o0] rfl rfl (any_of HT_.out (by kernel_rfl)) (fun _ _ _ h => h) (Or.inl ⟨by rfl, qy⟩) qz ?_; refine pure_ (i := 2) (N := some 67) #[o0, o1, o1, o0, o0, o0, o0, o0, o0, o0, o0, o0, o0, o0, o0] rfl rfl (any_of HT_.out (by kernel_rfl)) (fun _ _ _ h => h) (Or.inl ⟨by rfl, qy⟩) qz ?_; refine pure_ (i := 3) (N := some 68) #[o0, o1, o1, o1, o0, o0, o0, o0, o0, o0, o0, o0, o0, o0, o0] rfl rfl (any_of HT_.out (by kernel_rfl)) (fun _ _ _ h => h) (Or.inl ⟨by rfl, qy⟩) qz ?_; refine pure_ (i := 4) (N := some 69) #[o0, o1, o1, o1, o1, o0, o0, o0, o0, o0, o0, o0, o0, o0, o0] rfl rfl (any_of HT_.out (by kernel_rfl)) (fun _ _ _ h => h) (Or.inl ⟨by rfl, qy⟩) qz ?_; refine pure_ (i := 5) (N := some 70) #[o0, o1, o1, o1, o1, o1, o0, o0, o0, o0, o0, o0, o0, o0, o0] rfl rfl (any_of HT_.out (by kernel_rfl)) (fun _ _ _ h => h) (Or.inl ⟨by rfl, qy⟩) qz ?_; refine take_ (i := 0) (N := some 65) (v := ?_) (a' := ?_) #[o1, o1, o1, o1, o1, o1, o0, o0, o0, o0, o0, o0, o0, o0, o0] rfl rfl (take_ofW HT_.out HW_.out (by kernel_rfl)) (fun _ _ _ h => h) (Or.inl ⟨by rfl, ?_⟩) hHeld ?_ ?_; rotate_left
                          · intro w' s0
                            go_simp; with_reducible rfl
                          rotate_left
                          · simp only [Act.put, zH, zI, zJ, i64_w, i32_w]
                            rfl
                          refine join_ (σ := Value × Nat) 3 #[o1, o1, o1, o1, o1, o1, o1, o1, o1, o1, o1, o1, o0, o0, o0] (fun s_ => [(71, .tuple #[.agg #[s_.1], .int .i64 t126, .int .i64 t127]), (10, .pointer (some ⟨s_.2, 0, none⟩)), (64, .tuple #[.agg #[s_.1], .int .i64 t126, .int .i64 t127]), (72, .agg #[s_.1]), (73, .int .i64 t126), (74, .int .i64 t127)]) (fun s_ w' => (w'.cell? ⟨gb101, 0, none⟩ = some (.slice Ao45 x102000_2.length co45)) ∧ (Kd.N (Kd.slice 164 k164) 162 w' w.heap.size (fun k_ => (P0_0_ k_ ∨ w.heap.size ≤ k_) ∧ some k_ ≠ (.slice Ao26 t106.length co26 : Value).ownBlock ∧ some k_ ≠ (.slice Ao31 t110.length co31 : Value).ownBlock ∧ k_ ≠ gb101 ∧ k_ ≠ gb109 ∧ k_ ≠ gb115 ∧ k_ ≠ s_.2) s_.1 t123) ∧ (Kd.V (Kd.slice 164 k164) 162 w' w.heap.size (fun k_ => (P0_0_ k_ ∨ w.heap.size ≤ k_) ∧ some k_ ≠ (s_.1 : Value).ownBlock ∧ some k_ ≠ (.slice Ao26 t106.length co26 : Value).ownBlock ∧ some k_ ≠ (.slice Ao31 t110.length co31 : Value).ownBlock ∧ k_ ≠ gb101 ∧ k_ ≠ gb109 ∧ k_ ≠ gb115 ∧ k_ ≠ s_.2) (.slice Ao45 x102000_2.length co45) x102000_2) ∧ (Kd.R k169 169 w' w.heap.size (fun k_ => (w.heap.size ≤ k_)) (.slice Ao26 t106.length co26) t106) ∧ (Kd.N (Kd.slice 164 k164) 162 w' w.heap.size (fun k_ => (P0_0_ k_ ∨ w.heap.size ≤ k_) ∧ some k_ ≠ (s_.1 : Value).ownBlock ∧ some k_ ≠ (.slice Ao26 t106.length co26 : Value).ownBlock ∧ k_ ≠ gb101 ∧ k_ ≠ gb109 ∧ k_ ≠ gb115 ∧ k_ ≠ s_.2) (.slice Ao31 t110.length co31) t110) ∧ (w'.heap[gb101]? = some (.cells #[.slice Ao45 x102000_2.length co45] 75 (0, 0))) ∧ (w'.heap[gb109]? = some (.cells #[.int .i64 t105, .slice Ao26 t106.length co26] 82 (0, 0))) ∧ (w'.heap[gb115]? = some (.cells #[.slice Ao31 t110.length co31] 75 (0, 0))) ∧ (w'.heap[s_.2]? = some (.cells #[.slice none 0 0] 75 (0, 0))) ∧ (w.heap.size ≤ s_.2) ∧ (w.heap.size ≤ s_.2) ∧ (gb101 ≠ s_.2) ∧ (s_.2 ≠ gb101) ∧ (gb109 ≠ s_.2) ∧ (s_.2 ≠ gb109) ∧ (gb115 ≠ s_.2) ∧ (s_.2 ≠ gb115) ∧ (Below w.heap.size w w')) ?_ ?_; rotate_left
                          · intro hCont
                            refine two_ (i := 6) (j := 11) (Ni := some 71) (Nj := some 10) #[o1, o1, o1, o1, o1, o1, o1, o0, o0, o0, o0, o0, o0, o0, o0] #[o1, o1, o1, o1, o1, o1, o0, o0, o0, o0, o0, o1, o0, o0, o0] rfl rfl rfl rfl (two_of HT_.out (by kernel_rfl)) (by decide) (by decide) (fun K hK => ?_) (fun K hK => ?_)
                            · skip
                              refine goes_ Try.func45 (by kernel_rfl) rfl #[.agg #[.slice Ao45 x102000_2.length co45], .slice A47 y119.length c47] (by rfl) rfl rfl qG ?_; with_reducible refine (batch_Apply.calls k2 (fun k_ => ((P0_0_ k_ ∨ w.heap.size ≤ k_) ∧ (some k_ ≠ (.slice Ao26 t106.length co26 : Value).ownBlock ∧ (some k_ ≠ (.slice Ao31 t110.length co31 : Value).ownBlock ∧ (k_ ≠ gb101 ∧ (k_ ≠ gb109 ∧ k_ ≠ gb115)))))) _ _ x102000_2 _ _ y119 t123 t126 t127 _ ?side1 ?side2 ?side3 A42.out).mono ?_
                              (case side1 => exact HO_102000.out)
                              (case side2 => exact qC (Kd.C_below HR122.out HB.out))
                              (case side3 => exact HC122.out)
                              rintro e w48 ⟨v124, rfl, ho0, hb⟩; refine ⟨_, rfl, ?_⟩; have n0_ := zA (Kd.V_elder' (by (with_reducible repeat (first | apply Kd.V_alloc | apply Kd.V_drewN | apply Kd.V_drew)); exact HO_102000.out) (Kd.N_base ho0) hb); have n1_ := zA (Kd.R_below (by (with_reducible repeat (first | apply Kd.R_alloc | apply Kd.R_drewN | apply Kd.R_drew)); exact HO_110001.out) hb); have n2_ := zA (Kd.N_elder' (by (with_reducible repeat (first | apply Kd.N_alloc | apply Kd.N_drewN | apply Kd.N_drew)); exact HO_116000.out) (Kd.N_base ho0) hb); have n3_ := zA (Kd.N_lower (Kd.N_mono (ok' := fun k_ => (P0_0_ k_ ∨ w.heap.size ≤ k_) ∧ some k_ ≠ (.slice Ao26 t106.length co26 : Value).ownBlock ∧ some k_ ≠ (.slice Ao31 t110.length co31 : Value).ownBlock ∧ k_ ≠ gb101 ∧ k_ ≠ gb109 ∧ k_ ≠ gb115) ho0 (fun k_ hk_ => ⟨Or.elim hk_ (fun hs_ => hs_.1) (fun hn_ => (.inr (Nat.le_trans (zW qB) hn_))), Or.elim hk_ (fun hs_ => hs_.2.1) (fun hn_ => (Kd.fresh' (Kd.R_lt (by (with_reducible repeat (first | apply Kd.R_alloc | apply Kd.R_drewN | apply Kd.R_drew)); exact HO_110001.out)) k_ hn_)), Or.elim hk_ (fun hs_ => hs_.2.2.1) (fun hn_ => (Kd.fresh' (Kd.N_lt (by (with_reducible repeat (first | apply Kd.N_alloc | apply Kd.N_drewN | apply Kd.N_drew)); exact HO_116000.out)) k_ hn_)), Or.elim hk_ (fun hs_ => hs_.2.2.2.1) (fun hn_ => (Kd.freshB (g := gb101) (o := .cells #[.slice Ao45 x102000_2.length co45] 75 (0, 0)) (qW BK101.out) k_ hn_)), Or.elim hk_ (fun hs_ => hs_.2.2.2.2.1) (fun hn_ => (Kd.freshB (g := gb109) (o := .cells #[.int .i64 t105, .slice Ao26 t106.length co26] 82 (0, 0)) (qW BK109.out) k_ hn_)), Or.elim hk_ (fun hs_ => hs_.2.2.2.2.2) (fun hn_ => (Kd.freshB (g := gb115) (o := .cells #[.slice Ao31 t110.length co31] 75 (0, 0)) (qW BK115.out) k_ hn_))⟩)) (zW qB)); have n4_ := zA (qX BK101.out hb); have n5_ := zA (qX BK109.out hb); have n6_ := zA (qX BK115.out hb); have n7_ := zA (zV qB hb); clear HO_102000; clear HO_110001; clear HO_116000; clear BK101; clear BK109; clear BK115; clear HB; have HO_102000 := n0_; have HO_110001 := n1_; have HO_116000 := n2_; have HO125 := n3_; have BK101 := n4_; have BK109 := n5_; have BK115 := n6_; have HB := n7_; clear n0_ n1_ n2_ n3_ n4_ n5_ n6_ n7_; (try clear hb); (try clear hb2); (try clear hk); (try clear hi); (try clear ho0)
                              refine hK.out _ _ ((zF BK101.out 0).trans rfl) (fun hHeld => ?_); clear hK K; refine norm_ (a' := ?_) ?_ ?_; rotate_left
                              · show Act.put _ (some 71) _ = _
                                simp only [Act.put, zH, zI, zJ, i64_w, i32_w]; rfl
                              refine pure_ (i := 7) (N := some 64) #[o1, o1, o1, o1, o1, o1, o1, o1, o0, o0, o0, o0, o0, o0, o0] rfl rfl (any_of HT_.out (by kernel_rfl)) (fun _ _ _ h => h) (Or.inl ⟨by rfl, qy⟩) qz ?_; refine pure_ (i := 8) (N := some 72) #[o1, o1, o1, o1, o1, o1, o1, o1, o1, o0, o0, o0, o0, o0, o0] rfl rfl (any_of HT_.out (by kernel_rfl)) (fun _ _ _ h => h) (Or.inl ⟨by rfl, qy⟩) qz ?_; refine pure_ (i := 9) (N := some 73) #[o1, o1, o1, o1, o1, o1, o1, o1, o1, o1, o0, o0, o0, o0, o0] rfl rfl (any_of HT_.out (by kernel_rfl)) (fun _ _ _ h => h) (Or.inl ⟨by rfl, qy⟩) qz ?_; refine pure_ (i := 10) (N := some 74) #[o1, o1, o1, o1, o1, o1, o1, o1, o1, o1, o1, o0, o0, o0, o0] rfl rfl (any_of HT_.out (by kernel_rfl)) (fun _ _ _ h => h) (Or.inl ⟨by rfl, qy⟩) qz ?_; refine one_ (i := 11) (N := some 10) #[o1, o1, o1, o1, o1, o1, o1, o1, o1, o1, o1, o1, o0, o0, o0] rfl rfl (one_of HT_.out (by kernel_rfl)) (by decide) (fun K hK => ?_); refine box_step ?hg (N := 10) ?hd (cs := #[.slice none 0 0]) (t := 75) ?hr ?_; (case hd => rfl); (case hg => rfl); (case hr => first | (go_simp; done) | (go_simp; rfl)); intro gb128 hg w49 hbox hb; have n0_ := zA (Kd.V_below (Kd.V_elderB (by (with_reducible repeat (first | apply Kd.V_alloc | apply Kd.V_drewN | apply Kd.V_drew)); exact HO_102000.out) gb128 (Nat.le_of_eq hg.symm)) hb); have n1_ := zA (Kd.R_below (by (with_reducible repeat (first | apply Kd.R_alloc | apply Kd.R_drewN | apply Kd.R_drew)); exact HO_110001.out) hb); have n2_ := zA (Kd.N_below (Kd.N_elderB (by (with_reducible repeat (first | apply Kd.N_alloc | apply Kd.N_drewN | apply Kd.N_drew)); exact HO_116000.out) gb128 (Nat.le_of_eq hg.symm)) hb); have n3_ := zA (Kd.N_below (Kd.N_elderB (by (with_reducible repeat (first | apply Kd.N_alloc | apply Kd.N_drewN | apply Kd.N_drew)); exact HO125.out) gb128 (Nat.le_of_eq hg.symm)) hb); have n4_ := zA (qX BK101.out hb); have n5_ := zA (qX BK109.out hb); have n6_ := zA (qX BK115.out hb); have n7_ := zA (zV qB hb); have n8_ := zA (hbox); have n9_ := zA ((qS : w.heap.size ≤ gb128)); have n10_ := zA ((qS : w.heap.size ≤ gb128)); have n11_ := zA ((by rw [hg]; exact zLq (qL BK101.out) : gb101 ≠ gb128)); have n12_ := zA ((by rw [hg]; exact zMq (qL BK101.out) : gb128 ≠ gb101)); have n13_ := zA ((by rw [hg]; exact zLq (qL BK109.out) : gb109 ≠ gb128)); have n14_ := zA ((by rw [hg]; exact zMq (qL BK109.out) : gb128 ≠ gb109)); have n15_ := zA ((by rw [hg]; exact zLq (qL BK115.out) : gb115 ≠ gb128)); have n16_ := zA ((by rw [hg]; exact zMq (qL BK115.out) : gb128 ≠ gb115)); clear HO_102000; clear HO_110001; clear HO_116000; clear HO125; clear BK101; clear BK109; clear BK115; clear HB; have HO_102000 := n0_; have HO_110001 := n1_; have HO_116000 := n2_; have HO125 := n3_; have BK101 := n4_; have BK109 := n5_; have BK115 := n6_; have HB := n7_; have BK128 := n8_; have GW128 := n9_; have GE128 := n10_; have NB101_128 := n11_; have NB128_101 := n12_; have NB109_128 := n13_; have NB128_109 := n14_; have NB115_128 := n15_; have NB128_115 := n16_; clear n0_ n1_ n2_ n3_ n4_ n5_ n6_ n7_ n8_ n9_ n10_ n11_ n12_ n13_ n14_ n15_ n16_; clear hb hbox hg
                              refine hK.out _ _ ((zF BK101.out 0).trans rfl) (fun hHeld => ?_); clear hK K; refine norm_ (a' := ?_) ?_ ?_; rotate_left
                              · show Act.put _ (some 10) _ = _
                                simp only [Act.put, zH, zI, zJ, i64_w, i32_w]; rfl
                              exact norm_ (by simp only [putAll, Act.put, zH, zI, zJ]) (hCont (v124, gb128) _ ⟨hHeld, (by (with_reducible repeat (first | apply Kd.N_alloc | apply Kd.N_drewN | apply Kd.N_drew)); exact Kd.N_mono HO125.out (fun _ hk => ⟨hk.1.1, ⟨hk.1.2.1, ⟨hk.1.2.2.1, ⟨hk.1.2.2.2.1, ⟨hk.1.2.2.2.2.1, ⟨hk.1.2.2.2.2.2, hk.2⟩⟩⟩⟩⟩⟩)), (by (with_reducible repeat (first | apply Kd.V_alloc | apply Kd.V_drewN | apply Kd.V_drew)); exact Kd.V_mono HO_102000.out (fun _ hk => ⟨hk.1.1.1, ⟨hk.1.2, ⟨hk.1.1.2.1, ⟨hk.1.1.2.2.1, ⟨hk.1.1.2.2.2.1, ⟨hk.1.1.2.2.2.2.1, ⟨hk.1.1.2.2.2.2.2, hk.2⟩⟩⟩⟩⟩⟩⟩)), (by (with_reducible repeat (first | apply Kd.R_alloc | apply Kd.R_drewN | apply Kd.R_drew)); exact HO_110001.out), (by (with_reducible repeat (first | apply Kd.N_alloc | apply Kd.N_drewN | apply Kd.N_drew)); exact Kd.N_mono HO_116000.out (fun _ hk => ⟨hk.1.1.1, ⟨hk.1.2, ⟨hk.1.1.2.1, ⟨hk.1.1.2.2.1, ⟨hk.1.1.2.2.2.1, ⟨hk.1.1.2.2.2.2, hk.2⟩⟩⟩⟩⟩⟩)), (qW BK101.out), (qW BK109.out), (qW BK115.out), (qW BK128.out), GW128.out, GE128.out, NB101_128.out, NB128_101.out, NB109_128.out, NB128_109.out, NB115_128.out, NB128_115.out, qB⟩)
                            skip; refine box_step ?hg (N := 10) ?hd (cs := #[.slice none 0 0]) (t := 75) ?hr ?_; (case hd => rfl); (case hg => rfl); (case hr => first | (go_simp; done) | (go_simp; rfl)); intro gb128 hg w48 hbox hb; have n0_ := zA (Kd.V_below (Kd.V_elderB (by (with_reducible repeat (first | apply Kd.V_alloc | apply Kd.V_drewN | apply Kd.V_drew)); exact HO_102000.out) gb128 (Nat.le_of_eq hg.symm)) hb); have n1_ := zA (Kd.R_below (by (with_reducible repeat (first | apply Kd.R_alloc | apply Kd.R_drewN | apply Kd.R_drew)); exact HO_110001.out) hb); have n2_ := zA (Kd.N_below (Kd.N_elderB (by (with_reducible repeat (first | apply Kd.N_alloc | apply Kd.N_drewN | apply Kd.N_drew)); exact HO_116000.out) gb128 (Nat.le_of_eq hg.symm)) hb); have n3_ := zA (qX BK101.out hb); have n4_ := zA (qX BK109.out hb); have n5_ := zA (qX BK115.out hb); have n6_ := zA (zV qB hb); have n7_ := zA (hbox); have n8_ := zA ((qS : w.heap.size ≤ gb128)); have n9_ := zA ((qS : w.heap.size ≤ gb128)); have n10_ := zA ((by rw [hg]; exact zLq (qL BK101.out) : gb101 ≠ gb128)); have n11_ := zA ((by rw [hg]; exact zMq (qL BK101.out) : gb128 ≠ gb101)); have n12_ := zA ((by rw [hg]; exact zLq (qL BK109.out) : gb109 ≠ gb128)); have n13_ := zA ((by rw [hg]; exact zMq (qL BK109.out) : gb128 ≠ gb109)); have n14_ := zA ((by rw [hg]; exact zLq (qL BK115.out) : gb115 ≠ gb128)); have n15_ := zA ((by rw [hg]; exact zMq (qL BK115.out) : gb128 ≠ gb115)); clear HO_102000; clear HO_110001; clear HO_116000; clear BK101; clear BK109; clear BK115; clear HB; have HO_102000 := n0_; have HO_110001 := n1_; have HO_116000 := n2_; have BK101 := n3_; have BK109 := n4_; have BK115 := n5_; have HB := n6_; have BK128 := n7_; have GW128 := n8_; have GE128 := n9_; have NB101_128 := n10_; have NB128_101 := n11_; have NB109_128 := n12_; have NB128_109 := n13_; have NB115_128 := n14_; have NB128_115 := n15_; clear n0_ n1_ n2_ n3_ n4_ n5_ n6_ n7_ n8_ n9_ n10_ n11_ n12_ n13_ n14_ n15_; clear hb hbox hg; refine hK.out _ _ ((zF BK101.out 0).trans rfl) (fun hHeld => ?_); clear hK K; refine norm_ (a' := ?_) ?_ ?_; rotate_left
                            · show Act.put _ (some 10) _ = _
                              simp only [Act.put, zH, zI, zJ, i64_w, i32_w]; rfl
                            refine one_ (i := 6) (N := some 71) #[o1, o1, o1, o1, o1, o1, o1, o0, o0, o0, o0, o1, o0, o0, o0] rfl rfl (one_of HT_.out (by kernel_rfl)) (by decide) (fun K hK => ?_); refine goes_ Try.func45 (by kernel_rfl) rfl #[.agg #[.slice Ao45 x102000_2.length co45], .slice A47 y119.length c47] (by rfl) rfl rfl qG ?_; with_reducible refine (batch_Apply.calls k2 (fun k_ => (((P0_0_ k_ ∨ w.heap.size ≤ k_) ∧ (some k_ ≠ (.slice Ao26 t106.length co26 : Value).ownBlock ∧ (some k_ ≠ (.slice Ao31 t110.length co31 : Value).ownBlock ∧ (k_ ≠ gb101 ∧ (k_ ≠ gb109 ∧ k_ ≠ gb115))))) ∧ k_ ≠ gb128)) _ _ x102000_2 _ _ y119 t123 t126 t127 _ ?side1 ?side2 ?side3 A42.out).mono ?_
                            (case side1 => exact HO_102000.out)
                            (case side2 => exact qC (Kd.C_below HR122.out HB.out))
                            (case side3 => exact HC122.out)
                            rintro e w49 ⟨v124, rfl, ho0, hb⟩; refine ⟨_, rfl, ?_⟩; have n0_ := zA (Kd.V_elder' (by (with_reducible repeat (first | apply Kd.V_alloc | apply Kd.V_drewN | apply Kd.V_drew)); exact HO_102000.out) (Kd.N_base ho0) hb); have n1_ := zA (Kd.R_below (by (with_reducible repeat (first | apply Kd.R_alloc | apply Kd.R_drewN | apply Kd.R_drew)); exact HO_110001.out) hb); have n2_ := zA (Kd.N_elder' (by (with_reducible repeat (first | apply Kd.N_alloc | apply Kd.N_drewN | apply Kd.N_drew)); exact HO_116000.out) (Kd.N_base ho0) hb); have n3_ := zA (Kd.N_lower (Kd.N_mono (ok' := fun k_ => (P0_0_ k_ ∨ w.heap.size ≤ k_) ∧ some k_ ≠ (.slice Ao26 t106.length co26 : Value).ownBlock ∧ some k_ ≠ (.slice Ao31 t110.length co31 : Value).ownBlock ∧ k_ ≠ gb101 ∧ k_ ≠ gb109 ∧ k_ ≠ gb115 ∧ k_ ≠ gb128) ho0 (fun k_ hk_ => ⟨Or.elim hk_ (fun hs_ => hs_.1.1) (fun hn_ => (.inr (Nat.le_trans (zW qB) hn_))), Or.elim hk_ (fun hs_ => hs_.1.2.1) (fun hn_ => (Kd.fresh' (Kd.R_lt (by (with_reducible repeat (first | apply Kd.R_alloc | apply Kd.R_drewN | apply Kd.R_drew)); exact HO_110001.out)) k_ hn_)), Or.elim hk_ (fun hs_ => hs_.1.2.2.1) (fun hn_ => (Kd.fresh' (Kd.N_lt (by (with_reducible repeat (first | apply Kd.N_alloc | apply Kd.N_drewN | apply Kd.N_drew)); exact HO_116000.out)) k_ hn_)), Or.elim hk_ (fun hs_ => hs_.1.2.2.2.1) (fun hn_ => (Kd.freshB (g := gb101) (o := .cells #[.slice Ao45 x102000_2.length co45] 75 (0, 0)) (qW BK101.out) k_ hn_)), Or.elim hk_ (fun hs_ => hs_.1.2.2.2.2.1) (fun hn_ => (Kd.freshB (g := gb109) (o := .cells #[.int .i64 t105, .slice Ao26 t106.length co26] 82 (0, 0)) (qW BK109.out) k_ hn_)), Or.elim hk_ (fun hs_ => hs_.1.2.2.2.2.2) (fun hn_ => (Kd.freshB (g := gb115) (o := .cells #[.slice Ao31 t110.length co31] 75 (0, 0)) (qW BK115.out) k_ hn_)), Or.elim hk_ (fun hs_ => hs_.2) (fun hn_ => (Kd.freshB (g := gb128) (o := .cells #[.slice none 0 0] 75 (0, 0)) (qW BK128.out) k_ hn_))⟩)) (zW qB)); have n4_ := zA (qX BK101.out hb); have n5_ := zA (qX BK109.out hb); have n6_ := zA (qX BK115.out hb); have n7_ := zA (qX BK128.out hb); have n8_ := zA (zV qB hb); clear HO_102000; clear HO_110001; clear HO_116000; clear BK101; clear BK109; clear BK115; clear BK128; clear HB; have HO_102000 := n0_; have HO_110001 := n1_; have HO_116000 := n2_; have HO125 := n3_; have BK101 := n4_; have BK109 := n5_; have BK115 := n6_; have BK128 := n7_; have HB := n8_; clear n0_ n1_ n2_ n3_ n4_ n5_ n6_ n7_ n8_; (try clear hb); (try clear hb2); (try clear hk); (try clear hi); (try clear ho0)
                            refine hK.out _ _ ((zF BK101.out 0).trans rfl) (fun hHeld => ?_); clear hK K; refine norm_ (a' := ?_) ?_ ?_; rotate_left
                            · show Act.put _ (some 71) _ = _
                              simp only [Act.put, zH, zI, zJ, i64_w, i32_w]; rfl
                            refine pure_ (i := 7) (N := some 64) #[o1, o1, o1, o1, o1, o1, o1, o1, o0, o0, o0, o1, o0, o0, o0] rfl rfl (any_of HT_.out (by kernel_rfl)) (fun _ _ _ h => h) (Or.inl ⟨by rfl, qy⟩) qz ?_; refine pure_ (i := 8) (N := some 72) #[o1, o1, o1, o1, o1, o1, o1, o1, o1, o0, o0, o1, o0, o0, o0] rfl rfl (any_of HT_.out (by kernel_rfl)) (fun _ _ _ h => h) (Or.inl ⟨by rfl, qy⟩) qz ?_; refine pure_ (i := 9) (N := some 73) #[o1, o1, o1, o1, o1, o1, o1, o1, o1, o1, o0, o1, o0, o0, o0] rfl rfl (any_of HT_.out (by kernel_rfl)) (fun _ _ _ h => h) (Or.inl ⟨by rfl, qy⟩) qz ?_; refine pure_ (i := 10) (N := some 74) #[o1, o1, o1, o1, o1, o1, o1, o1, o1, o1, o1, o1, o0, o0, o0] rfl rfl (any_of HT_.out (by kernel_rfl)) (fun _ _ _ h => h) (Or.inl ⟨by rfl, qy⟩) qz ?_; exact norm_ (by simp only [putAll, Act.put, zH, zI, zJ]) (hCont (v124, gb128) _ ⟨hHeld, (by (with_reducible repeat (first | apply Kd.N_alloc | apply Kd.N_drewN | apply Kd.N_drew)); exact HO125.out), (by (with_reducible repeat (first | apply Kd.V_alloc | apply Kd.V_drewN | apply Kd.V_drew)); exact Kd.V_mono HO_102000.out (fun _ hk => ⟨hk.1.1.1, ⟨hk.2, ⟨hk.1.1.2.1, ⟨hk.1.1.2.2.1, ⟨hk.1.1.2.2.2.1, ⟨hk.1.1.2.2.2.2.1, ⟨hk.1.1.2.2.2.2.2, hk.1.2⟩⟩⟩⟩⟩⟩⟩)), (by (with_reducible repeat (first | apply Kd.R_alloc | apply Kd.R_drewN | apply Kd.R_drew)); exact HO_110001.out), (by (with_reducible repeat (first | apply Kd.N_alloc | apply Kd.N_drewN | apply Kd.N_drew)); exact Kd.N_mono HO_116000.out (fun _ hk => ⟨hk.1.1.1, ⟨hk.2, ⟨hk.1.1.2.1, ⟨hk.1.1.2.2.1, ⟨hk.1.1.2.2.2.1, ⟨hk.1.1.2.2.2.2, hk.1.2⟩⟩⟩⟩⟩⟩)), (qW BK101.out), (qW BK109.out), (qW BK115.out), (qW BK128.out), GW128.out, GE128.out, NB101_128.out, NB128_101.out, NB109_128.out, NB128_109.out, NB115_128.out, NB128_115.out, qB⟩)
                          rintro ⟨v124, gb128⟩ w50 ⟨hS_, h0_, h1_, h2_, h3_, h4_, h5_, h6_, h7_, h8_, h9_, h10_, h11_, h12_, h13_, h14_, h15_, h16_⟩; have n0_ : Aside0 (Kd.N (Kd.slice 164 k164) 162 w50 w.heap.size (fun k_ => (P0_0_ k_ ∨ w.heap.size ≤ k_) ∧ some k_ ≠ (.slice Ao26 t106.length co26 : Value).ownBlock ∧ some k_ ≠ (.slice Ao31 t110.length co31 : Value).ownBlock ∧ k_ ≠ gb101 ∧ k_ ≠ gb109 ∧ k_ ≠ gb115 ∧ k_ ≠ gb128) v124 t123) := ⟨h0_⟩
                          have n1_ : Aside0 (Kd.V (Kd.slice 164 k164) 162 w50 w.heap.size (fun k_ => (P0_0_ k_ ∨ w.heap.size ≤ k_) ∧ some k_ ≠ (v124 : Value).ownBlock ∧ some k_ ≠ (.slice Ao26 t106.length co26 : Value).ownBlock ∧ some k_ ≠ (.slice Ao31 t110.length co31 : Value).ownBlock ∧ k_ ≠ gb101 ∧ k_ ≠ gb109 ∧ k_ ≠ gb115 ∧ k_ ≠ gb128) (.slice Ao45 x102000_2.length co45) x102000_2) := ⟨h1_⟩
                          have n2_ : Aside0 (Kd.R k169 169 w50 w.heap.size (fun k_ => (w.heap.size ≤ k_)) (.slice Ao26 t106.length co26) t106) := ⟨h2_⟩
                          have n3_ : Aside0 (Kd.N (Kd.slice 164 k164) 162 w50 w.heap.size (fun k_ => (P0_0_ k_ ∨ w.heap.size ≤ k_) ∧ some k_ ≠ (v124 : Value).ownBlock ∧ some k_ ≠ (.slice Ao26 t106.length co26 : Value).ownBlock ∧ k_ ≠ gb101 ∧ k_ ≠ gb109 ∧ k_ ≠ gb115 ∧ k_ ≠ gb128) (.slice Ao31 t110.length co31) t110) := ⟨h3_⟩
                          have n4_ : Aside0 (w50.heap[gb101]? = some (.cells #[.slice Ao45 x102000_2.length co45] 75 (0, 0))) := ⟨h4_⟩
                          have n5_ : Aside0 (w50.heap[gb109]? = some (.cells #[.int .i64 t105, .slice Ao26 t106.length co26] 82 (0, 0))) := ⟨h5_⟩
                          have n6_ : Aside0 (w50.heap[gb115]? = some (.cells #[.slice Ao31 t110.length co31] 75 (0, 0))) := ⟨h6_⟩
                          have n7_ : Aside0 (w50.heap[gb128]? = some (.cells #[.slice none 0 0] 75 (0, 0))) := ⟨h7_⟩
                          have n8_ : Aside0 (w.heap.size ≤ gb128) := ⟨h8_⟩
                          have n9_ : Aside0 (w.heap.size ≤ gb128) := ⟨h9_⟩
                          have n10_ : Aside0 (gb101 ≠ gb128) := ⟨h10_⟩
                          have n11_ : Aside0 (gb128 ≠ gb101) := ⟨h11_⟩
                          have n12_ : Aside0 (gb109 ≠ gb128) := ⟨h12_⟩
                          have n13_ : Aside0 (gb128 ≠ gb109) := ⟨h13_⟩
                          have n14_ : Aside0 (gb115 ≠ gb128) := ⟨h14_⟩
                          have n15_ : Aside0 (gb128 ≠ gb115) := ⟨h15_⟩
                          have n16_ : Aside0 (Below w.heap.size w w50) := ⟨h16_⟩
                          clear HO_102000; clear HO_110001; clear HO_116000; clear BK101; clear BK109; clear BK115; clear HB; clear h0_ h1_ h2_ h3_ h4_ h5_ h6_ h7_ h8_ h9_ h10_ h11_ h12_ h13_ h14_ h15_ h16_; have HO125 := n0_; have HO_102000 := n1_; have HO_110001 := n2_; have HO_116000 := n3_; have BK101 := n4_; have BK109 := n5_; have BK115 := n6_; have BK128 := n7_; have GW128 := n8_; have GE128 := n9_; have NB101_128 := n10_; have NB128_101 := n11_; have NB109_128 := n12_; have NB128_109 := n13_; have NB115_128 := n14_; have NB128_115 := n15_; have HB := n16_; clear n0_ n1_ n2_ n3_ n4_ n5_ n6_ n7_ n8_ n9_ n10_ n11_ n12_ n13_ n14_ n15_ n16_; have hHeld : w50.cell? ⟨gb101, 0, none⟩ = some (.slice Ao45 x102000_2.length co45) := hS_; obtain ⟨Ao51, co51, eo51⟩ := Kd.N_slice HO125.out; (first | subst eo51 | (injection eo51 with f1_ f2_ f3_; have f4_ := f1_.symm; have f5_ := f3_.symm; clear f1_ f2_ f3_; subst f4_; subst f5_))
                          refine norm_ (a' := ?_) ?_ ?_; rotate_left
                          · simp only [putAll, Act.put, zH, zI, zJ]
                            rfl
                          refine one_ (i := 12) (N := none) #[o1, o1, o1, o1, o1, o1, o1, o1, o1, o1, o1, o1, o1, o0, o0] rfl rfl (one_of HT_.out (by kernel_rfl)) (by decide) (fun K hK => ?_); have hs52 : w50.cell? ⟨gb128, 0, none⟩ = some (.slice none 0 0) := (zF BK128.out 0).trans rfl; have hfs52 := zG BK128.out 0; have hns52_0 := NB101_128.out; have hns52_1 := NB109_128.out; have hns52_2 := NB115_128.out; have hms52_0 := NB128_101.out; have hms52_1 := NB128_109.out; have hms52_2 := NB128_115.out; refine skip_ (w1 := ?_) (by rfl) rfl ?_ ?_; rotate_left
                          · go_simp
                            rfl
                          refine hK.out _ _ (((cell_far (p := ⟨gb128, _, none⟩) NB101_128.out _).trans (hHeld))) (fun hHeld => ?_); clear hK K; refine pure_ (i := 13) (N := some 11) #[o1, o1, o1, o1, o1, o1, o1, o1, o1, o1, o1, o1, o1, o1, o0] rfl rfl (any_of HT_.out (by kernel_rfl)) (fun _ _ _ h => h) (Or.inl ⟨by rfl, qy⟩) qz ?_; refine pure_ (i := 14) (N := some 12) #[o1, o1, o1, o1, o1, o1, o1, o1, o1, o1, o1, o1, o1, o1, o1] rfl rfl (any_of HT_.out (by kernel_rfl)) (fun _ _ _ h => h) (Or.inl ⟨by rfl, qy⟩) qz ?_; refine done_ (done_of HT_.out (by kernel_rfl)) ?_; have hnb53 := NB128_101.out; have hnc53 := NB101_128.out; have hnb54 := NB128_109.out; have hnc54 := NB109_128.out; have hnb55 := NB128_115.out; have hnc55 := NB115_128.out; have hcz56_0 : w50.cell? ⟨gb128, 0, none⟩ = some (.slice none 0 0) := (zF BK128.out 0).trans rfl; have hfz56_0 := zG BK128.out 0; have hnb57 := NB101_109.out; have hnc57 := NB109_101.out; have hnb58 := NB101_115.out; have hnc58 := NB115_101.out; have hcz59_0 : w50.cell? ⟨gb101, 0, none⟩ = some (.slice Ao45 x102000_2.length co45) := (zF BK101.out 0).trans rfl; have hfz59_0 := zG BK101.out 0; try go_wp2
                          go_roundg k2
                          case measure => have := HJ2.out; have := HK2.out; omega
                          case rel => exact ⟨(wrap64 (x9_2 + 1)), (t123), (.slice Ao51 t123.length co51), (by first | rfl | (simp; done) | (simp [*]; done)), H', ⟨by have := HJ2.out; have := HK2.out; omega⟩, ⟨Kd.N_V (by (with_reducible repeat (first | apply Kd.N_alloc | apply Kd.N_drewN | apply Kd.N_drew)); exact Kd.N_mono (Kd.N_far (p := ⟨gb101, 0, none⟩) (Kd.N_far (p := ⟨gb128, 0, none⟩) (Kd.N_mono (Kd.N_mono HO125.out (fun k_ hk => (⟨hk, hk.2.2.2.2.2.2⟩ : _ ∧ k_ ≠ gb128))) (fun k_ hk => (⟨hk, hk.1.2.2.2.1⟩ : _ ∧ k_ ≠ gb101))) (fun _ hk => hk.1.2) (.slice Ao51 t123.length co51)) (fun _ hk => hk.2) (.slice Ao51 t123.length co51)) (fun _ hk => ⟨hk.1.1.1, ⟨hk.1.1.2.1, ⟨hk.1.1.2.2.1, ⟨hk.1.1.2.2.2.1, ⟨hk.1.1.2.2.2.2.1, hk.1.1.2.2.2.2.2.1⟩⟩⟩⟩⟩))⟩, ⟨by (with_reducible repeat (first | apply Kd.R_alloc | apply Kd.R_drewN | apply Kd.R_drew)); exact Kd.R_mono (Kd.R_far (p := ⟨gb101, 0, none⟩) (Kd.R_far (p := ⟨gb128, 0, none⟩) (Kd.R_types (Kd.R_types HO_110001.out BK128.out (by decide)) BK101.out (by decide)) (fun _ hk => hk.1.2) (.slice Ao51 t123.length co51)) (fun _ hk => hk.2) (.slice Ao51 t123.length co51)) (fun _ hk => hk.1.1)⟩, ⟨by (with_reducible repeat (first | apply Kd.N_alloc | apply Kd.N_drewN | apply Kd.N_drew)); exact Kd.N_mono (Kd.N_far (p := ⟨gb101, 0, none⟩) (Kd.N_far (p := ⟨gb128, 0, none⟩) (Kd.N_mono (Kd.N_mono HO_116000.out (fun k_ hk => (⟨hk, hk.2.2.2.2.2.2⟩ : _ ∧ k_ ≠ gb128))) (fun k_ hk => (⟨hk, hk.1.2.2.2.1⟩ : _ ∧ k_ ≠ gb101))) (fun _ hk => hk.1.2) (.slice Ao51 t123.length co51)) (fun _ hk => hk.2) (.slice Ao51 t123.length co51)) (fun _ hk => ⟨hk.1.1.1, ⟨hk.1.1.2.2.1, ⟨hk.1.1.2.2.2.1, ⟨hk.1.1.2.2.2.2.1, hk.1.1.2.2.2.2.2.1⟩⟩⟩⟩)⟩, ⟨by (with_reducible repeat (first | refine zY ?_ _ | refine zAq ?_ | refine zZ ?_ _)); refine blk_put (cs := #[.slice Ao45 x102000_2.length co45]) ?_ 0 _ rfl; (with_reducible repeat (first | refine zY ?_ _ | refine zAq ?_ | refine zZ ?_ _)); refine blk_far ?_ NB101_128.out _; exact BK101.out⟩, ⟨by (with_reducible repeat (first | refine zY ?_ _ | refine zAq ?_ | refine zZ ?_ _)); refine blk_far ?_ NB109_101.out _; (with_reducible repeat (first | refine zY ?_ _ | refine zAq ?_ | refine zZ ?_ _)); refine blk_far ?_ NB109_128.out _; exact BK109.out⟩, ⟨by (with_reducible repeat (first | refine zY ?_ _ | refine zAq ?_ | refine zZ ?_ _)); refine blk_far ?_ NB115_101.out _; (with_reducible repeat (first | refine zY ?_ _ | refine zAq ?_ | refine zZ ?_ _)); refine blk_far ?_ NB115_128.out _; exact BK115.out⟩, ⟨qB⟩⟩
                        rw [if_neg c44] at H; have c44b0 : (t127 == 0) = false := beq_eq_false_iff_ne.mpr c44; have c44b1 : (t127 != 0) = true := bne_iff_ne.mpr c44; exact absurd H (by simp)
                      rw [if_neg c43] at H; have c43b0 : (t126 == 1) = false := beq_eq_false_iff_ne.mpr c43; have c43b1 : (t126 != 1) = true := bne_iff_ne.mpr c43; exact absurd H (by simp)
                    rw [if_neg c41] at H; exact absurd H (by simp)
                  rw [if_neg c40] at H; exact absurd H (by simp)
                rw [if_neg c39] at H; exact absurd H (by simp)
              rw [if_neg c38] at H; have c38b0 : decide (x9_2 < (l1.length : Int)) = false := zGq c38; clear c38; replace H := Option.bind_eq_some_iff.mp H; obtain ⟨⟨t129, t130⟩, A600, H⟩ := H; try dsimp only at H
              have A60 := zA A600; clear A600; replace H := Option.bind_eq_some_iff.mp H; obtain ⟨t133, A610, H⟩ := H; try dsimp only at H
              have A61 := zA A610; clear A610; by_cases c62 : t133 = true
              · subst c62
                have H1 : (if t113 = (l1.length : Int) then ((batch_Check.f k2 t110).bind fun t134 => (if t134 = 0 then ((backhaullaw15_awake.f).bind fun t135 => (if t135 = true then (some true) else (some false))) else (some false))) else (some false)) = some true := by first | (rw [if_pos rfl] at H; exact H) | rfl
                clear H; have H := H1; clear H1; by_cases c63 : t113 = (l1.length : Int)
                · rw [if_pos c63] at H
                  have c63b0 : (t113 == (l1.length : Int)) = true := beq_iff_eq.mpr c63; have c63b1 : (t113 != (l1.length : Int)) = false := bne_eq_false_iff_eq.mpr c63; clear c63; replace H := Option.bind_eq_some_iff.mp H; obtain ⟨t134, A640, H⟩ := H; try dsimp only at H
                  have A64 := zA A640; clear A640; by_cases c65 : t134 = 0
                  · rw [if_pos c65] at H
                    have c65b0 : (t134 == 0) = true := beq_iff_eq.mpr c65; have c65b1 : (t134 != 0) = false := bne_eq_false_iff_eq.mpr c65; clear c65; replace H := Option.bind_eq_some_iff.mp H; obtain ⟨t135, A660, H⟩ := H; try dsimp only at H
                    have A66 := zA A660; clear A660; by_cases c67 : t135 = true
                    · subst c67
                      have H1 : (some true) = some true := by first | (rw [if_pos rfl] at H; exact H) | rfl
                      clear H; have H := H1; clear H1; clear H; try go_wp2
                      have n0_ := zA (Kd.V_drew HO_102000.out); have n1_ := zA (Kd.R_drew HO_110001.out); have n2_ := zA (Kd.N_drew HO_116000.out); have n3_ := zA (zAq BK101.out); have n4_ := zA (zAq BK109.out); have n5_ := zA (zAq BK115.out); have n6_ := zA (zC HB.out); clear HO_102000; clear HO_110001; clear HO_116000; clear BK101; clear BK109; clear BK115; clear HB; have HO_102000 := n0_; have HO_110001 := n1_; have HO_116000 := n2_; have BK101 := n3_; have BK109 := n4_; have BK115 := n5_; have HB := n6_; clear n0_ n1_ n2_ n3_ n4_ n5_ n6_; refine start_ (n := 19) (S := fun w' => w'.cell? ⟨gb101, 0, none⟩ = some (u102000) ∧ w'.cell? ⟨gb115, 0, none⟩ = some (.slice Ao31 t110.length co31)) (ds := []) #[o0, o0, o0, o0, o0, o0, o0, o0, o0, o0, o0, o0, o0, o0, o0, o0, o0, o0, o0] (by kernel_rfl) rfl rfl ⟨(zF BK101.out 0).trans rfl, (zF BK115.out 0).trans rfl⟩ (fun hHeld => ?_); refine with_tabW backhaullaw15_BatchWhole.tab16 backhaullaw15_BatchWhole.bits16 (fun HT_ HW_ => ?_); generalize wr.drew = w68 at HO_102000 HO_110001 HO_116000 BK101 BK109 BK115 HB hHeld ⊢; refine take_ (i := 0) (N := some 82) (v := ?_) (a' := ?_) #[o1, o0, o0, o0, o0, o0, o0, o0, o0, o0, o0, o0, o0, o0, o0, o0, o0, o0, o0] rfl rfl (take_ofW HT_.out HW_.out (by kernel_rfl)) (fun _ _ _ h => h) (Or.inl ⟨by rfl, ?_⟩) hHeld ?_ ?_; rotate_left
                      · rintro w' ⟨s0, s1⟩
                        go_simp; with_reducible rfl
                      rotate_left
                      · simp only [Act.put, zH, zI, zJ, i64_w, i32_w]
                        rfl
                      refine take_ (i := 1) (N := some 83) (v := ?_) (a' := ?_) #[o1, o1, o0, o0, o0, o0, o0, o0, o0, o0, o0, o0, o0, o0, o0, o0, o0, o0, o0] rfl rfl (take_ofW HT_.out HW_.out (by kernel_rfl)) (fun _ _ _ h => h) (Or.inl ⟨by rfl, ?_⟩) hHeld ?_ ?_; rotate_left
                      · rintro w' ⟨s0, s1⟩
                        go_simp; with_reducible rfl
                      rotate_left
                      · simp only [Act.put, zH, zI, zJ, i64_w, i32_w]
                        rfl
                      refine one_ (i := 2) (N := some 84) #[o1, o1, o1, o0, o0, o0, o0, o0, o0, o0, o0, o0, o0, o0, o0, o0, o0, o0, o0] rfl rfl (one_of HT_.out (by kernel_rfl)) (by decide) (fun K hK => ?_); refine goes_ Try.func44 (by kernel_rfl) rfl #[.agg #[.slice Ao31 t110.length co31]] (by rfl) rfl rfl qG ?_; with_reducible refine (backhaullaw15_of.calls k2 _ _ t110 t129 t130 _ ?side1 ?side2 A60.out).mono ?_
                      (case side1 => repeat (first | exact (Kd.N_reads' HO_116000.out).2.2 | (with_reducible refine Kd.C_alloc ?_ _) | (with_reducible refine Kd.C_drewN ?_ _) | (with_reducible refine Kd.C_drew ?_)))
                      (case side2 => exact (Kd.N_reads' HO_116000.out).2.1)
                      rintro e w69 ⟨v131, rfl, ho0, hb⟩; refine ⟨_, rfl, ?_⟩; have n0_ := zA (Kd.V_elder' (by (with_reducible repeat (first | apply Kd.V_alloc | apply Kd.V_drewN | apply Kd.V_drew)); exact HO_102000.out) (Kd.R_base ho0) hb); have n1_ := zA (Kd.R_elder' (by (with_reducible repeat (first | apply Kd.R_alloc | apply Kd.R_drewN | apply Kd.R_drew)); exact HO_110001.out) (Kd.R_base ho0) hb); have n2_ := zA (Kd.N_elder' (by (with_reducible repeat (first | apply Kd.N_alloc | apply Kd.N_drewN | apply Kd.N_drew)); exact HO_116000.out) (Kd.R_base ho0) hb); have n3_ := zA (Kd.R_lower (Kd.R_new' (Kd.R_newM (M := fun k_ => (w.heap.size ≤ k_)) ho0 (zW qB) (fun k_ h_ => h_)) (Kd.R_lt (by (with_reducible repeat (first | apply Kd.R_alloc | apply Kd.R_drewN | apply Kd.R_drew)); exact HO_110001.out))) (zW qB)); have n4_ := zA (qX BK101.out hb); have n5_ := zA (qX BK109.out hb); have n6_ := zA (qX BK115.out hb); have n7_ := zA (zV qB hb); clear HO_102000; clear HO_110001; clear HO_116000; clear BK101; clear BK109; clear BK115; clear HB; have HO_102000 := n0_; have HO_110001 := n1_; have HO_116000 := n2_; have HO132 := n3_; have BK101 := n4_; have BK109 := n5_; have BK115 := n6_; have HB := n7_; clear n0_ n1_ n2_ n3_ n4_ n5_ n6_ n7_; (try clear hb); (try clear hb2); (try clear hk); (try clear hi); (try clear ho0)
                      obtain ⟨Ao70, co70, eo70⟩ := Kd.V_slice HO_102000.out; (first | subst eo70 | (injection eo70 with f1_ f2_ f3_; have f4_ := f1_.symm; have f5_ := f3_.symm; clear f1_ f2_ f3_; subst f4_; subst f5_))
                      obtain ⟨Ao71, co71, eo71⟩ := Kd.R_slice HO132.out; (first | subst eo71 | (injection eo71 with f1_ f2_ f3_; have f4_ := f1_.symm; have f5_ := f3_.symm; clear f1_ f2_ f3_; subst f4_; subst f5_))
                      refine hK.out _ _ ⟨(zF BK101.out 0).trans rfl, (zF BK115.out 0).trans rfl⟩ (fun hHeld => ?_); clear hK K; refine norm_ (a' := ?_) ?_ ?_; rotate_left
                      · show Act.put _ (some 84) _ = _
                        simp only [Act.put, zH, zI, zJ, i64_w, i32_w]; rfl
                      refine one_ (i := 3) (N := some 85) #[o1, o1, o1, o1, o0, o0, o0, o0, o0, o0, o0, o0, o0, o0, o0, o0, o0, o0, o0] rfl rfl (one_of HT_.out (by kernel_rfl)) (by decide) (fun K hK => ?_); refine goes_ Try.func54 (by kernel_rfl) rfl #[.agg #[.slice Ao70 x102000_2.length co70], .agg #[.int .i64 t129, .slice Ao71 t130.length co71]] (by rfl) rfl rfl qG ?_; with_reducible refine (backhaullaw15_same.calls k2 _ _ x102000_2 t129 _ _ t130 true _ ?side1 ?side2 ?side3 ?side4 A61.out).mono ?_
                      (case side1 => repeat (first | exact (Kd.V_reads' HO_102000.out).2.2 | (with_reducible refine Kd.C_alloc ?_ _) | (with_reducible refine Kd.C_drewN ?_ _) | (with_reducible refine Kd.C_drew ?_)))
                      (case side2 => exact (Kd.V_reads' HO_102000.out).2.1)
                      (case side3 => repeat (first | exact (Kd.R_reads' HO132.out).2.2 | (with_reducible refine Kd.C_alloc ?_ _) | (with_reducible refine Kd.C_drewN ?_ _) | (with_reducible refine Kd.C_drew ?_)))
                      (case side4 => exact (Kd.R_reads' HO132.out).2.1)
                      rintro e w72 ⟨rfl, hb⟩; refine ⟨_, rfl, ?_⟩; have n0_ := zA (Kd.V_below (by (with_reducible repeat (first | apply Kd.V_alloc | apply Kd.V_drewN | apply Kd.V_drew)); exact HO_102000.out) hb); have n1_ := zA (Kd.R_below (by (with_reducible repeat (first | apply Kd.R_alloc | apply Kd.R_drewN | apply Kd.R_drew)); exact HO_110001.out) hb); have n2_ := zA (Kd.N_below (by (with_reducible repeat (first | apply Kd.N_alloc | apply Kd.N_drewN | apply Kd.N_drew)); exact HO_116000.out) hb); have n3_ := zA (Kd.R_below (by (with_reducible repeat (first | apply Kd.R_alloc | apply Kd.R_drewN | apply Kd.R_drew)); exact HO132.out) hb); have n4_ := zA (qX BK101.out hb); have n5_ := zA (qX BK109.out hb); have n6_ := zA (qX BK115.out hb); have n7_ := zA (zV qB hb); clear HO_102000; clear HO_110001; clear HO_116000; clear HO132; clear BK101; clear BK109; clear BK115; clear HB; have HO_102000 := n0_; have HO_110001 := n1_; have HO_116000 := n2_; have HO132 := n3_; have BK101 := n4_; have BK109 := n5_; have BK115 := n6_; have HB := n7_; clear n0_ n1_ n2_ n3_ n4_ n5_ n6_ n7_; (try clear hb); (try clear hb2); (try clear hk); (try clear hi); refine hK.out _ _ ⟨(zF BK101.out 0).trans rfl, (zF BK115.out 0).trans rfl⟩ (fun hHeld => ?_); clear hK K; refine norm_ (a' := ?_) ?_ ?_; rotate_left
                      · show Act.put _ (some 85) _ = _
                        simp only [Act.put, zH, zI, zJ, i64_w, i32_w]; rfl
                      refine pure_ (i := 4) (N := some 86) #[o1, o1, o1, o1, o1, o0, o0, o0, o0, o0, o0, o0, o0, o0, o0, o0, o0, o0, o0] rfl rfl (any_of HT_.out (by kernel_rfl)) (fun _ _ _ h => h) (Or.inl ⟨by rfl, qy⟩) qz ?_; refine pure_ (i := 5) (N := some 87) #[o1, o1, o1, o1, o1, o1, o0, o0, o0, o0, o0, o0, o0, o0, o0, o0, o0, o0, o0] rfl rfl (any_of HT_.out (by kernel_rfl)) (fun _ _ _ h => h) (Or.inl ⟨by rfl, qy⟩) qz ?_; refine pure_ (i := 6) (N := some 88) #[o1, o1, o1, o1, o1, o1, o1, o0, o0, o0, o0, o0, o0, o0, o0, o0, o0, o0, o0] rfl rfl (any_of HT_.out (by kernel_rfl)) (fun _ _ _ h => h) (Or.inl ⟨by rfl, qy⟩) qz ?_; refine pure_ (i := 7) (N := some 89) #[o1, o1, o1, o1, o1, o1, o1, o1, o0, o0, o0, o0, o0, o0, o0, o0, o0, o0, o0] rfl rfl (any_of HT_.out (by kernel_rfl)) (fun _ _ _ h => h) (Or.inl ⟨by rfl, qy⟩) qz ?_; refine pure_ (i := 8) (N := some 90) #[o1, o1, o1, o1, o1, o1, o1, o1, o1, o0, o0, o0, o0, o0, o0, o0, o0, o0, o0] rfl rfl (any_of HT_.out (by kernel_rfl)) (fun _ _ _ h => h) (Or.inl ⟨by rfl, qy⟩) qz ?_; refine pure_ (i := 9) (N := some 91) #[o1, o1, o1, o1, o1, o1, o1, o1, o1, o1, o0, o0, o0, o0, o0, o0, o0, o0, o0] rfl rfl (any_of HT_.out (by kernel_rfl)) (fun _ _ _ h => h) (Or.inl ⟨by rfl, qy⟩) qz ?_; refine pure_ (i := 10) (N := some 92) #[o1, o1, o1, o1, o1, o1, o1, o1, o1, o1, o1, o0, o0, o0, o0, o0, o0, o0, o0] rfl rfl (any_of HT_.out (by kernel_rfl)) (fun _ _ _ h => h) (Or.inl ⟨by rfl, qy⟩) qz ?_; refine take_ (i := 11) (N := some 93) (v := ?_) (a' := ?_) #[o1, o1, o1, o1, o1, o1, o1, o1, o1, o1, o1, o1, o0, o0, o0, o0, o0, o0, o0] rfl rfl (take_ofW HT_.out HW_.out (by kernel_rfl)) (fun _ _ _ h => h) (Or.inl ⟨by rfl, ?_⟩) hHeld ?_ ?_; rotate_left
                      · rintro w' ⟨s0, s1⟩
                        go_simp; with_reducible rfl
                      rotate_left
                      · simp only [Act.put, zH, zI, zJ, i64_w, i32_w]
                        rfl
                      refine one_ (i := 12) (N := some 94) #[o1, o1, o1, o1, o1, o1, o1, o1, o1, o1, o1, o1, o1, o0, o0, o0, o0, o0, o0] rfl rfl (one_of HT_.out (by kernel_rfl)) (by decide) (fun K hK => ?_); refine goes_ Try.func52 (by kernel_rfl) rfl #[.agg #[.slice Ao31 t110.length co31]] (by rfl) rfl rfl qG ?_; with_reducible refine (batch_Check.calls k2 _ _ t110 t134 _ ?side1 ?side2 A64.out).mono ?_
                      (case side1 => repeat (first | exact (Kd.N_reads' HO_116000.out).2.2 | (with_reducible refine Kd.C_alloc ?_ _) | (with_reducible refine Kd.C_drewN ?_ _) | (with_reducible refine Kd.C_drew ?_)))
                      (case side2 => exact (Kd.N_reads' HO_116000.out).2.1)
                      rintro e w73 ⟨rfl, hb⟩; refine ⟨_, rfl, ?_⟩; have n0_ := zA (Kd.V_below (by (with_reducible repeat (first | apply Kd.V_alloc | apply Kd.V_drewN | apply Kd.V_drew)); exact HO_102000.out) hb); have n1_ := zA (Kd.R_below (by (with_reducible repeat (first | apply Kd.R_alloc | apply Kd.R_drewN | apply Kd.R_drew)); exact HO_110001.out) hb); have n2_ := zA (Kd.N_below (by (with_reducible repeat (first | apply Kd.N_alloc | apply Kd.N_drewN | apply Kd.N_drew)); exact HO_116000.out) hb); have n3_ := zA (Kd.R_below (by (with_reducible repeat (first | apply Kd.R_alloc | apply Kd.R_drewN | apply Kd.R_drew)); exact HO132.out) hb); have n4_ := zA (qX BK101.out hb); have n5_ := zA (qX BK109.out hb); have n6_ := zA (qX BK115.out hb); have n7_ := zA (zV qB hb); clear HO_102000; clear HO_110001; clear HO_116000; clear HO132; clear BK101; clear BK109; clear BK115; clear HB; have HO_102000 := n0_; have HO_110001 := n1_; have HO_116000 := n2_; have HO132 := n3_; have BK101 := n4_; have BK109 := n5_; have BK115 := n6_; have HB := n7_; clear n0_ n1_ n2_ n3_ n4_ n5_ n6_ n7_; (try clear hb); (try clear hb2); (try clear hk); (try clear hi); refine hK.out _ _ ⟨(zF BK101.out 0).trans rfl, (zF BK115.out 0).trans rfl⟩ (fun hHeld => ?_); clear hK K; refine norm_ (a' := ?_) ?_ ?_; rotate_left
                      · show Act.put _ (some 94) _ = _
                        simp only [Act.put, zH, zI, zJ, i64_w, i32_w]; rfl
                      refine pure_ (i := 13) (N := some 95) #[o1, o1, o1, o1, o1, o1, o1, o1, o1, o1, o1, o1, o1, o1, o0, o0, o0, o0, o0] rfl rfl (any_of HT_.out (by kernel_rfl)) (fun _ _ _ h => h) (Or.inl ⟨by rfl, qy⟩) qz ?_; refine pure_ (i := 14) (N := some 96) #[o1, o1, o1, o1, o1, o1, o1, o1, o1, o1, o1, o1, o1, o1, o1, o0, o0, o0, o0] rfl rfl (any_of HT_.out (by kernel_rfl)) (fun _ _ _ h => h) (Or.inl ⟨by rfl, qy⟩) qz ?_; refine pure_ (i := 15) (N := some 97) #[o1, o1, o1, o1, o1, o1, o1, o1, o1, o1, o1, o1, o1, o1, o1, o1, o0, o0, o0] rfl rfl (any_of HT_.out (by kernel_rfl)) (fun _ _ _ h => h) (Or.inl ⟨by rfl, qy⟩) qz ?_; refine one_ (i := 16) (N := some 98) #[o1, o1, o1, o1, o1, o1, o1, o1, o1, o1, o1, o1, o1, o1, o1, o1, o1, o0, o0] rfl rfl (one_of HT_.out (by kernel_rfl)) (by decide) (fun K hK => ?_); refine goes_ Try.func43 (by kernel_rfl) rfl #[] (by rfl) rfl rfl qG ?_; with_reducible refine (backhaullaw15_awake.calls  true _ A66.out).mono ?_
                      rintro e w74 ⟨rfl, hb⟩; refine ⟨_, rfl, ?_⟩; have n0_ := zA (Kd.V_below (by (with_reducible repeat (first | apply Kd.V_alloc | apply Kd.V_drewN | apply Kd.V_drew)); exact HO_102000.out) hb); have n1_ := zA (Kd.R_below (by (with_reducible repeat (first | apply Kd.R_alloc | apply Kd.R_drewN | apply Kd.R_drew)); exact HO_110001.out) hb); have n2_ := zA (Kd.N_below (by (with_reducible repeat (first | apply Kd.N_alloc | apply Kd.N_drewN | apply Kd.N_drew)); exact HO_116000.out) hb); have n3_ := zA (Kd.R_below (by (with_reducible repeat (first | apply Kd.R_alloc | apply Kd.R_drewN | apply Kd.R_drew)); exact HO132.out) hb); have n4_ := zA (qX BK101.out hb); have n5_ := zA (qX BK109.out hb); have n6_ := zA (qX BK115.out hb); have n7_ := zA (zV qB hb); clear HO_102000; clear HO_110001; clear HO_116000; clear HO132; clear BK101; clear BK109; clear BK115; clear HB; have HO_102000 := n0_; have HO_110001 := n1_; have HO_116000 := n2_; have HO132 := n3_; have BK101 := n4_; have BK109 := n5_; have BK115 := n6_; have HB := n7_; clear n0_ n1_ n2_ n3_ n4_ n5_ n6_ n7_; (try clear hb); (try clear hb2); (try clear hk); (try clear hi); refine hK.out _ _ ⟨(zF BK101.out 0).trans rfl, (zF BK115.out 0).trans rfl⟩ (fun hHeld => ?_); clear hK K; refine norm_ (a' := ?_) ?_ ?_; rotate_left
                      · show Act.put _ (some 98) _ = _
                        simp only [Act.put, zH, zI, zJ, i64_w, i32_w]; rfl
                      refine pure_ (i := 17) (N := some 99) #[o1, o1, o1, o1, o1, o1, o1, o1, o1, o1, o1, o1, o1, o1, o1, o1, o1, o1, o0] rfl rfl (any_of HT_.out (by kernel_rfl)) (fun _ _ _ h => h) (Or.inl ⟨by rfl, qy⟩) qz ?_; refine pure_ (i := 18) (N := some 4) #[o1, o1, o1, o1, o1, o1, o1, o1, o1, o1, o1, o1, o1, o1, o1, o1, o1, o1, o1] rfl rfl (any_of HT_.out (by kernel_rfl)) (fun _ _ _ h => h) (Or.inl ⟨by rfl, qy⟩) qz ?_; refine done_ (done_of HT_.out (by kernel_rfl)) ?_; try go_wp2
                      go_ret; exact ⟨qE, qB⟩
                    replace c67 := Bool.eq_false_iff.mpr c67; subst c67; have H1 : (some false) = some true := by first | (rw [if_neg (show ¬ (false = true) by decide)] at H; exact H) | rfl
                    clear H; have H := H1; clear H1; exact absurd H (by simp)
                  rw [if_neg c65] at H; have c65b0 : (t134 == 0) = false := beq_eq_false_iff_ne.mpr c65; have c65b1 : (t134 != 0) = true := bne_iff_ne.mpr c65; exact absurd H (by simp)
                rw [if_neg c63] at H; have c63b0 : (t113 == (l1.length : Int)) = false := beq_eq_false_iff_ne.mpr c63; have c63b1 : (t113 != (l1.length : Int)) = true := bne_iff_ne.mpr c63; exact absurd H (by simp)
              replace c62 := Bool.eq_false_iff.mpr c62; subst c62; have H1 : (some false) = some true := by first | (rw [if_neg (show ¬ (false = true) by decide)] at H; exact H) | rfl
              clear H; have H := H1; clear H1; exact absurd H (by simp)
        rw [if_neg c20] at H; have c20b0 : (t114 == 0) = false := beq_eq_false_iff_ne.mpr c20; have c20b1 : (t114 != 0) = true := bne_iff_ne.mpr c20; by_cases c75 : (t110.length : Int) = 0
        · rw [if_pos c75] at H
          have c75b0 : ((t110.length : Int) == 0) = true := beq_iff_eq.mpr c75; have c75b1 : ((t110.length : Int) != 0) = false := bne_eq_false_iff_eq.mpr c75; clear c75; by_cases c76 : t113 ≥ 0
          · rw [if_pos c76] at H
            have c76b0 : decide (0 ≤ t113) = true := zFq c76; clear c76; by_cases c77 : t113 < (l1.length : Int)
            · rw [if_pos c77] at H
              have c77b0 : decide (t113 < (l1.length : Int)) = true := zFq c77; clear c77; replace H := Option.bind_eq_some_iff.mp H; obtain ⟨t117, A780, H⟩ := H; try dsimp only at H
              have A78 := zA A780; clear A780; by_cases c79 : t117 = true
              · subst c79
                have H1 : (some true) = some true := by first | (rw [if_pos rfl] at H; exact H) | rfl
                clear H; have H := H1; clear H1; clear H; have hcz80_0 : wc.cell? ⟨gb101, 0, none⟩ = some (.slice A0_0 l0_0.length c0_0) := (zF BK101.out 0).trans rfl; have hfz80_0 := zG BK101.out 0; go_wp2_with (first | ((with_reducible refine zJq (f := 44) rfl ?_); refine goesL_ (some 23) rfl rfl Try.func44 (by kernel_rfl) rfl #[.agg #[.slice A0_0 l0_0.length c0_0]] rfl qG ?_; (with_reducible refine (backhaullaw15_of.calls kj2 _ _ l0_0 t105 t106 _ ?side1 ?side2 A16.out).mono ?_); (case side1 => repeat (first | exact (Kd.V_reads' HO_102000.out).2.2 | (with_reducible refine Kd.C_alloc ?_ _) | (with_reducible refine Kd.C_drewN ?_ _) | (with_reducible refine Kd.C_drew ?_))); (case side2 => exact (Kd.V_reads' HO_102000.out).2.1); rintro e w81 ⟨v107, rfl, ho0, hb⟩; refine ⟨_, rfl, ?_⟩; have n0_ := zA (Kd.V_elder' (by (with_reducible repeat (first | apply Kd.V_alloc | apply Kd.V_drewN | apply Kd.V_drew)); exact HO_102000.out) (Kd.R_base ho0) hb); have n1_ := zA (Kd.R_lower (Kd.R_newM (M := fun k_ => (w.heap.size ≤ k_)) ho0 (zW qB) (fun k_ h_ => h_)) (zW qB)); have n2_ := zA (qX BK101.out hb); have n3_ := zA (zV qB hb); clear HO_102000 BK101 HB; have HO_102000 := n0_; have HO108 := n1_; have BK101 := n2_; have HB := n3_; clear n0_ n1_ n2_ n3_; (try clear hb); (try clear ho0)) | ((with_reducible refine gate_dst (N := 5) rfl ?_); (try (refine gate_guard (by rfl) ?_; dsimp only)); refine box_event qr (N := 5) qr (cs := #[.int .i64 0, .slice none 0 0]) (t := 82) qg ?_; intro gb109 hg w82 hbox hb; have n0_ := zA (Kd.V_below (Kd.V_elderB (by (with_reducible repeat (first | apply Kd.V_alloc | apply Kd.V_drewN | apply Kd.V_drew)); exact HO_102000.out) gb109 (Nat.le_of_eq hg.symm)) hb); have n1_ := zA (Kd.R_below (by (with_reducible repeat (first | apply Kd.R_alloc | apply Kd.R_drewN | apply Kd.R_drew)); exact HO108.out) hb); have n2_ := zA (qX BK101.out hb); have n3_ := zA (zV qB hb); have n4_ := zA (hbox); have n5_ := zA ((qS : w.heap.size ≤ gb109)); have n6_ := zA ((qS : w.heap.size ≤ gb109)); have n7_ := zA ((by rw [hg]; exact zLq (qL BK101.out) : gb101 ≠ gb109)); have n8_ := zA ((by rw [hg]; exact zMq (qL BK101.out) : gb109 ≠ gb101)); clear HO_102000 HO108 BK101 HB; have HO_102000 := n0_; have HO108 := n1_; have BK101 := n2_; have HB := n3_; have BK109 := n4_; have GW109 := n5_; have GE109 := n6_; have NB101_109 := n7_; have NB109_101 := n8_; clear n0_ n1_ n2_ n3_ n4_ n5_ n6_ n7_ n8_ hb hbox hg; have hnb83 := NB109_101.out; have hnc83 := NB101_109.out; obtain ⟨_, _, _, _⟩ := qc2f BK109.out; obtain ⟨Ao85, co85, eo85⟩ := Kd.R_slice HO108.out; subst eo85) | ((with_reducible refine gate_store (t := 82) (p := 5) rfl ?_); refine store_event (t := 82) (p := 5) (v := ?vo_w86) (w1 := ((w82.setCell ⟨gb109, 0, none⟩ (.int .i64 t105)).setCell ⟨gb109, 1, none⟩ (.slice Ao85 t106.length co85))) ?hg ?ho ?hn ?hr ?_; (case ho => rfl); (case hg => rfl); (case hn => rfl); (case hr => first | (go_simp; done) | (go_simp; rfl)); intro w86 hw; have n0_ : Aside0 (Kd.V (Kd.slice 164 k164) 162 w86 w.heap.size (fun k_ => (P0_0_ k_ ∨ w.heap.size ≤ k_) ∧ some k_ ≠ (.slice Ao85 t106.length co85 : Value).ownBlock ∧ k_ ≠ gb101 ∧ k_ ≠ gb109) (.slice A0_0 l0_0.length c0_0) l0_0) := ⟨(by rw [hw]; exact (by (with_reducible repeat (first | apply Kd.V_alloc | apply Kd.V_drewN | apply Kd.V_drew)); exact Kd.V_mono (Kd.V_far (p := ⟨gb109, 1, none⟩) (Kd.V_far (p := ⟨gb109, 0, none⟩) (Kd.V_mono HO_102000.out (fun k_ hk => (⟨hk, hk.2⟩ : _ ∧ k_ ≠ gb109))) (fun _ hk => hk.2) (.int .i64 t105)) (fun _ hk => hk.2) (.slice Ao85 t106.length co85)) (fun _ hk => ⟨hk.1.1.1.1, ⟨hk.1.1.2, ⟨hk.1.1.1.2, hk.1.2⟩⟩⟩)))⟩; have n1_ : Aside0 (Kd.R k169 169 w86 w.heap.size (fun k_ => (w.heap.size ≤ k_)) (.slice Ao85 t106.length co85) t106) := ⟨(by rw [hw]; exact (by (with_reducible repeat (first | apply Kd.R_alloc | apply Kd.R_drewN | apply Kd.R_drew)); exact Kd.R_mono (Kd.R_far (p := ⟨gb109, 1, none⟩) (Kd.R_far (p := ⟨gb109, 0, none⟩) (Kd.R_types HO108.out BK109.out (by decide)) (fun _ hk => hk.2) (.int .i64 t105)) (fun _ hk => hk.2) (.slice Ao85 t106.length co85)) (fun _ hk => hk.1.1)))⟩; have n2_ : Aside0 (w86.heap[gb101]? = some (.cells #[.slice A0_0 l0_0.length c0_0] 75 (0, 0))) := ⟨(by rw [hw]; exact (qW BK101.out))⟩; have n3_ : Aside0 (w86.heap[gb109]? = some (.cells #[.int .i64 t105, .slice Ao85 t106.length co85] 82 (0, 0))) := ⟨(by rw [hw]; exact (qV BK109.out))⟩; have n4_ : Aside0 (Below w.heap.size w w86) := ⟨(by rw [hw]; exact qB)⟩; clear hw HO_102000 HO108 BK101 BK109 HB; have HO_102000 := n0_; have HO108 := n1_; have BK101 := n2_; have BK109 := n3_; have HB := n4_; clear n0_ n1_ n2_ n3_ n4_; have hcz87_0 : w86.cell? ⟨gb101, 0, none⟩ = some (.slice A0_0 l0_0.length c0_0) := (zF BK101.out 0).trans rfl; have hfz87_0 := zG BK101.out 0) | ((with_reducible refine zJq (f := 45) rfl ?_); refine goesL_ (some 27) rfl rfl Try.func45 (by kernel_rfl) rfl #[.agg #[.slice A0_0 l0_0.length c0_0], .slice A1 l1.length c1] rfl qG ?_; (with_reducible refine (batch_Apply.calls kj2 (fun k_ => ((P0_0_ k_ ∨ w.heap.size ≤ k_) ∧ (some k_ ≠ (.slice Ao85 t106.length co85 : Value).ownBlock ∧ (k_ ≠ gb101 ∧ k_ ≠ gb109)))) _ _ l0_0 _ _ l1 t110 t113 t114 _ ?side1 ?side2 ?side3 A17.out).mono ?_); (case side1 => exact HO_102000.out); (case side2 => exact qC (Kd.C_below HR1.out HB.out)); (case side3 => exact HC1.out); rintro e w88 ⟨v111, rfl, ho0, hb⟩; refine ⟨_, rfl, ?_⟩; have n0_ := zA (Kd.V_elder' (by (with_reducible repeat (first | apply Kd.V_alloc | apply Kd.V_drewN | apply Kd.V_drew)); exact HO_102000.out) (Kd.N_base ho0) hb); have n1_ := zA (Kd.R_below (by (with_reducible repeat (first | apply Kd.R_alloc | apply Kd.R_drewN | apply Kd.R_drew)); exact HO108.out) hb); have n2_ := zA (Kd.N_lower (Kd.N_mono (ok' := fun k_ => (P0_0_ k_ ∨ w.heap.size ≤ k_) ∧ some k_ ≠ (.slice Ao85 t106.length co85 : Value).ownBlock ∧ k_ ≠ gb101 ∧ k_ ≠ gb109) ho0 (fun k_ hk_ => ⟨Or.elim hk_ (fun hs_ => hs_.1) (fun hn_ => (.inr (Nat.le_trans (zW qB) hn_))), Or.elim hk_ (fun hs_ => hs_.2.1) (fun hn_ => (Kd.fresh' (Kd.R_lt (by (with_reducible repeat (first | apply Kd.R_alloc | apply Kd.R_drewN | apply Kd.R_drew)); exact HO108.out)) k_ hn_)), Or.elim hk_ (fun hs_ => hs_.2.2.1) (fun hn_ => (Kd.freshB (g := gb101) (o := .cells #[.slice A0_0 l0_0.length c0_0] 75 (0, 0)) (qW BK101.out) k_ hn_)), Or.elim hk_ (fun hs_ => hs_.2.2.2) (fun hn_ => (Kd.freshB (g := gb109) (o := .cells #[.int .i64 t105, .slice Ao85 t106.length co85] 82 (0, 0)) (qW BK109.out) k_ hn_))⟩)) (zW qB)); have n3_ := zA (qX BK101.out hb); have n4_ := zA (qX BK109.out hb); have n5_ := zA (zV qB hb); clear HO_102000 HO108 BK101 BK109 HB; have HO_102000 := n0_; have HO108 := n1_; have HO112 := n2_; have BK101 := n3_; have BK109 := n4_; have HB := n5_; clear n0_ n1_ n2_ n3_ n4_ n5_; (try clear hb); (try clear ho0)) | ((with_reducible refine gate_dst (N := 6) rfl ?_); (try (refine gate_guard (by rfl) ?_; dsimp only)); refine box_event qr (N := 6) qr (cs := #[.slice none 0 0]) (t := 75) qg ?_; intro gb115 hg w89 hbox hb; have n0_ := zA (Kd.V_below (Kd.V_elderB (by (with_reducible repeat (first | apply Kd.V_alloc | apply Kd.V_drewN | apply Kd.V_drew)); exact HO_102000.out) gb115 (Nat.le_of_eq hg.symm)) hb); have n1_ := zA (Kd.R_below (by (with_reducible repeat (first | apply Kd.R_alloc | apply Kd.R_drewN | apply Kd.R_drew)); exact HO108.out) hb); have n2_ := zA (Kd.N_below (Kd.N_elderB (by (with_reducible repeat (first | apply Kd.N_alloc | apply Kd.N_drewN | apply Kd.N_drew)); exact HO112.out) gb115 (Nat.le_of_eq hg.symm)) hb); have n3_ := zA (qX BK101.out hb); have n4_ := zA (qX BK109.out hb); have n5_ := zA (zV qB hb); have n6_ := zA (hbox); have n7_ := zA ((qS : w.heap.size ≤ gb115)); have n8_ := zA ((qS : w.heap.size ≤ gb115)); have n9_ := zA ((by rw [hg]; exact zLq (qL BK101.out) : gb101 ≠ gb115)); have n10_ := zA ((by rw [hg]; exact zMq (qL BK101.out) : gb115 ≠ gb101)); have n11_ := zA ((by rw [hg]; exact zLq (qL BK109.out) : gb109 ≠ gb115)); have n12_ := zA ((by rw [hg]; exact zMq (qL BK109.out) : gb115 ≠ gb109)); clear HO_102000 HO108 HO112 BK101 BK109 HB; have HO_102000 := n0_; have HO108 := n1_; have HO112 := n2_; have BK101 := n3_; have BK109 := n4_; have HB := n5_; have BK115 := n6_; have GW115 := n7_; have GE115 := n8_; have NB101_115 := n9_; have NB115_101 := n10_; have NB109_115 := n11_; have NB115_109 := n12_; clear n0_ n1_ n2_ n3_ n4_ n5_ n6_ n7_ n8_ n9_ n10_ n11_ n12_ hb hbox hg; obtain ⟨Ao90, co90, eo90⟩ := Kd.N_slice HO112.out; subst eo90; have hnb91 := NB115_101.out; have hnc91 := NB101_115.out; have hnb92 := NB115_109.out; have hnc92 := NB109_115.out; have hcz93_0 : w89.cell? ⟨gb115, 0, none⟩ = some (.slice none 0 0) := (zF BK115.out 0).trans rfl; have hfz93_0 := zG BK115.out 0; have hcz94_0 : w89.cell? ⟨gb101, 0, none⟩ = some (.slice A0_0 l0_0.length c0_0) := (zF BK101.out 0).trans rfl; have hfz94_0 := zG BK101.out 0; obtain ⟨_, _, _, _⟩ := qc2f BK109.out) | ((with_reducible refine zJq (f := 54) rfl ?_); refine goesL_ (some 33) rfl rfl Try.func54 (by kernel_rfl) rfl #[.agg #[.slice A0_0 l0_0.length c0_0], .agg #[.int .i64 t105, .slice Ao85 t106.length co85]] rfl qG ?_; (with_reducible refine (backhaullaw15_same.calls kj2 _ _ l0_0 t105 _ _ t106 true _ ?side1 ?side2 ?side3 ?side4 A18.out).mono ?_); (case side1 => refine (Kd.V_reads' (e := 162) (base := w.heap.size) (ok := fun k_ => ((((P0_0_ k_ ∨ w.heap.size ≤ k_) ∧ (some k_ ≠ (.slice Ao85 t106.length co85 : Value).ownBlock ∧ (k_ ≠ gb101 ∧ k_ ≠ gb109))) ∧ some k_ ≠ (.slice Ao90 t110.length co90 : Value).ownBlock) ∧ k_ ≠ gb115)) (n := l0_0.length) (c := c0_0) ?_).2.2; exact (by (with_reducible repeat (first | apply Kd.V_alloc | apply Kd.V_drewN | apply Kd.V_drew)); exact (Kd.V_mono (Kd.V_far (p := ⟨gb115, 0, none⟩) (Kd.V_mono HO_102000.out (fun k_ hk => (⟨hk, hk.2⟩ : _ ∧ k_ ≠ gb115))) (fun _ hk => hk.2) (.slice Ao90 t110.length co90)) (fun _ h_ => by first | exact h_.1 | (have h2_ := h_.1; simp only [and_assoc, and_left_comm, and_comm] at h2_ ⊢; exact h2_))))); (case side2 => exact (Kd.V_reads' HO_102000.out).2.1); (case side3 => refine (Kd.R_reads' (e := 169) (base := w.heap.size) (ok := fun k_ => (w.heap.size ≤ k_)) (n := t106.length) (c := co85) ?_).2.2; exact (by (with_reducible repeat (first | apply Kd.R_alloc | apply Kd.R_drewN | apply Kd.R_drew)); exact (Kd.R_mono (Kd.R_far (p := ⟨gb115, 0, none⟩) (Kd.R_types HO108.out BK115.out (by decide)) (fun _ hk => hk.2) (.slice Ao90 t110.length co90)) (fun _ h_ => by first | exact h_.1 | (have h2_ := h_.1; simp only [and_assoc, and_left_comm, and_comm] at h2_ ⊢; exact h2_))))); (case side4 => exact (Kd.R_reads' HO108.out).2.1); rintro e w96 ⟨rfl, hb⟩; refine ⟨_, rfl, ?_⟩; have n0_ := zA (Kd.V_below (by (with_reducible repeat (first | apply Kd.V_alloc | apply Kd.V_drewN | apply Kd.V_drew)); exact (Kd.V_mono (Kd.V_far (p := ⟨gb115, 0, none⟩) (Kd.V_mono HO_102000.out (fun k_ hk => (⟨hk, hk.2⟩ : _ ∧ k_ ≠ gb115))) (fun _ hk => hk.2) (.slice Ao90 t110.length co90)) (fun _ h_ => h_.1))) hb); have n1_ := zA (Kd.R_below (by (with_reducible repeat (first | apply Kd.R_alloc | apply Kd.R_drewN | apply Kd.R_drew)); exact (Kd.R_mono (Kd.R_far (p := ⟨gb115, 0, none⟩) (Kd.R_types HO108.out BK115.out (by decide)) (fun _ hk => hk.2) (.slice Ao90 t110.length co90)) (fun _ h_ => h_.1))) hb); have n2_ := zA (Kd.N_below (by (with_reducible repeat (first | apply Kd.N_alloc | apply Kd.N_drewN | apply Kd.N_drew)); exact (Kd.N_mono (Kd.N_far (p := ⟨gb115, 0, none⟩) (Kd.N_mono HO112.out (fun k_ hk => (⟨hk, hk.2⟩ : _ ∧ k_ ≠ gb115))) (fun _ hk => hk.2) (.slice Ao90 t110.length co90)) (fun _ h_ => h_.1))) hb); have n3_ := zA (qX BK101.out hb); have n4_ := zA (qX BK109.out hb); have n5_ := zA (zX (g := gb115) (o := .cells #[.slice Ao90 t110.length co90] 75 (0, 0)) (by (with_reducible repeat (first | refine zY ?_ _ | refine zAq ?_ | refine zZ ?_ _)); refine blk_put (cs := #[.slice none 0 0]) ?_ 0 _ rfl; exact BK115.out) hb); have n6_ := zA (zV qB hb); clear HO_102000 HO108 HO112 BK101 BK109 BK115 HB; have HO_102000 := n0_; have HO108 := n1_; have HO112 := n2_; have BK101 := n3_; have BK109 := n4_; have BK115 := n5_; have HB := n6_; clear n0_ n1_ n2_ n3_ n4_ n5_ n6_; (try clear hb); have hcz97_0 : w96.cell? ⟨gb115, 0, none⟩ = some (.slice Ao90 t110.length co90) := (zF BK115.out 0).trans rfl; have hfz97_0 := zG BK115.out 0) | (go_at_call 43; (with_reducible refine (backhaullaw15_awake.calls  true _ A78.out).mono ?_); rintro e w98 ⟨rfl, hb⟩; have n0_ := zA (Kd.V_below (by (with_reducible repeat (first | apply Kd.V_alloc | apply Kd.V_drewN | apply Kd.V_drew)); exact HO_102000.out) hb); have n1_ := zA (Kd.R_below (by (with_reducible repeat (first | apply Kd.R_alloc | apply Kd.R_drewN | apply Kd.R_drew)); exact HO108.out) hb); have n2_ := zA (Kd.N_below (by (with_reducible repeat (first | apply Kd.N_alloc | apply Kd.N_drewN | apply Kd.N_drew)); exact HO112.out) hb); have n3_ := zA (qX BK101.out hb); have n4_ := zA (qX BK109.out hb); have n5_ := zA (qX BK115.out hb); have n6_ := zA (zV qB hb); clear HO_102000 HO108 HO112 BK101 BK109 BK115 HB; have HO_102000 := n0_; have HO108 := n1_; have HO112 := n2_; have BK101 := n3_; have BK109 := n4_; have BK115 := n5_; have HB := n6_; clear n0_ n1_ n2_ n3_ n4_ n5_ n6_; (try clear hb)))
                go_ret; exact ⟨qE, qB⟩
              replace c79 := Bool.eq_false_iff.mpr c79; subst c79; have H1 : (some false) = some true := by first | (rw [if_neg (show ¬ (false = true) by decide)] at H; exact H) | rfl
              clear H; have H := H1; clear H1; exact absurd H (by simp)
            rw [if_neg c77] at H; have c77b0 : decide (t113 < (l1.length : Int)) = false := zGq c77; clear c77; by_cases c99 : t113 = 0
            · rw [if_pos c99] at H
              have c99b0 : (t113 == 0) = true := beq_iff_eq.mpr c99; have c99b1 : (t113 != 0) = false := bne_eq_false_iff_eq.mpr c99; clear c99; replace H := Option.bind_eq_some_iff.mp H; obtain ⟨t118, A1000, H⟩ := H; try dsimp only at H
              have A100 := zA A1000; clear A1000; by_cases c101 : t118 = true
              · subst c101
                have H1 : (some true) = some true := by first | (rw [if_pos rfl] at H; exact H) | rfl
                clear H; have H := H1; clear H1; clear H; have hcz102_0 : wc.cell? ⟨gb101, 0, none⟩ = some (.slice A0_0 l0_0.length c0_0) := (zF BK101.out 0).trans rfl; have hfz102_0 := zG BK101.out 0; go_wp2_with (first | ((with_reducible refine zJq (f := 44) rfl ?_); refine goesL_ (some 23) rfl rfl Try.func44 (by kernel_rfl) rfl #[.agg #[.slice A0_0 l0_0.length c0_0]] rfl qG ?_; (with_reducible refine (backhaullaw15_of.calls kj2 _ _ l0_0 t105 t106 _ ?side1 ?side2 A16.out).mono ?_); (case side1 => repeat (first | exact (Kd.V_reads' HO_102000.out).2.2 | (with_reducible refine Kd.C_alloc ?_ _) | (with_reducible refine Kd.C_drewN ?_ _) | (with_reducible refine Kd.C_drew ?_))); (case side2 => exact (Kd.V_reads' HO_102000.out).2.1); rintro e w103 ⟨v107, rfl, ho0, hb⟩; refine ⟨_, rfl, ?_⟩; have n0_ := zA (Kd.V_elder' (by (with_reducible repeat (first | apply Kd.V_alloc | apply Kd.V_drewN | apply Kd.V_drew)); exact HO_102000.out) (Kd.R_base ho0) hb); have n1_ := zA (Kd.R_lower (Kd.R_newM (M := fun k_ => (w.heap.size ≤ k_)) ho0 (zW qB) (fun k_ h_ => h_)) (zW qB)); have n2_ := zA (qX BK101.out hb); have n3_ := zA (zV qB hb); clear HO_102000 BK101 HB; have HO_102000 := n0_; have HO108 := n1_; have BK101 := n2_; have HB := n3_; clear n0_ n1_ n2_ n3_; (try clear hb); (try clear ho0)) | ((with_reducible refine gate_dst (N := 5) rfl ?_); (try (refine gate_guard (by rfl) ?_; dsimp only)); refine box_event qr (N := 5) qr (cs := #[.int .i64 0, .slice none 0 0]) (t := 82) qg ?_; intro gb109 hg w104 hbox hb; have n0_ := zA (Kd.V_below (Kd.V_elderB (by (with_reducible repeat (first | apply Kd.V_alloc | apply Kd.V_drewN | apply Kd.V_drew)); exact HO_102000.out) gb109 (Nat.le_of_eq hg.symm)) hb); have n1_ := zA (Kd.R_below (by (with_reducible repeat (first | apply Kd.R_alloc | apply Kd.R_drewN | apply Kd.R_drew)); exact HO108.out) hb); have n2_ := zA (qX BK101.out hb); have n3_ := zA (zV qB hb); have n4_ := zA (hbox); have n5_ := zA ((qS : w.heap.size ≤ gb109)); have n6_ := zA ((qS : w.heap.size ≤ gb109)); have n7_ := zA ((by rw [hg]; exact zLq (qL BK101.out) : gb101 ≠ gb109)); have n8_ := zA ((by rw [hg]; exact zMq (qL BK101.out) : gb109 ≠ gb101)); clear HO_102000 HO108 BK101 HB; have HO_102000 := n0_; have HO108 := n1_; have BK101 := n2_; have HB := n3_; have BK109 := n4_; have GW109 := n5_; have GE109 := n6_; have NB101_109 := n7_; have NB109_101 := n8_; clear n0_ n1_ n2_ n3_ n4_ n5_ n6_ n7_ n8_ hb hbox hg; have hnb105 := NB109_101.out; have hnc105 := NB101_109.out; obtain ⟨_, _, _, _⟩ := qc2f BK109.out; obtain ⟨Ao107, co107, eo107⟩ := Kd.R_slice HO108.out; subst eo107) | ((with_reducible refine gate_store (t := 82) (p := 5) rfl ?_); refine store_event (t := 82) (p := 5) (v := ?vo_w108) (w1 := ((w104.setCell ⟨gb109, 0, none⟩ (.int .i64 t105)).setCell ⟨gb109, 1, none⟩ (.slice Ao107 t106.length co107))) ?hg ?ho ?hn ?hr ?_; (case ho => rfl); (case hg => rfl); (case hn => rfl); (case hr => first | (go_simp; done) | (go_simp; rfl)); intro w108 hw; have n0_ : Aside0 (Kd.V (Kd.slice 164 k164) 162 w108 w.heap.size (fun k_ => (P0_0_ k_ ∨ w.heap.size ≤ k_) ∧ some k_ ≠ (.slice Ao107 t106.length co107 : Value).ownBlock ∧ k_ ≠ gb101 ∧ k_ ≠ gb109) (.slice A0_0 l0_0.length c0_0) l0_0) := ⟨(by rw [hw]; exact (by (with_reducible repeat (first | apply Kd.V_alloc | apply Kd.V_drewN | apply Kd.V_drew)); exact Kd.V_mono (Kd.V_far (p := ⟨gb109, 1, none⟩) (Kd.V_far (p := ⟨gb109, 0, none⟩) (Kd.V_mono HO_102000.out (fun k_ hk => (⟨hk, hk.2⟩ : _ ∧ k_ ≠ gb109))) (fun _ hk => hk.2) (.int .i64 t105)) (fun _ hk => hk.2) (.slice Ao107 t106.length co107)) (fun _ hk => ⟨hk.1.1.1.1, ⟨hk.1.1.2, ⟨hk.1.1.1.2, hk.1.2⟩⟩⟩)))⟩; have n1_ : Aside0 (Kd.R k169 169 w108 w.heap.size (fun k_ => (w.heap.size ≤ k_)) (.slice Ao107 t106.length co107) t106) := ⟨(by rw [hw]; exact (by (with_reducible repeat (first | apply Kd.R_alloc | apply Kd.R_drewN | apply Kd.R_drew)); exact Kd.R_mono (Kd.R_far (p := ⟨gb109, 1, none⟩) (Kd.R_far (p := ⟨gb109, 0, none⟩) (Kd.R_types HO108.out BK109.out (by decide)) (fun _ hk => hk.2) (.int .i64 t105)) (fun _ hk => hk.2) (.slice Ao107 t106.length co107)) (fun _ hk => hk.1.1)))⟩; have n2_ : Aside0 (w108.heap[gb101]? = some (.cells #[.slice A0_0 l0_0.length c0_0] 75 (0, 0))) := ⟨(by rw [hw]; exact (qW BK101.out))⟩; have n3_ : Aside0 (w108.heap[gb109]? = some (.cells #[.int .i64 t105, .slice Ao107 t106.length co107] 82 (0, 0))) := ⟨(by rw [hw]; exact (qV BK109.out))⟩; have n4_ : Aside0 (Below w.heap.size w w108) := ⟨(by rw [hw]; exact qB)⟩; clear hw HO_102000 HO108 BK101 BK109 HB; have HO_102000 := n0_; have HO108 := n1_; have BK101 := n2_; have BK109 := n3_; have HB := n4_; clear n0_ n1_ n2_ n3_ n4_; have hcz109_0 : w108.cell? ⟨gb101, 0, none⟩ = some (.slice A0_0 l0_0.length c0_0) := (zF BK101.out 0).trans rfl; have hfz109_0 := zG BK101.out 0) | ((with_reducible refine zJq (f := 45) rfl ?_); refine goesL_ (some 27) rfl rfl Try.func45 (by kernel_rfl) rfl #[.agg #[.slice A0_0 l0_0.length c0_0], .slice A1 l1.length c1] rfl qG ?_; (with_reducible refine (batch_Apply.calls kj2 (fun k_ => ((P0_0_ k_ ∨ w.heap.size ≤ k_) ∧ (some k_ ≠ (.slice Ao107 t106.length co107 : Value).ownBlock ∧ (k_ ≠ gb101 ∧ k_ ≠ gb109)))) _ _ l0_0 _ _ l1 t110 t113 t114 _ ?side1 ?side2 ?side3 A17.out).mono ?_); (case side1 => exact HO_102000.out); (case side2 => exact qC (Kd.C_below HR1.out HB.out)); (case side3 => exact HC1.out); rintro e w110 ⟨v111, rfl, ho0, hb⟩; refine ⟨_, rfl, ?_⟩; have n0_ := zA (Kd.V_elder' (by (with_reducible repeat (first | apply Kd.V_alloc | apply Kd.V_drewN | apply Kd.V_drew)); exact HO_102000.out) (Kd.N_base ho0) hb); have n1_ := zA (Kd.R_below (by (with_reducible repeat (first | apply Kd.R_alloc | apply Kd.R_drewN | apply Kd.R_drew)); exact HO108.out) hb); have n2_ := zA (Kd.N_lower (Kd.N_mono (ok' := fun k_ => (P0_0_ k_ ∨ w.heap.size ≤ k_) ∧ some k_ ≠ (.slice Ao107 t106.length co107 : Value).ownBlock ∧ k_ ≠ gb101 ∧ k_ ≠ gb109) ho0 (fun k_ hk_ => ⟨Or.elim hk_ (fun hs_ => hs_.1) (fun hn_ => (.inr (Nat.le_trans (zW qB) hn_))), Or.elim hk_ (fun hs_ => hs_.2.1) (fun hn_ => (Kd.fresh' (Kd.R_lt (by (with_reducible repeat (first | apply Kd.R_alloc | apply Kd.R_drewN | apply Kd.R_drew)); exact HO108.out)) k_ hn_)), Or.elim hk_ (fun hs_ => hs_.2.2.1) (fun hn_ => (Kd.freshB (g := gb101) (o := .cells #[.slice A0_0 l0_0.length c0_0] 75 (0, 0)) (qW BK101.out) k_ hn_)), Or.elim hk_ (fun hs_ => hs_.2.2.2) (fun hn_ => (Kd.freshB (g := gb109) (o := .cells #[.int .i64 t105, .slice Ao107 t106.length co107] 82 (0, 0)) (qW BK109.out) k_ hn_))⟩)) (zW qB)); have n3_ := zA (qX BK101.out hb); have n4_ := zA (qX BK109.out hb); have n5_ := zA (zV qB hb); clear HO_102000 HO108 BK101 BK109 HB; have HO_102000 := n0_; have HO108 := n1_; have HO112 := n2_; have BK101 := n3_; have BK109 := n4_; have HB := n5_; clear n0_ n1_ n2_ n3_ n4_ n5_; (try clear hb); (try clear ho0)) | ((with_reducible refine gate_dst (N := 6) rfl ?_); (try (refine gate_guard (by rfl) ?_; dsimp only)); refine box_event qr (N := 6) qr (cs := #[.slice none 0 0]) (t := 75) qg ?_; intro gb115 hg w111 hbox hb; have n0_ := zA (Kd.V_below (Kd.V_elderB (by (with_reducible repeat (first | apply Kd.V_alloc | apply Kd.V_drewN | apply Kd.V_drew)); exact HO_102000.out) gb115 (Nat.le_of_eq hg.symm)) hb); have n1_ := zA (Kd.R_below (by (with_reducible repeat (first | apply Kd.R_alloc | apply Kd.R_drewN | apply Kd.R_drew)); exact HO108.out) hb); have n2_ := zA (Kd.N_below (Kd.N_elderB (by (with_reducible repeat (first | apply Kd.N_alloc | apply Kd.N_drewN | apply Kd.N_drew)); exact HO112.out) gb115 (Nat.le_of_eq hg.symm)) hb); have n3_ := zA (qX BK101.out hb); have n4_ := zA (qX BK109.out hb); have n5_ := zA (zV qB hb); have n6_ := zA (hbox); have n7_ := zA ((qS : w.heap.size ≤ gb115)); have n8_ := zA ((qS : w.heap.size ≤ gb115)); have n9_ := zA ((by rw [hg]; exact zLq (qL BK101.out) : gb101 ≠ gb115)); have n10_ := zA ((by rw [hg]; exact zMq (qL BK101.out) : gb115 ≠ gb101)); have n11_ := zA ((by rw [hg]; exact zLq (qL BK109.out) : gb109 ≠ gb115)); have n12_ := zA ((by rw [hg]; exact zMq (qL BK109.out) : gb115 ≠ gb109)); clear HO_102000 HO108 HO112 BK101 BK109 HB; have HO_102000 := n0_; have HO108 := n1_; have HO112 := n2_; have BK101 := n3_; have BK109 := n4_; have HB := n5_; have BK115 := n6_; have GW115 := n7_; have GE115 := n8_; have NB101_115 := n9_; have NB115_101 := n10_; have NB109_115 := n11_; have NB115_109 := n12_; clear n0_ n1_ n2_ n3_ n4_ n5_ n6_ n7_ n8_ n9_ n10_ n11_ n12_ hb hbox hg; obtain ⟨Ao112, co112, eo112⟩ := Kd.N_slice HO112.out; subst eo112; have hnb113 := NB115_101.out; have hnc113 := NB101_115.out; have hnb114 := NB115_109.out; have hnc114 := NB109_115.out; have hcz115_0 : w111.cell? ⟨gb115, 0, none⟩ = some (.slice none 0 0) := (zF BK115.out 0).trans rfl; have hfz115_0 := zG BK115.out 0; have hcz116_0 : w111.cell? ⟨gb101, 0, none⟩ = some (.slice A0_0 l0_0.length c0_0) := (zF BK101.out 0).trans rfl; have hfz116_0 := zG BK101.out 0; obtain ⟨_, _, _, _⟩ := qc2f BK109.out) | ((with_reducible refine zJq (f := 54) rfl ?_); refine goesL_ (some 33) rfl rfl Try.func54 (by kernel_rfl) rfl #[.agg #[.slice A0_0 l0_0.length c0_0], .agg #[.int .i64 t105, .slice Ao107 t106.length co107]] rfl qG ?_; (with_reducible refine (backhaullaw15_same.calls kj2 _ _ l0_0 t105 _ _ t106 true _ ?side1 ?side2 ?side3 ?side4 A18.out).mono ?_); (case side1 => refine (Kd.V_reads' (e := 162) (base := w.heap.size) (ok := fun k_ => ((((P0_0_ k_ ∨ w.heap.size ≤ k_) ∧ (some k_ ≠ (.slice Ao107 t106.length co107 : Value).ownBlock ∧ (k_ ≠ gb101 ∧ k_ ≠ gb109))) ∧ some k_ ≠ (.slice Ao112 t110.length co112 : Value).ownBlock) ∧ k_ ≠ gb115)) (n := l0_0.length) (c := c0_0) ?_).2.2; exact (by (with_reducible repeat (first | apply Kd.V_alloc | apply Kd.V_drewN | apply Kd.V_drew)); exact (Kd.V_mono (Kd.V_far (p := ⟨gb115, 0, none⟩) (Kd.V_mono HO_102000.out (fun k_ hk => (⟨hk, hk.2⟩ : _ ∧ k_ ≠ gb115))) (fun _ hk => hk.2) (.slice Ao112 t110.length co112)) (fun _ h_ => by first | exact h_.1 | (have h2_ := h_.1; simp only [and_assoc, and_left_comm, and_comm] at h2_ ⊢; exact h2_))))); (case side2 => exact (Kd.V_reads' HO_102000.out).2.1); (case side3 => refine (Kd.R_reads' (e := 169) (base := w.heap.size) (ok := fun k_ => (w.heap.size ≤ k_)) (n := t106.length) (c := co107) ?_).2.2; exact (by (with_reducible repeat (first | apply Kd.R_alloc | apply Kd.R_drewN | apply Kd.R_drew)); exact (Kd.R_mono (Kd.R_far (p := ⟨gb115, 0, none⟩) (Kd.R_types HO108.out BK115.out (by decide)) (fun _ hk => hk.2) (.slice Ao112 t110.length co112)) (fun _ h_ => by first | exact h_.1 | (have h2_ := h_.1; simp only [and_assoc, and_left_comm, and_comm] at h2_ ⊢; exact h2_))))); (case side4 => exact (Kd.R_reads' HO108.out).2.1); rintro e w118 ⟨rfl, hb⟩; refine ⟨_, rfl, ?_⟩; have n0_ := zA (Kd.V_below (by (with_reducible repeat (first | apply Kd.V_alloc | apply Kd.V_drewN | apply Kd.V_drew)); exact (Kd.V_mono (Kd.V_far (p := ⟨gb115, 0, none⟩) (Kd.V_mono HO_102000.out (fun k_ hk => (⟨hk, hk.2⟩ : _ ∧ k_ ≠ gb115))) (fun _ hk => hk.2) (.slice Ao112 t110.length co112)) (fun _ h_ => h_.1))) hb); have n1_ := zA (Kd.R_below (by (with_reducible repeat (first | apply Kd.R_alloc | apply Kd.R_drewN | apply Kd.R_drew)); exact (Kd.R_mono (Kd.R_far (p := ⟨gb115, 0, none⟩) (Kd.R_types HO108.out BK115.out (by decide)) (fun _ hk => hk.2) (.slice Ao112 t110.length co112)) (fun _ h_ => h_.1))) hb); have n2_ := zA (Kd.N_below (by (with_reducible repeat (first | apply Kd.N_alloc | apply Kd.N_drewN | apply Kd.N_drew)); exact (Kd.N_mono (Kd.N_far (p := ⟨gb115, 0, none⟩) (Kd.N_mono HO112.out (fun k_ hk => (⟨hk, hk.2⟩ : _ ∧ k_ ≠ gb115))) (fun _ hk => hk.2) (.slice Ao112 t110.length co112)) (fun _ h_ => h_.1))) hb); have n3_ := zA (qX BK101.out hb); have n4_ := zA (qX BK109.out hb); have n5_ := zA (zX (g := gb115) (o := .cells #[.slice Ao112 t110.length co112] 75 (0, 0)) (by (with_reducible repeat (first | refine zY ?_ _ | refine zAq ?_ | refine zZ ?_ _)); refine blk_put (cs := #[.slice none 0 0]) ?_ 0 _ rfl; exact BK115.out) hb); have n6_ := zA (zV qB hb); clear HO_102000 HO108 HO112 BK101 BK109 BK115 HB; have HO_102000 := n0_; have HO108 := n1_; have HO112 := n2_; have BK101 := n3_; have BK109 := n4_; have BK115 := n5_; have HB := n6_; clear n0_ n1_ n2_ n3_ n4_ n5_ n6_; (try clear hb); have hcz119_0 : w118.cell? ⟨gb115, 0, none⟩ = some (.slice Ao112 t110.length co112) := (zF BK115.out 0).trans rfl; have hfz119_0 := zG BK115.out 0) | (go_at_call 43; (with_reducible refine (backhaullaw15_awake.calls  true _ A100.out).mono ?_); rintro e w120 ⟨rfl, hb⟩; have n0_ := zA (Kd.V_below (by (with_reducible repeat (first | apply Kd.V_alloc | apply Kd.V_drewN | apply Kd.V_drew)); exact HO_102000.out) hb); have n1_ := zA (Kd.R_below (by (with_reducible repeat (first | apply Kd.R_alloc | apply Kd.R_drewN | apply Kd.R_drew)); exact HO108.out) hb); have n2_ := zA (Kd.N_below (by (with_reducible repeat (first | apply Kd.N_alloc | apply Kd.N_drewN | apply Kd.N_drew)); exact HO112.out) hb); have n3_ := zA (qX BK101.out hb); have n4_ := zA (qX BK109.out hb); have n5_ := zA (qX BK115.out hb); have n6_ := zA (zV qB hb); clear HO_102000 HO108 HO112 BK101 BK109 BK115 HB; have HO_102000 := n0_; have HO108 := n1_; have HO112 := n2_; have BK101 := n3_; have BK109 := n4_; have BK115 := n5_; have HB := n6_; clear n0_ n1_ n2_ n3_ n4_ n5_ n6_; (try clear hb)))
                go_ret; exact ⟨qE, qB⟩
              replace c101 := Bool.eq_false_iff.mpr c101; subst c101; have H1 : (some false) = some true := by first | (rw [if_neg (show ¬ (false = true) by decide)] at H; exact H) | rfl
              clear H; have H := H1; clear H1; exact absurd H (by simp)
            rw [if_neg c99] at H; have c99b0 : (t113 == 0) = false := beq_eq_false_iff_ne.mpr c99; have c99b1 : (t113 != 0) = true := bne_iff_ne.mpr c99; exact absurd H (by simp)
          rw [if_neg c76] at H; have c76b0 : decide (0 ≤ t113) = false := zGq c76; clear c76; exact absurd H (by simp)
        rw [if_neg c75] at H; have c75b0 : ((t110.length : Int) == 0) = false := beq_eq_false_iff_ne.mpr c75; have c75b1 : ((t110.length : Int) != 0) = true := bne_iff_ne.mpr c75; have c75b2 : ¬ (t110 = []) := fun h_ => c75 (by rw [h_]; rfl)
        exact absurd H (by simp)
      replace c19 := Bool.eq_false_iff.mpr c19; subst c19; have H1 : (some false) = some true := by first | (rw [if_neg (show ¬ (false = true) by decide)] at H; exact H) | rfl
      clear H; have H := H1; clear H1; exact absurd H (by simp)
def backhaullaw15_BatchWhole.Pure : Prop := ∀ (l0_0 : List (List (S164))) (l1 : List (S166)), (l0_0.length ≤ maxLen ∧ ∀ x ∈ l0_0, (x.length ≤ maxLen ∧ ∀ y ∈ x, ((Lit.int .i64 y.f0).wf = true ∧ y.f1.size ≤ maxLen))) → (l1.length ≤ maxLen ∧ ∀ x ∈ l1, ((Lit.int .i64 x.f0).wf = true ∧ (Lit.int .i64 x.f1).wf = true ∧ (Lit.int .i64 x.f2).wf = true ∧ x.f3.size ≤ maxLen)) → ∃ k, backhaullaw15_BatchWhole.f k l0_0 l1 = some true
end Go.Proofs.Ytdpcgigjlcpofaa.F
set_option linter.unusedVariables false
namespace Go.Proofs.Ytdpcgigjlcpofaa.Q
open Go.RowKit YtdpcgigjlcpofaaW.PrintWords YtdpcgigjlcpofaaW.PrintLast YtdpcgigjlcpofaaW.PrintMore
theorem Ev.ite {α : Type} {c : Prop} [Decidable c] {a b : Nat → Option α} {r : α} (h1 : c → Ev a r) (h2 : ¬ c → Ev b r) : Ev (fun k => if c then a k else b k) r := by
  by_cases h : c
  · simp only [if_pos h]; exact h1 h
  simp only [if_neg h]; exact h2 h
theorem Ev.pos {α : Type} {c : Prop} [Decidable c] {a b : Nat → Option α} {r : α} (h : c) (h1 : Ev a r) : Ev (fun k => if c then a k else b k) r := by
  simp only [if_pos h]; exact h1
theorem Ev.neg {α : Type} {c : Prop} [Decidable c] {a b : Nat → Option α} {r : α} (h : ¬ c) (h1 : Ev b r) : Ev (fun k => if c then a k else b k) r := by
  simp only [if_neg h]; exact h1
theorem Ev.ok {α : Type} {a b : α} (h : a = b) : Ev (fun _ => some a) b := ⟨0, fun _ _ => by rw [h]⟩
theorem Ev.const {α : Type} {o : Option α} {r : α} (h : o = some r) : Ev (fun _ => o) r := ⟨0, fun _ _ => h⟩
theorem Ev.bindc {α β : Type} {o : Option α} {f : Nat → α → Option β} {a : α} {r : β} (h : o = some a) (k : Ev (fun n => f n a) r) : Ev (fun n => o.bind (f n)) r := by
  subst h
  exact k
theorem Ev.eq {α : Type} {g : Nat → Option α} {a b : α} (h : Ev g a) (e : a = b) : Ev g b := e ▸ h
theorem wrap_eq {x : Int} (h0 : -9223372036854775808 ≤ x) (h1 : x ≤ 9223372036854775807) : wrap64 x = x := by
  unfold wrap64; omega
theorem u64_eq {x : Int} (h0 : 0 ≤ x) (h1 : x < 18446744073709551616) : IntKind.u64.wrap x = x := by
  simp [IntKind.wrap, IntKind.signed, IntKind.bits]; omega
theorem countP_split {α : Type} {p : α → Bool} {l : List α} {n : Nat} (hn : n ≤ l.length) (h1 : ∀ j (h : j < l.length), j < n → p l[j] = true) (h2 : ∀ j (h : j < l.length), n ≤ j → p l[j] = false) : l.countP p = n := by
  have e : l = l.take n ++ l.drop n := (List.take_append_drop n l).symm
  have a : (l.take n).countP p = (l.take n).length := by
    rw [List.countP_eq_length]
    intro x hx
    obtain ⟨j, hj, rfl⟩ := List.mem_iff_getElem.1 hx
    rw [List.length_take] at hj
    rw [List.getElem_take]
    exact h1 j (by omega) (by omega)
  have b : (l.drop n).countP p = 0 := by
    rw [List.countP_eq_zero]
    intro x hx
    obtain ⟨j, hj, rfl⟩ := List.mem_iff_getElem.1 hx
    rw [List.length_drop] at hj
    rw [List.getElem_drop, h2 (n + j) (by omega) (by omega)]
    simp
  rw [e, List.countP_append, a, b, List.length_take]
  omega
theorem idxOf_first {α : Type} [BEq α] [LawfulBEq α] {l : List α} {t : α} {i : Nat} (h : i < l.length) (he : l[i] = t) (h1 : ∀ j (h : j < l.length), j < i → l[j] ≠ t) : l.idxOf t = i := by
  unfold List.idxOf
  rw [List.findIdx_eq h]
  exact ⟨by simp [he], fun j hj => by simpa using h1 j (by omega) hj⟩
theorem rd_nat {l : List Int} {i : Nat} (h : i < l.length) : rd l (i : Int) = l[i] := by
  unfold rd; simp [List.getD_eq_getElem?_getD, h]
theorem drop_cons {α : Type} {l : List α} {i : Nat} (h : i < l.length) : l.drop i = l[i] :: l.drop (i + 1) := List.drop_eq_getElem_cons h
end Go.Proofs.Ytdpcgigjlcpofaa.Q
namespace Go.Proofs.Ytdpcgigjlcpofaa.Q
open Go.RowKit Ytdpcgigjlcpofaa.F YtdpcgigjlcpofaaW.PrintWords YtdpcgigjlcpofaaW.PrintLast YtdpcgigjlcpofaaW.PrintMore
def rising (last : Int) : List Int → Int
  | [] => 0
  | x :: xs => if x < 1 ∨ x > 999999 then 31 else if x ≤ last then 32 else rising x xs
theorem rows_Rising_l0 {l : List Int} (hl : l.length < 9223372036854775807) (d : Nat) : ∀ (i : Nat) (last : Int), l.length - i = d → i ≤ l.length →
    Ev (fun k => rows_Rising.l0 k last l (l.length : Int) (i : Int)) (rising last (l.drop i)) := by
  induction d with
  | zero =>
    intro i last hd hi
    refine Ev.step (fun k => by simp only [rows_Rising.l0]; rfl) ?_
    refine Ev.neg (by omega) (Ev.ok ?_)
    rw [List.drop_eq_nil_of_le (by omega)]; rfl
  | succ d ih =>
    intro i last hd hi
    have h : i < l.length := by omega
    refine Ev.step (fun k => by simp only [rows_Rising.l0]; rfl) ?_
    refine Ev.pos (by omega) (Ev.pos (by omega) (Ev.pos (by omega) ?_))
    rw [drop_cons h, rd_nat h]
    have hj : ∀ b : Bool, (b = true ↔ (l[i] < 1 ∨ l[i] > 999999)) → Ev (fun k => rows_Rising.j1 k last l[i] l (l.length : Int) (i : Int) b) (rising last (l[i] :: l.drop (i + 1))) := by
      intro b hb
      refine Ev.step (fun k => by simp only [rows_Rising.j1]; rfl) ?_
      simp only [rising]
      refine Ev.ite (fun h1 => ?_) (fun h1 => ?_)
      · rw [if_pos (hb.1 h1)]; exact Ev.ok rfl
      rw [if_neg (fun h2 => h1 (hb.2 h2))]
      refine Ev.ite (fun h2 => ?_) (fun h2 => ?_)
      · rw [if_pos h2]; exact Ev.ok rfl
      rw [if_neg h2, wrap_eq (by omega) (by omega)]
      exact ih (i + 1) l[i] (by omega) (by omega)
    refine Ev.ite (fun h1 => hj true (by simp [h1])) (fun h1 => hj _ (by simp; omega))
theorem rows_Rising_f {l : List Int} (hl : l.length < 9223372036854775807) : Ev (fun k => rows_Rising.f k l) (rising 0 l) := by
  unfold rows_Rising.f
  exact rows_Rising_l0 hl l.length 0 0 (by omega) (by omega)
def find (l : List Int) (id : Int) : Int × Bool := if id ∈ l then ((l.idxOf id : Int), true) else (if rising 0 l = 0 then (l.countP (fun x => decide (x < id)) : Int) else l.length, false)
theorem rising_zero {last : Int} {l : List Int} (h : rising last l = 0) : (∀ x ∈ l, last < x ∧ 1 ≤ x ∧ x ≤ 999999) ∧ l.Pairwise (· < ·) := by
  induction l generalizing last with
  | nil => simp
  | cons x xs ih =>
    simp only [rising] at h
    split at h
    · cases h
    split at h
    · cases h
    obtain ⟨a, b⟩ := ih h
    refine ⟨fun y hy => ?_, List.pairwise_cons.2 ⟨fun y hy => (a y hy).1, b⟩⟩
    rcases List.mem_cons.1 hy with rfl | hy
    · omega
    have := a y hy; omega
theorem rising_of {last : Int} {l : List Int} (h1 : ∀ x ∈ l, last < x ∧ 1 ≤ x ∧ x ≤ 999999) (h2 : l.Pairwise (· < ·)) : rising last l = 0 := by
  induction l generalizing last with
  | nil => rfl
  | cons x xs ih =>
    have hx := h1 x List.mem_cons_self
    obtain ⟨a, b⟩ := List.pairwise_cons.1 h2
    simp only [rising]
    rw [if_neg (by omega), if_neg (by omega)]
    exact ih (fun y hy => ⟨a y hy, (h1 y (List.mem_cons_of_mem _ hy)).2⟩) b
theorem sorted_get {l : List Int} (h : l.Pairwise (· < ·)) {i j : Nat} (hj : j < l.length) (hij : i < j) : l[i]'(by omega) < l[j] := List.pairwise_iff_getElem.1 h i j _ hj hij
theorem bs_l0 {l : List Int} {t : Int} (hl : l.length < 4611686018427387904) (hs : l.Pairwise (· < ·)) (d : Nat) : ∀ (lo hi : Nat), hi - lo = d → lo ≤ hi → hi ≤ l.length →
    (∀ j (h : j < l.length), j < lo → l[j] < t) → (∀ j (h : j < l.length), hi ≤ j → ¬ l[j] < t) →
    Ev (fun k => slices_BinarySearch_int_int.l0 k l t (l.length : Int) (lo : Int) (hi : Int)) ((l.countP (fun x => decide (x < t)) : Int), decide (t ∈ l)) := by
  induction d using Nat.strongRecOn with
  | _ d ih =>
    intro lo hi hd hlo hhi h1 h2
    refine Ev.step (fun k => by simp only [slices_BinarySearch_int_int.l0]; rfl) ?_
    by_cases hlt : lo < hi
    · have hw : wrap64 ((IntKind.u64.wrap (wrap64 ((lo : Int) + (hi : Int)))) / 2) = (((lo + hi) / 2 : Nat) : Int) := by
        rw [wrap_eq (x := (lo : Int) + (hi : Int)) (by omega) (by omega), u64_eq (x := (lo : Int) + (hi : Int)) (by omega) (by omega), wrap_eq (x := ((lo : Int) + (hi : Int)) / 2) (by omega) (by omega)]; omega
      have hm : (lo + hi) / 2 < l.length := by omega
      rw [hw]
      refine Ev.pos (by omega) (Ev.pos (by omega) (Ev.pos (by omega) ?_))
      rw [rd_nat hm]
      refine Ev.bindc (a := decide (l[(lo + hi) / 2] < t)) (by simp [cmp_Less_int.f, cmp_isNaN_int.f]) ?_
      refine Ev.ite (fun hc => ?_) (fun hc => ?_)
      · have hc' : l[(lo + hi) / 2] < t := by simpa using hc
        rw [wrap_eq (by omega) (by omega)]
        refine ih (hi - ((lo + hi) / 2 + 1)) (by omega) ((lo + hi) / 2 + 1) hi rfl (by omega) hhi (fun j hj hjl => ?_) h2
        rcases Nat.lt_or_ge j ((lo + hi) / 2) with hlt2 | hge
        · have := sorted_get hs hm hlt2; omega
        have : j = (lo + hi) / 2 := by omega
        subst this; exact hc'
      have hc' : ¬ l[(lo + hi) / 2] < t := by simpa using hc
      refine ih ((lo + hi) / 2 - lo) (by omega) lo ((lo + hi) / 2) rfl (by omega) (by omega) h1 (fun j hj hjl => ?_)
      rcases Nat.lt_or_ge ((lo + hi) / 2) j with hlt2 | hge
      · have := sorted_get hs hj hlt2; omega
      have : j = (lo + hi) / 2 := by omega
      subst this; exact hc'
    have he : lo = hi := by omega
    subst he
    have hcount : l.countP (fun x => decide (x < t)) = lo := countP_split hhi (fun j hj hjl => by simpa using h1 j hj hjl) (fun j hj hjl => by simpa using h2 j hj hjl)
    rw [hcount]
    refine Ev.neg (by omega) ?_
    refine Ev.ite (fun hc => ?_) (fun hc => ?_)
    · have hlo' : lo < l.length := by omega
      refine Ev.pos (by omega) (Ev.pos (by omega) ?_)
      rw [rd_nat hlo']
      refine Ev.ite (fun he => ?_) (fun he => ?_)
      · refine Ev.ok ?_
        have : t ∈ l := he ▸ List.getElem_mem hlo'
        simp [this]
      refine Ev.bindc (a := false) (by simp [slices_isNaN_int.f]) ?_
      refine Ev.neg (by simp) (Ev.ok ?_)
      have : ¬ t ∈ l := by
        intro hmem
        obtain ⟨j, hj, hjt⟩ := List.mem_iff_getElem.1 hmem
        rcases Nat.lt_trichotomy j lo with h | h | h
        · have := h1 j hj h; omega
        · subst h; exact he hjt
        have := sorted_get hs hj h; have := h2 lo hlo' (Nat.le_refl _); omega
      simp [this]
    refine Ev.ok ?_
    have : ¬ t ∈ l := by
      intro hmem
      obtain ⟨j, hj, hjt⟩ := List.mem_iff_getElem.1 hmem
      have := h1 j hj (by omega); omega
    simp [this]
theorem bs_f {l : List Int} {t : Int} (hl : l.length < 4611686018427387904) (hs : l.Pairwise (· < ·)) :
    Ev (fun k => slices_BinarySearch_int_int.f k l t) ((l.countP (fun x => decide (x < t)) : Int), decide (t ∈ l)) := by
  unfold slices_BinarySearch_int_int.f
  exact bs_l0 hl hs l.length 0 l.length (by omega) (by omega) (by omega) (fun j hj h => by omega) (fun j hj h => by omega)
theorem index_l0 {l : List Int} {t : Int} (hl : l.length < 9223372036854775807) (d : Nat) : ∀ (i : Nat), l.length - i = d → i ≤ l.length → (∀ j (h : j < l.length), j < i → l[j] ≠ t) →
    Ev (fun k => slices_Index_int_int.l0 k l t (l.length : Int) (i : Int)) (if t ∈ l then (l.idxOf t : Int) else -1) := by
  induction d with
  | zero =>
    intro i hd hi h1
    refine Ev.step (fun k => by simp only [slices_Index_int_int.l0]; rfl) ?_
    refine Ev.neg (by omega) (Ev.ok ?_)
    have : ¬ t ∈ l := by
      intro hmem
      obtain ⟨j, hj, hjt⟩ := List.mem_iff_getElem.1 hmem
      exact h1 j hj (by omega) hjt
    rw [if_neg this]
  | succ d ih =>
    intro i hd hi h1
    have h : i < l.length := by omega
    refine Ev.step (fun k => by simp only [slices_Index_int_int.l0]; rfl) ?_
    refine Ev.pos (by omega) (Ev.pos (by omega) (Ev.pos (by omega) ?_))
    rw [rd_nat h]
    refine Ev.ite (fun he => Ev.ok ?_) (fun he => ?_)
    · rw [if_pos (he ▸ List.getElem_mem h)]
      rw [idxOf_first h he.symm h1]
    rw [wrap_eq (by omega) (by omega)]
    exact ih (i + 1) (by omega) (by omega) (fun j hj hjl => by
      rcases Nat.lt_or_ge j i with h2 | h2
      · exact h1 j hj h2
      have : j = i := by omega
      subst this; exact fun e => he e.symm)
theorem index_f {l : List Int} {t : Int} (hl : l.length < 9223372036854775807) : Ev (fun k => slices_Index_int_int.f k l t) (if t ∈ l then (l.idxOf t : Int) else -1) := by
  unfold slices_Index_int_int.f
  exact index_l0 hl l.length 0 (by omega) (by omega) (fun j hj h => by omega)
theorem idxOf_sorted {l : List Int} {t : Int} (hs : l.Pairwise (· < ·)) (hm : t ∈ l) : l.idxOf t = l.countP (fun x => decide (x < t)) := by
  obtain ⟨i, hi, he⟩ := List.mem_iff_getElem.1 hm
  have h1 : ∀ j (h : j < l.length), j < i → l[j] < t := fun j hj h => he ▸ sorted_get hs hi h
  rw [idxOf_first hi he (fun j hj h => by have := h1 j hj h; omega)]
  refine (countP_split (by omega) (fun j hj h => by simpa using h1 j hj h) (fun j hj h => ?_)).symm
  have : t ≤ l[j] := by
    rcases Nat.lt_or_ge i j with h2 | h2
    · have := sorted_get hs hj h2; omega
    have : j = i := by omega
    subst this; omega
  simpa using this
theorem rows_Find_f {l : List Int} {id : Int} (hl : l.length < 4611686018427387904) : Ev (fun k => rows_Find.f k l id) (find l id) := by
  unfold rows_Find.f find
  refine Ev.bind (rows_Rising_f (by omega)) (Ev.ite (fun h => ?_) (fun h => ?_))
  · have hs := (rising_zero h).2
    refine Ev.bind (bs_f (by omega) hs) (Ev.ok ?_)
    by_cases hm : id ∈ l
    · simp [hm, idxOf_sorted hs hm]
    simp [hm, h]
  refine Ev.bind (index_f (by omega)) ?_
  by_cases hm : id ∈ l
  · rw [if_pos hm, if_pos hm]
    refine Ev.pos (by omega) (Ev.ok rfl)
  rw [if_neg hm, if_neg hm, if_neg h]
  exact Ev.neg (by omega) (Ev.ok rfl)
end Go.Proofs.Ytdpcgigjlcpofaa.Q
set_option linter.unusedSimpArgs false
namespace Go.Proofs.Ytdpcgigjlcpofaa.Q
open Go.RowKit Ytdpcgigjlcpofaa.F YtdpcgigjlcpofaaX YtdpcgigjlcpofaaW.PrintWords YtdpcgigjlcpofaaW.PrintLast YtdpcgigjlcpofaaW.PrintMore
abbrev RwT := S164
abbrev CeT := S169
theorem ce_ext {p q : CeT} (h0 : p.f0 = q.f0) (h1 : p.f1 = q.f1) (h2 : p.f2 = q.f2) : p = q := by
  cases p; cases q
  simp only at h0 h1 h2
  rw [h0, h1, h2]
def idsT (l : List RwT) : List Int := l.map fun r => r.f0
def ltR (p q : RwT) : Prop := p.f0 < q.f0
def sortT (l : List RwT) : Prop := l.Pairwise ltR
theorem mem_ids {l : List RwT} {id : Int} : id ∈ idsT l ↔ ∃ r ∈ l, r.f0 = id := by unfold idsT; rw [List.mem_map]
theorem sort_one {l : List RwT} (h : sortT l) {p q : RwT} (hp : p ∈ l) (hq : q ∈ l) (e : p.f0 = q.f0) : p = q := by
  obtain ⟨i, hi, rfl⟩ := List.mem_iff_getElem.1 hp
  obtain ⟨j, hj, rfl⟩ := List.mem_iff_getElem.1 hq
  rcases Nat.lt_trichotomy i j with g | g | g
  · have : l[i].f0 < l[j].f0 := List.pairwise_iff_getElem.1 h i j hi hj g
    omega
  · subst g; rfl
  have : l[j].f0 < l[i].f0 := List.pairwise_iff_getElem.1 h j i hj hi g
  omega
def posT (l : List RwT) (id : Int) : Nat := (idsT l).countP fun x => decide (x < id)
theorem sort_ids {l : List RwT} : sortT l ↔ (idsT l).Pairwise (· < ·) := by
  unfold sortT idsT
  rw [List.pairwise_map]
  exact Iff.rfl
theorem pos_of {A B : List RwT} {id : Int} (hA : ∀ r ∈ A, r.f0 < id) (hB : ∀ r ∈ B, id ≤ r.f0) : posT (A ++ B) id = A.length := by
  unfold posT idsT
  rw [List.map_append, List.countP_append]
  have a : (A.map fun r : RwT => r.f0).countP (fun x => decide (x < id)) = A.length := by
    have := List.countP_eq_length (p := fun x => decide (x < id)) (l := A.map fun r : RwT => r.f0)
    rw [this.2 (fun x hx => ?_), List.length_map]
    obtain ⟨r, hr, rfl⟩ := List.mem_map.1 hx
    exact decide_eq_true (hA r hr)
  have b : (B.map fun r : RwT => r.f0).countP (fun x => decide (x < id)) = 0 := by
    rw [List.countP_eq_zero]
    intro x hx
    obtain ⟨r, hr, rfl⟩ := List.mem_map.1 hx
    have := hB r hr
    simp
    omega
  rw [a, b]
  omega
theorem split_T : ∀ {l : List RwT} (h : sortT l) (id : Int), ∃ A B, l = A ++ B ∧ (∀ r ∈ A, r.f0 < id) ∧ ∀ r ∈ B, id ≤ r.f0
  | [], _, _ => ⟨[], [], rfl, by simp, by simp⟩
  | p :: l, h, id => by
    obtain ⟨h1, h2⟩ := List.pairwise_cons.1 h
    by_cases c : p.f0 < id
    · obtain ⟨A, B, rfl, hA, hB⟩ := split_T (l := l) h2 id
      refine ⟨p :: A, B, rfl, fun r hr => ?_, hB⟩
      rcases List.mem_cons.1 hr with rfl | hr
      · exact c
      exact hA r hr
    refine ⟨[], p :: l, rfl, by simp, fun r hr => ?_⟩
    rcases List.mem_cons.1 hr with rfl | hr
    · omega
    have : p.f0 < r.f0 := h1 r hr
    omega
def putT (l : List RwT) (r : RwT) : List RwT := l.take (posT l r.f0) ++ r :: l.drop (posT l r.f0)
def setT (l : List RwT) (r : RwT) : List RwT := l.take (posT l r.f0) ++ r :: l.drop (posT l r.f0 + 1)
def cutT (l : List RwT) (id : Int) : List RwT := l.take (posT l id) ++ l.drop (posT l id + 1)
theorem split_out {l : List RwT} (h : sortT l) {id : Int} (hn : id ∉ idsT l) : ∃ A B, l = A ++ B ∧ posT l id = A.length ∧ (∀ r ∈ A, r.f0 < id) ∧ ∀ r ∈ B, id < r.f0 := by
  obtain ⟨A, B, rfl, hA, hB⟩ := split_T h id
  refine ⟨A, B, rfl, pos_of hA hB, hA, fun r hr => ?_⟩
  have h1 := hB r hr
  have h2 : r.f0 ≠ id := fun e => hn (mem_ids.2 ⟨r, List.mem_append.2 (.inr hr), e⟩)
  omega
theorem split_in {l : List RwT} (h : sortT l) {id : Int} (hm : id ∈ idsT l) : ∃ A r B, l = A ++ r :: B ∧ r.f0 = id ∧ posT l id = A.length ∧ (∀ r ∈ A, r.f0 < id) ∧ ∀ r ∈ B, id < r.f0 := by
  obtain ⟨A, B, rfl, hA, hB⟩ := split_T h id
  have hp := pos_of hA hB
  obtain ⟨r, hr, e⟩ := mem_ids.1 hm
  cases B with
  | nil =>
    rw [List.append_nil] at hr
    have := hA r hr
    omega
  | cons p B =>
    have h2 := List.pairwise_cons.1 (List.pairwise_append.1 h).2.1
    have e2 : p.f0 = id := by
      rcases List.mem_append.1 hr with hr | hr
      · have := hA r hr
        omega
      rcases List.mem_cons.1 hr with rfl | hr
      · exact e
      have g1 : p.f0 < r.f0 := h2.1 r hr
      have g2 := hB p List.mem_cons_self
      omega
    exact ⟨A, p, B, rfl, e2, hp, hA, fun r hr => by have : p.f0 < r.f0 := h2.1 r hr; omega⟩
theorem put_split {A B : List RwT} {r : RwT} (e : posT (A ++ B) r.f0 = A.length) : putT (A ++ B) r = A ++ r :: B := by
  unfold putT
  rw [e, List.take_left, List.drop_left]
theorem set_split {A B : List RwT} {r x : RwT} (e : posT (A ++ x :: B) r.f0 = A.length) : setT (A ++ x :: B) r = A ++ r :: B := by
  unfold setT
  rw [e, List.take_left, ← List.drop_drop, List.drop_left]
  rfl
theorem cut_split {A B : List RwT} {x : RwT} {id : Int} (e : posT (A ++ x :: B) id = A.length) : cutT (A ++ x :: B) id = A ++ B := by
  unfold cutT
  rw [e, List.take_left, ← List.drop_drop, List.drop_left]
  rfl
theorem sort_mid {A B : List RwT} {r : RwT} (hA : sortT A) (hB : sortT B) (h1 : ∀ x ∈ A, x.f0 < r.f0) (h2 : ∀ x ∈ B, r.f0 < x.f0) : sortT (A ++ r :: B) := by
  refine List.pairwise_append.2 ⟨hA, List.pairwise_cons.2 ⟨h2, hB⟩, fun x hx y hy => ?_⟩
  have g1 := h1 x hx
  show x.f0 < y.f0
  rcases List.mem_cons.1 hy with rfl | hy
  · exact g1
  have := h2 y hy
  omega
theorem mem_mid {A B : List RwT} {r x : RwT} : x ∈ A ++ r :: B ↔ x = r ∨ x ∈ A ++ B := by
  rw [List.mem_append, List.mem_cons, List.mem_append]
  constructor
  · rintro (h | h | h)
    · exact .inr (.inl h)
    · exact .inl h
    exact .inr (.inr h)
  rintro (h | h | h)
  · exact .inr (.inl h)
  · exact .inl h
  exact .inr (.inr h)
def doT (l : List RwT) (k id : Int) (t : ByteArray) : List RwT := if k = 1 then putT l ⟨id, t⟩ else if k = 2 then setT l ⟨id, t⟩ else cutT l id
def whyT (l : List RwT) (k id : Int) : Int := if k = 1 ∧ id ∈ idsT l then 32 else if k = 1 ∧ 60 ≤ l.length then 37 else if k ≠ 1 ∧ id ∉ idsT l then 31 else 0
theorem why_T {l : List RwT} {k id : Int} (h : whyT l k id = 0) : (k = 1 → id ∉ idsT l ∧ l.length < 60) ∧ (k ≠ 1 → id ∈ idsT l) := by
  unfold whyT at h
  by_cases c1 : k = 1 ∧ id ∈ idsT l
  · rw [if_pos c1] at h; omega
  rw [if_neg c1] at h
  by_cases c2 : k = 1 ∧ 60 ≤ l.length
  · rw [if_pos c2] at h; omega
  rw [if_neg c2] at h
  by_cases c3 : k ≠ 1 ∧ id ∉ idsT l
  · rw [if_pos c3] at h; omega
  exact ⟨fun e => ⟨fun g => c1 ⟨e, g⟩, by have := fun g => c2 ⟨e, g⟩; omega⟩, fun e => Classical.byContradiction fun g => c3 ⟨e, g⟩⟩
theorem do_T {l : List RwT} {k id : Int} {t : ByteArray} (h : sortT l) (hk : k = 1 ∨ k = 2 ∨ k = 3) (hw : whyT l k id = 0) :
    sortT (doT l k id t) ∧ (∀ r, r ∈ doT l k id t ↔ (k ≠ 3 ∧ r = ⟨id, t⟩) ∨ (r ∈ l ∧ r.f0 ≠ id)) ∧ ((doT l k id t).length : Int) = l.length + (if k = 1 then 1 else if k = 3 then -1 else 0) := by
  obtain ⟨h1, h2⟩ := why_T hw
  rcases hk with rfl | rfl | rfl
  · obtain ⟨A, B, rfl, hp, hA, hB⟩ := split_out h (h1 rfl).1
    obtain ⟨q1, q2, q3⟩ := List.pairwise_append.1 h
    have e : doT (A ++ B) 1 id t = A ++ (⟨id, t⟩ : RwT) :: B := by
      unfold doT
      rw [if_pos rfl, put_split hp]
    rw [e]
    refine ⟨sort_mid q1 q2 hA hB, fun r => ?_, by simp; omega⟩
    rw [mem_mid]
    constructor
    · rintro (g | g)
      · exact .inl ⟨by decide, g⟩
      exact .inr ⟨g, fun q => (h1 rfl).1 (mem_ids.2 ⟨r, g, q⟩)⟩
    rintro (g | g)
    · exact .inl g.2
    exact .inr g.1
  · obtain ⟨A, x, B, rfl, hx, hp, hA, hB⟩ := split_in h (h2 (by decide))
    obtain ⟨q1, q2, q3⟩ := List.pairwise_append.1 h
    obtain ⟨q4, q5⟩ := List.pairwise_cons.1 q2
    have e : doT (A ++ x :: B) 2 id t = A ++ (⟨id, t⟩ : RwT) :: B := by
      unfold doT
      rw [if_neg (by decide), if_pos rfl, set_split hp]
    rw [e]
    refine ⟨sort_mid q1 q5 hA hB, fun r => ?_, by simp⟩
    rw [mem_mid, mem_mid]
    constructor
    · rintro (g | g)
      · exact .inl ⟨by decide, g⟩
      refine .inr ⟨.inr g, fun q => ?_⟩
      rcases List.mem_append.1 g with g | g
      · have := hA r g; omega
      have := hB r g; omega
    rintro (g | ⟨g | g, q⟩)
    · exact .inl g.2
    · exact (q (by rw [g, hx])).elim
    exact .inr g
  obtain ⟨A, x, B, rfl, hx, hp, hA, hB⟩ := split_in h (h2 (by decide))
  obtain ⟨q1, q2, q3⟩ := List.pairwise_append.1 h
  obtain ⟨q4, q5⟩ := List.pairwise_cons.1 q2
  have e : doT (A ++ x :: B) 3 id t = A ++ B := by
    unfold doT
    rw [if_neg (by decide), if_neg (by decide), cut_split hp]
  rw [e]
  refine ⟨List.pairwise_append.2 ⟨q1, q5, fun a ha b hb => q3 a ha b (List.mem_cons_of_mem _ hb)⟩, fun r => ?_, by simp; omega⟩
  rw [mem_mid]
  constructor
  · intro g
    refine .inr ⟨.inr g, fun q => ?_⟩
    rcases List.mem_append.1 g with g | g
    · have := hA r g; omega
    have := hB r g; omega
  rintro (g | ⟨g | g, q⟩)
  · exact (g.1 rfl).elim
  · exact (q (by rw [g, hx])).elim
  exact g
def okT (l : List RwT) : Prop := l.length ≤ 60 ∧ rising 0 (idsT l) = 0 ∧ ∀ r ∈ l, r.f1.size ≤ 200
theorem okT.sort {l : List RwT} (h : okT l) : sortT l := sort_ids.2 (rising_zero h.2.1).2
theorem okT.ids {l : List RwT} (h : okT l) {r : RwT} (hr : r ∈ l) : 1 ≤ r.f0 ∧ r.f0 ≤ 999999 := by
  have := (rising_zero h.2.1).1 r.f0 (mem_ids.2 ⟨r, hr, rfl⟩)
  omega
theorem okT_of {l : List RwT} (h1 : l.length ≤ 60) (h2 : sortT l) (h3 : ∀ r ∈ l, (1 ≤ r.f0 ∧ r.f0 ≤ 999999) ∧ r.f1.size ≤ 200) : okT l := by
  refine ⟨h1, rising_of (fun x hx => ?_) (sort_ids.1 h2), fun r hr => (h3 r hr).2⟩
  obtain ⟨r, hr, rfl⟩ := mem_ids.1 hx
  have := (h3 r hr).1
  omega
theorem do_ok {l : List RwT} {k id : Int} {t : ByteArray} (h : okT l) (hk : k = 1 ∨ k = 2 ∨ k = 3) (hw : whyT l k id = 0) (hi : 1 ≤ id ∧ id ≤ 999999) (ht : k ≠ 3 → t.size ≤ 200) : okT (doT l k id t) := by
  obtain ⟨h1, h2, h3⟩ := do_T (t := t) h.sort hk hw
  refine okT_of ?_ h1 fun r hr => ?_
  · have := h.1
    have := fun e => ((why_T hw).1 e).2
    rcases hk with rfl | rfl | rfl
    · have := this rfl
      simp at h3
      omega
    · simp at h3; omega
    simp at h3; omega
  rcases (h2 r).1 hr with ⟨g, rfl⟩ | ⟨g, _⟩
  · exact ⟨hi, ht g⟩
  exact ⟨h.ids g, h.2.2 r g⟩
def cellsF (i : Int) : List (List RwT) → List CeT
  | [] => []
  | l :: s => l.map (fun r => (⟨i, r.f0, r.f1⟩ : CeT)) ++ cellsF (i + 1) s
def ltC (p q : CeT) : Prop := p.f0 < q.f0 ∨ (p.f0 = q.f0 ∧ p.f1 < q.f1)
def sortC (l : List CeT) : Prop := l.Pairwise ltC
theorem mem_cells {c : CeT} : ∀ (s : List (List RwT)) (i : Int), c ∈ cellsF i s ↔ ∃ (j : Nat) (h : j < s.length), c.f0 = i + j ∧ (⟨c.f1, c.f2⟩ : RwT) ∈ s[j]
  | [], i => by simp [cellsF]
  | l :: s, i => by
    simp only [cellsF]
    rw [List.mem_append, mem_cells s (i + 1), List.mem_map]
    constructor
    · rintro (⟨r, hr, rfl⟩ | ⟨j, h, h1, h2⟩)
      · exact ⟨0, by simp, by simp, by simpa using hr⟩
      exact ⟨j + 1, by simp; omega, by omega, by simpa using h2⟩
    rintro ⟨j, h, h1, h2⟩
    cases j with
    | zero => exact .inl ⟨⟨c.f1, c.f2⟩, by simpa using h2, ce_ext (by simp only; omega) rfl rfl⟩
    | succ j => exact .inr ⟨j, by simp at h; omega, by omega, by simpa using h2⟩
theorem sort_cells : ∀ (s : List (List RwT)) (i : Int), (∀ l ∈ s, sortT l) → sortC (cellsF i s)
  | [], i, _ => List.Pairwise.nil
  | l :: s, i, h => by
    simp only [cellsF]
    refine List.pairwise_append.2 ⟨?_, sort_cells s (i + 1) fun x hx => h x (List.mem_cons_of_mem _ hx), fun x hx y hy => ?_⟩
    · rw [List.pairwise_map]
      exact (h l List.mem_cons_self).imp fun g => .inr ⟨rfl, g⟩
    obtain ⟨r, _, rfl⟩ := List.mem_map.1 hx
    obtain ⟨j, _, e, _⟩ := (mem_cells s (i + 1)).1 hy
    exact .inl (by simp only; omega)
def okS (s : List (List RwT)) : Prop := s.length ≤ 8 ∧ ∀ l ∈ s, okT l
theorem okS.sort {s : List (List RwT)} (h : okS s) : sortC (cellsF 0 s) := sort_cells s 0 fun l hl => (h.2 l hl).sort
structure OpX where
  tb : Int
  k : Int
  id : Int
  tx : ByteArray
def whyS (s : List (List RwT)) (o : OpX) : Int :=
  if o.k < 1 ∨ 3 < o.k then 30 else if o.tb < 0 ∨ (s.length : Int) ≤ o.tb then 2 else if o.id < 1 ∨ 999999 < o.id then 31 else if o.k ≠ 3 ∧ 200 < o.tx.size then 3 else whyT (s.getD o.tb.toNat []) o.k o.id
def doS (s : List (List RwT)) (o : OpX) : List (List RwT) := s.set o.tb.toNat (doT (s.getD o.tb.toNat []) o.k o.id o.tx)
structure Goes (s : List (List RwT)) (o : OpX) : Prop where
  k : o.k = 1 ∨ o.k = 2 ∨ o.k = 3
  t0 : 0 ≤ o.tb
  t1 : o.tb.toNat < s.length
  i : 1 ≤ o.id ∧ o.id ≤ 999999
  x : o.k ≠ 3 → o.tx.size ≤ 200
  w : whyT (s.getD o.tb.toNat []) o.k o.id = 0
theorem why_S {s : List (List RwT)} {o : OpX} : whyS s o = 0 ↔ Goes s o := by
  unfold whyS
  constructor
  · intro h
    by_cases c1 : o.k < 1 ∨ 3 < o.k
    · rw [if_pos c1] at h; omega
    rw [if_neg c1] at h
    by_cases c2 : o.tb < 0 ∨ (s.length : Int) ≤ o.tb
    · rw [if_pos c2] at h; omega
    rw [if_neg c2] at h
    by_cases c3 : o.id < 1 ∨ 999999 < o.id
    · rw [if_pos c3] at h; omega
    rw [if_neg c3] at h
    by_cases c4 : o.k ≠ 3 ∧ 200 < o.tx.size
    · rw [if_pos c4] at h; omega
    rw [if_neg c4] at h
    exact ⟨by omega, by omega, by omega, by omega, fun e => by have := fun g => c4 ⟨e, g⟩; omega, h⟩
  intro h
  have := h.k; have := h.t0; have := h.t1; have := h.i
  rw [if_neg (by omega), if_neg (by omega), if_neg (by omega), if_neg (fun c => by have := h.x c.1; omega)]
  exact h.w
theorem do_okS {s : List (List RwT)} {o : OpX} (h : okS s) (g : Goes s o) : okS (doS s o) := by
  unfold doS
  refine ⟨by rw [List.length_set]; exact h.1, fun l hl => ?_⟩
  rcases List.mem_or_eq_of_mem_set hl with hl | rfl
  · exact h.2 l hl
  have e : s.getD o.tb.toNat [] = s[o.tb.toNat]'g.t1 := by simp [g.t1]
  have := g.w
  rw [e] at this ⊢
  exact do_ok (h.2 _ (List.getElem_mem _)) g.k this g.i g.x
def runS (s : List (List RwT)) : List OpX → Int → List (List RwT) × Int × Int
  | [], i => (s, i, 0)
  | o :: l, i => if whyS s o = 0 then runS (doS s o) l (i + 1) else ([], i, whyS s o)
theorem run_ok : ∀ (l : List OpX) (s : List (List RwT)) (i : Int), okS s → (runS s l i).2.2 = 0 → okS (runS s l i).1 ∧ (runS s l i).2.1 = i + l.length ∧ (runS s l i).1.length = s.length
  | [], s, i, h, _ => by simp [runS, h]
  | o :: l, s, i, h, h2 => by
    simp only [runS] at h2 ⊢
    by_cases c : whyS s o = 0
    · rw [if_pos c] at h2
      rw [if_pos c]
      obtain ⟨q1, q2, q3⟩ := run_ok l (doS s o) (i + 1) (do_okS h (why_S.1 c)) h2
      exact ⟨q1, by rw [q2, List.length_cons]; omega, by rw [q3]; unfold doS; rw [List.length_set]⟩
    rw [if_neg c] at h2
    exact (c h2).elim
def textT (l : List RwT) (id : Int) : ByteArray := match l.find? (fun r => r.f0 == id) with | some r => r.f1 | none => ⟨#[]⟩
theorem text_in {l : List RwT} (h : sortT l) {r : RwT} (hr : r ∈ l) : textT l r.f0 = r.f1 := by
  unfold textT
  cases e : l.find? (fun x => x.f0 == r.f0) with
  | none =>
    have := List.find?_eq_none.1 e r hr
    simp at this
  | some x =>
    have h1 := List.mem_of_find?_eq_some e
    have h2 := List.find?_some e
    have h3 : x.f0 = r.f0 := by simpa using h2
    rw [sort_one h h1 hr h3]
abbrev BoT := S166
theorem rdR {l : List RwT} {i : Nat} (h : i < l.length) : rd_T164 l (i : Int) = l[i] := by
  unfold rd_T164; simp [h]
theorem rdRA {A B : List RwT} {x : RwT} {i : Nat} (h : A.length = i) : rd_T164 (A ++ x :: B) (i : Int) = x := by
  subst h
  rw [rdR (by simp)]; simp
theorem rdS {s : List (List RwT)} {i : Nat} (h : i < s.length) : rd_L22 s (i : Int) = s[i] := by
  unfold rd_L22; simp [List.getD_eq_getElem?_getD, h]
theorem rdO {l : List BoT} {i : Nat} (h : i < l.length) : rd_T166 l (i : Int) = l[i] := by
  unfold rd_T166; simp [h]
theorem setIB {A B : List Int} {x v : Int} {i : Nat} (h : A.length = i) : (A ++ x :: B).set ((i : Int)).toNat v = A ++ v :: B := by
  subst h; simp
theorem ids_len (l : List RwT) : (idsT l).length = l.length := by unfold idsT; simp
theorem ids_l0 {n : Int} (hn : n ≤ 1000) : ∀ (B A : List RwT), ((A ++ B).length : Int) = n → Ev (fun k => batch_ids.l0 k (idsT A ++ List.replicate B.length 0) (A ++ B) n (A.length : Int)) (idsT (A ++ B))
  | [], A, h => by
    simp only [List.length_append, List.length_nil] at h
    refine Ev.step (fun k => by simp only [batch_ids.l0]; rfl) (Ev.neg (by omega) (Ev.ok ?_))
    simp
  | x :: B, A, h => by
    have h2 := h
    simp only [List.length_append, List.length_cons] at h
    refine Ev.step (fun k => by simp only [batch_ids.l0]; rfl) (Ev.pos (by omega) (Ev.pos (by omega) (Ev.pos (by simp only [List.length_append, List.length_cons]; omega) ?_)))
    simp only [rdRA rfl]
    refine Ev.pos (by simp [idsT]; omega) ?_
    rw [List.length_cons, List.replicate_succ, setIB (ids_len A), wrap_eq (by omega) (by omega)]
    have := ids_l0 hn B (A ++ [x]) (by simp only [List.length_append, List.length_cons, List.length_nil] at h2 ⊢; omega)
    simp only [List.length_append, List.length_cons, List.length_nil, List.append_assoc, List.singleton_append, idsT, List.map_append, List.map_cons, List.map_nil] at this ⊢
    exact this
theorem ids_f {l : List RwT} (h : l.length ≤ 1000) : Ev (fun k => batch_ids.f k l) (idsT l) := by
  unfold batch_ids.f
  refine Ev.pos (by omega) (Ev.pos (by rw [Int.toNat_natCast]; omega) ?_)
  rw [Int.toNat_natCast]
  have := ids_l0 (n := (l.length : Int)) (by omega) l [] (by simp)
  simpa [idsT] using this
theorem bfind_f {l : List RwT} (h : l.length ≤ 1000) (id : Int) : Ev (fun k => batch_find.f k l id) (find (idsT l) id) := by
  unfold batch_find.f
  exact Ev.bind (ids_f h) (Ev.bind (rows_Find_f (by rw [ids_len]; omega)) (Ev.ok rfl))
theorem find_T {l : List RwT} (h : okT l) (id : Int) : find (idsT l) id = ((posT l id : Int), decide (id ∈ idsT l)) := by
  unfold find
  by_cases c : id ∈ idsT l
  · rw [if_pos c, decide_eq_true c, idxOf_sorted (sort_ids.1 h.sort) c]
    rfl
  rw [if_neg c, if_pos h.2.1, decide_eq_false c]
  rfl
def longB (l : List RwT) : Bool := l.any fun r => decide (200 < r.f1.size)
def longI : Nat → List RwT → Int
  | _, [] => -1
  | i, r :: l => if 200 < r.f1.size then (i : Int) else longI (i + 1) l
theorem longI_any : ∀ (l : List RwT) (i : Nat), decide (longI i l ≥ 0) = longB l
  | [], i => rfl
  | r :: l, i => by
    unfold longI longB
    rw [List.any_cons]
    by_cases c : 200 < r.f1.size
    · rw [if_pos c, decide_eq_true c, Bool.true_or]
      exact decide_eq_true (by omega)
    rw [if_neg c, decide_eq_false c, Bool.false_or]
    exact longI_any l (i + 1)
theorem long_l0 {l : List RwT} (hl : l.length ≤ 1000) (d : Nat) : ∀ i : Nat, l.length - i = d → i ≤ l.length → Ev (fun k => slices_IndexFunc_batch_Check_1.l0 k l (l.length : Int) (i : Int)) (longI i (l.drop i)) := by
  induction d with
  | zero =>
    intro i hd hi
    refine Ev.step (fun k => by simp only [slices_IndexFunc_batch_Check_1.l0]; rfl) (Ev.neg (by omega) (Ev.ok ?_))
    rw [List.drop_eq_nil_of_le (by omega)]
    rfl
  | succ d ih =>
    intro i hd hi
    have h : i < l.length := by omega
    refine Ev.step (fun k => by simp only [slices_IndexFunc_batch_Check_1.l0]; rfl) (Ev.pos (by omega) (Ev.pos (by omega) (Ev.pos (by omega) ?_)))
    rw [rdR h, wrap_eq (x := (i : Int) + 1) (by omega) (by omega), drop_cons h]
    refine Q.Ev.bindc (show batch_Check_1.f l[i].f0 l[i].f1 = some (decide ((l[i].f1.size : Int) > 200)) from rfl) (Q.Ev.ite (fun c => Ev.ok ?_) (fun c => ?_))
    · have := of_decide_eq_true c
      unfold longI
      rw [if_pos (by omega)]
    have := of_decide_eq_false (Bool.eq_false_iff.2 c)
    unfold longI
    rw [if_neg (by omega)]
    exact ih (i + 1) (by omega) (by omega)
theorem long_f {l : List RwT} (hl : l.length ≤ 1000) : Ev (fun k => slices_ContainsFunc_batch_Check_1.f k l) (longB l) := by
  unfold slices_ContainsFunc_batch_Check_1.f slices_IndexFunc_batch_Check_1.f
  have := long_l0 hl l.length 0 (by omega) (by omega)
  rw [List.drop_zero] at this
  exact Ev.bind this (Ev.ok (longI_any l 0))
theorem longB_no {l : List RwT} : longB l = false ↔ ∀ r ∈ l, r.f1.size ≤ 200 := by
  unfold longB
  rw [List.any_eq_false]
  exact forall_congr' fun r => forall_congr' fun hr => by simp
instance (l : List RwT) : Decidable (okT l) := by unfold okT; infer_instance
instance (s : List (List RwT)) : Decidable (okS s) := by unfold okS; infer_instance
def chkS (s : List (List RwT)) : Int := if okS s then 0 else 40
theorem chk_zero_S {s : List (List RwT)} : chkS s = 0 ↔ okS s := by
  unfold chkS
  by_cases c : okS s
  · rw [if_pos c]; exact ⟨fun _ => c, fun _ => rfl⟩
  rw [if_neg c]; exact ⟨fun h => by omega, fun h => (c h).elim⟩
theorem chk_bad_S {s : List (List RwT)} (h : chkS s ≠ 0) : chkS s = 40 := by
  unfold chkS at h ⊢
  by_cases c : okS s
  · rw [if_pos c] at h; exact (h rfl).elim
  rw [if_neg c]
def chkL (s : List (List RwT)) : Int := if ∀ l ∈ s, okT l then 0 else 40
theorem chkL_cons {l : List RwT} {s : List (List RwT)} (h : okT l) : chkL (l :: s) = chkL s := by
  unfold chkL
  by_cases c : ∀ x ∈ s, okT x
  · have g : ∀ x ∈ l :: s, okT x := fun x hx => by
      rcases List.mem_cons.1 hx with rfl | hx
      · exact h
      exact c x hx
    rw [if_pos c, if_pos g]
  rw [if_neg c, if_neg (fun q => c fun x hx => q x (List.mem_cons_of_mem _ hx))]
theorem chkL_bad {l : List RwT} {s : List (List RwT)} (h : ¬ okT l) : chkL (l :: s) = 40 := if_neg fun q => h (q l List.mem_cons_self)
def smallS (s : List (List RwT)) : Prop := s.length ≤ 100 ∧ ∀ l ∈ s, l.length ≤ 1000
theorem okS.small {s : List (List RwT)} (h : okS s) : smallS s := ⟨by have := h.1; omega, fun l hl => by have := (h.2 l hl).1; omega⟩
theorem check_l0 {s : List (List RwT)} (h : smallS s) (d : Nat) : ∀ i : Nat, s.length - i = d → i ≤ s.length → Ev (fun k => batch_Check.l0 k s (s.length : Int) (i : Int)) (chkL (s.drop i)) := by
  have h1 := h.1
  induction d with
  | zero =>
    intro i hd hi
    refine Ev.step (fun k => by simp only [batch_Check.l0]; rfl) (Ev.neg (by omega) (Ev.ok ?_))
    rw [List.drop_eq_nil_of_le (by omega)]
    rfl
  | succ d ih =>
    intro i hd hi
    have hi2 : i < s.length := by omega
    have hl := h.2 _ (List.getElem_mem hi2)
    refine Ev.step (fun k => by simp only [batch_Check.l0]; rfl) (Ev.pos (by omega) (Ev.pos (by omega) (Ev.pos (by omega) ?_)))
    rw [rdS hi2, wrap_eq (x := (i : Int) + 1) (by omega) (by omega), drop_cons hi2]
    refine Q.Ev.ite (fun c => Ev.ok ?_) (fun c => Ev.bind (ids_f hl) (Ev.bind (rows_Rising_f (by rw [ids_len]; omega)) (Q.Ev.ite (fun c2 => Ev.bind (long_f hl) (Q.Ev.ite (fun c3 => Ev.ok ?_) (fun c3 => ?_))) (fun c2 => Ev.ok ?_))))
    · exact (chkL_bad fun q => by have := q.1; omega).symm
    · refine (chkL_bad fun q => ?_).symm
      rw [longB_no.2 q.2.2] at c3
      exact Bool.false_ne_true c3
    · rw [chkL_cons ⟨by omega, c2, longB_no.1 (Bool.eq_false_iff.2 c3)⟩]
      exact ih (i + 1) (by omega) (by omega)
    exact (chkL_bad fun q => c2 q.2.1).symm
theorem bcheck_f {s : List (List RwT)} (h : smallS s) : Ev (fun k => batch_Check.f k s) (chkS s) := by
  unfold batch_Check.f
  refine Q.Ev.ite (fun c => Ev.ok ?_) (fun c => ?_)
  · unfold chkS
    rw [if_neg fun q => by have := q.1; omega]
  have := check_l0 h s.length 0 (by omega) (by omega)
  rw [List.drop_zero] at this
  refine Ev.eq this ?_
  unfold chkL chkS
  by_cases q : ∀ l ∈ s, okT l
  · rw [if_pos q, if_pos (show okS s from ⟨by omega, q⟩)]
  rw [if_neg q, if_neg (show ¬ okS s from fun w => q w.2)]
theorem at_in {l : List RwT} (h : okT l) {id : Int} (hm : id ∈ idsT l) : ∃ hi : posT l id < l.length, l[posT l id].f0 = id ∧ l[posT l id].f1 = textT l id := by
  obtain ⟨A, r, B, rfl, hr, hp, _⟩ := split_in h.sort hm
  refine ⟨by rw [hp]; simp, ?_⟩
  have e : (A ++ r :: B)[posT (A ++ r :: B) id]'(by rw [hp]; simp) = r := by
    rw [List.getElem_append_right (by omega)]
    simp [hp]
  rw [e, ← text_in h.sort (r := r) (by simp), hr]
  exact ⟨rfl, rfl⟩
theorem getD_S {s : List (List RwT)} {i : Nat} (h : i < s.length) : s.getD i [] = s[i] := by simp [h]
def opX (o : BoT) : OpX := ⟨o.f0, o.f1, o.f2, o.f3⟩
theorem bwrong_f {s : List (List RwT)} (h : okS s) (o : OpX) : Ev (fun k => batch_Store_wrong.f k s o.tb o.k o.id o.tx) (whyS s o) := by
  have j5 : ∀ (b x : Bool) (l : List RwT), (b = decide (o.id ∈ idsT l)) → (x = true ↔ (o.k = 1 ∧ 60 ≤ l.length)) → ¬ (o.k = 1 ∧ o.id ∈ idsT l) → Ev (fun k => batch_Store_wrong.j5 k b x o.tb o.k o.id o.tx) (whyT l o.k o.id) := by
    intro b x l hb hx hn
    unfold whyT
    rw [if_neg hn]
    refine Ev.step (fun k => by simp only [batch_Store_wrong.j5]; rfl) (Q.Ev.ite (fun c => Ev.ok (if_pos (hx.1 c)).symm) (fun c => ?_))
    rw [if_neg fun q => c (hx.2 q)]
    refine Q.Ev.ite (fun c2 => Ev.ok ?_) (fun c2 => Q.Ev.ite (fun c3 => Ev.ok ?_) (fun c3 => Ev.ok ?_))
    · rw [if_neg fun q => q.1 c2]
    · rw [hb] at c3
      rw [if_neg fun q => q.2 (of_decide_eq_true c3)]
    rw [hb] at c3
    rw [if_pos ⟨c2, of_decide_eq_false (Bool.eq_false_iff.2 c3)⟩]
  have j4 : ∀ (b x : Bool) (l : List RwT), (b = decide (o.id ∈ idsT l)) → (x = true ↔ (o.k = 1 ∧ o.id ∈ idsT l)) → Ev (fun k => batch_Store_wrong.j4 k l b x o.tb o.k o.id o.tx) (whyT l o.k o.id) := by
    intro b x l hb hx
    refine Ev.step (fun k => by simp only [batch_Store_wrong.j4]; rfl) (Q.Ev.ite (fun c => Ev.ok ?_) (fun c => ?_))
    · unfold whyT
      rw [if_pos (hx.1 c)]
    have hn : ¬ (o.k = 1 ∧ o.id ∈ idsT l) := fun q => c (hx.2 q)
    refine Q.Ev.ite (fun c2 => j5 b _ l hb ?_ hn) (fun c2 => j5 b _ l hb ?_ hn)
    · rw [decide_eq_true_iff]
      exact ⟨fun q => ⟨c2, by omega⟩, fun q => by have := q.2; omega⟩
    exact ⟨fun q => (Bool.false_ne_true q).elim, fun q => (c2 q.1).elim⟩
  have j3 : 0 ≤ o.tb → o.tb < s.length → Ev (fun k => batch_Store_wrong.j3 k s o.tb o.k o.id o.tx) (whyT (s.getD o.tb.toNat []) o.k o.id) := by
    intro g2 g3
    obtain ⟨n, hn⟩ := Int.eq_ofNat_of_zero_le g2
    rw [hn] at g2 g3 ⊢
    have hn2 : n < s.length := by omega
    have hok := h.2 _ (List.getElem_mem hn2)
    refine Ev.step (fun k => by simp only [batch_Store_wrong.j3]; rfl) (Ev.pos g2 (Ev.pos g3 ?_))
    rw [rdS hn2]
    refine Ev.bind (bfind_f (by have := hok.1; omega) o.id) ?_
    rw [find_T hok]
    simp only [Int.toNat_natCast]
    rw [getD_S hn2]
    have j4' := fun x => j4 (decide (o.id ∈ idsT s[n])) x s[n] rfl
    rw [hn] at j4'
    refine Q.Ev.ite (fun c => j4' _ ?_) (fun c => j4' _ ?_)
    · rw [decide_eq_true_iff]
      exact ⟨fun q => ⟨c, q⟩, fun q => q.2⟩
    exact ⟨fun q => (Bool.false_ne_true q).elim, fun q => (c q.1).elim⟩
  have j2 : 0 ≤ o.tb → o.tb < s.length → ∀ x : Bool, (x = true ↔ (o.id < 1 ∨ 999999 < o.id)) → Ev (fun k => batch_Store_wrong.j2 k x s o.tb o.k o.id o.tx) (if o.id < 1 ∨ 999999 < o.id then 31 else if o.k ≠ 3 ∧ 200 < o.tx.size then 3 else whyT (s.getD o.tb.toNat []) o.k o.id) := by
    intro g2 g3 x hx
    refine Ev.step (fun k => by simp only [batch_Store_wrong.j2]; rfl) (Q.Ev.ite (fun c => Ev.ok (if_pos (hx.1 c)).symm) (fun c => ?_))
    rw [if_neg fun q => c (hx.2 q)]
    refine Q.Ev.ite (fun c2 => ?_) (fun c2 => Q.Ev.ite (fun c3 => Ev.ok ?_) (fun c3 => ?_))
    · rw [if_neg fun q => q.1 c2]
      exact j3 g2 g3
    · rw [if_pos ⟨c2, by omega⟩]
    rw [if_neg fun q => by have := q.2; omega]
    exact j3 g2 g3
  have j1 : ∀ x : Bool, (x = true ↔ (o.tb < 0 ∨ (s.length : Int) ≤ o.tb)) → Ev (fun k => batch_Store_wrong.j1 k x s o.tb o.k o.id o.tx) (if o.tb < 0 ∨ (s.length : Int) ≤ o.tb then 2 else if o.id < 1 ∨ 999999 < o.id then 31 else if o.k ≠ 3 ∧ 200 < o.tx.size then 3 else whyT (s.getD o.tb.toNat []) o.k o.id) := by
    intro x hx
    refine Ev.step (fun k => by simp only [batch_Store_wrong.j1]; rfl) (Q.Ev.ite (fun c => Ev.ok (if_pos (hx.1 c)).symm) (fun c => ?_))
    have hn : ¬ (o.tb < 0 ∨ (s.length : Int) ≤ o.tb) := fun q => c (hx.2 q)
    rw [if_neg hn]
    refine Q.Ev.ite (fun c2 => j2 (by omega) (by omega) _ ?_) (fun c2 => j2 (by omega) (by omega) _ ?_)
    · exact ⟨fun _ => .inl c2, fun _ => rfl⟩
    rw [decide_eq_true_iff]; omega
  have j0 : ∀ x : Bool, (x = true ↔ (o.k < 1 ∨ 3 < o.k)) → Ev (fun k => batch_Store_wrong.j0 k x s o.tb o.k o.id o.tx) (whyS s o) := by
    intro x hx
    unfold whyS
    refine Ev.step (fun k => by simp only [batch_Store_wrong.j0]; rfl) (Q.Ev.ite (fun c => Ev.ok (if_pos (hx.1 c)).symm) (fun c => ?_))
    rw [if_neg fun q => c (hx.2 q)]
    refine Q.Ev.ite (fun c2 => j1 _ ?_) (fun c2 => j1 _ ?_)
    · exact ⟨fun _ => .inl c2, fun _ => rfl⟩
    rw [decide_eq_true_iff]; omega
  unfold batch_Store_wrong.f
  refine Q.Ev.ite (fun c2 => j0 _ ?_) (fun c2 => j0 _ ?_)
  · exact ⟨fun _ => .inl c2, fun _ => rfl⟩
  rw [decide_eq_true_iff]; omega
theorem pos_le (l : List RwT) (id : Int) : posT l id ≤ l.length := by
  have := List.countP_le_length (p := fun x => decide (x < id)) (l := idsT l)
  rw [ids_len] at this
  exact this
theorem with_T {l : List RwT} (h : l.length ≤ 1000) (id : Int) (tx : ByteArray) : batch_Row_144.f l (posT l id : Int) id tx = some (putT l ⟨id, tx⟩, 0) := by
  have := pos_le l id
  unfold batch_Row_144.f putT
  rw [if_neg (by omega), if_neg (by omega), if_pos (by omega), Int.toNat_natCast]
theorem set_T {l : List RwT} (h : l.length ≤ 1000) (id : Int) (tx : ByteArray) (hi : posT l id < l.length) : batch_Row_145.f l (posT l id : Int) id tx = some (setT l ⟨id, tx⟩, 0) := by
  unfold batch_Row_145.f setT
  rw [if_neg (by omega), if_neg (by omega), if_pos (by omega), Int.toNat_natCast]
theorem cut_T {l : List RwT} (h : l.length ≤ 1000) (id : Int) (hi : posT l id < l.length) : batch_Row_146.f l (posT l id : Int) = some (cutT l id, 0) := by
  unfold batch_Row_146.f cutT
  rw [if_neg (by omega), if_neg (by omega), if_pos (by omega), Int.toNat_natCast]
theorem clone_S {s : List (List RwT)} (h : s.length ≤ 1000) : batch_Row_96.f s = some s := by
  unfold batch_Row_96.f
  rw [if_pos (by omega)]
theorem bdoes_f {s : List (List RwT)} (h : okS s) (o : OpX) : Ev (fun k => batch_Store_does.f k s o.tb o.k o.id o.tx) (if whyS s o = 0 then (doS s o, 0) else ([], whyS s o)) := by
  unfold batch_Store_does.f
  refine Ev.bind (bwrong_f h o) (Q.Ev.ite (fun c => ?_) (fun c => Ev.ok (if_neg c).symm))
  rw [if_pos c]
  have g := why_S.1 c
  have g0 := g.t0
  have g1 := g.t1
  obtain ⟨n, hn⟩ := Int.eq_ofNat_of_zero_le g0
  rw [hn, Int.toNat_natCast] at g1
  have hok := h.2 _ (List.getElem_mem g1)
  have h60 := hok.1
  have h8 := h.1
  have e : s.getD o.tb.toNat [] = s[n] := by rw [hn, Int.toNat_natCast]; exact getD_S g1
  have hw := g.w
  rw [e] at hw
  obtain ⟨w1, w2⟩ := why_T hw
  unfold doS doT
  rw [e, hn]
  refine Ev.pos (by omega) (Ev.pos (by omega) ?_)
  rw [rdS g1]
  refine Ev.bind (bfind_f (by omega) o.id) ?_
  rw [find_T hok]
  have hset : ∀ v, Ev (fun _ : Nat => (batch_Row_96.f s).bind fun t => if (n : Int) < (t.length : Int) then some (t.set ((n : Int)).toNat v, (0 : Int)) else none) (s.set ((n : Int)).toNat v, 0) := fun v => Q.Ev.bindc (clone_S (by omega)) (Ev.pos (by omega) (Ev.ok rfl))
  refine Q.Ev.ite (fun c1 => ?_) (fun c1 => Q.Ev.ite (fun c2 => ?_) (fun c2 => ?_))
  · rw [if_pos c1]
    exact Q.Ev.bindc (with_T (by omega) o.id o.tx) (hset _)
  · rw [if_neg c1, if_pos c2]
    exact Q.Ev.bindc (set_T (by omega) o.id o.tx (at_in hok (w2 c1)).1) (hset _)
  rw [if_neg c1, if_neg c2]
  exact Q.Ev.bindc (cut_T (by omega) o.id (at_in hok (w2 c1)).1) (hset _)
theorem apply_l0 {l : List BoT} (hl : l.length ≤ 100000) (d : Nat) : ∀ (i : Nat) (s : List (List RwT)), l.length - i = d → i ≤ l.length → okS s → Ev (fun k => batch_Apply.l0 k l l (l.length : Int) (i : Int) s) (runS s ((l.drop i).map opX) (i : Int)) := by
  induction d with
  | zero =>
    intro i s hd hi hs
    refine Ev.step (fun k => by simp only [batch_Apply.l0]; rfl) (Ev.neg (by omega) (Ev.ok ?_))
    rw [List.drop_eq_nil_of_le (by omega), show l.length = i by omega]
    rfl
  | succ d ih =>
    intro i s hd hi hs
    have h : i < l.length := by omega
    refine Ev.step (fun k => by simp only [batch_Apply.l0]; rfl) (Ev.pos (by omega) (Ev.pos (by omega) (Ev.pos (by omega) ?_)))
    rw [rdO h, wrap_eq (x := (i : Int) + 1) (by omega) (by omega), drop_cons h]
    refine Ev.bind (bdoes_f hs (opX l[i])) ?_
    simp only [List.map_cons, runS]
    by_cases c : whyS s (opX l[i]) = 0
    · rw [if_pos c, if_pos c]
      exact Ev.pos rfl (ih (i + 1) _ (by omega) (by omega) (do_okS hs (why_S.1 c)))
    rw [if_neg c, if_neg c]
    exact Ev.neg c (Ev.ok rfl)
def applyS (s : List (List RwT)) (l : List OpX) : List (List RwT) × Int × Int := if chkS s = 0 then runS s l 0 else ([], 0, 40)
theorem bapply_f {s : List (List RwT)} (h : smallS s) {l : List BoT} (hl : l.length ≤ 100000) : Ev (fun k => batch_Apply.f k s l) (applyS s (l.map opX)) := by
  unfold batch_Apply.f applyS
  refine Ev.bind (bcheck_f h) (Q.Ev.ite (fun c => ?_) (fun c => Ev.ok ?_))
  · rw [if_pos c]
    refine Q.Ev.bindc (clone_S (by have := h.1; omega)) ?_
    have := apply_l0 hl l.length 0 s (by omega) (by omega) (chk_zero_S.1 c)
    rw [List.drop_zero] at this
    exact this
  rw [if_neg c, chk_bad_S c]
end Go.Proofs.Ytdpcgigjlcpofaa.Q
namespace Go.Proofs.Ytdpcgigjlcpofaa.F
open Go.RowKit YtdpcgigjlcpofaaX YtdpcgigjlcpofaaW.PrintWords YtdpcgigjlcpofaaW.PrintLast YtdpcgigjlcpofaaW.PrintMore
attribute [local go_sem] max2_int min2_int max_two min_two max_three min_three max_four min_four
attribute [local go_sem high] str_geq str_leq str_gtr
theorem eqA173 (d : Nat) (w : World) (x0 y0 : Int) (x1 y1 : Int) (x2 y2 : Int) (x3 y3 : ByteArray) :
    (Op.equalIn (d + 2) 173 (.agg #[.int .i64 x0, .int .i64 x1, .int .i64 x2, .string x3]) (.agg #[.int .i64 y0, .int .i64 y1, .int .i64 y2, .string y3])).run Try.prog w = .ok (x0 == y0 && (x1 == y1 && (x2 == y2 && (x3.toList == y3.toList)))) w := by
  refine eqA_of Try.underlying173 (by kernel_rfl) ?_
  refine eqf_cons (by rfl) (by go_simp; rfl) (by go_simp; rfl) (by go_simp) ?_
  refine eqf_cons (by rfl) (by go_simp; rfl) (by go_simp; rfl) (by go_simp) ?_
  refine eqf_cons (by rfl) (by go_simp; rfl) (by go_simp; rfl) (by go_simp) ?_
  exact eqf_last (by rfl) (by go_simp; rfl) (by go_simp; rfl) (by go_simp)
end Go.Proofs.Ytdpcgigjlcpofaa.F
namespace Go.Proofs.Ytdpcgigjlcpofaa.Q
open Go.RowKit Ytdpcgigjlcpofaa.F YtdpcgigjlcpofaaX YtdpcgigjlcpofaaW.PrintWords YtdpcgigjlcpofaaW.PrintLast YtdpcgigjlcpofaaW.PrintMore
theorem cells_len : ∀ (s : List (List RwT)) (i : Int), (∀ l ∈ s, l.length ≤ 1000) → (cellsF i s).length ≤ 1000 * s.length
  | [], i, _ => by simp [cellsF]
  | l :: s, i, h => by
    have h1 := h l List.mem_cons_self
    have h2 := cells_len s (i + 1) fun x hx => h x (List.mem_cons_of_mem _ hx)
    simp only [cellsF, List.length_append, List.length_map, List.length_cons]
    omega
theorem small_cells {s : List (List RwT)} (h : smallS s) : (cellsF 0 s).length ≤ 100000 := by
  have := cells_len s 0 h.2
  have := h.1
  omega
def rowC (i : Int) (r : RwT) : CeT := ⟨i, r.f0, r.f1⟩
theorem of_l1 {s : List (List RwT)} (h : smallS s) {i : Nat} (hi : i < s.length) {R : Int × List CeT} {F : List CeT} (hR : Ev (fun k => backhaullaw15_of.l0 k ((i + 1 : Nat) : Int) s (s.length : Int) F) R) (d : Nat) : ∀ (j : Nat) (acc : List CeT), s[i].length - j = d → j ≤ s[i].length → acc.length ≤ 1000000 + j → acc ++ (s[i].drop j).map (rowC (i : Int)) = F → Ev (fun k => backhaullaw15_of.l1 k (i : Int) (j : Int) s (s.length : Int) acc) R := by
  have h1 := h.1
  have hl := h.2 _ (List.getElem_mem hi)
  induction d with
  | zero =>
    intro j acc hd hj ha hF
    refine Ev.step (fun k => by simp only [backhaullaw15_of.l1]; rfl) (Ev.pos (by omega) (Ev.pos (by omega) ?_))
    rw [rdS hi]
    refine Ev.neg (by omega) ?_
    rw [wrap_eq (by omega) (by omega)]
    rw [List.drop_eq_nil_of_le (by omega), List.map_nil, List.append_nil] at hF
    rw [hF]
    exact hR
  | succ d ih =>
    intro j acc hd hj ha hF
    have hj2 : j < s[i].length := by omega
    refine Ev.step (fun k => by simp only [backhaullaw15_of.l1]; rfl) (Ev.pos (by omega) (Ev.pos (by omega) ?_))
    rw [rdS hi]
    refine Ev.pos (by omega) (Ev.pos (by omega) (Ev.pos (by omega) ?_))
    rw [rdR hj2, wrap_eq (x := (j : Int) + 1) (by omega) (by omega)]
    refine ih (j + 1) _ (by omega) (by omega) (by simp; omega) ?_
    rw [← hF, drop_cons hj2, List.map_cons, List.append_assoc, List.singleton_append]
    rfl
theorem of_l0 {s : List (List RwT)} (h : smallS s) (d : Nat) : ∀ (i : Nat) (acc : List CeT), s.length - i = d → i ≤ s.length → acc.length ≤ 1000 * i → Ev (fun k => backhaullaw15_of.l0 k (i : Int) s (s.length : Int) acc) ((s.length : Int), acc ++ cellsF (i : Int) (s.drop i)) := by
  have h1 := h.1
  induction d with
  | zero =>
    intro i acc hd hi ha
    refine Ev.step (fun k => by simp only [backhaullaw15_of.l0]; rfl) (Ev.neg (by omega) (Ev.ok ?_))
    rw [List.drop_eq_nil_of_le (by omega)]
    simp [cellsF]
  | succ d ih =>
    intro i acc hd hi ha
    have hi2 : i < s.length := by omega
    have hl := h.2 _ (List.getElem_mem hi2)
    refine Ev.step (fun k => by simp only [backhaullaw15_of.l0]; rfl) (Ev.pos (by omega) ?_)
    refine of_l1 h hi2 (F := acc ++ s[i].map (rowC (i : Int))) ?_ s[i].length 0 acc (by omega) (by omega) (by omega) (by rw [List.drop_zero])
    have := ih (i + 1) (acc ++ s[i].map (rowC (i : Int))) (by omega) (by omega) (by simp; omega)
    rw [drop_cons hi2]
    simp only [cellsF]
    rw [List.append_assoc] at this
    exact this
theorem of_f {s : List (List RwT)} (h : smallS s) : Ev (fun k => backhaullaw15_of.f k s) ((s.length : Int), cellsF 0 s) := by
  unfold backhaullaw15_of.f
  have := of_l0 h s.length 0 [] (by omega) (by omega) (by simp)
  simpa using this
def fewB (s : List (List RwT)) : Bool := decide (s.length ≤ 12) && s.all fun l => decide (l.length ≤ 70) && l.all fun r => decide (r.f1.size ≤ 300)
theorem few_l1 {s : List (List RwT)} (h : s.length ≤ 12) {i : Nat} (hi : i < s.length) (hl : s[i].length ≤ 70) {R : Bool} (hR : Ev (fun k => backhaullaw15_few.l0 k ((i + 1 : Nat) : Int) s) R) (d : Nat) : ∀ j : Nat, s[i].length - j = d → j ≤ s[i].length → Ev (fun k => backhaullaw15_few.l1 k (i : Int) (j : Int) s) (((s[i].drop j).all fun r => decide (r.f1.size ≤ 300)) && R) := by
  induction d with
  | zero =>
    intro j hd hj
    refine Ev.step (fun k => by simp only [backhaullaw15_few.l1]; rfl) (Ev.pos (by omega) (Ev.pos (by omega) ?_))
    rw [rdS hi]
    refine Ev.neg (by omega) ?_
    rw [wrap_eq (by omega) (by omega), List.drop_eq_nil_of_le (by omega), List.all_nil, Bool.true_and]
    exact hR
  | succ d ih =>
    intro j hd hj
    have hj2 : j < s[i].length := by omega
    refine Ev.step (fun k => by simp only [backhaullaw15_few.l1]; rfl) (Ev.pos (by omega) (Ev.pos (by omega) ?_))
    rw [rdS hi]
    refine Ev.pos (by omega) (Ev.pos (by omega) ?_)
    rw [rdR hj2, wrap_eq (x := (j : Int) + 1) (by omega) (by omega), drop_cons hj2, List.all_cons]
    refine Q.Ev.ite (fun c => Ev.ok ?_) (fun c => ?_)
    · rw [decide_eq_false (by omega), Bool.false_and, Bool.false_and]
    rw [decide_eq_true (by omega), Bool.true_and]
    exact ih (j + 1) (by omega) (by omega)
theorem few_l0 {s : List (List RwT)} (h : s.length ≤ 12) (d : Nat) : ∀ i : Nat, s.length - i = d → i ≤ s.length → Ev (fun k => backhaullaw15_few.l0 k (i : Int) s) ((s.drop i).all fun l => decide (l.length ≤ 70) && l.all fun r => decide (r.f1.size ≤ 300)) := by
  induction d with
  | zero =>
    intro i hd hi
    refine Ev.step (fun k => by simp only [backhaullaw15_few.l0]; rfl) (Ev.neg (by omega) (Ev.ok ?_))
    rw [List.drop_eq_nil_of_le (by omega)]
    rfl
  | succ d ih =>
    intro i hd hi
    have hi2 : i < s.length := by omega
    refine Ev.step (fun k => by simp only [backhaullaw15_few.l0]; rfl) (Ev.pos (by omega) (Ev.pos (by omega) ?_))
    rw [rdS hi2, drop_cons hi2, List.all_cons]
    refine Q.Ev.ite (fun c => Ev.ok ?_) (fun c => ?_)
    · rw [decide_eq_false (by omega), Bool.false_and, Bool.false_and]
    rw [decide_eq_true (by omega), Bool.true_and]
    have := few_l1 h hi2 (by omega) (ih (i + 1) (by omega) (by omega)) s[i].length 0 (by omega) (by omega)
    rw [List.drop_zero] at this
    exact this
theorem few_f (s : List (List RwT)) : Ev (fun k => backhaullaw15_few.f k s) (fewB s) := by
  unfold backhaullaw15_few.f fewB
  refine Q.Ev.ite (fun c => Ev.ok ?_) (fun c => ?_)
  · rw [decide_eq_false (by omega), Bool.false_and]
  rw [decide_eq_true (by omega), Bool.true_and]
  have := few_l0 (s := s) (by omega) s.length 0 (by omega) (by omega)
  rw [List.drop_zero] at this
  exact this
theorem few_small {s : List (List RwT)} (h : fewB s = true) : smallS s := by
  unfold fewB at h
  rw [Bool.and_eq_true, decide_eq_true_iff, List.all_eq_true] at h
  refine ⟨by omega, fun l hl => ?_⟩
  have := h.2 l hl
  rw [Bool.and_eq_true, decide_eq_true_iff] at this
  omega
def shortB (l : List BoT) : Bool := decide (l.length ≤ 60) && l.all fun o => decide (o.f3.size ≤ 300)
theorem short_l0 {l : List BoT} (h : l.length ≤ 60) (d : Nat) : ∀ i : Nat, l.length - i = d → i ≤ l.length → Ev (fun k => backhaullaw15_short.l0 k l (i : Int)) ((l.drop i).all fun o => decide (o.f3.size ≤ 300)) := by
  induction d with
  | zero =>
    intro i hd hi
    refine Ev.step (fun k => by simp only [backhaullaw15_short.l0]; rfl) (Ev.neg (by omega) (Ev.ok ?_))
    rw [List.drop_eq_nil_of_le (by omega)]
    rfl
  | succ d ih =>
    intro i hd hi
    have hi2 : i < l.length := by omega
    refine Ev.step (fun k => by simp only [backhaullaw15_short.l0]; rfl) (Ev.pos (by omega) (Ev.pos (by omega) ?_))
    rw [rdO hi2, drop_cons hi2, List.all_cons, wrap_eq (x := (i : Int) + 1) (by omega) (by omega)]
    refine Q.Ev.ite (fun c => Ev.ok ?_) (fun c => ?_)
    · rw [decide_eq_false (by omega), Bool.false_and]
    rw [decide_eq_true (by omega), Bool.true_and]
    exact ih (i + 1) (by omega) (by omega)
theorem short_f (l : List BoT) : Ev (fun k => backhaullaw15_short.f k l) (shortB l) := by
  unfold backhaullaw15_short.f shortB
  refine Q.Ev.ite (fun c => Ev.ok ?_) (fun c => ?_)
  · rw [decide_eq_false (by omega), Bool.false_and]
  rw [decide_eq_true (by omega), Bool.true_and]
  have := short_l0 (l := l) (by omega) l.length 0 (by omega) (by omega)
  rw [List.drop_zero] at this
  exact this
theorem short_len {l : List BoT} (h : shortB l = true) : l.length ≤ 60 := by
  unfold shortB at h
  rw [Bool.and_eq_true, decide_eq_true_iff] at h
  exact h.1
theorem same_l0 {n : Int} {c : List CeT} (h : c.length ≤ 1000000) (d : Nat) : ∀ i : Nat, c.length - i = d → i ≤ c.length → Ev (fun k => backhaulref15_Same.l0 k (i : Int) n c n c) true := by
  induction d with
  | zero =>
    intro i hd hi
    exact Ev.step (fun k => by simp only [backhaulref15_Same.l0]; rfl) (Ev.neg (by omega) (Ev.ok rfl))
  | succ d ih =>
    intro i hd hi
    refine Ev.step (fun k => by simp only [backhaulref15_Same.l0]; rfl) (Ev.pos (by omega) (Ev.pos (by omega) (Ev.pos (by omega) (Ev.neg (by simp) ?_))))
    rw [wrap_eq (x := (i : Int) + 1) (by omega) (by omega)]
    exact ih (i + 1) (by omega) (by omega)
theorem same_f {s : List (List RwT)} (h : smallS s) {n : Int} {c : List CeT} (e1 : n = s.length) (e2 : c = cellsF 0 s) : Ev (fun k => backhaullaw15_same.f k s n c) true := by
  subst e1 e2
  unfold backhaullaw15_same.f
  refine Ev.bind (of_f h) (Ev.bind (r := true) (a := true) ?_ (Ev.ok rfl))
  unfold backhaulref15_Same.f
  refine Ev.pos rfl (Ev.step (fun k => by simp only [backhaulref15_Same.j0]; rfl) (Ev.neg (by simp) ?_))
  exact same_l0 (by have := small_cells h; omega) _ 0 rfl (Nat.zero_le _)
def goodP (p : Option CeT) (c : CeT) : Prop := (1 ≤ c.f1 ∧ c.f1 ≤ 999999) ∧ c.f2.size ≤ 200 ∧ (match p with | none => True | some q => q.f0 = c.f0 → q.f1 < c.f1)
def goodC : Option CeT → List CeT → Prop
  | _, [] => True
  | p, c :: l => goodP p c ∧ goodC (some c) l
instance (p : Option CeT) (c : CeT) : Decidable (goodP p c) := by unfold goodP; cases p <;> infer_instance
instance decGood : ∀ (p : Option CeT) (c : List CeT), Decidable (goodC p c)
  | _, [] => .isTrue trivial
  | p, c :: l => match (inferInstance : Decidable (goodP p c)), decGood (some c) l with
    | .isTrue h, .isTrue g => .isTrue ⟨h, g⟩
    | .isFalse h, _ => .isFalse fun q => h q.1
    | _, .isFalse h => .isFalse fun q => h q.2
end Go.Proofs.Ytdpcgigjlcpofaa.Q
namespace Go.Proofs.Ytdpcgigjlcpofaa.Pure
open Go.RowKit Ytdpcgigjlcpofaa.F Ytdpcgigjlcpofaa.Q YtdpcgigjlcpofaaW.PrintWords YtdpcgigjlcpofaaW.PrintLast
theorem run_bad : ∀ (l : List OpX) (s : List (List RwT)) (i : Int), (runS s l i).2.2 ≠ 0 → (runS s l i).1 = [] ∧ i ≤ (runS s l i).2.1 ∧ (runS s l i).2.1 < i + l.length
  | [], s, i, h => (h rfl).elim
  | o :: l, s, i, h => by
    simp only [runS] at h ⊢
    by_cases c : whyS s o = 0
    · rw [if_pos c] at h ⊢
      obtain ⟨h1, h2, h3⟩ := run_bad l (doS s o) (i + 1) h
      exact ⟨h1, by omega, by rw [List.length_cons]; omega⟩
    rw [if_neg c]
    exact ⟨rfl, Int.le_refl _, by rw [List.length_cons]; simp only; omega⟩
theorem bw_key (s : List (List RwT)) (l : List BoT) (R : List (List RwT)) (r1 : okS R) (hL : l.length ≤ 100) (aw : Ev (fun _ : Nat => (backhaullaw15_awake.f).bind fun t => if t = true then some true else some false) true) : ∀ (d i : Nat) (t : List (List RwT)), l.length - i = d → i ≤ l.length → okS t → (∃ j, (runS t ((l.drop i).map opX) j).1 = R ∧ (runS t ((l.drop i).map opX) j).2.2 = 0) → Ev (fun k => backhaullaw15_BatchWhole.l0 k l (l.length : Int) (i : Int) t R) true := by
  intro d
  induction d with
  | zero =>
    intro i t hd hi ht hj
    obtain ⟨j, h1, h2⟩ := hj
    rw [List.drop_eq_nil_of_le (by omega)] at h1
    have e : t = R := h1
    refine Ev.step (fun k => by simp only [backhaullaw15_BatchWhole.l0]; rfl) (Q.Ev.neg (by omega) (Ev.bind (of_f r1.small) (Ev.bind (same_f ht.small (by rw [e]) (by rw [e])) (Q.Ev.pos rfl (Q.Ev.pos trivial (Ev.bind (bcheck_f r1.small) ?_))))))
    exact Q.Ev.pos (chk_zero_S.2 r1) aw
  | succ d ih =>
    intro i t hd hi ht hj
    have h : i < l.length := by omega
    obtain ⟨j, h1, h2⟩ := hj
    rw [drop_cons h, List.map_cons] at h1 h2
    simp only [runS] at h1 h2
    by_cases c : whyS t (opX l[i]) = 0
    · rw [if_pos c] at h1 h2
      have hw : wrap64 ((i : Int) + 1) = ((i + 1 : Nat) : Int) := by rw [wrap_eq (by omega) (by omega)]; rfl
      refine Ev.step (fun k => by simp only [backhaullaw15_BatchWhole.l0]; rfl) (Q.Ev.pos (by omega) (Q.Ev.pos (by omega) ?_))
      rw [hw]
      refine Q.Ev.pos (by omega) (Q.Ev.pos (by omega) ?_)
      have hsl : (l.take (((i + 1 : Nat)) : Int).toNat).drop ((i : Int)).toNat = [l[i]] := by
        simp only [Int.toNat_natCast]
        rw [List.take_succ_eq_append_getElem h, List.drop_append_of_le_length (by rw [List.length_take]; omega), List.drop_eq_nil_of_le (by rw [List.length_take]; omega), List.nil_append]
      rw [hsl]
      have hb := bapply_f ht.small (l := [l[i]]) (by simp)
      have eb : applyS t ([l[i]].map opX) = (doS t (opX l[i]), 1, 0) := by
        unfold applyS
        rw [if_pos (chk_zero_S.2 ht)]
        simp only [List.map_cons, List.map_nil, runS]
        rw [if_pos c]
        rfl
      rw [eb] at hb
      exact Ev.bind hb (Q.Ev.pos rfl (Q.Ev.pos rfl (ih (i + 1) (doS t (opX l[i])) (by omega) (by omega) (do_okS ht (why_S.1 c)) ⟨j + 1, h1, h2⟩)))
    rw [if_neg c] at h2
    exact (c h2).elim
theorem BatchWhole : backhaullaw15_BatchWhole.Pure := by
  intro s l hs hl
  refine Ev.rounds (r := true) ?_
  have haw : backhaullaw15_awake.f = some true := rfl
  have aw : Ev (fun _ : Nat => (backhaullaw15_awake.f).bind fun t => if t = true then some true else some false) true := Q.Ev.bindc haw (Q.Ev.pos rfl (Q.Ev.const rfl))
  have j0t : ∀ b : Bool, b = true → Ev (fun k => backhaullaw15_BatchWhole.j0 k l b s) true := fun b hb => Ev.step (fun k => by simp only [backhaullaw15_BatchWhole.j0]; rfl) (Q.Ev.pos hb aw)
  unfold backhaullaw15_BatchWhole.f
  refine Ev.bind (few_f s) (Q.Ev.ite (fun c1 => Ev.bind (short_f l) ?_) (fun c1 => j0t true rfl))
  by_cases c2 : shortB l = true
  · rw [c2]
    have hS := few_small c1
    have hL := short_len c2
    refine Ev.step (fun k => by simp only [backhaullaw15_BatchWhole.j0]; rfl) (Q.Ev.neg (by decide) (Ev.bind (of_f hS) (Ev.bind (bapply_f hS (l := l) (by omega)) (Ev.bind (same_f hS rfl rfl) (Q.Ev.pos rfl ?_)))))
    by_cases c3 : (applyS s (l.map opX)).2.2 = 0
    · refine Q.Ev.pos c3 ?_
      have hok : okS s := by
        refine Classical.byContradiction fun q => ?_
        unfold applyS at c3
        rw [if_neg (fun w => q (chk_zero_S.1 w))] at c3
        simp at c3
      have ea : applyS s (l.map opX) = runS s (l.map opX) 0 := if_pos (chk_zero_S.2 hok)
      rw [ea] at c3 ⊢
      obtain ⟨r1, r2, r3⟩ := run_ok (l.map opX) s 0 hok c3
      rw [List.length_map, Int.zero_add] at r2
      rw [r2]
      have h0 : ∃ j, (runS s ((l.drop 0).map opX) j).1 = (runS s (l.map opX) 0).1 ∧ (runS s ((l.drop 0).map opX) j).2.2 = 0 := ⟨0, by rw [List.drop_zero], by rw [List.drop_zero]; exact c3⟩
      generalize (runS s (l.map opX) 0).1 = R at r1 h0 ⊢
      exact bw_key s l R r1 (by omega) aw l.length 0 s (by omega) (by omega) hok h0
    refine Q.Ev.neg c3 ?_
    have h0 : (applyS s (l.map opX)).1 = [] ∧ 0 ≤ (applyS s (l.map opX)).2.1 ∧ ((applyS s (l.map opX)).2.1 < (l.length : Int) ∨ (applyS s (l.map opX)).2.1 = 0) := by
      by_cases q : chkS s = 0
      · have ea : applyS s (l.map opX) = runS s (l.map opX) 0 := if_pos q
        rw [ea] at c3 ⊢
        obtain ⟨h1, h2, h3⟩ := run_bad _ _ _ c3
        rw [List.length_map] at h3
        exact ⟨h1, h2, .inl (by omega)⟩
      have ea : applyS s (l.map opX) = ([], 0, 40) := if_neg q
      rw [ea]
      exact ⟨rfl, Int.le_refl _, .inr rfl⟩
    obtain ⟨h1, h2, h3⟩ := h0
    rw [h1]
    refine Q.Ev.pos rfl (Q.Ev.pos h2 (Q.Ev.ite (fun q => aw) (fun q => Q.Ev.pos (h3.resolve_left q) aw)))
  rw [Bool.eq_false_iff.2 c2]
  exact j0t _ rfl
end Go.Proofs.Ytdpcgigjlcpofaa.Pure
namespace Go.Proofs.YtdpcgigjlcpofaaX
open Go.RowKit YtdpcgigjlcpofaaW.PrintWords YtdpcgigjlcpofaaW.PrintLast YtdpcgigjlcpofaaW.PrintMore
def Opens {α : Type} (P : Program) (t : TypeId) (k : Kd α) (Ok : α → Prop) : Prop :=
  ∀ {H : Type} {enc : TypeId × Value → H} {w : World} {base : Nat} {spare : Nat → Bool} {held : Bool} {fuel : Nat} {cs : List Value} {x : DataW H × List MemPlace},
    DataW.trod enc P w base spare held fuel t cs = some x → ∃ a : α, k.K w a cs ∧ Ok a
theorem Opens.int {P : Program} {t : TypeId} {k : IntKind} (ht : P.underlying t = some (.int k)) : Opens P t (Kd.int k) (fun a => (Lit.int k a).wf = true) := by
  intro H enc w base spare held fuel cs x h
  obtain ⟨n, rfl, _, hw⟩ := DataW.trod_int ht h
  exact ⟨n, rfl, hw⟩
theorem Opens.bool {P : Program} {t : TypeId} (ht : P.underlying t = some .bool) : Opens P t Kd.bool (fun _ => True) := by
  intro H enc w base spare held fuel cs x h
  obtain ⟨n, rfl, _⟩ := DataW.trod_bool ht h
  exact ⟨n, rfl, trivial⟩
theorem Opens.string {P : Program} {t : TypeId} (ht : P.underlying t = some .string) : Opens P t Kd.string (fun a => a.size ≤ maxLen) := by
  intro H enc w base spare held fuel cs x h
  obtain ⟨s, rfl, _, hw⟩ := DataW.trod_string ht h
  exact ⟨s, rfl, hw⟩
theorem list_of {α : Type} {p : Nat → α → Prop} : ∀ n, (∀ i, i < n → ∃ a, p i a) → ∃ xs : List α, xs.length = n ∧ ∀ i a, xs[i]? = some a → p i a
  | 0, _ => ⟨[], rfl, fun i a h => by simp at h⟩
  | n + 1, h => by
    obtain ⟨xs, hl, hx⟩ := list_of n (fun i hi => h i (by omega))
    obtain ⟨a, ha⟩ := h n (by omega)
    refine ⟨xs ++ [a], by simp [hl], fun i b hb => ?_⟩
    rcases Nat.lt_or_ge i xs.length with h1 | h1
    · rw [List.getElem?_append_left h1] at hb
      exact hx i b hb
    rw [List.getElem?_append_right h1] at hb
    have h2 : i - xs.length = 0 := by
      have := (List.getElem?_eq_some_iff.1 hb).1
      simp at this; omega
    rw [h2] at hb
    have : a = b := by simpa using hb
    subst this
    have : i = n := by omega
    rw [this]; exact ha
theorem Opens.slice {α : Type} {P : Program} {t e : TypeId} {k : Kd α} {Ok : α → Prop} (ht : P.underlying t = some (.slice e)) (hc : P.cellsOf e = k.sz) (h : Opens P e k Ok) :
    Opens P t (Kd.slice e k) (fun xs => xs.length ≤ maxLen ∧ ∀ x ∈ xs, Ok x) := by
  intro H enc w base spare held fuel cs x hx
  rcases Go.Deep.open_slice ht hx with ⟨rfl, rfl⟩ | ⟨a, len, cap, m, n, D, Pl, rfl, hb, hl, hm, hmm, rfl, hel⟩
  · exact ⟨[], ⟨none, 0, rfl, by simp, rfl, by simp, fun h => absurd h (by simp)⟩, by simp [maxLen], by simp⟩
  have hlm : len ≤ m := by rw [hmm]; split <;> omega
  obtain ⟨xs, hlen, hxs⟩ := list_of (p := fun i (a' : α) => ∃ cs', w.cells? base (a.add (i * P.cellsOf e)) (P.cellsOf e) = some cs' ∧ k.K w a' cs' ∧ Ok a') len (fun i hi => by
    obtain ⟨cs', h1, h2⟩ := hel i (by omega)
    obtain ⟨a', h3, h4⟩ := h h2
    exact ⟨a', cs', h1, h3, h4⟩)
  have hlm2 : len ≤ maxLen := by omega
  refine ⟨xs, ⟨some a, cap, by rw [hlen], by rw [hlen]; exact hl, rfl, by rw [hlen]; simpa [maxLen] using hlm2, fun _ => ⟨a, rfl, fun j p hj => ?_⟩⟩, by rw [hlen]; exact hlm2, fun y hy => ?_⟩
  · obtain ⟨cs', h1, h2, _⟩ := hxs j p hj
    refine ⟨cs', k.K_len h2, h2, fun i u hu => ?_⟩
    obtain ⟨_, _, h3⟩ := World.cells?_some h1
    have h4 := h3 i (by have := (List.getElem?_eq_some_iff.1 hu).1; have := k.K_len h2; omega)
    rw [← hc, ← Go.Proofs.YtdpcgigjlcpofaaW.PrintWords.add_add]
    rw [← hu]; exact h4
  obtain ⟨i, hi, rfl⟩ := List.mem_iff_getElem.1 hy
  obtain ⟨_, _, _, h3⟩ := hxs i _ (List.getElem?_eq_getElem hi)
  exact h3
theorem field_reads {H : Type} {enc : TypeId × Value → H} {P : Program} {w : World} {base : Nat} {spare : Nat → Bool} {held : Bool} {fuel : Nat} {t : TypeId} {cs : List Value} {x : DataW H × List MemPlace} {fs : Array Field}
    (ht : P.underlying t = some (.struct fs)) (h : DataW.trod enc P w base spare held fuel t cs = some x) :
    cs.length = P.cellsOf t ∧ ∃ n, ∀ (i : Nat) (f : Field), fs[i]? = some f → ∃ y, DataW.trod enc P w base spare held n f.type ((cs.drop f.offset).take (P.cellsOf f.type)) = some y := by
  obtain ⟨xs, n, _, _, hl, hx, hf⟩ := DataW.trod_struct ht h
  refine ⟨hl, n, fun i f hif => ?_⟩
  rw [hf i f hif]
  have hi := (Array.getElem?_eq_some_iff.1 hif).1
  exact ⟨_, List.getElem?_eq_getElem (by rw [hx]; exact hi)⟩
theorem slice_cells {α : Type} {k : Kd α} {e : Nat} {w : World} {xs : List α} {v : Value} (h : (Kd.slice e k).K w xs [v]) : ∃ A c, v = .slice A xs.length c ∧ xs.length ≤ c ∧ k.C w A xs.length xs := by
  obtain ⟨A, c, he, hl, hc⟩ := h
  injection he with he
  exact ⟨A, c, he, hl, hc⟩
theorem band {a b : Bool} (h1 : a = true) (h2 : b = true) : (a && b) = true := by rw [h1, h2]; rfl
theorem mayEnter_of {P : Program} {L c : List Char} {rest : List (List Char)} (h : P.initOrder.toList = L) (h1 : behindMainWord (wordsSigns L) = c :: rest) (h2 : ((stripLifts liftWords (c :: rest)).2.head? == some "cut".toList) = true) (h3 : P.laysLater = false) (h4 : P.bearsReflect = false) (h5 : (stripLifts liftWords (c :: rest)).1 = []) (h6 : P.doorFits [] = true) : P.mayEnter = true := by
  unfold Program.mayEnter
  rw [h, h1]
  dsimp only
  rw [h2, h3, h4, h5, h6]
  simp
theorem make_of {P : Program} {L : List Char} {rest : List (List Char)} (h : P.initOrder.toList = L) (h1 : behindMainWord (wordsSigns L) = "cut".toList :: rest) : P.make = some .cut := by
  unfold Program.make
  rw [h, h1]
  dsimp only
  rw [if_neg (by decide), if_pos (by simp)]
end Go.Proofs.YtdpcgigjlcpofaaX
set_option maxRecDepth 10000
namespace Go.Proofs.Ytdpcgigjlcpofaa.Join
open YtdpcgigjlcpofaaX
def initSigns : List Char := ['h', 'a', 'r', 'n', 'e', 's', 's', ' ', 'c', 'e', 'c', 'b', '8', '6', 'd', '2', '2', '8', '2', 'f', '6', '6', '6', '7', 'a', '3', 'b', '2', '0', 'd', '3', 'e', 'a', 'd', '2', 'c', 'f', 'e', '3', '7', '7', '5', 'b', '7', 'b', '3', 'd', '0', 'c', '6', '0', '2', '6', '1', '5', 'c', 'f', '5', '2', '5', '6', '6', 'c', '6', '0', '2', '7', '8', '5', 'c', '9', '9', ' ', 'c', 'u', 't', ' ', 'a', 't', ' ', 'b', 'a', 'c', 'k', 'h', 'a', 'u', 'l', '/', 'b', 'a', 'c', 'k', 'h', 'a', 'u', 'l', 'l', 'a', 'w', '0', '6', '.', 'S', 't', 'r', 'i', 'c', 't', 'F', 'i', 'r', 's', 't', ' ', 'b', 'a', 'c', 'k', 'h', 'a', 'u', 'l', '/', 'b', 'a', 'c', 'k', 'h', 'a', 'u', 'l', 'l', 'a', 'w', '1', '4', '.', 'I', 'n', 'd', 'e', 'x', 'T', 'e', 'l', 'l', 's', ' ', 'b', 'a', 'c', 'k', 'h', 'a', 'u', 'l', '/', 'b', 'a', 'c', 'k', 'h', 'a', 'u', 'l', 'l', 'a', 'w', '1', '4', '.', 'I', 'n', 'd', 'e', 'x', 'A', 'd', 'd', 's', ' ', 'b', 'a', 'c', 'k', 'h', 'a', 'u', 'l', '/', 'b', 'a', 'c', 'k', 'h', 'a', 'u', 'l', 'l', 'a', 'w', '1', '4', '.', 'I', 'n', 'd', 'e', 'x', 'T', 'u', 'r', 'n', 's', ' ', 'b', 'a', 'c', 'k', 'h', 'a', 'u', 'l', '/', 'b', 'a', 'c', 'k', 'h', 'a', 'u', 'l', 'l', 'a', 'w', '1', '4', '.', 'I', 'n', 'd', 'e', 'x', 'W', 'h', 'o', 'l', 'e', ' ', 'b', 'a', 'c', 'k', 'h', 'a', 'u', 'l', '/', 'b', 'a', 'c', 'k', 'h', 'a', 'u', 'l', 'l', 'a', 'w', '1', '5', '.', 'B', 'a', 't', 'c', 'h', 'A', 'p', 'p', 'l', 'i', 'e', 's', ' ', 'b', 'a', 'c', 'k', 'h', 'a', 'u', 'l', '/', 'b', 'a', 'c', 'k', 'h', 'a', 'u', 'l', 'l', 'a', 'w', '1', '5', '.', 'B', 'a', 't', 'c', 'h', 'C', 'o', 'd', 'e', 's', ' ', 'b', 'a', 'c', 'k', 'h', 'a', 'u', 'l', '/', 'b', 'a', 'c', 'k', 'h', 'a', 'u', 'l', 'l', 'a', 'w', '1', '5', '.', 'B', 'a', 't', 'c', 'h', 'W', 'h', 'o', 'l', 'e', ' ', 'b', 'a', 'c', 'k', 'h', 'a', 'u', 'l', '/', 'b', 'a', 'c', 'k', 'h', 'a', 'u', 'l', 'l', 'a', 'w', '1', '5', '.', 'B', 'a', 't', 'c', 'h', 'U', 'n', 'd', 'o', ' ', 'b', 'a', 'c', 'k', 'h', 'a', 'u', 'l', '/', 'b', 'a', 'c', 'k', 'h', 'a', 'u', 'l', 'l', 'a', 'w', '1', '5', '.', 'B', 'a', 't', 'c', 'h', 'D', 'i', 'f', 'f']
theorem initText : Try.pinned.checked.prog.initOrder = String.ofList initSigns := by kernel_rfl
theorem initList : Try.pinned.checked.prog.initOrder.toList = initSigns := (congrArg String.toList initText).trans String.toList_ofList
theorem mayEnter_is : Try.pinned.checked.prog.mayEnter = true :=
  mayEnter_of (L := initSigns) (c := "cut".toList) (rest := (behindMainWord (wordsSigns initSigns)).tail) initList (by kernel_rfl) (by kernel_rfl) (by kernel_rfl) (by kernel_rfl) (by kernel_rfl) (by kernel_rfl)
theorem make_is : Try.pinned.checked.prog.make = some .cut :=
  make_of (L := initSigns) (rest := (behindMainWord (wordsSigns initSigns)).tail) initList (by kernel_rfl)
theorem lifts_is : Try.pinned.checked.prog.liftsFinal = false := by
  unfold Program.liftsFinal Program.headLifts
  rw [initList]
  kernel_rfl
end Go.Proofs.Ytdpcgigjlcpofaa.Join
namespace Go.Proofs.Ytdpcgigjlcpofaa.batchWhole
open Go.ChangeShapes Go.WideShapes Go.ChangeAt Go.RowKit YtdpcgigjlcpofaaX Ytdpcgigjlcpofaa.F YtdpcgigjlcpofaaW.PrintWords YtdpcgigjlcpofaaW.PrintLast YtdpcgigjlcpofaaW.PrintMore
open Go.ChangeMaps (open_string shut_string)
theorem own : ownKnob Try.prog.godebug = none := by kernel_rfl
theorem laidOut : laidOutB Try.prog = true := by kernel_rfl
set_option maxRecDepth 100000 in
theorem opens_k164 : Opens Try.prog 164 k164 (fun x => ((Lit.int .i64 x.f0).wf = true ∧ x.f1.size ≤ maxLen)) := by
  intro H enc w base spare held fuel cs x h
  obtain ⟨hl, n, hf⟩ := field_reads Try.underlying164 h
  have hl2 : cs.length = 2 := hl.trans (by kernel_rfl)
  match cs, hl2 with
  | [c0, c1], _ =>
    obtain ⟨y0, h0⟩ := hf 0 _ rfl
    have e0 : Try.prog.cellsOf 3 = 1 := by kernel_rfl
    (try dsimp only at h0)
    (try simp only [e0] at h0)
    obtain ⟨a0, k0, o0⟩ := (Opens.int Try.underlying3) h0
    have k0' : ((Kd.int .i64)).K w a0 [c0] := k0
    obtain ⟨y1, h1⟩ := hf 1 _ rfl
    have e1 : Try.prog.cellsOf 9 = 1 := by kernel_rfl
    (try dsimp only at h1)
    (try simp only [e1] at h1)
    obtain ⟨a1, k1, o1⟩ := (Opens.string Try.underlying9) h1
    have k1' : (Kd.string).K w a1 [c1] := k1
    exact ⟨(⟨a0, a1⟩ : S164), ⟨[c0], [c1], rfl, k0', k1'⟩, ⟨o0, o1⟩⟩
set_option maxRecDepth 100000 in
theorem opens_k75 : Opens Try.prog 75 k75 (fun x => ((x.f0.length ≤ maxLen ∧ ∀ y ∈ x.f0, (y.length ≤ maxLen ∧ ∀ x ∈ y, ((Lit.int .i64 x.f0).wf = true ∧ x.f1.size ≤ maxLen))))) := by
  intro H enc w base spare held fuel cs x h
  obtain ⟨hl, n, hf⟩ := field_reads Try.underlying75 h
  have hl2 : cs.length = 1 := hl.trans (by kernel_rfl)
  match cs, hl2 with
  | [c0], _ =>
    obtain ⟨y0, h0⟩ := hf 0 _ rfl
    have e0 : Try.prog.cellsOf 73 = 1 := by kernel_rfl
    (try dsimp only at h0)
    (try simp only [e0] at h0)
    obtain ⟨a0, k0, o0⟩ := (Opens.slice Try.underlying73 (by kernel_rfl) (Opens.slice Try.underlying162 (by kernel_rfl) opens_k164)) h0
    have k0' : ((Kd.slice 162 (Kd.slice 164 k164))).K w a0 [c0] := k0
    exact ⟨(⟨a0⟩ : S75), k0', o0⟩
set_option maxRecDepth 100000 in
theorem opens_k166 : Opens Try.prog 166 k166 (fun x => ((Lit.int .i64 x.f0).wf = true ∧ (Lit.int .i64 x.f1).wf = true ∧ (Lit.int .i64 x.f2).wf = true ∧ x.f3.size ≤ maxLen)) := by
  intro H enc w base spare held fuel cs x h
  obtain ⟨hl, n, hf⟩ := field_reads Try.underlying166 h
  have hl2 : cs.length = 4 := hl.trans (by kernel_rfl)
  match cs, hl2 with
  | [c0, c1, c2, c3], _ =>
    obtain ⟨y0, h0⟩ := hf 0 _ rfl
    have e0 : Try.prog.cellsOf 3 = 1 := by kernel_rfl
    (try dsimp only at h0)
    (try simp only [e0] at h0)
    obtain ⟨a0, k0, o0⟩ := (Opens.int Try.underlying3) h0
    have k0' : ((Kd.int .i64)).K w a0 [c0] := k0
    obtain ⟨y1, h1⟩ := hf 1 _ rfl
    have e1 : Try.prog.cellsOf 3 = 1 := by kernel_rfl
    (try dsimp only at h1)
    (try simp only [e1] at h1)
    obtain ⟨a1, k1, o1⟩ := (Opens.int Try.underlying3) h1
    have k1' : ((Kd.int .i64)).K w a1 [c1] := k1
    obtain ⟨y2, h2⟩ := hf 2 _ rfl
    have e2 : Try.prog.cellsOf 3 = 1 := by kernel_rfl
    (try dsimp only at h2)
    (try simp only [e2] at h2)
    obtain ⟨a2, k2, o2⟩ := (Opens.int Try.underlying3) h2
    have k2' : ((Kd.int .i64)).K w a2 [c2] := k2
    obtain ⟨y3, h3⟩ := hf 3 _ rfl
    have e3 : Try.prog.cellsOf 9 = 1 := by kernel_rfl
    (try dsimp only at h3)
    (try simp only [e3] at h3)
    obtain ⟨a3, k3, o3⟩ := (Opens.string Try.underlying9) h3
    have k3' : (Kd.string).K w a3 [c3] := k3
    exact ⟨(⟨a0, a1, a2, a3⟩ : S166), ⟨[c0], [c1, c2, c3], rfl, k0', ⟨[c1], [c2, c3], rfl, k1', ⟨[c2], [c3], rfl, k2', k3'⟩⟩⟩, ⟨o0, o1, o2, o3⟩⟩
set_option maxRecDepth 100000 in
theorem lifted (os : Os) (started : os.Started) (H : Type) (enc : TypeId × Value → H) :
    ReturnsInHanded {} Try.checked os 10 .any (Rows.batchWholeSpec.pre6 enc Try.prog Try.f10 Rows.batchWholeRow.domain false) (Rows.batchWholeSpec.post enc Try.prog Try.f10 false true false false) := by
  refine returnsInHanded_of_change_sized (C := Try.checked) own started (by kernel_rfl) Try.func10
    (ChangeSpec.witness6 (enc := enc) (C := Try.checked) false ⟨#[], #[.agg #[.slice none 0 0], .slice none 0 0], []⟩ 8 (by kernel_rfl) (by kernel_rfl) (by kernel_rfl) (by kernel_rfl)) ?_
  intro W base args ds gs before hval0 hW hcnd hsz0 _
  have hval : ∀ (j : Nat) t v, Try.f10.params[j]? = some t → args[j]? = some v → Value.okWide Try.prog W .any base t v := hval0
  have hW' := hW
  obtain ⟨p, q, hA0, hV, rfl, hfz, hnd⟩ := hW
  have hA : DataW.TrodAll enc Try.prog W 0 (fun _ => true) true Try.f10.params.toList args.toList ds p := hA0
  rw [Try.params10] at hA hval
  obtain ⟨v0, vs0, d0, ds0, p0, q0, hargs, rfl, rfl, h0, r0⟩ := trodAll_cons hA
  obtain ⟨v1, vs1, d1, ds1, p1, q1, rfl, rfl, rfl, h1, r1⟩ := trodAll_cons r0
  obtain ⟨rfl, rfl, rfl⟩ := trodAll_nil r1
  obtain rfl : args = #[v0, v1] := by cases args; simp_all
  obtain ⟨rfl, rfl⟩ := trodVars_none hV
  have k0 := h0
  have lt0 : ∀ x ∈ p0, x.block < W.heap.size := by obtain ⟨m, hm⟩ := k0; exact DataW.trod_lt m _ _ _ hm
  obtain ⟨cs0, rfl, _⟩ := okWide_struct Try.underlying75 (hval 0 75 v0 rfl rfl)
  obtain ⟨f0, hf0⟩ := h0
  obtain ⟨x0, hk0, ho0⟩ := opens_k75 hf0
  obtain ⟨A0_0, c0_0, he0, hl0_0, hc0_0⟩ := k75_open hk0
  obtain rfl : cs0 = _ := Array.toList_inj.1 (he0.trans (List.toList_toArray).symm)
  have k1 := h1
  have lt1 : ∀ x ∈ p1, x.block < W.heap.size := by obtain ⟨m, hm⟩ := k1; exact DataW.trod_lt m _ _ _ hm
  obtain ⟨b1, len1, cap1, rfl⟩ := okWide_slice Try.underlying76 (hval 1 76 v1 rfl rfl)
  obtain ⟨f1, hf1⟩ := h1
  obtain ⟨x1, hk1, ho1⟩ := (Opens.slice Try.underlying76 (by kernel_rfl) opens_k166) hf1
  obtain ⟨A1, c1, he1, hl1, hc1⟩ := slice_cells (show _ from hk1)
  injection he1 with e1_1 e1_2 e1_3
  subst e1_1 e1_2 e1_3
  obtain ⟨k, h⟩ : ∃ k, backhaullaw15_BatchWhole.f k x0.f0 x1 = some true := Pure.BatchWhole x0.f0 x1 ho0 ho1
  refine (backhaullaw15_BatchWhole.calls k (fun k_ => k_ < W.heap.size) _ _ x0.f0 _ _ x1 W (Kd.V_mk hl0_0 (Kd.C_F (Kd.heap_slice 164 k164_heap) hc0_0)) hc1 hl1 h).mono fun e W' hq => ?_
  obtain ⟨he, bel0⟩ := hq
  have bel : Below W.heap.size W W' := bel0
  subst he
  exact ⟨_, rfl, _, _, _, [], _, [], hW', trodAll_mk1 (shut_bool Try.underlying4 _), (trodAll_cons_mk (Below.trod laidOut (by kernel_rfl) (of_decide_eq_true (by kernel_rfl)) k0 bel lt0) (trodAll_cons_mk (Below.trod laidOut (by kernel_rfl) (of_decide_eq_true (by kernel_rfl)) k1 bel lt1) trodAll_mk0)), rfl, bel.frame _, fun h => by cases h⟩
theorem closed_ : joinedFacts Try.pinned.checked.prog 10 Try.f10 Rows.batchWholeSpec Rows.batchWholeRow = true := by
  unfold joinedFacts
  repeat' (with_reducible apply band)
  any_goals with_reducible exact Join.mayEnter_is
  any_goals (rw [Join.make_is]; kernel_rfl)
  any_goals (rw [Join.lifts_is]; kernel_rfl)
  all_goals kernel_rfl
theorem over : Rows.batchWholeRow.holds Try.pinned (OpenSpec.ofChange Rows.batchWholeSpec) :=
  OpenClaim.holds_of_wide 10 Try.f10 rfl rfl rfl rfl rfl rfl rfl ⟨rfl, rfl, rfl, rfl, rfl⟩ rfl rfl rfl rfl rfl (by kernel_rfl) Try.func10 closed_
    (of_decide_eq_true (by kernel_rfl)) (by unfold Func.isWrapper; first | (rw [if_pos (by decide +kernel)]; kernel_rfl) | (rw [if_neg (by decide +kernel)]; exact ⟨rfl, rfl⟩))
    (fun os started H enc _ => lifted os started H enc)
theorem proved : Rows.BatchWholeSaid := over
#print axioms proved
end Go.Proofs.Ytdpcgigjlcpofaa.batchWhole
namespace Go.Proofs.Ytdpcgigjlcpofaa
theorem batchWhole_holds : Rows.BatchWholeSaid := batchWhole.proved
end Go.Proofs.Ytdpcgigjlcpofaa
