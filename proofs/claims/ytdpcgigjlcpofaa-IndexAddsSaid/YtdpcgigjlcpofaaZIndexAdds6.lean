-- merged and pruned by prune.py (the session's own program); its words go back to the kit's print
import Derived.Test.YtdpcgigjlcpofaaProg
import Derived.Below
import Derived.Deep.Draws
import Derived.Deep.AppendLies
import Derived.Maps.AppendAt
import Derived.OwnWalk
import Derived.Laws.BytesArg
import Derived.Laws.MakeOwn
import Derived.Laws.OwnMore
import Derived.Deep.OwnRows
import Derived.Tactics
import Derived.Lib.ConvBytes
import Derived.Laws.Slices
import Derived.WalkKit
import Derived.KernelRfl
import Derived.RowKit3
import Derived.Deep.LoopGhost
import Derived.Deep.QuietTactic
import Derived.BigQuiet
import Derived.WideLaws
import Derived.Deep.DeepCutAuto
import Derived.Deep.CutBlock
import Derived.Deep.RegionHeld3
import Derived.Laws.Rows
import Derived.Lib.AppendStr
import Derived.ArgAppend
import Derived.Laws.IdiomCopy
import Derived.OrdersHeld
import Derived.Laws.BitsLemmas
import Derived.RowKit
import Derived.Laws.StructEq
import Derived.Deep.RegionLawGrows
import Derived.Lib.SliceRun
import Derived.Lib.OthersKept
import Derived.Lib.RuneCount
import Derived.Laws.Cover4
import Derived.Outline
import Derived.Shelf.Strings.Builder1
import Derived.Shelf.Strings.BuilderF
import Derived.Shelf.Strings.BuilderK
import Derived.Shelf.Utf8.RuneCount
import Derived.Shelf.Strings.Prefix
import Derived.Ground.Names2Prog
import Derived.Shelf.Slices.ReverseS
import Derived.Shelf.Slices.Clone
import Derived.Shelf.Slices.SearchI
import Derived.Shelf.Slices.Delete
import Derived.Shelf.Slices.Cells
import Derived.Shelf.Slices.Empties
import Derived.Ground.SlgnProg
import Derived.Shelf.SlicesE.Clone
import Derived.Laws.CopyRow
import Derived.Laws.CopyOwn
import Derived.Shelf.Spec.SlicesInsertGrow
import Derived.Test.YtdpcgigjlcpofaaZIndexAdds5
namespace Go.Proofs.Ytdpcgigjlcpofaa.F
open Go.RowKit Go.Proofs.YtdpcgigjlcpofaaX Go.Proofs.YtdpcgigjlcpofaaW.PrintWords Go.Proofs.YtdpcgigjlcpofaaW.PrintLast Go.Proofs.YtdpcgigjlcpofaaW.PrintMore
attribute [local go_sem] max2_int min2_int max_two min_two max_three min_three max_four min_four   
attribute [local go_sem high] str_geq str_leq str_gtr
set_option linter.unusedVariables false
set_option linter.unusedSimpArgs false
mutual
def backhaullaw14_IndexAdds.j0 : Nat → ByteArray → List Int → Bool → List ByteArray → List (List Int) → Option (Bool)
  | 0, _, _, _, _, _ => none
  | k + 1, x1, x2, x32, x102000, x102001 => if x32 = true then ((backhaullaw14_awake.f).bind fun t103 => (if t103 = true then (some true) else (some false))) else ((backhaulref14_Pairs.f k x102000 x102001).bind fun bt104 => ((index_Add.f k x102000 x102001 x1 x2).bind fun bt108 => (if bt104.2 = true then ((backhaulref14_Add.f k bt104.1 x1 x2).bind fun bt125 => (if bt108.2.2 = bt125.2 then (if bt108.2.2 = 0 then ((backhaullaw14_same.f k bt108.1 bt108.2.1 bt125.1).bind fun t129 => (if t129 = true then (backhaullaw14_IndexAdds.j1 k x1 x2 bt104.1 false x102000 x102001) else (backhaullaw14_IndexAdds.j1 k x1 x2 bt104.1 true x102000 x102001))) else (backhaullaw14_IndexAdds.j1 k x1 x2 bt104.1 ((bt108.1.length : Int) != 0) x102000 x102001)) else (backhaullaw14_IndexAdds.j1 k x1 x2 bt104.1 true x102000 x102001))) else ((index_Drop.f k x102000 x102001 x1 1).bind fun bt116 => (if bt108.2.2 = 40 then (if bt116.2.2 = 40 then ((backhaullaw14_awake.f).bind fun t124 => (if t124 = true then (some true) else (some false))) else (some false)) else (some false))))))
def backhaullaw14_IndexAdds.j1 : Nat → ByteArray → List Int → List (S146) → Bool → List ByteArray → List (List Int) → Option (Bool)
  | 0, _, _, _, _, _, _ => none
  | k + 1, x1, x2, x7, x95, x102000, x102001 => if x95 = true then (some false) else (backhaullaw14_IndexAdds.l0 k x1 x2 x7 0 x102000 x102001)
def backhaullaw14_IndexAdds.l0 : Nat → ByteArray → List Int → List (S146) → Int → List ByteArray → List (List Int) → Option (Bool)
  | 0, _, _, _, _, _, _ => none
  | k + 1, x1, x2, x7, x15, x102000, x102001 => if x15 < (x2.length : Int) then (if 0 ≤ x15 then ((index_Drop.f k x102000 x102001 x1 (rd x2 x15)).bind fun bt132 => ((backhaulref14_Drop.f k x7 x1 (rd x2 x15)).bind fun bt141 => (if bt132.2.2 = bt141.2 then (if bt132.2.2 = 0 then ((backhaullaw14_same.f k bt132.1 bt132.2.1 bt141.1).bind fun t145 => (if t145 = true then (backhaullaw14_IndexAdds.l0 k x1 x2 x7 (wrap64 (x15 + 1)) x102000 x102001) else (some false))) else (backhaullaw14_IndexAdds.l0 k x1 x2 x7 (wrap64 (x15 + 1)) x102000 x102001)) else (some false)))) else (none)) else ((backhaullaw14_awake.f).bind fun t130 => (if t130 = true then (some true) else (some false)))
end
def backhaullaw14_IndexAdds.f (k : Nat) (l0_0 : List ByteArray) (l0_1 : List (List Int)) (a1 : ByteArray) (l2 : List Int) : Option (Bool) := (backhaullaw14_Few.f k l0_0 l0_1).bind fun t102 => (if t102 = true then (if (a1.size : Int) > 100 then (backhaullaw14_IndexAdds.j0 k a1 l2 true l0_0 l0_1) else (backhaullaw14_IndexAdds.j0 k a1 l2 (decide ((l2.length : Int) > 50)) l0_0 l0_1)) else (backhaullaw14_IndexAdds.j0 k a1 l2 true l0_0 l0_1))
theorem backhaullaw14_IndexAdds.mono_l : ∀ k, (∀ y0 y1 y2 y3 y4, LeO (backhaullaw14_IndexAdds.j0 k y0 y1 y2 y3 y4) (backhaullaw14_IndexAdds.j0 (k + 1) y0 y1 y2 y3 y4)) ∧ (∀ y0 y1 y2 y3 y4 y5, LeO (backhaullaw14_IndexAdds.j1 k y0 y1 y2 y3 y4 y5) (backhaullaw14_IndexAdds.j1 (k + 1) y0 y1 y2 y3 y4 y5)) ∧ (∀ y0 y1 y2 y3 y4 y5, LeO (backhaullaw14_IndexAdds.l0 k y0 y1 y2 y3 y4 y5) (backhaullaw14_IndexAdds.l0 (k + 1) y0 y1 y2 y3 y4 y5))
  | 0 => ⟨fun _ _ _ _ _ r h => by simp [backhaullaw14_IndexAdds.j0] at h, fun _ _ _ _ _ _ r h => by simp [backhaullaw14_IndexAdds.j1] at h, fun _ _ _ _ _ _ r h => by simp [backhaullaw14_IndexAdds.l0] at h⟩
  | k + 1 => by
    obtain ⟨ih0, ih1, ih2⟩ := backhaullaw14_IndexAdds.mono_l k
    refine ⟨?_, ?_, ?_⟩
    · intro y0 y1 y2 y3 y4
      unfold backhaullaw14_IndexAdds.j0
      repeat' (with_reducible first | exact ih0 _ _ _ _ _ | exact ih1 _ _ _ _ _ _ | exact ih2 _ _ _ _ _ _ | exact backhaullaw14_Few.mono _ _ _ | exact backhaullaw14_same.mono _ _ _ _ | exact backhaulref14_Add.mono _ _ _ _ | exact backhaulref14_Drop.mono _ _ _ _ | exact backhaulref14_Pairs.mono _ _ _ | exact index_Add.mono _ _ _ _ _ | exact index_Drop.mono _ _ _ _ _ | exact LeO.refl _ | exact LeO.none _ | refine LeO.ite ?_ ?_ | refine LeO.bind ?_ (fun _ => ?_))
    · intro y0 y1 y2 y3 y4 y5
      unfold backhaullaw14_IndexAdds.j1
      repeat' (with_reducible first | exact ih0 _ _ _ _ _ | exact ih1 _ _ _ _ _ _ | exact ih2 _ _ _ _ _ _ | exact backhaullaw14_Few.mono _ _ _ | exact backhaullaw14_same.mono _ _ _ _ | exact backhaulref14_Add.mono _ _ _ _ | exact backhaulref14_Drop.mono _ _ _ _ | exact backhaulref14_Pairs.mono _ _ _ | exact index_Add.mono _ _ _ _ _ | exact index_Drop.mono _ _ _ _ _ | exact LeO.refl _ | exact LeO.none _ | refine LeO.ite ?_ ?_ | refine LeO.bind ?_ (fun _ => ?_))
    intro y0 y1 y2 y3 y4 y5
    unfold backhaullaw14_IndexAdds.l0
    repeat' (with_reducible first | exact ih0 _ _ _ _ _ | exact ih1 _ _ _ _ _ _ | exact ih2 _ _ _ _ _ _ | exact backhaullaw14_Few.mono _ _ _ | exact backhaullaw14_same.mono _ _ _ _ | exact backhaulref14_Add.mono _ _ _ _ | exact backhaulref14_Drop.mono _ _ _ _ | exact backhaulref14_Pairs.mono _ _ _ | exact index_Add.mono _ _ _ _ _ | exact index_Drop.mono _ _ _ _ _ | exact LeO.refl _ | exact LeO.none _ | refine LeO.ite ?_ ?_ | refine LeO.bind ?_ (fun _ => ?_))
theorem backhaullaw14_IndexAdds.mono : ∀ a0 a1 a2 a3 k, LeO (backhaullaw14_IndexAdds.f k a0 a1 a2 a3) (backhaullaw14_IndexAdds.f (k + 1) a0 a1 a2 a3) := by
  intro a0 a1 a2 a3 k
  obtain ⟨ih0, ih1, ih2⟩ := backhaullaw14_IndexAdds.mono_l k
  unfold backhaullaw14_IndexAdds.f
  repeat' (with_reducible first | exact ih0 _ _ _ _ _ | exact ih1 _ _ _ _ _ _ | exact ih2 _ _ _ _ _ _ | exact backhaullaw14_Few.mono _ _ _ | exact backhaullaw14_same.mono _ _ _ _ | exact backhaulref14_Add.mono _ _ _ _ | exact backhaulref14_Drop.mono _ _ _ _ | exact backhaulref14_Pairs.mono _ _ _ | exact index_Add.mono _ _ _ _ _ | exact index_Drop.mono _ _ _ _ _ | exact LeO.refl _ | exact LeO.none _ | refine LeO.ite ?_ ?_ | refine LeO.bind ?_ (fun _ => ?_))
def backhaullaw14_IndexAdds.T14 : Bool × List (List Nat × List Nat) := (true, [([], []), ([], []), ([], []), ([], []), ([2, 3], [2, 3]), ([4], [4]), ([0, 1, 5], [0, 1, 5]), ([6], [6]), ([7], [7]), ([7], [7]), ([], []), ([10, 8, 6, 0, 1, 2, 3, 4, 5, 6, 7, 8, 10], [8, 10]), ([9, 11, 0, 1, 2, 3, 4, 5, 6, 7, 8, 9, 10, 11], [9])])
def backhaullaw14_IndexAdds.B14 : List Nat := [0, 0, 0, 0, 12, 28, 63, 127, 255, 255, 0, 1535, 4095]
theorem backhaullaw14_IndexAdds.tab14 : rtab .any (opsOf Try.f5 14) = backhaullaw14_IndexAdds.T14 := by kernel_rfl
theorem backhaullaw14_IndexAdds.bits14 : waitsOk backhaullaw14_IndexAdds.T14.2 backhaullaw14_IndexAdds.B14 = true := by kernel_rfl
set_option maxHeartbeats 8000000 in
set_option maxRecDepth 100000 in
theorem backhaullaw14_IndexAdds.calls (k : Nat) (A0_0 : Option Addr) (c0_0 : Nat) (l0_0 : List ByteArray) (A0_1 : Option Addr) (c0_1 : Nat) (l0_1 : List (List Int)) (a1 : ByteArray) (A2 : Option Addr) (c2 : Nat) (l2 : List Int) (w : World) (hr0_0 : Kd.C Kd.string w A0_0 l0_0.length l0_0) (hc0_0 : l0_0.length ≤ c0_0) (hr0_1 : Kd.C (Kd.slice 3 (Kd.int .i64)) w A0_1 l0_1.length l0_1) (hc0_1 : l0_1.length ≤ c0_1) (hr2 : Kd.C (Kd.int .i64) w A2 l2.length l2) (hc2 : l2.length ≤ c2) (h : backhaullaw14_IndexAdds.f k l0_0 l0_1 a1 l2 = some true) :
    Calls Try.prog 5 #[.agg #[.slice A0_0 l0_0.length c0_0, .slice A0_1 l0_1.length c0_1], .string a1, .slice A2 l2.length c2] w fun e w' => e = .returned (.bool true) ∧ Below w.heap.size w w' := by
  have hu51 := Try.underlying51
  have HR0_0 := zA hr0_0
  have HC0_0 := zA hc0_0
  clear hr0_0 hc0_0
  have HR0_1 := zA hr0_1
  have HC0_1 := zA hc0_1
  clear hr0_1 hc0_1
  have HR2 := zA hr2
  have HC2 := zA hc2
  clear hr2 hc2
  have HB := zA (Below.refl w.heap.size w)
  have H : ((backhaullaw14_Few.f k l0_0 l0_1).bind fun t102 => (if t102 = true then (if (a1.size : Int) > 100 then (backhaullaw14_IndexAdds.j0 k a1 l2 true l0_0 l0_1) else (backhaullaw14_IndexAdds.j0 k a1 l2 (decide ((l2.length : Int) > 50)) l0_0 l0_1)) else (backhaullaw14_IndexAdds.j0 k a1 l2 true l0_0 l0_1))) = some true := h
  clear h
  have HC4 := zA H
  clear H
  go_enter Try.func5, Try.ntmps5
  go_upto_region 1 with (first | ((with_reducible refine gate_dst (N := 3) rfl ?_); (try (refine gate_guard (by rfl) ?_; dsimp only)); refine box_event qr (N := 3) qr (cs := #[.slice A0_0 l0_0.length c0_0, .slice A0_1 l0_1.length c0_1]) (t := 51) qg ?_; intro gb101 hg w5 hbox hb; have n0_ := zA (zV qB hb); have n1_ := zA (hbox); have n2_ := zA ((qS : w.heap.size ≤ gb101)); have n3_ := zA ((qS : w.heap.size ≤ gb101)); clear HB; have HB := n0_; have BK101 := n1_; have GW101 := n2_; have GE101 := n3_; clear n0_ n1_ n2_ n3_ hb hbox hg))
  (try simp only [Act.put, zH, zI, zJ])
  go_cut [32] (fun v32 wc => ∃ (kq : Nat) (x32_3 : Bool), v32 = .bool x32_3 ∧ Aside0 (backhaullaw14_IndexAdds.j0 kq a1 l2 x32_3 l0_0 l0_1 = some true) ∧ Aside0 (kq ≤ k) ∧ Aside0 (wc.heap[gb101]? = some (.cells #[(.slice A0_0 l0_0.length c0_0), (.slice A0_1 l0_1.length c0_1)] 51 (0, 0))) ∧ Aside0 (Below w.heap.size w wc))
  case first =>
    have H := HC4.out; clear HC4; replace H := Option.bind_eq_some_iff.mp H; obtain ⟨t102, A60, H⟩ := H; try dsimp only at H
    have A6 := zA A60; clear A60; by_cases c7 : t102 = true
    · subst c7
      have H1 : (if (a1.size : Int) > 100 then (backhaullaw14_IndexAdds.j0 k a1 l2 true l0_0 l0_1) else (backhaullaw14_IndexAdds.j0 k a1 l2 (decide ((l2.length : Int) > 50)) l0_0 l0_1)) = some true := by first | (rw [if_pos rfl] at H; exact H) | rfl
      clear H; have H := H1; clear H1; by_cases c8 : (a1.size : Int) > 100
      · rw [if_pos c8] at H
        have c8b0 : decide (100 < (a1.size : Int)) = true := zFq c8; have c8b1 : decide (100 < a1.size) = true := zFq (by omega); clear c8; (first | rw [c8b0] | (simp only [i64_w, i32_w]; rw [c8b0]) | skip)
        have H' := zA H; clear H; obtain ⟨_, _, _, _⟩ := qc2f BK101.out; go_wp2_with (first | ((with_reducible refine zJq (f := 25) rfl ?_); refine goesL_ (some 21) rfl rfl Try.func25 (by kernel_rfl) rfl #[.agg #[.slice A0_0 l0_0.length c0_0, .slice A0_1 l0_1.length c0_1]] rfl qG ?_; (with_reducible refine (backhaullaw14_Few.calls k _ _ l0_0 _ _ l0_1 true _ ?side1 ?side2 ?side3 ?side4 A6.out).mono ?_); (case side1 => exact qC (Kd.C_below HR0_0.out HB.out)); (case side2 => exact HC0_0.out); (case side3 => exact qC (Kd.C_below HR0_1.out HB.out)); (case side4 => exact HC0_1.out); rintro e w10 ⟨rfl, hb⟩; refine ⟨_, rfl, ?_⟩; have n0_ := zA (qX BK101.out hb); have n1_ := zA (zV qB hb); clear BK101 HB; have BK101 := n0_; have HB := n1_; clear n0_ n1_; (try clear hb))); go_meet
        case rel => exact ⟨_, (true), (by first | rfl | (simp; done) | (simp [*]; done)), H', ⟨by first | omega | exact Nat.le_refl _⟩, ⟨by exact BK101.out⟩, ⟨qB⟩⟩
      rw [if_neg c8] at H; have c8b0 : decide (100 < (a1.size : Int)) = false := zGq c8; have c8b1 : decide (100 < a1.size) = false := zGq (by omega); clear c8; (first | rw [c8b0] | (simp only [i64_w, i32_w]; rw [c8b0]) | skip)
      have H' := zA H; clear H; obtain ⟨_, _, _, _⟩ := qc2f BK101.out; go_wp2_with (first | ((with_reducible refine zJq (f := 25) rfl ?_); refine goesL_ (some 21) rfl rfl Try.func25 (by kernel_rfl) rfl #[.agg #[.slice A0_0 l0_0.length c0_0, .slice A0_1 l0_1.length c0_1]] rfl qG ?_; (with_reducible refine (backhaullaw14_Few.calls k _ _ l0_0 _ _ l0_1 true _ ?side1 ?side2 ?side3 ?side4 A6.out).mono ?_); (case side1 => exact qC (Kd.C_below HR0_0.out HB.out)); (case side2 => exact HC0_0.out); (case side3 => exact qC (Kd.C_below HR0_1.out HB.out)); (case side4 => exact HC0_1.out); rintro e w12 ⟨rfl, hb⟩; refine ⟨_, rfl, ?_⟩; have n0_ := zA (qX BK101.out hb); have n1_ := zA (zV qB hb); clear BK101 HB; have BK101 := n0_; have HB := n1_; clear n0_ n1_; (try clear hb))); go_meet
      case rel => exact ⟨_, (decide ((l2.length : Int) > 50)), (by first | rfl | (simp; done) | (simp [*]; done)), H', ⟨by first | omega | exact Nat.le_refl _⟩, ⟨by exact BK101.out⟩, ⟨qB⟩⟩
    replace c7 := Bool.eq_false_iff.mpr c7; subst c7; have H1 : (backhaullaw14_IndexAdds.j0 k a1 l2 true l0_0 l0_1) = some true := by first | (rw [if_neg (show ¬ (false = true) by decide)] at H; exact H) | rfl
    clear H; have H := H1; clear H1; have H' := zA H; clear H; obtain ⟨_, _, _, _⟩ := qc2f BK101.out; go_wp2_with (first | ((with_reducible refine zJq (f := 25) rfl ?_); refine goesL_ (some 21) rfl rfl Try.func25 (by kernel_rfl) rfl #[.agg #[.slice A0_0 l0_0.length c0_0, .slice A0_1 l0_1.length c0_1]] rfl qG ?_; (with_reducible refine (backhaullaw14_Few.calls k _ _ l0_0 _ _ l0_1 false _ ?side1 ?side2 ?side3 ?side4 A6.out).mono ?_); (case side1 => exact qC (Kd.C_below HR0_0.out HB.out)); (case side2 => exact HC0_0.out); (case side3 => exact qC (Kd.C_below HR0_1.out HB.out)); (case side4 => exact HC0_1.out); rintro e w14 ⟨rfl, hb⟩; refine ⟨_, rfl, ?_⟩; have n0_ := zA (qX BK101.out hb); have n1_ := zA (zV qB hb); clear BK101 HB; have BK101 := n0_; have HB := n1_; clear n0_ n1_; (try clear hb))); go_meet
    case rel => exact ⟨_, (true), (by first | rfl | (simp; done) | (simp [*]; done)), H', ⟨by first | omega | exact Nat.le_refl _⟩, ⟨by exact BK101.out⟩, ⟨qB⟩⟩
  case rest =>
    clear HC4; try clear c2
    try clear p2
    try clear c5
    try clear c7
    try clear c8
    try clear c8b0
    try clear c8b1
    obtain ⟨kq, x32_3, rfl, HA, HJ3, BK101, HB⟩ := hcut; cases kq with
    | zero => exact absurd HA.out (by simp [backhaullaw14_IndexAdds.j0])
    | succ kj3 =>
      have H := HA.out; clear HA; simp only [backhaullaw14_IndexAdds.j0] at H; by_cases c15 : x32_3 = true
      · subst c15
        have H1 : ((backhaullaw14_awake.f).bind fun t103 => (if t103 = true then (some true) else (some false))) = some true := by first | (rw [if_pos rfl] at H; exact H) | rfl
        clear H; have H := H1; clear H1; replace H := Option.bind_eq_some_iff.mp H; obtain ⟨t103, A160, H⟩ := H; try dsimp only at H
        have A16 := zA A160; clear A160; by_cases c17 : t103 = true
        · subst c17
          have H1 : (some true) = some true := by first | (rw [if_pos rfl] at H; exact H) | rfl
          clear H; have H := H1; clear H1; clear H; go_wp2_with (first | ((with_reducible refine zJq (f := 26) rfl ?_); refine goesL_ (some 33) rfl rfl Try.func26 (by kernel_rfl) rfl #[] rfl qG ?_; (with_reducible refine (backhaullaw14_awake.calls  true _ A16.out).mono ?_); rintro e w18 ⟨rfl, hb⟩; refine ⟨_, rfl, ?_⟩; have n0_ := zA (qX BK101.out hb); have n1_ := zA (zV qB hb); clear BK101 HB; have BK101 := n0_; have HB := n1_; clear n0_ n1_; (try clear hb))); go_ret; exact ⟨qE, qB⟩
        replace c17 := Bool.eq_false_iff.mpr c17; subst c17; have H1 : (some false) = some true := by first | (rw [if_neg (show ¬ (false = true) by decide)] at H; exact H) | rfl
        clear H; have H := H1; clear H1; exact absurd H (by simp)
      replace c15 := Bool.eq_false_iff.mpr c15; subst c15; have H1 : ((backhaulref14_Pairs.f kj3 l0_0 l0_1).bind fun bt104 => ((index_Add.f kj3 l0_0 l0_1 a1 l2).bind fun bt108 => (if bt104.2 = true then ((backhaulref14_Add.f kj3 bt104.1 a1 l2).bind fun bt125 => (if bt108.2.2 = bt125.2 then (if bt108.2.2 = 0 then ((backhaullaw14_same.f kj3 bt108.1 bt108.2.1 bt125.1).bind fun t129 => (if t129 = true then (backhaullaw14_IndexAdds.j1 kj3 a1 l2 bt104.1 false l0_0 l0_1) else (backhaullaw14_IndexAdds.j1 kj3 a1 l2 bt104.1 true l0_0 l0_1))) else (backhaullaw14_IndexAdds.j1 kj3 a1 l2 bt104.1 ((bt108.1.length : Int) != 0) l0_0 l0_1)) else (backhaullaw14_IndexAdds.j1 kj3 a1 l2 bt104.1 true l0_0 l0_1))) else ((index_Drop.f kj3 l0_0 l0_1 a1 1).bind fun bt116 => (if bt108.2.2 = 40 then (if bt116.2.2 = 40 then ((backhaullaw14_awake.f).bind fun t124 => (if t124 = true then (some true) else (some false))) else (some false)) else (some false)))))) = some true := by first | (rw [if_neg (show ¬ (false = true) by decide)] at H; exact H) | rfl
      clear H; have H := H1; clear H1; replace H := Option.bind_eq_some_iff.mp H; obtain ⟨⟨t104, t105⟩, A190, H⟩ := H; try dsimp only at H
      have A19 := zA A190; clear A190; replace H := Option.bind_eq_some_iff.mp H; obtain ⟨⟨t108, t111, t114⟩, A200, H⟩ := H; try dsimp only at H
      have A20 := zA A200; clear A200; by_cases c21 : t105 = true
      · subst c21
        have H1 : ((backhaulref14_Add.f kj3 t104 a1 l2).bind fun bt125 => (if t114 = bt125.2 then (if t114 = 0 then ((backhaullaw14_same.f kj3 t108 t111 bt125.1).bind fun t129 => (if t129 = true then (backhaullaw14_IndexAdds.j1 kj3 a1 l2 t104 false l0_0 l0_1) else (backhaullaw14_IndexAdds.j1 kj3 a1 l2 t104 true l0_0 l0_1))) else (backhaullaw14_IndexAdds.j1 kj3 a1 l2 t104 ((t108.length : Int) != 0) l0_0 l0_1)) else (backhaullaw14_IndexAdds.j1 kj3 a1 l2 t104 true l0_0 l0_1))) = some true := by first | (rw [if_pos rfl] at H; exact H) | rfl
        clear H; have H := H1; clear H1; replace H := Option.bind_eq_some_iff.mp H; obtain ⟨⟨t125, t128⟩, A220, H⟩ := H; try dsimp only at H
        have A22 := zA A220; clear A220; have HC23 := zA H; clear H; obtain ⟨_, _, _, _⟩ := qc2f BK101.out; go_upto_region 9 with (first | ((with_reducible refine zJq (f := 27) rfl ?_); refine goesL_ (some 39) rfl rfl Try.func27 (by kernel_rfl) rfl #[.slice A0_0 l0_0.length c0_0, .slice A0_1 l0_1.length c0_1] rfl qG ?_; (with_reducible refine (backhaulref14_Pairs.calls kj3 _ _ l0_0 _ _ l0_1 t104 true _ ?side1 ?side2 ?side3 ?side4 A19.out).mono ?_); (case side1 => exact qC (Kd.C_below HR0_0.out HB.out)); (case side2 => exact HC0_0.out); (case side3 => exact qC (Kd.C_below HR0_1.out HB.out)); (case side4 => exact HC0_1.out); rintro e w25 ⟨v106, rfl, ho0, hb⟩; refine ⟨_, rfl, ?_⟩; have n0_ := zA (Kd.R_lower ho0 (zW qB)); have n1_ := zA (qX BK101.out hb); have n2_ := zA (zV qB hb); clear BK101 HB; have HO107 := n0_; have BK101 := n1_; have HB := n2_; clear n0_ n1_ n2_; (try clear hb); (try clear ho0); obtain ⟨_, _, _, _⟩ := qc2f BK101.out) | ((with_reducible refine zJq (f := 36) rfl ?_); refine goesL_ (some 46) rfl rfl Try.func36 (by kernel_rfl) rfl #[.agg #[.slice A0_0 l0_0.length c0_0, .slice A0_1 l0_1.length c0_1], .string a1, .slice A2 l2.length c2] rfl qG ?_; (with_reducible refine (index_Add.calls kj3 (fun k_ => k_ < w.heap.size) _ _ l0_0 (fun k_ => k_ < w.heap.size) _ _ l0_1 a1 _ _ l2 t108 t111 t114 _ ?side1 ?side2 ?side3 ?side4 A20.out).mono ?_); (case side1 => exact Kd.V_mk HC0_0.out (Kd.F_below (Kd.C_F Kd.heap_string HR0_0.out) qB)); (case side2 => exact Kd.V_mk HC0_1.out (Kd.F_below (Kd.C_F (Kd.heap_slice 3 (Kd.heap_int .i64)) HR0_1.out) qB)); (case side3 => exact qC (Kd.C_below HR2.out HB.out)); (case side4 => exact HC2.out); rintro e w27 ⟨v109, v112, rfl, ho0, ho1, hb⟩; refine ⟨_, rfl, ?_⟩; have n0_ := zA (Kd.R_below (by (with_reducible repeat (first | apply Kd.R_alloc | apply Kd.R_drewN | apply Kd.R_drew)); exact HO107.out) hb); have n1_ := zA (Kd.V_lower (Kd.V_mono (ok' := fun k_ => some k_ ≠ (v106 : Value).ownBlock ∧ k_ ≠ gb101) ho0 (fun k_ hk_ => ⟨Or.elim hk_ (fun hs_ => Or.elim hs_ (fun hs_ => fun e_ => Nat.not_le.2 hs_ (Kd.R_base HO107.out k_ e_.symm)) (fun hs_ => fun e_ => Nat.not_le.2 hs_ (Kd.R_base HO107.out k_ e_.symm))) (fun hn_ => (Kd.fresh' (Kd.R_lt (by (with_reducible repeat (first | apply Kd.R_alloc | apply Kd.R_drewN | apply Kd.R_drew)); exact HO107.out)) k_ hn_)), Or.elim hk_ (fun hs_ => Or.elim hs_ (fun hs_ => fun e_ => Nat.not_le.2 hs_ (by rw [e_]; exact GW101.out)) (fun hs_ => fun e_ => Nat.not_le.2 hs_ (by rw [e_]; exact GW101.out))) (fun hn_ => (Kd.freshB (g := gb101) (o := .cells #[.slice A0_0 l0_0.length c0_0, .slice A0_1 l0_1.length c0_1] 51 (0, 0)) (qW BK101.out) k_ hn_))⟩)) (zW qB)); have n2_ := zA (Kd.V_lower (Kd.V_mono (ok' := fun k_ => some k_ ≠ (v106 : Value).ownBlock ∧ k_ ≠ gb101) ho1 (fun k_ hk_ => ⟨Or.elim hk_ (fun hs_ => Or.elim hs_ (fun hs_ => fun e_ => Nat.not_le.2 hs_ (Kd.R_base HO107.out k_ e_.symm)) (fun hs_ => fun e_ => Nat.not_le.2 hs_ (Kd.R_base HO107.out k_ e_.symm))) (fun hn_ => (Kd.fresh' (Kd.R_lt (by (with_reducible repeat (first | apply Kd.R_alloc | apply Kd.R_drewN | apply Kd.R_drew)); exact HO107.out)) k_ hn_)), Or.elim hk_ (fun hs_ => Or.elim hs_ (fun hs_ => fun e_ => Nat.not_le.2 hs_ (by rw [e_]; exact GW101.out)) (fun hs_ => fun e_ => Nat.not_le.2 hs_ (by rw [e_]; exact GW101.out))) (fun hn_ => (Kd.freshB (g := gb101) (o := .cells #[.slice A0_0 l0_0.length c0_0, .slice A0_1 l0_1.length c0_1] 51 (0, 0)) (qW BK101.out) k_ hn_))⟩)) (zW qB)); have n3_ := zA (qX BK101.out hb); have n4_ := zA (zV qB hb); clear HO107 BK101 HB; have HO107 := n0_; have HO110 := n1_; have HO113 := n2_; have BK101 := n3_; have HB := n4_; clear n0_ n1_ n2_ n3_ n4_; (try clear hb); (try clear ho0); (try clear ho1)) | ((with_reducible refine gate_dst (N := 9) rfl ?_); (try (refine gate_guard (by rfl) ?_; dsimp only)); refine box_event qr (N := 9) qr (cs := #[.slice none 0 0, .slice none 0 0]) (t := 51) qg ?_; intro gb115 hg w28 hbox hb; have n0_ := zA (Kd.R_below (by (with_reducible repeat (first | apply Kd.R_alloc | apply Kd.R_drewN | apply Kd.R_drew)); exact HO107.out) hb); have n1_ := zA (Kd.V_below (Kd.V_elderB (by (with_reducible repeat (first | apply Kd.V_alloc | apply Kd.V_drewN | apply Kd.V_drew)); exact HO110.out) gb115 (Nat.le_of_eq hg.symm)) hb); have n2_ := zA (Kd.V_below (Kd.V_elderB (by (with_reducible repeat (first | apply Kd.V_alloc | apply Kd.V_drewN | apply Kd.V_drew)); exact HO113.out) gb115 (Nat.le_of_eq hg.symm)) hb); have n3_ := zA (qX BK101.out hb); have n4_ := zA (zV qB hb); have n5_ := zA (hbox); have n6_ := zA ((qS : w.heap.size ≤ gb115)); have n7_ := zA ((qS : w.heap.size ≤ gb115)); have n8_ := zA ((by rw [hg]; exact zLq (qL BK101.out) : gb101 ≠ gb115)); have n9_ := zA ((by rw [hg]; exact zMq (qL BK101.out) : gb115 ≠ gb101)); clear HO107 HO110 HO113 BK101 HB; have HO107 := n0_; have HO110 := n1_; have HO113 := n2_; have BK101 := n3_; have HB := n4_; have BK115 := n5_; have GW115 := n6_; have GE115 := n7_; have NB101_115 := n8_; have NB115_101 := n9_; clear n0_ n1_ n2_ n3_ n4_ n5_ n6_ n7_ n8_ n9_ hb hbox hg; obtain ⟨Ao29, co29, eo29⟩ := Kd.V_slice HO110.out; subst eo29; have hnb30 := NB115_101.out; have hnc30 := NB101_115.out; obtain ⟨_, _, _, _⟩ := qc2f BK115.out; obtain ⟨Ao32, co32, eo32⟩ := Kd.V_slice HO113.out; subst eo32) | ((with_reducible refine gate_store (t := 51) (p := 9) rfl ?_); refine store_event (t := 51) (p := 9) (v := ?vo_w33) (w1 := ((w28.setCell ⟨gb115, 0, none⟩ (.slice Ao29 t108.length co29)).setCell ⟨gb115, 1, none⟩ (.slice Ao32 t111.length co32))) ?hg ?ho ?hn ?hr ?_; (case ho => rfl); (case hg => rfl); (case hn => rfl); (case hr => first | (go_simp; done) | (go_simp; rfl)); intro w33 hw; have n0_ : Aside0 (Kd.R k146 146 w33 w.heap.size (fun _ => True) v106 t104) := ⟨(by rw [hw]; exact (by (with_reducible repeat (first | apply Kd.R_alloc | apply Kd.R_drewN | apply Kd.R_drew)); exact Kd.R_mono (Kd.R_far (p := ⟨gb115, 1, none⟩) (Kd.R_far (p := ⟨gb115, 0, none⟩) (Kd.R_types HO107.out BK115.out (by decide)) (fun _ hk => hk.2) (.slice Ao29 t108.length co29)) (fun _ hk => hk.2) (.slice Ao32 t111.length co32)) (fun _ hk => trivial)))⟩; have n1_ : Aside0 (Kd.V Kd.string 9 w33 w.heap.size (fun k_ => some k_ ≠ (v106 : Value).ownBlock ∧ k_ ≠ gb101 ∧ k_ ≠ gb115) (.slice Ao29 t108.length co29) t108) := ⟨(by rw [hw]; exact (by (with_reducible repeat (first | apply Kd.V_alloc | apply Kd.V_drewN | apply Kd.V_drew)); exact Kd.V_mono (Kd.V_far (p := ⟨gb115, 1, none⟩) (Kd.V_far (p := ⟨gb115, 0, none⟩) (Kd.V_mono HO110.out (fun k_ hk => (⟨hk, hk.2⟩ : _ ∧ k_ ≠ gb115))) (fun _ hk => hk.2) (.slice Ao29 t108.length co29)) (fun _ hk => hk.2) (.slice Ao32 t111.length co32)) (fun _ hk => ⟨hk.1.1.1, ⟨hk.1.1.2, hk.1.2⟩⟩)))⟩; have n2_ : Aside0 (Kd.V (Kd.slice 3 (Kd.int .i64)) 44 w33 w.heap.size (fun k_ => some k_ ≠ (v106 : Value).ownBlock ∧ k_ ≠ gb101 ∧ k_ ≠ gb115) (.slice Ao32 t111.length co32) t111) := ⟨(by rw [hw]; exact (by (with_reducible repeat (first | apply Kd.V_alloc | apply Kd.V_drewN | apply Kd.V_drew)); exact Kd.V_mono (Kd.V_far (p := ⟨gb115, 1, none⟩) (Kd.V_far (p := ⟨gb115, 0, none⟩) (Kd.V_mono HO113.out (fun k_ hk => (⟨hk, hk.2⟩ : _ ∧ k_ ≠ gb115))) (fun _ hk => hk.2) (.slice Ao29 t108.length co29)) (fun _ hk => hk.2) (.slice Ao32 t111.length co32)) (fun _ hk => ⟨hk.1.1.1, ⟨hk.1.1.2, hk.1.2⟩⟩)))⟩; have n3_ : Aside0 (w33.heap[gb101]? = some (.cells #[.slice A0_0 l0_0.length c0_0, .slice A0_1 l0_1.length c0_1] 51 (0, 0))) := ⟨(by rw [hw]; exact (qW BK101.out))⟩; have n4_ : Aside0 (w33.heap[gb115]? = some (.cells #[.slice Ao29 t108.length co29, .slice Ao32 t111.length co32] 51 (0, 0))) := ⟨(by rw [hw]; exact (qV BK115.out))⟩; have n5_ : Aside0 (Below w.heap.size w w33) := ⟨(by rw [hw]; exact qB)⟩; clear hw HO107 HO110 HO113 BK101 BK115 HB; have HO107 := n0_; have HO110 := n1_; have HO113 := n2_; have BK101 := n3_; have BK115 := n4_; have HB := n5_; clear n0_ n1_ n2_ n3_ n4_ n5_; obtain ⟨Ao34, co34, eo34⟩ := Kd.R_slice HO107.out; subst eo34) | ((with_reducible refine zJq (f := 38) rfl ?_); refine goesL_ (some 70) rfl rfl Try.func38 (by kernel_rfl) rfl #[.slice Ao34 t104.length co34, .string a1, .slice A2 l2.length c2] rfl qG ?_; (with_reducible refine (backhaulref14_Add.calls kj3 (fun k_ => some k_ = (.slice Ao34 t104.length co34 : Value).ownBlock) _ _ t104 a1 _ _ l2 t125 t128 _ ?side1 ?side2 ?side3 A22.out).mono ?_); (case side1 => exact Kd.R_V (Kd.R_tight rfl (Kd.R_types (Kd.R_types (HO107.out) BK101.out (by decide)) BK115.out (by decide)))); (case side2 => exact qC (Kd.C_below HR2.out HB.out)); (case side3 => exact HC2.out); rintro e w35 ⟨v126, rfl, ho0, hb⟩; refine ⟨_, rfl, ?_⟩; have n0_ := zA (Kd.R_below (by (with_reducible repeat (first | apply Kd.R_alloc | apply Kd.R_drewN | apply Kd.R_drew)); exact HO107.out) hb); have n1_ := zA (Kd.V_below (by (with_reducible repeat (first | apply Kd.V_alloc | apply Kd.V_drewN | apply Kd.V_drew)); exact HO110.out) hb); have n2_ := zA (Kd.V_below (by (with_reducible repeat (first | apply Kd.V_alloc | apply Kd.V_drewN | apply Kd.V_drew)); exact HO113.out) hb); have n3_ := zA (Kd.V_lower (Kd.V_mono (ok' := fun k_ => k_ ≠ gb101 ∧ k_ ≠ gb115) ho0 (fun k_ hk_ => ⟨Or.elim hk_ (fun hs_ => ((Kd.R_types (Kd.R_types (HO107.out) BK101.out (by decide)) BK115.out (by decide)).1 k_ hs_.symm).1.2) (fun hn_ => (Kd.freshB (g := gb101) (o := .cells #[.slice A0_0 l0_0.length c0_0, .slice A0_1 l0_1.length c0_1] 51 (0, 0)) (qW BK101.out) k_ hn_)), Or.elim hk_ (fun hs_ => ((Kd.R_types (Kd.R_types (HO107.out) BK101.out (by decide)) BK115.out (by decide)).1 k_ hs_.symm).2) (fun hn_ => (Kd.freshB (g := gb115) (o := .cells #[.slice Ao29 t108.length co29, .slice Ao32 t111.length co32] 51 (0, 0)) (qW BK115.out) k_ hn_))⟩)) (zW qB)); have n4_ := zA (qX BK101.out hb); have n5_ := zA (qX BK115.out hb); have n6_ := zA (zV qB hb); clear HO107 HO110 HO113 BK101 BK115 HB; have HO107 := n0_; have HO110 := n1_; have HO113 := n2_; have HO127 := n3_; have BK101 := n4_; have BK115 := n5_; have HB := n6_; clear n0_ n1_ n2_ n3_ n4_ n5_ n6_; (try clear hb); (try clear ho0)))
        (try simp only [Act.put, zH, zI, zJ])
        go_cut [95] (fun v95 wc => ∃ (kq : Nat) (x95_22 : Bool), v95 = .bool x95_22 ∧ Aside0 (backhaullaw14_IndexAdds.j1 kq a1 l2 t104 x95_22 l0_0 l0_1 = some true) ∧ Aside0 (kq ≤ kj3) ∧ Aside0 (Kd.R k146 146 wc w.heap.size (fun _ => True) (.slice Ao34 t104.length co34) t104) ∧ Aside0 (Kd.V Kd.string 9 wc w.heap.size (fun k_ => some k_ ≠ ((.slice Ao34 t104.length co34) : Value).ownBlock ∧ k_ ≠ gb101 ∧ k_ ≠ gb115) (.slice Ao29 t108.length co29) t108) ∧ Aside0 (Kd.V (Kd.slice 3 (Kd.int .i64)) 44 wc w.heap.size (fun k_ => some k_ ≠ ((.slice Ao34 t104.length co34) : Value).ownBlock ∧ k_ ≠ gb101 ∧ k_ ≠ gb115) (.slice Ao32 t111.length co32) t111) ∧ Aside0 (wc.heap[gb101]? = some (.cells #[(.slice A0_0 l0_0.length c0_0), (.slice A0_1 l0_1.length c0_1)] 51 (0, 0))) ∧ Aside0 (wc.heap[gb115]? = some (.cells #[(.slice Ao29 t108.length co29), (.slice Ao32 t111.length co32)] 51 (0, 0))) ∧ Aside0 (Below w.heap.size w wc))
        case first =>
          have H := HC23.out; clear HC23; by_cases c36 : t114 = t128
          · rw [if_pos c36] at H
            have c36b0 : (t114 == t128) = true := beq_iff_eq.mpr c36; have c36b1 : (t114 != t128) = false := bne_eq_false_iff_eq.mpr c36; clear c36; (first | rw [c36b0] | (simp only [i64_w, i32_w]; rw [c36b0]) | skip)
            by_cases c37 : t114 = 0
            · rw [if_pos c37] at H
              have c37b0 : (t114 == 0) = true := beq_iff_eq.mpr c37; have c37b1 : (t114 != 0) = false := bne_eq_false_iff_eq.mpr c37; clear c37; replace H := Option.bind_eq_some_iff.mp H; obtain ⟨t129, A380, H⟩ := H; try dsimp only at H
              have A38 := zA A380; clear A380; by_cases c39 : t129 = true
              · subst c39
                have H1 : (backhaullaw14_IndexAdds.j1 kj3 a1 l2 t104 false l0_0 l0_1) = some true := by first | (rw [if_pos rfl] at H; exact H) | rfl
                clear H; have H := H1; clear H1; have H' := zA H; clear H; have hnb40 := NB115_101.out; have hnc40 := NB101_115.out; obtain ⟨_, _, _, _⟩ := qc2f BK115.out; obtain ⟨Ao42, co42, eo42⟩ := Kd.V_slice HO127.out; subst eo42; go_wp2_with (first | (go_at_call 39; (with_reducible refine (backhaullaw14_same.calls kj3 _ _ t108 _ _ t111 _ _ t125 true _ ?side1 ?side2 ?side3 ?side4 ?side5 ?side6 A38.out).mono ?_); (case side1 => repeat (first | exact (Kd.V_reads' HO110.out).2.2 | (with_reducible refine Kd.C_alloc ?_ _) | (with_reducible refine Kd.C_drewN ?_ _) | (with_reducible refine Kd.C_drew ?_))); (case side2 => exact (Kd.V_reads' HO110.out).2.1); (case side3 => repeat (first | exact (Kd.V_reads' HO113.out).2.2 | (with_reducible refine Kd.C_alloc ?_ _) | (with_reducible refine Kd.C_drewN ?_ _) | (with_reducible refine Kd.C_drew ?_))); (case side4 => exact (Kd.V_reads' HO113.out).2.1); (case side5 => repeat (first | exact (Kd.V_reads' HO127.out).2.2 | (with_reducible refine Kd.C_alloc ?_ _) | (with_reducible refine Kd.C_drewN ?_ _) | (with_reducible refine Kd.C_drew ?_))); (case side6 => exact (Kd.V_reads' HO127.out).2.1); rintro e w43 ⟨rfl, hb⟩; have n0_ := zA (Kd.R_below (by (with_reducible repeat (first | apply Kd.R_alloc | apply Kd.R_drewN | apply Kd.R_drew)); exact HO107.out) hb); have n1_ := zA (Kd.V_below (by (with_reducible repeat (first | apply Kd.V_alloc | apply Kd.V_drewN | apply Kd.V_drew)); exact HO110.out) hb); have n2_ := zA (Kd.V_below (by (with_reducible repeat (first | apply Kd.V_alloc | apply Kd.V_drewN | apply Kd.V_drew)); exact HO113.out) hb); have n3_ := zA (Kd.V_below (by (with_reducible repeat (first | apply Kd.V_alloc | apply Kd.V_drewN | apply Kd.V_drew)); exact HO127.out) hb); have n4_ := zA (qX BK101.out hb); have n5_ := zA (qX BK115.out hb); have n6_ := zA (zV qB hb); clear HO107 HO110 HO113 HO127 BK101 BK115 HB; have HO107 := n0_; have HO110 := n1_; have HO113 := n2_; have HO127 := n3_; have BK101 := n4_; have BK115 := n5_; have HB := n6_; clear n0_ n1_ n2_ n3_ n4_ n5_ n6_; (try clear hb))); go_meet
                case rel => exact ⟨_, (false), (by first | rfl | (simp; done) | (simp [*]; done)), H', ⟨by have := HJ3.out; first | omega | exact Nat.le_refl _⟩, ⟨by (with_reducible repeat (first | apply Kd.R_alloc | apply Kd.R_drewN | apply Kd.R_drew)); exact HO107.out⟩, ⟨by (with_reducible repeat (first | apply Kd.V_alloc | apply Kd.V_drewN | apply Kd.V_drew)); exact HO110.out⟩, ⟨by (with_reducible repeat (first | apply Kd.V_alloc | apply Kd.V_drewN | apply Kd.V_drew)); exact HO113.out⟩, ⟨by exact BK101.out⟩, ⟨by exact BK115.out⟩, ⟨qB⟩⟩
              replace c39 := Bool.eq_false_iff.mpr c39; subst c39; have H1 : (backhaullaw14_IndexAdds.j1 kj3 a1 l2 t104 true l0_0 l0_1) = some true := by first | (rw [if_neg (show ¬ (false = true) by decide)] at H; exact H) | rfl
              clear H; have H := H1; clear H1; have H' := zA H; clear H; have hnb44 := NB115_101.out; have hnc44 := NB101_115.out; obtain ⟨_, _, _, _⟩ := qc2f BK115.out; obtain ⟨Ao46, co46, eo46⟩ := Kd.V_slice HO127.out; subst eo46; go_wp2_with (first | (go_at_call 39; (with_reducible refine (backhaullaw14_same.calls kj3 _ _ t108 _ _ t111 _ _ t125 false _ ?side1 ?side2 ?side3 ?side4 ?side5 ?side6 A38.out).mono ?_); (case side1 => repeat (first | exact (Kd.V_reads' HO110.out).2.2 | (with_reducible refine Kd.C_alloc ?_ _) | (with_reducible refine Kd.C_drewN ?_ _) | (with_reducible refine Kd.C_drew ?_))); (case side2 => exact (Kd.V_reads' HO110.out).2.1); (case side3 => repeat (first | exact (Kd.V_reads' HO113.out).2.2 | (with_reducible refine Kd.C_alloc ?_ _) | (with_reducible refine Kd.C_drewN ?_ _) | (with_reducible refine Kd.C_drew ?_))); (case side4 => exact (Kd.V_reads' HO113.out).2.1); (case side5 => repeat (first | exact (Kd.V_reads' HO127.out).2.2 | (with_reducible refine Kd.C_alloc ?_ _) | (with_reducible refine Kd.C_drewN ?_ _) | (with_reducible refine Kd.C_drew ?_))); (case side6 => exact (Kd.V_reads' HO127.out).2.1); rintro e w47 ⟨rfl, hb⟩; have n0_ := zA (Kd.R_below (by (with_reducible repeat (first | apply Kd.R_alloc | apply Kd.R_drewN | apply Kd.R_drew)); exact HO107.out) hb); have n1_ := zA (Kd.V_below (by (with_reducible repeat (first | apply Kd.V_alloc | apply Kd.V_drewN | apply Kd.V_drew)); exact HO110.out) hb); have n2_ := zA (Kd.V_below (by (with_reducible repeat (first | apply Kd.V_alloc | apply Kd.V_drewN | apply Kd.V_drew)); exact HO113.out) hb); have n3_ := zA (Kd.V_below (by (with_reducible repeat (first | apply Kd.V_alloc | apply Kd.V_drewN | apply Kd.V_drew)); exact HO127.out) hb); have n4_ := zA (qX BK101.out hb); have n5_ := zA (qX BK115.out hb); have n6_ := zA (zV qB hb); clear HO107 HO110 HO113 HO127 BK101 BK115 HB; have HO107 := n0_; have HO110 := n1_; have HO113 := n2_; have HO127 := n3_; have BK101 := n4_; have BK115 := n5_; have HB := n6_; clear n0_ n1_ n2_ n3_ n4_ n5_ n6_; (try clear hb))); go_meet
              case rel => exact ⟨_, (true), (by first | rfl | (simp; done) | (simp [*]; done)), H', ⟨by have := HJ3.out; first | omega | exact Nat.le_refl _⟩, ⟨by (with_reducible repeat (first | apply Kd.R_alloc | apply Kd.R_drewN | apply Kd.R_drew)); exact HO107.out⟩, ⟨by (with_reducible repeat (first | apply Kd.V_alloc | apply Kd.V_drewN | apply Kd.V_drew)); exact HO110.out⟩, ⟨by (with_reducible repeat (first | apply Kd.V_alloc | apply Kd.V_drewN | apply Kd.V_drew)); exact HO113.out⟩, ⟨by exact BK101.out⟩, ⟨by exact BK115.out⟩, ⟨qB⟩⟩
            rw [if_neg c37] at H; have c37b0 : (t114 == 0) = false := beq_eq_false_iff_ne.mpr c37; have c37b1 : (t114 != 0) = true := bne_iff_ne.mpr c37; have H' := zA H; clear H; have hnb48 := NB115_101.out; have hnc48 := NB101_115.out; obtain ⟨_, _, _, _⟩ := qc2f BK115.out; go_wp2; go_meet
            case rel => exact ⟨_, (((t108.length : Int) != 0)), (by first | rfl | (simp; done) | (simp [*]; done)), H', ⟨by have := HJ3.out; first | omega | exact Nat.le_refl _⟩, ⟨by (with_reducible repeat (first | apply Kd.R_alloc | apply Kd.R_drewN | apply Kd.R_drew)); exact HO107.out⟩, ⟨by (with_reducible repeat (first | apply Kd.V_alloc | apply Kd.V_drewN | apply Kd.V_drew)); exact HO110.out⟩, ⟨by (with_reducible repeat (first | apply Kd.V_alloc | apply Kd.V_drewN | apply Kd.V_drew)); exact HO113.out⟩, ⟨by exact BK101.out⟩, ⟨by exact BK115.out⟩, ⟨qB⟩⟩
          rw [if_neg c36] at H; have c36b0 : (t114 == t128) = false := beq_eq_false_iff_ne.mpr c36; have c36b1 : (t114 != t128) = true := bne_iff_ne.mpr c36; (first | rw [c36b0] | (simp only [i64_w, i32_w]; rw [c36b0]) | skip)
          have H' := zA H; clear H; go_wp2; go_meet
          case rel => exact ⟨_, (true), (by first | rfl | (simp; done) | (simp [*]; done)), H', ⟨by have := HJ3.out; first | omega | exact Nat.le_refl _⟩, ⟨by (with_reducible repeat (first | apply Kd.R_alloc | apply Kd.R_drewN | apply Kd.R_drew)); exact HO107.out⟩, ⟨by (with_reducible repeat (first | apply Kd.V_alloc | apply Kd.V_drewN | apply Kd.V_drew)); exact HO110.out⟩, ⟨by (with_reducible repeat (first | apply Kd.V_alloc | apply Kd.V_drewN | apply Kd.V_drew)); exact HO113.out⟩, ⟨by exact BK101.out⟩, ⟨by exact BK115.out⟩, ⟨qB⟩⟩
        case rest =>
          clear HC23; try clear c1
          try clear c2
          try clear p2
          try clear c3
          try clear c4
          try clear c5
          try clear c7
          try clear c8
          try clear c8b0
          try clear c8b1
          try clear c15
          try clear c17
          try clear c21
          try clear c25
          try clear c26
          try clear c27
          try clear c30
          try clear c36
          try clear c36b0
          try clear c36b1
          try clear c37
          try clear c37b0
          try clear c37b1
          try clear c38
          try clear c39
          try clear c40
          try clear c44
          try clear c48
          try clear p2
          obtain ⟨kq, x95_22, rfl, HA, HJ22, HO_7, HO_116000, HO_116001, BK101, BK115, HB⟩ := hcut; cases kq with
          | zero => exact absurd HA.out (by simp [backhaullaw14_IndexAdds.j1])
          | succ kj22 =>
            have H := HA.out; clear HA; simp only [backhaullaw14_IndexAdds.j1] at H; by_cases c50 : x95_22 = true
            · subst c50
              have H1 : (some false) = some true := by first | (rw [if_pos rfl] at H; exact H) | rfl
              clear H; have H := H1; clear H1; exact absurd H (by simp)
            replace c50 := Bool.eq_false_iff.mpr c50; subst c50; have H1 : (backhaullaw14_IndexAdds.l0 kj22 a1 l2 t104 0 l0_0 l0_1) = some true := by first | (rw [if_neg (show ¬ (false = true) by decide)] at H; exact H) | rfl
            clear H; have H := H1; clear H1; have H' := zA H; clear H; go_wp2; go_loopg [15] kj22 (fun kq v15 w' => ∃ (x15_3 : Int), v15 = .int .i64 x15_3 ∧ Aside0 (backhaullaw14_IndexAdds.l0 kq a1 l2 t104 x15_3 l0_0 l0_1 = some true) ∧ Aside0 (kq ≤ kj22) ∧ Aside0 (Kd.R k146 146 w' w.heap.size (fun _ => True) (.slice Ao34 t104.length co34) t104) ∧ Aside0 (Kd.V Kd.string 9 w' w.heap.size (fun k_ => some k_ ≠ ((.slice Ao34 t104.length co34) : Value).ownBlock ∧ k_ ≠ gb101 ∧ k_ ≠ gb115) (.slice Ao29 t108.length co29) t108) ∧ Aside0 (Kd.V (Kd.slice 3 (Kd.int .i64)) 44 w' w.heap.size (fun k_ => some k_ ≠ ((.slice Ao34 t104.length co34) : Value).ownBlock ∧ k_ ≠ gb101 ∧ k_ ≠ gb115) (.slice Ao32 t111.length co32) t111) ∧ Aside0 (w'.heap[gb101]? = some (.cells #[(.slice A0_0 l0_0.length c0_0), (.slice A0_1 l0_1.length c0_1)] 51 (0, 0))) ∧ Aside0 (w'.heap[gb115]? = some (.cells #[(.slice Ao29 t108.length co29), (.slice Ao32 t111.length co32)] 51 (0, 0))) ∧ Aside0 (Below w.heap.size w w'))
            case atStart => exact ⟨(0), (by first | rfl | (simp; done) | (simp [*]; done)), H', ⟨Nat.le_refl _⟩, ⟨by (with_reducible repeat (first | apply Kd.R_alloc | apply Kd.R_drewN | apply Kd.R_drew)); exact HO_7.out⟩, ⟨by (with_reducible repeat (first | apply Kd.V_alloc | apply Kd.V_drewN | apply Kd.V_drew)); exact HO_116000.out⟩, ⟨by (with_reducible repeat (first | apply Kd.V_alloc | apply Kd.V_drewN | apply Kd.V_drew)); exact HO_116001.out⟩, ⟨by exact BK101.out⟩, ⟨by exact BK115.out⟩, ⟨qB⟩⟩
            case round =>
              clear H'; try clear c1
              try clear c2
              try clear p2
              try clear c3
              try clear c4
              try clear c5
              try clear c7
              try clear c8
              try clear c8b0
              try clear c8b1
              try clear c15
              try clear c17
              try clear c21
              try clear c25
              try clear c26
              try clear c27
              try clear c30
              try clear c36
              try clear c36b0
              try clear c36b1
              try clear c37
              try clear c37b0
              try clear c37b1
              try clear c38
              try clear c39
              try clear c40
              try clear c44
              try clear c48
              try clear c50
              try clear p2
              obtain ⟨x15_3, rfl, HA, HK3, HO_7, HO_116000, HO_116001, BK101, BK115, HB⟩ := hrel; cases gk with
              | zero => exact absurd HA.out (by simp [backhaullaw14_IndexAdds.l0])
              | succ k3 =>
                have H := HA.out; clear HA; simp only [backhaullaw14_IndexAdds.l0] at H; by_cases c51 : x15_3 < (l2.length : Int)
                · rw [if_pos c51] at H
                  have c51b0 : decide (x15_3 < (l2.length : Int)) = true := zFq c51; clear c51; by_cases c52 : 0 ≤ x15_3
                  · rw [if_pos c52] at H
                    have c52b0 : decide (0 ≤ x15_3) = true := zFq c52; clear c52; replace H := Option.bind_eq_some_iff.mp H; obtain ⟨⟨t132, t135, t138⟩, A530, H⟩ := H; try dsimp only at H
                    have A53 := zA A530; clear A530; replace H := Option.bind_eq_some_iff.mp H; obtain ⟨⟨t141, t142⟩, A540, H⟩ := H; try dsimp only at H
                    have A54 := zA A540; clear A540; by_cases c55 : t138 = t142
                    · rw [if_pos c55] at H
                      have c55b0 : (t138 == t142) = true := beq_iff_eq.mpr c55; have c55b1 : (t138 != t142) = false := bne_eq_false_iff_eq.mpr c55; clear c55; by_cases c56 : t138 = 0
                      · rw [if_pos c56] at H
                        have c56b0 : (t138 == 0) = true := beq_iff_eq.mpr c56; have c56b1 : (t138 != 0) = false := bne_eq_false_iff_eq.mpr c56; clear c56; replace H := Option.bind_eq_some_iff.mp H; obtain ⟨t145, A570, H⟩ := H; try dsimp only at H
                        have A57 := zA A570; clear A570; by_cases c58 : t145 = true
                        · subst c58
                          have H1 : (backhaullaw14_IndexAdds.l0 k3 a1 l2 t104 (wrap64 (x15_3 + 1)) l0_0 l0_1) = some true := by first | (rw [if_pos rfl] at H; exact H) | rfl
                          clear H; have H := H1; clear H1; have H' := zA H; clear H; try go_wp2
                          have n0_ := zA (Kd.R_drew HO_7.out); have n1_ := zA (Kd.V_drew HO_116000.out); have n2_ := zA (Kd.V_drew HO_116001.out); have n3_ := zA (zAq BK101.out); have n4_ := zA (zAq BK115.out); have n5_ := zA (zC HB.out); clear HO_7; clear HO_116000; clear HO_116001; clear BK101; clear BK115; clear HB; have HO_7 := n0_; have HO_116000 := n1_; have HO_116001 := n2_; have BK101 := n3_; have BK115 := n4_; have HB := n5_; clear n0_ n1_ n2_ n3_ n4_ n5_; have p131 : 0 ≤ (x15_3 : Int) := of_decide_eq_true qA; have q131 : x15_3 < (l2.length : Int) := of_decide_eq_true qA; obtain ⟨ad131, e131, hx131_0⟩ := Kd.at_int HR2.out x15_3 p131 q131; have hw131_0 := hx131_0; cases e131
                          replace hx131_0 := (HB.out.cell (zCq w _ hx131_0)).trans hx131_0; replace p131 := eq_true p131; replace q131 := eq_true q131; refine start_ (n := 13) (S := fun w' => w'.cell? ⟨gb101, 0, none⟩ = some (.slice A0_0 l0_0.length c0_0) ∧ w'.cell? ⟨gb101, 1, none⟩ = some (.slice A0_1 l0_1.length c0_1) ∧ w'.cell? (ad131.add (x15_3).toNat) = some (.int .i64 (rd l2 x15_3))) (ds := []) #[o0, o0, o0, o0, o0, o0, o0, o0, o0, o0, o0, o0, o0] (by kernel_rfl) rfl rfl ⟨(zF BK101.out 0).trans rfl, (zF BK101.out 1).trans rfl, ((HB.out.cell (zCq w _ hw131_0)).trans hw131_0)⟩ (fun hHeld => ?_); refine with_tabW backhaullaw14_IndexAdds.tab14 backhaullaw14_IndexAdds.bits14 (fun HT_ HW_ => ?_); generalize wr.drew = w59 at HO_7 HO_116000 HO_116001 BK101 BK115 HB hx131_0 hHeld ⊢; refine pure_ (i := 1) (N := some 104) #[o0, o1, o0, o0, o0, o0, o0, o0, o0, o0, o0, o0, o0] rfl rfl (any_of HT_.out (by kernel_rfl)) (fun _ _ _ h => h) (Or.inl ⟨by rfl, qy⟩) qz ?_; refine pure_ (i := 2) (N := some 105) #[o0, o1, o1, o0, o0, o0, o0, o0, o0, o0, o0, o0, o0] rfl rfl (any_of HT_.out (by kernel_rfl)) (fun _ _ _ h => h) (Or.inl ⟨by rfl, qy⟩) qz ?_; refine pure_ (i := 3) (N := some 106) #[o0, o1, o1, o1, o0, o0, o0, o0, o0, o0, o0, o0, o0] rfl rfl (any_of HT_.out (by kernel_rfl)) (fun _ _ _ h => h) (Or.inl ⟨by rfl, qy⟩) qz ?_; refine pure_ (i := 4) (N := some 107) #[o0, o1, o1, o1, o1, o0, o0, o0, o0, o0, o0, o0, o0] rfl rfl (any_of HT_.out (by kernel_rfl)) (fun _ _ _ h => h) (Or.inl ⟨by rfl, qy⟩) qz ?_; refine take_ (i := 0) (N := some 103) (v := ?_) (a' := ?_) #[o1, o1, o1, o1, o1, o0, o0, o0, o0, o0, o0, o0, o0] rfl rfl (take_ofW HT_.out HW_.out (by kernel_rfl)) (fun _ _ _ h => h) (Or.inl ⟨by rfl, ?_⟩) hHeld ?_ ?_; rotate_left
                          · rintro w' ⟨s0, s1, s2⟩
                            go_simp; with_reducible rfl
                          rotate_left
                          · simp only [Act.put, zH, zI, zJ, i64_w, i32_w]
                            rfl
                          refine take_ (i := 5) (N := some 108) (v := ?_) (a' := ?_) #[o1, o1, o1, o1, o1, o1, o0, o0, o0, o0, o0, o0, o0] rfl rfl (take_ofW HT_.out HW_.out (by kernel_rfl)) (fun _ _ _ h => h) (Or.inl ⟨by rfl, ?_⟩) hHeld ?_ ?_; rotate_left
                          · rintro w' ⟨s0, s1, s2⟩
                            go_simp; with_reducible rfl
                          rotate_left
                          · simp only [Act.put, zH, zI, zJ, i64_w, i32_w]
                            rfl
                          refine join_ (σ := Value × Value × Nat) 2 #[o1, o1, o1, o1, o1, o1, o1, o1, o1, o1, o1, o0, o0] (fun s_ => [(109, .tuple #[.agg #[s_.1, s_.2.1], .int .i64 t138]), (16, .pointer (some ⟨s_.2.2, 0, none⟩)), (102, .tuple #[.agg #[s_.1, s_.2.1], .int .i64 t138]), (110, .agg #[s_.1, s_.2.1]), (111, .int .i64 t138)]) (fun s_ w' => (w'.cell? ⟨gb101, 0, none⟩ = some (.slice A0_0 l0_0.length c0_0) ∧ w'.cell? ⟨gb101, 1, none⟩ = some (.slice A0_1 l0_1.length c0_1) ∧ w'.cell? (ad131.add (x15_3).toNat) = some (.int .i64 (rd l2 x15_3))) ∧ (Kd.R Kd.string 9 w' w.heap.size (fun _ => True) s_.1 t132) ∧ (Kd.N (Kd.slice 3 (Kd.int .i64)) 44 w' w.heap.size (fun k_ => some k_ ≠ (s_.1 : Value).ownBlock ∧ some k_ ≠ (.slice Ao34 t104.length co34 : Value).ownBlock ∧ k_ ≠ gb101 ∧ k_ ≠ gb115 ∧ k_ ≠ s_.2.2) s_.2.1 t135) ∧ (Kd.V Kd.string 9 w' w.heap.size (fun k_ => some k_ ≠ (s_.1 : Value).ownBlock ∧ some k_ ≠ (s_.2.1 : Value).ownBlock ∧ some k_ ≠ (.slice Ao34 t104.length co34 : Value).ownBlock ∧ k_ ≠ gb101 ∧ k_ ≠ gb115 ∧ k_ ≠ s_.2.2) (.slice Ao29 t108.length co29) t108) ∧ (Kd.V (Kd.slice 3 (Kd.int .i64)) 44 w' w.heap.size (fun k_ => some k_ ≠ (s_.1 : Value).ownBlock ∧ some k_ ≠ (s_.2.1 : Value).ownBlock ∧ some k_ ≠ (.slice Ao34 t104.length co34 : Value).ownBlock ∧ k_ ≠ gb101 ∧ k_ ≠ gb115 ∧ k_ ≠ s_.2.2) (.slice Ao32 t111.length co32) t111) ∧ (Kd.R k146 146 w' w.heap.size (fun _ => True) (.slice Ao34 t104.length co34) t104) ∧ (w'.heap[gb101]? = some (.cells #[.slice A0_0 l0_0.length c0_0, .slice A0_1 l0_1.length c0_1] 51 (0, 0))) ∧ (w'.heap[gb115]? = some (.cells #[.slice Ao29 t108.length co29, .slice Ao32 t111.length co32] 51 (0, 0))) ∧ (w'.heap[s_.2.2]? = some (.cells #[.slice none 0 0, .slice none 0 0] 51 (0, 0))) ∧ (w.heap.size ≤ s_.2.2) ∧ (w.heap.size ≤ s_.2.2) ∧ (gb101 ≠ s_.2.2) ∧ (s_.2.2 ≠ gb101) ∧ (gb115 ≠ s_.2.2) ∧ (s_.2.2 ≠ gb115) ∧ (Below w.heap.size w w')) ?_ ?_; rotate_left
                          · intro hCont
                            refine two_ (i := 6) (j := 10) (Ni := some 109) (Nj := some 16) #[o1, o1, o1, o1, o1, o1, o1, o0, o0, o0, o0, o0, o0] #[o1, o1, o1, o1, o1, o1, o0, o0, o0, o0, o1, o0, o0] rfl rfl rfl rfl (two_of HT_.out (by kernel_rfl)) (by decide) (by decide) (fun K hK => ?_) (fun K hK => ?_)
                            · skip
                              refine goes_ Try.func37 (by kernel_rfl) rfl #[.agg #[.slice A0_0 l0_0.length c0_0, .slice A0_1 l0_1.length c0_1], .string a1, .int .i64 (rd l2 x15_3)] (by rfl) rfl rfl qG ?_; with_reducible refine (index_Drop.calls k3 _ _ l0_0 (fun k_ => k_ < w.heap.size) _ _ l0_1 a1 (rd l2 x15_3) t132 t135 t138 _ ?side1 ?side2 ?side3 A53.out).mono ?_
                              (case side1 => exact qC (Kd.C_below HR0_0.out HB.out))
                              (case side2 => exact HC0_0.out)
                              (case side3 => exact Kd.V_mk HC0_1.out (Kd.F_below (Kd.C_F (Kd.heap_slice 3 (Kd.heap_int .i64)) HR0_1.out) qB))
                              rintro e w60 ⟨v133, v136, rfl, ho0, ho1, hb⟩; refine ⟨_, rfl, ?_⟩; have n0_ := zA (Kd.R_below (by (with_reducible repeat (first | apply Kd.R_alloc | apply Kd.R_drewN | apply Kd.R_drew)); exact HO_7.out) hb); have n1_ := zA (Kd.V_mono (Kd.V_told (Kd.V_told (Kd.V_old (by (with_reducible repeat (first | apply Kd.V_alloc | apply Kd.V_drewN | apply Kd.V_drew)); exact HO_116000.out) hb) (Kd.R_base ho0)) (Kd.N_base ho1)) (fun _ h_ => h_.1)); have n2_ := zA (Kd.V_mono (Kd.V_told (Kd.V_told (Kd.V_old (by (with_reducible repeat (first | apply Kd.V_alloc | apply Kd.V_drewN | apply Kd.V_drew)); exact HO_116001.out) hb) (Kd.R_base ho0)) (Kd.N_base ho1)) (fun _ h_ => h_.1)); have n3_ := zA (Kd.R_lower (Kd.R_mono (ok' := fun k_ => True) ho0 (fun _ hk_ => trivial)) (zW qB)); have n4_ := zA (Kd.N_lower (Kd.N_mono (ok' := fun k_ => some k_ ≠ (v133 : Value).ownBlock ∧ some k_ ≠ (.slice Ao34 t104.length co34 : Value).ownBlock ∧ k_ ≠ gb101 ∧ k_ ≠ gb115) ho1 (fun k_ hk_ => ⟨hk_.2, Or.elim hk_.1 (fun hs_ => fun e_ => Nat.not_le.2 hs_ (Kd.R_base HO_7.out k_ e_.symm)) (fun hn_ => (Kd.fresh' (Kd.R_lt (by (with_reducible repeat (first | apply Kd.R_alloc | apply Kd.R_drewN | apply Kd.R_drew)); exact HO_7.out)) k_ hn_)), Or.elim hk_.1 (fun hs_ => fun e_ => Nat.not_le.2 hs_ (by rw [e_]; exact GW101.out)) (fun hn_ => (Kd.freshB (g := gb101) (o := .cells #[.slice A0_0 l0_0.length c0_0, .slice A0_1 l0_1.length c0_1] 51 (0, 0)) (qW BK101.out) k_ hn_)), Or.elim hk_.1 (fun hs_ => fun e_ => Nat.not_le.2 hs_ (by rw [e_]; exact GW115.out)) (fun hn_ => (Kd.freshB (g := gb115) (o := .cells #[.slice Ao29 t108.length co29, .slice Ao32 t111.length co32] 51 (0, 0)) (qW BK115.out) k_ hn_))⟩)) (zW qB)); have n5_ := zA (qX BK101.out hb); have n6_ := zA (qX BK115.out hb); have n7_ := zA (zV qB hb); clear HO_7; clear HO_116000; clear HO_116001; clear BK101; clear BK115; clear HB; have HO_7 := n0_; have HO_116000 := n1_; have HO_116001 := n2_; have HO134 := n3_; have HO137 := n4_; have BK101 := n5_; have BK115 := n6_; have HB := n7_; clear n0_ n1_ n2_ n3_ n4_ n5_ n6_ n7_; (try clear hb); (try clear hb2); (try clear hk); (try clear hi); (try clear ho0); (try clear ho1)
                              refine hK.out _ _ ⟨(zF BK101.out 0).trans rfl, (zF BK101.out 1).trans rfl, ((HB.out.cell (zCq w _ hw131_0)).trans hw131_0)⟩ (fun hHeld => ?_); clear hK K; refine norm_ (a' := ?_) ?_ ?_; rotate_left
                              · show Act.put _ (some 109) _ = _
                                simp only [Act.put, zH, zI, zJ, i64_w, i32_w]; rfl
                              refine pure_ (i := 7) (N := some 102) #[o1, o1, o1, o1, o1, o1, o1, o1, o0, o0, o0, o0, o0] rfl rfl (any_of HT_.out (by kernel_rfl)) (fun _ _ _ h => h) (Or.inl ⟨by rfl, qy⟩) qz ?_; refine pure_ (i := 8) (N := some 110) #[o1, o1, o1, o1, o1, o1, o1, o1, o1, o0, o0, o0, o0] rfl rfl (any_of HT_.out (by kernel_rfl)) (fun _ _ _ h => h) (Or.inl ⟨by rfl, qy⟩) qz ?_; refine pure_ (i := 9) (N := some 111) #[o1, o1, o1, o1, o1, o1, o1, o1, o1, o1, o0, o0, o0] rfl rfl (any_of HT_.out (by kernel_rfl)) (fun _ _ _ h => h) (Or.inl ⟨by rfl, qy⟩) qz ?_; refine one_ (i := 10) (N := some 16) #[o1, o1, o1, o1, o1, o1, o1, o1, o1, o1, o1, o0, o0] rfl rfl (one_of HT_.out (by kernel_rfl)) (by decide) (fun K hK => ?_); refine box_step ?hg (N := 16) ?hd (cs := #[.slice none 0 0, .slice none 0 0]) (t := 51) ?hr ?_; (case hd => rfl); (case hg => rfl); (case hr => first | (go_simp; done) | (go_simp; rfl)); intro gb139 hg w61 hbox hb; have n0_ := zA (Kd.R_below (by (with_reducible repeat (first | apply Kd.R_alloc | apply Kd.R_drewN | apply Kd.R_drew)); exact HO_7.out) hb); have n1_ := zA (Kd.V_below (Kd.V_elderB (by (with_reducible repeat (first | apply Kd.V_alloc | apply Kd.V_drewN | apply Kd.V_drew)); exact HO_116000.out) gb139 (Nat.le_of_eq hg.symm)) hb); have n2_ := zA (Kd.V_below (Kd.V_elderB (by (with_reducible repeat (first | apply Kd.V_alloc | apply Kd.V_drewN | apply Kd.V_drew)); exact HO_116001.out) gb139 (Nat.le_of_eq hg.symm)) hb); have n3_ := zA (Kd.R_below (by (with_reducible repeat (first | apply Kd.R_alloc | apply Kd.R_drewN | apply Kd.R_drew)); exact HO134.out) hb); have n4_ := zA (Kd.N_below (Kd.N_elderB (by (with_reducible repeat (first | apply Kd.N_alloc | apply Kd.N_drewN | apply Kd.N_drew)); exact HO137.out) gb139 (Nat.le_of_eq hg.symm)) hb); have n5_ := zA (qX BK101.out hb); have n6_ := zA (qX BK115.out hb); have n7_ := zA (zV qB hb); have n8_ := zA (hbox); have n9_ := zA ((qS : w.heap.size ≤ gb139)); have n10_ := zA ((qS : w.heap.size ≤ gb139)); have n11_ := zA ((by rw [hg]; exact zLq (qL BK101.out) : gb101 ≠ gb139)); have n12_ := zA ((by rw [hg]; exact zMq (qL BK101.out) : gb139 ≠ gb101)); have n13_ := zA ((by rw [hg]; exact zLq (qL BK115.out) : gb115 ≠ gb139)); have n14_ := zA ((by rw [hg]; exact zMq (qL BK115.out) : gb139 ≠ gb115)); clear HO_7; clear HO_116000; clear HO_116001; clear HO134; clear HO137; clear BK101; clear BK115; clear HB; have HO_7 := n0_; have HO_116000 := n1_; have HO_116001 := n2_; have HO134 := n3_; have HO137 := n4_; have BK101 := n5_; have BK115 := n6_; have HB := n7_; have BK139 := n8_; have GW139 := n9_; have GE139 := n10_; have NB101_139 := n11_; have NB139_101 := n12_; have NB115_139 := n13_; have NB139_115 := n14_; clear n0_ n1_ n2_ n3_ n4_ n5_ n6_ n7_ n8_ n9_ n10_ n11_ n12_ n13_ n14_; clear hb hbox hg
                              refine hK.out _ _ ⟨(zF BK101.out 0).trans rfl, (zF BK101.out 1).trans rfl, ((HB.out.cell (zCq w _ hw131_0)).trans hw131_0)⟩ (fun hHeld => ?_); clear hK K; refine norm_ (a' := ?_) ?_ ?_; rotate_left
                              · show Act.put _ (some 16) _ = _
                                simp only [Act.put, zH, zI, zJ, i64_w, i32_w]; rfl
                              exact norm_ (by simp only [putAll, Act.put, zH, zI, zJ]) (hCont (v133, v136, gb139) _ ⟨hHeld, (by (with_reducible repeat (first | apply Kd.R_alloc | apply Kd.R_drewN | apply Kd.R_drew)); exact HO134.out), (by (with_reducible repeat (first | apply Kd.N_alloc | apply Kd.N_drewN | apply Kd.N_drew)); exact Kd.N_mono HO137.out (fun _ hk => ⟨hk.1.1, ⟨hk.1.2.1, ⟨hk.1.2.2.1, ⟨hk.1.2.2.2, hk.2⟩⟩⟩⟩)), (by (with_reducible repeat (first | apply Kd.V_alloc | apply Kd.V_drewN | apply Kd.V_drew)); exact Kd.V_mono HO_116000.out (fun _ hk => ⟨hk.1.1.2, ⟨hk.1.2, ⟨hk.1.1.1.1, ⟨hk.1.1.1.2.1, ⟨hk.1.1.1.2.2, hk.2⟩⟩⟩⟩⟩)), (by (with_reducible repeat (first | apply Kd.V_alloc | apply Kd.V_drewN | apply Kd.V_drew)); exact Kd.V_mono HO_116001.out (fun _ hk => ⟨hk.1.1.2, ⟨hk.1.2, ⟨hk.1.1.1.1, ⟨hk.1.1.1.2.1, ⟨hk.1.1.1.2.2, hk.2⟩⟩⟩⟩⟩)), (by (with_reducible repeat (first | apply Kd.R_alloc | apply Kd.R_drewN | apply Kd.R_drew)); exact HO_7.out), (qW BK101.out), (qW BK115.out), (qW BK139.out), GW139.out, GE139.out, NB101_139.out, NB139_101.out, NB115_139.out, NB139_115.out, qB⟩)
                            skip; refine box_step ?hg (N := 16) ?hd (cs := #[.slice none 0 0, .slice none 0 0]) (t := 51) ?hr ?_; (case hd => rfl); (case hg => rfl); (case hr => first | (go_simp; done) | (go_simp; rfl)); intro gb139 hg w60 hbox hb; have n0_ := zA (Kd.R_below (by (with_reducible repeat (first | apply Kd.R_alloc | apply Kd.R_drewN | apply Kd.R_drew)); exact HO_7.out) hb); have n1_ := zA (Kd.V_below (Kd.V_elderB (by (with_reducible repeat (first | apply Kd.V_alloc | apply Kd.V_drewN | apply Kd.V_drew)); exact HO_116000.out) gb139 (Nat.le_of_eq hg.symm)) hb); have n2_ := zA (Kd.V_below (Kd.V_elderB (by (with_reducible repeat (first | apply Kd.V_alloc | apply Kd.V_drewN | apply Kd.V_drew)); exact HO_116001.out) gb139 (Nat.le_of_eq hg.symm)) hb); have n3_ := zA (qX BK101.out hb); have n4_ := zA (qX BK115.out hb); have n5_ := zA (zV qB hb); have n6_ := zA (hbox); have n7_ := zA ((qS : w.heap.size ≤ gb139)); have n8_ := zA ((qS : w.heap.size ≤ gb139)); have n9_ := zA ((by rw [hg]; exact zLq (qL BK101.out) : gb101 ≠ gb139)); have n10_ := zA ((by rw [hg]; exact zMq (qL BK101.out) : gb139 ≠ gb101)); have n11_ := zA ((by rw [hg]; exact zLq (qL BK115.out) : gb115 ≠ gb139)); have n12_ := zA ((by rw [hg]; exact zMq (qL BK115.out) : gb139 ≠ gb115)); clear HO_7; clear HO_116000; clear HO_116001; clear BK101; clear BK115; clear HB; have HO_7 := n0_; have HO_116000 := n1_; have HO_116001 := n2_; have BK101 := n3_; have BK115 := n4_; have HB := n5_; have BK139 := n6_; have GW139 := n7_; have GE139 := n8_; have NB101_139 := n9_; have NB139_101 := n10_; have NB115_139 := n11_; have NB139_115 := n12_; clear n0_ n1_ n2_ n3_ n4_ n5_ n6_ n7_ n8_ n9_ n10_ n11_ n12_; clear hb hbox hg; refine hK.out _ _ ⟨(zF BK101.out 0).trans rfl, (zF BK101.out 1).trans rfl, ((HB.out.cell (zCq w _ hw131_0)).trans hw131_0)⟩ (fun hHeld => ?_); clear hK K; refine norm_ (a' := ?_) ?_ ?_; rotate_left
                            · show Act.put _ (some 16) _ = _
                              simp only [Act.put, zH, zI, zJ, i64_w, i32_w]; rfl
                            refine one_ (i := 6) (N := some 109) #[o1, o1, o1, o1, o1, o1, o1, o0, o0, o0, o1, o0, o0] rfl rfl (one_of HT_.out (by kernel_rfl)) (by decide) (fun K hK => ?_); refine goes_ Try.func37 (by kernel_rfl) rfl #[.agg #[.slice A0_0 l0_0.length c0_0, .slice A0_1 l0_1.length c0_1], .string a1, .int .i64 (rd l2 x15_3)] (by rfl) rfl rfl qG ?_; with_reducible refine (index_Drop.calls k3 _ _ l0_0 (fun k_ => k_ < w.heap.size) _ _ l0_1 a1 (rd l2 x15_3) t132 t135 t138 _ ?side1 ?side2 ?side3 A53.out).mono ?_
                            (case side1 => exact qC (Kd.C_below HR0_0.out HB.out))
                            (case side2 => exact HC0_0.out)
                            (case side3 => exact Kd.V_mk HC0_1.out (Kd.F_below (Kd.C_F (Kd.heap_slice 3 (Kd.heap_int .i64)) HR0_1.out) qB))
                            rintro e w61 ⟨v133, v136, rfl, ho0, ho1, hb⟩; refine ⟨_, rfl, ?_⟩; have n0_ := zA (Kd.R_below (by (with_reducible repeat (first | apply Kd.R_alloc | apply Kd.R_drewN | apply Kd.R_drew)); exact HO_7.out) hb); have n1_ := zA (Kd.V_mono (Kd.V_told (Kd.V_told (Kd.V_old (by (with_reducible repeat (first | apply Kd.V_alloc | apply Kd.V_drewN | apply Kd.V_drew)); exact HO_116000.out) hb) (Kd.R_base ho0)) (Kd.N_base ho1)) (fun _ h_ => h_.1)); have n2_ := zA (Kd.V_mono (Kd.V_told (Kd.V_told (Kd.V_old (by (with_reducible repeat (first | apply Kd.V_alloc | apply Kd.V_drewN | apply Kd.V_drew)); exact HO_116001.out) hb) (Kd.R_base ho0)) (Kd.N_base ho1)) (fun _ h_ => h_.1)); have n3_ := zA (Kd.R_lower (Kd.R_mono (ok' := fun k_ => True) ho0 (fun _ hk_ => trivial)) (zW qB)); have n4_ := zA (Kd.N_lower (Kd.N_mono (ok' := fun k_ => some k_ ≠ (v133 : Value).ownBlock ∧ some k_ ≠ (.slice Ao34 t104.length co34 : Value).ownBlock ∧ k_ ≠ gb101 ∧ k_ ≠ gb115 ∧ k_ ≠ gb139) ho1 (fun k_ hk_ => ⟨hk_.2, Or.elim hk_.1 (fun hs_ => fun e_ => Nat.not_le.2 hs_ (Kd.R_base HO_7.out k_ e_.symm)) (fun hn_ => (Kd.fresh' (Kd.R_lt (by (with_reducible repeat (first | apply Kd.R_alloc | apply Kd.R_drewN | apply Kd.R_drew)); exact HO_7.out)) k_ hn_)), Or.elim hk_.1 (fun hs_ => fun e_ => Nat.not_le.2 hs_ (by rw [e_]; exact GW101.out)) (fun hn_ => (Kd.freshB (g := gb101) (o := .cells #[.slice A0_0 l0_0.length c0_0, .slice A0_1 l0_1.length c0_1] 51 (0, 0)) (qW BK101.out) k_ hn_)), Or.elim hk_.1 (fun hs_ => fun e_ => Nat.not_le.2 hs_ (by rw [e_]; exact GW115.out)) (fun hn_ => (Kd.freshB (g := gb115) (o := .cells #[.slice Ao29 t108.length co29, .slice Ao32 t111.length co32] 51 (0, 0)) (qW BK115.out) k_ hn_)), Or.elim hk_.1 (fun hs_ => fun e_ => Nat.not_le.2 hs_ (by rw [e_]; exact GW139.out)) (fun hn_ => (Kd.freshB (g := gb139) (o := .cells #[.slice none 0 0, .slice none 0 0] 51 (0, 0)) (qW BK139.out) k_ hn_))⟩)) (zW qB)); have n5_ := zA (qX BK101.out hb); have n6_ := zA (qX BK115.out hb); have n7_ := zA (qX BK139.out hb); have n8_ := zA (zV qB hb); clear HO_7; clear HO_116000; clear HO_116001; clear BK101; clear BK115; clear BK139; clear HB; have HO_7 := n0_; have HO_116000 := n1_; have HO_116001 := n2_; have HO134 := n3_; have HO137 := n4_; have BK101 := n5_; have BK115 := n6_; have BK139 := n7_; have HB := n8_; clear n0_ n1_ n2_ n3_ n4_ n5_ n6_ n7_ n8_; (try clear hb); (try clear hb2); (try clear hk); (try clear hi); (try clear ho0); (try clear ho1)
                            refine hK.out _ _ ⟨(zF BK101.out 0).trans rfl, (zF BK101.out 1).trans rfl, ((HB.out.cell (zCq w _ hw131_0)).trans hw131_0)⟩ (fun hHeld => ?_); clear hK K; refine norm_ (a' := ?_) ?_ ?_; rotate_left
                            · show Act.put _ (some 109) _ = _
                              simp only [Act.put, zH, zI, zJ, i64_w, i32_w]; rfl
                            refine pure_ (i := 7) (N := some 102) #[o1, o1, o1, o1, o1, o1, o1, o1, o0, o0, o1, o0, o0] rfl rfl (any_of HT_.out (by kernel_rfl)) (fun _ _ _ h => h) (Or.inl ⟨by rfl, qy⟩) qz ?_; refine pure_ (i := 8) (N := some 110) #[o1, o1, o1, o1, o1, o1, o1, o1, o1, o0, o1, o0, o0] rfl rfl (any_of HT_.out (by kernel_rfl)) (fun _ _ _ h => h) (Or.inl ⟨by rfl, qy⟩) qz ?_; refine pure_ (i := 9) (N := some 111) #[o1, o1, o1, o1, o1, o1, o1, o1, o1, o1, o1, o0, o0] rfl rfl (any_of HT_.out (by kernel_rfl)) (fun _ _ _ h => h) (Or.inl ⟨by rfl, qy⟩) qz ?_; exact norm_ (by simp only [putAll, Act.put, zH, zI, zJ]) (hCont (v133, v136, gb139) _ ⟨hHeld, (by (with_reducible repeat (first | apply Kd.R_alloc | apply Kd.R_drewN | apply Kd.R_drew)); exact HO134.out), (by (with_reducible repeat (first | apply Kd.N_alloc | apply Kd.N_drewN | apply Kd.N_drew)); exact HO137.out), (by (with_reducible repeat (first | apply Kd.V_alloc | apply Kd.V_drewN | apply Kd.V_drew)); exact Kd.V_mono HO_116000.out (fun _ hk => ⟨hk.1.2, ⟨hk.2, ⟨hk.1.1.1.1, ⟨hk.1.1.1.2.1, ⟨hk.1.1.1.2.2, hk.1.1.2⟩⟩⟩⟩⟩)), (by (with_reducible repeat (first | apply Kd.V_alloc | apply Kd.V_drewN | apply Kd.V_drew)); exact Kd.V_mono HO_116001.out (fun _ hk => ⟨hk.1.2, ⟨hk.2, ⟨hk.1.1.1.1, ⟨hk.1.1.1.2.1, ⟨hk.1.1.1.2.2, hk.1.1.2⟩⟩⟩⟩⟩)), (by (with_reducible repeat (first | apply Kd.R_alloc | apply Kd.R_drewN | apply Kd.R_drew)); exact HO_7.out), (qW BK101.out), (qW BK115.out), (qW BK139.out), GW139.out, GE139.out, NB101_139.out, NB139_101.out, NB115_139.out, NB139_115.out, qB⟩)
                          rintro ⟨v133, v136, gb139⟩ w62 ⟨hS_, h0_, h1_, h2_, h3_, h4_, h5_, h6_, h7_, h8_, h9_, h10_, h11_, h12_, h13_, h14_⟩; have n0_ : Aside0 (Kd.R Kd.string 9 w62 w.heap.size (fun _ => True) v133 t132) := ⟨h0_⟩
                          have n1_ : Aside0 (Kd.N (Kd.slice 3 (Kd.int .i64)) 44 w62 w.heap.size (fun k_ => some k_ ≠ (v133 : Value).ownBlock ∧ some k_ ≠ (.slice Ao34 t104.length co34 : Value).ownBlock ∧ k_ ≠ gb101 ∧ k_ ≠ gb115 ∧ k_ ≠ gb139) v136 t135) := ⟨h1_⟩
                          have n2_ : Aside0 (Kd.V Kd.string 9 w62 w.heap.size (fun k_ => some k_ ≠ (v133 : Value).ownBlock ∧ some k_ ≠ (v136 : Value).ownBlock ∧ some k_ ≠ (.slice Ao34 t104.length co34 : Value).ownBlock ∧ k_ ≠ gb101 ∧ k_ ≠ gb115 ∧ k_ ≠ gb139) (.slice Ao29 t108.length co29) t108) := ⟨h2_⟩
                          have n3_ : Aside0 (Kd.V (Kd.slice 3 (Kd.int .i64)) 44 w62 w.heap.size (fun k_ => some k_ ≠ (v133 : Value).ownBlock ∧ some k_ ≠ (v136 : Value).ownBlock ∧ some k_ ≠ (.slice Ao34 t104.length co34 : Value).ownBlock ∧ k_ ≠ gb101 ∧ k_ ≠ gb115 ∧ k_ ≠ gb139) (.slice Ao32 t111.length co32) t111) := ⟨h3_⟩
                          have n4_ : Aside0 (Kd.R k146 146 w62 w.heap.size (fun _ => True) (.slice Ao34 t104.length co34) t104) := ⟨h4_⟩
                          have n5_ : Aside0 (w62.heap[gb101]? = some (.cells #[.slice A0_0 l0_0.length c0_0, .slice A0_1 l0_1.length c0_1] 51 (0, 0))) := ⟨h5_⟩
                          have n6_ : Aside0 (w62.heap[gb115]? = some (.cells #[.slice Ao29 t108.length co29, .slice Ao32 t111.length co32] 51 (0, 0))) := ⟨h6_⟩
                          have n7_ : Aside0 (w62.heap[gb139]? = some (.cells #[.slice none 0 0, .slice none 0 0] 51 (0, 0))) := ⟨h7_⟩
                          have n8_ : Aside0 (w.heap.size ≤ gb139) := ⟨h8_⟩
                          have n9_ : Aside0 (w.heap.size ≤ gb139) := ⟨h9_⟩
                          have n10_ : Aside0 (gb101 ≠ gb139) := ⟨h10_⟩
                          have n11_ : Aside0 (gb139 ≠ gb101) := ⟨h11_⟩
                          have n12_ : Aside0 (gb115 ≠ gb139) := ⟨h12_⟩
                          have n13_ : Aside0 (gb139 ≠ gb115) := ⟨h13_⟩
                          have n14_ : Aside0 (Below w.heap.size w w62) := ⟨h14_⟩
                          clear HO_7; clear HO_116000; clear HO_116001; clear BK101; clear BK115; clear HB; clear h0_ h1_ h2_ h3_ h4_ h5_ h6_ h7_ h8_ h9_ h10_ h11_ h12_ h13_ h14_; have HO134 := n0_; have HO137 := n1_; have HO_116000 := n2_; have HO_116001 := n3_; have HO_7 := n4_; have BK101 := n5_; have BK115 := n6_; have BK139 := n7_; have GW139 := n8_; have GE139 := n9_; have NB101_139 := n10_; have NB139_101 := n11_; have NB115_139 := n12_; have NB139_115 := n13_; have HB := n14_; clear n0_ n1_ n2_ n3_ n4_ n5_ n6_ n7_ n8_ n9_ n10_ n11_ n12_ n13_ n14_; have hHeld : w62.cell? ⟨gb101, 0, none⟩ = some (.slice A0_0 l0_0.length c0_0) ∧ w62.cell? ⟨gb101, 1, none⟩ = some (.slice A0_1 l0_1.length c0_1) ∧ w62.cell? (ad131.add (x15_3).toNat) = some (.int .i64 (rd l2 x15_3)) := hS_; obtain ⟨Ao63, co63, eo63⟩ := Kd.R_slice HO134.out; (first | subst eo63 | (injection eo63 with f1_ f2_ f3_; have f4_ := f1_.symm; have f5_ := f3_.symm; clear f1_ f2_ f3_; subst f4_; subst f5_))
                          obtain ⟨Ao65, co65, eo65⟩ := Kd.N_slice HO137.out; (first | subst eo65 | (injection eo65 with f1_ f2_ f3_; have f4_ := f1_.symm; have f5_ := f3_.symm; clear f1_ f2_ f3_; subst f4_; subst f5_))
                          refine norm_ (a' := ?_) ?_ ?_; rotate_left
                          · simp only [putAll, Act.put, zH, zI, zJ]
                            rfl
                          refine one_ (i := 11) (N := none) #[o1, o1, o1, o1, o1, o1, o1, o1, o1, o1, o1, o1, o0] rfl rfl (one_of HT_.out (by kernel_rfl)) (by decide) (fun K hK => ?_); have hs64 : w62.cell? ⟨gb139, 0, none⟩ = some (.slice none 0 0) := (zF BK139.out 0).trans rfl; have hfs64 := zG BK139.out 0; have hns64_0 := NB101_139.out; have hns64_1 := NB115_139.out; have hms64_0 := NB139_101.out; have hms64_1 := NB139_115.out; have hs66 : w62.cell? ⟨gb139, 1, none⟩ = some (.slice none 0 0) := (zF BK139.out 1).trans rfl; have hfs66 := zG BK139.out 1; have hns66_0 := NB101_139.out; have hns66_1 := NB115_139.out; have hms66_0 := NB139_101.out; have hms66_1 := NB139_115.out; refine skip_ (w1 := ?_) (by rfl) rfl ?_ ?_; rotate_left
                          · go_simp
                            rfl
                          refine hK.out _ _ ⟨((cell_far (p := ⟨gb139, _, none⟩) NB101_139.out _).trans (((cell_far (p := ⟨gb139, _, none⟩) NB101_139.out _).trans (hHeld.1)))), ((cell_far (p := ⟨gb139, _, none⟩) NB101_139.out _).trans (((cell_far (p := ⟨gb139, _, none⟩) NB101_139.out _).trans (hHeld.2.1)))), ((cell_far (p := ⟨gb139, _, none⟩) (by first | exact zLq (Nat.lt_of_lt_of_le (by have := zCq _ _ hw131_0; first | rwa [add_block] at this | exact this) GW139.out) | (rw [add_block]; exact zLq (Nat.lt_of_lt_of_le (by have := zCq _ _ hw131_0; first | rwa [add_block] at this | exact this) GW139.out)) | (show (Addr.add _ _).block ≠ _; rw [add_block]; exact zLq (Nat.lt_of_lt_of_le (by have := zCq _ _ hw131_0; first | rwa [add_block] at this | exact this) GW139.out)) | (dsimp only; exact zLq (Nat.lt_of_lt_of_le (by have := zCq _ _ hw131_0; first | rwa [add_block] at this | exact this) GW139.out))) _).trans (((cell_far (p := ⟨gb139, _, none⟩) (by first | exact zLq (Nat.lt_of_lt_of_le (by have := zCq _ _ hw131_0; first | rwa [add_block] at this | exact this) GW139.out) | (rw [add_block]; exact zLq (Nat.lt_of_lt_of_le (by have := zCq _ _ hw131_0; first | rwa [add_block] at this | exact this) GW139.out)) | (show (Addr.add _ _).block ≠ _; rw [add_block]; exact zLq (Nat.lt_of_lt_of_le (by have := zCq _ _ hw131_0; first | rwa [add_block] at this | exact this) GW139.out)) | (dsimp only; exact zLq (Nat.lt_of_lt_of_le (by have := zCq _ _ hw131_0; first | rwa [add_block] at this | exact this) GW139.out))) _).trans (hHeld.2.2))))⟩ (fun hHeld => ?_); clear hK K; refine pure_ (i := 12) (N := some 17) #[o1, o1, o1, o1, o1, o1, o1, o1, o1, o1, o1, o1, o1] rfl rfl (any_of HT_.out (by kernel_rfl)) (fun _ _ _ h => h) (Or.inl ⟨by rfl, qy⟩) qz ?_; refine done_ (done_of HT_.out (by kernel_rfl)) ?_; have p140 : 0 ≤ (x15_3 : Int) := of_decide_eq_true qA; have q140 : x15_3 < (l2.length : Int) := of_decide_eq_true qA; obtain ⟨ad140, e140, hx140_0⟩ := Kd.at_int HR2.out x15_3 p140 q140; obtain rfl : ad131 = ad140 := (by injection e140)
                          have hn140_0 : ad131.block ≠ gb139 := zLq (Nat.lt_of_lt_of_le (by have := zCq _ _ hx140_0; first | rwa [add_block] at this | exact this) GW139.out); have hn140_1 : ad131.block ≠ gb139 := zLq (Nat.lt_of_lt_of_le (by have := zCq _ _ hx140_0; first | rwa [add_block] at this | exact this) GW139.out); replace hx140_0 := (HB.out.cell (zCq w _ hx140_0)).trans hx140_0; replace hx140_0 := (cell_far (p := ⟨gb139, 0, none⟩) (by first | (rw [add_block]; exact hn140_0) | (show (Addr.add _ _).block ≠ _; rw [add_block]; exact hn140_0) | exact hn140_0) (.slice Ao63 t132.length co63)).trans hx140_0; replace hx140_0 := (cell_far (p := ⟨gb139, 1, none⟩) (by first | (rw [add_block]; exact hn140_1) | (show (Addr.add _ _).block ≠ _; rw [add_block]; exact hn140_1) | exact hn140_1) (.slice Ao65 t135.length co65)).trans hx140_0; clear hn140_0; clear hn140_1; replace p140 := eq_true p140; replace q140 := eq_true q140; try go_wp2_with (first | ((with_reducible refine zJq (f := 40) rfl ?_); refine goesL_ (some 119) rfl rfl Try.func40 (by kernel_rfl) rfl #[.slice Ao34 t104.length co34, .string a1, .int .i64 (rd l2 x15_3)] rfl qG ?_; (with_reducible refine (backhaulref14_Drop.calls k3 _ _ t104 a1 (rd l2 x15_3) t141 t142 _ ?side1 ?side2 A54.out).mono ?_); (case side1 => refine (Kd.R_reads' (e := 146) (base := w.heap.size) (ok := fun k_ => True) (n := t104.length) (c := co34) ?_).2.2; exact (by (with_reducible repeat (first | apply Kd.R_alloc | apply Kd.R_drewN | apply Kd.R_drew)); exact (Kd.R_mono (Kd.R_far (p := ⟨gb139, 1, none⟩) (Kd.R_far (p := ⟨gb139, 0, none⟩) (Kd.R_types HO_7.out BK139.out (by decide)) (fun _ hk => hk.2) (.slice Ao63 t132.length co63)) (fun _ hk => hk.2) (.slice Ao65 t135.length co65)) (fun _ h_ => h_.1)))); (case side2 => exact (Kd.R_reads' HO_7.out).2.1); rintro e w67 ⟨v143, rfl, ho0, hb⟩; refine ⟨_, rfl, ?_⟩; have n0_ := zA (Kd.R_elder' (by (with_reducible repeat (first | apply Kd.R_alloc | apply Kd.R_drewN | apply Kd.R_drew)); exact (Kd.R_mono (Kd.R_far (p := ⟨gb139, 1, none⟩) (Kd.R_far (p := ⟨gb139, 0, none⟩) (Kd.R_types HO_7.out BK139.out (by decide)) (fun _ hk => hk.2) (.slice Ao63 t132.length co63)) (fun _ hk => hk.2) (.slice Ao65 t135.length co65)) (fun _ h_ => h_.1))) (Kd.R_base ho0) hb); have n1_ := zA (Kd.V_elder' (by (with_reducible repeat (first | apply Kd.V_alloc | apply Kd.V_drewN | apply Kd.V_drew)); exact (Kd.V_mono (Kd.V_far (p := ⟨gb139, 1, none⟩) (Kd.V_far (p := ⟨gb139, 0, none⟩) (Kd.V_mono HO_116000.out (fun k_ hk => (⟨hk, hk.2.2.2.2.2⟩ : _ ∧ k_ ≠ gb139))) (fun _ hk => hk.2) (.slice Ao63 t132.length co63)) (fun _ hk => hk.2) (.slice Ao65 t135.length co65)) (fun _ h_ => h_.1))) (Kd.R_base ho0) hb); have n2_ := zA (Kd.V_elder' (by (with_reducible repeat (first | apply Kd.V_alloc | apply Kd.V_drewN | apply Kd.V_drew)); exact (Kd.V_mono (Kd.V_far (p := ⟨gb139, 1, none⟩) (Kd.V_far (p := ⟨gb139, 0, none⟩) (Kd.V_mono HO_116001.out (fun k_ hk => (⟨hk, hk.2.2.2.2.2⟩ : _ ∧ k_ ≠ gb139))) (fun _ hk => hk.2) (.slice Ao63 t132.length co63)) (fun _ hk => hk.2) (.slice Ao65 t135.length co65)) (fun _ h_ => h_.1))) (Kd.R_base ho0) hb); have n3_ := zA (Kd.R_below (by (with_reducible repeat (first | apply Kd.R_alloc | apply Kd.R_drewN | apply Kd.R_drew)); exact (Kd.R_mono (Kd.R_far (p := ⟨gb139, 1, none⟩) (Kd.R_far (p := ⟨gb139, 0, none⟩) (Kd.R_types HO134.out BK139.out (by decide)) (fun _ hk => hk.2) (.slice Ao63 t132.length co63)) (fun _ hk => hk.2) (.slice Ao65 t135.length co65)) (fun _ h_ => h_.1))) hb); have n4_ := zA (Kd.N_elder' (by (with_reducible repeat (first | apply Kd.N_alloc | apply Kd.N_drewN | apply Kd.N_drew)); exact (Kd.N_mono (Kd.N_far (p := ⟨gb139, 1, none⟩) (Kd.N_far (p := ⟨gb139, 0, none⟩) (Kd.N_mono HO137.out (fun k_ hk => (⟨hk, hk.2.2.2.2⟩ : _ ∧ k_ ≠ gb139))) (fun _ hk => hk.2) (.slice Ao63 t132.length co63)) (fun _ hk => hk.2) (.slice Ao65 t135.length co65)) (fun _ h_ => h_.1))) (Kd.R_base ho0) hb); have n5_ := zA (Kd.R_lower (Kd.R_new' ho0 (Kd.R_lt (by (with_reducible repeat (first | apply Kd.R_alloc | apply Kd.R_drewN | apply Kd.R_drew)); exact (Kd.R_mono (Kd.R_far (p := ⟨gb139, 1, none⟩) (Kd.R_far (p := ⟨gb139, 0, none⟩) (Kd.R_types HO_7.out BK139.out (by decide)) (fun _ hk => hk.2) (.slice Ao63 t132.length co63)) (fun _ hk => hk.2) (.slice Ao65 t135.length co65)) (fun _ h_ => h_.1))))) (zW qB)); have n6_ := zA (qX BK101.out hb); have n7_ := zA (qX BK115.out hb); have n8_ := zA (zX (g := gb139) (o := .cells #[.slice Ao63 t132.length co63, .slice Ao65 t135.length co65] 51 (0, 0)) (qV BK139.out) hb); have n9_ := zA (zV qB hb); clear HO_7 HO_116000 HO_116001 HO134 HO137 BK101 BK115 BK139 HB; have HO_7 := n0_; have HO_116000 := n1_; have HO_116001 := n2_; have HO134 := n3_; have HO137 := n4_; have HO144 := n5_; have BK101 := n6_; have BK115 := n7_; have BK139 := n8_; have HB := n9_; clear n0_ n1_ n2_ n3_ n4_ n5_ n6_ n7_ n8_ n9_; (try clear hb); (try clear ho0); have hnb68 := NB139_101.out; have hnc68 := NB101_139.out; have hnb69 := NB139_115.out; have hnc69 := NB115_139.out; obtain ⟨_, _, _, _⟩ := qc2f BK139.out; obtain ⟨Ao71, co71, eo71⟩ := Kd.R_slice HO144.out; subst eo71) | (go_at_call 39; (with_reducible refine (backhaullaw14_same.calls k3 _ _ t132 _ _ t135 _ _ t141 true _ ?side1 ?side2 ?side3 ?side4 ?side5 ?side6 A57.out).mono ?_); (case side1 => repeat (first | exact (Kd.R_reads' HO134.out).2.2 | (with_reducible refine Kd.C_alloc ?_ _) | (with_reducible refine Kd.C_drewN ?_ _) | (with_reducible refine Kd.C_drew ?_))); (case side2 => exact (Kd.R_reads' HO134.out).2.1); (case side3 => repeat (first | exact (Kd.N_reads' HO137.out).2.2 | (with_reducible refine Kd.C_alloc ?_ _) | (with_reducible refine Kd.C_drewN ?_ _) | (with_reducible refine Kd.C_drew ?_))); (case side4 => exact (Kd.N_reads' HO137.out).2.1); (case side5 => repeat (first | exact (Kd.R_reads' HO144.out).2.2 | (with_reducible refine Kd.C_alloc ?_ _) | (with_reducible refine Kd.C_drewN ?_ _) | (with_reducible refine Kd.C_drew ?_))); (case side6 => exact (Kd.R_reads' HO144.out).2.1); rintro e w72 ⟨rfl, hb⟩; have n0_ := zA (Kd.R_below (by (with_reducible repeat (first | apply Kd.R_alloc | apply Kd.R_drewN | apply Kd.R_drew)); exact HO_7.out) hb); have n1_ := zA (Kd.V_below (by (with_reducible repeat (first | apply Kd.V_alloc | apply Kd.V_drewN | apply Kd.V_drew)); exact HO_116000.out) hb); have n2_ := zA (Kd.V_below (by (with_reducible repeat (first | apply Kd.V_alloc | apply Kd.V_drewN | apply Kd.V_drew)); exact HO_116001.out) hb); have n3_ := zA (Kd.R_below (by (with_reducible repeat (first | apply Kd.R_alloc | apply Kd.R_drewN | apply Kd.R_drew)); exact HO134.out) hb); have n4_ := zA (Kd.N_below (by (with_reducible repeat (first | apply Kd.N_alloc | apply Kd.N_drewN | apply Kd.N_drew)); exact HO137.out) hb); have n5_ := zA (Kd.R_below (by (with_reducible repeat (first | apply Kd.R_alloc | apply Kd.R_drewN | apply Kd.R_drew)); exact HO144.out) hb); have n6_ := zA (qX BK101.out hb); have n7_ := zA (qX BK115.out hb); have n8_ := zA (qX BK139.out hb); have n9_ := zA (zV qB hb); clear HO_7 HO_116000 HO_116001 HO134 HO137 HO144 BK101 BK115 BK139 HB; have HO_7 := n0_; have HO_116000 := n1_; have HO_116001 := n2_; have HO134 := n3_; have HO137 := n4_; have HO144 := n5_; have BK101 := n6_; have BK115 := n7_; have BK139 := n8_; have HB := n9_; clear n0_ n1_ n2_ n3_ n4_ n5_ n6_ n7_ n8_ n9_; (try clear hb)))
                          go_roundg k3
                          case measure => have := HJ3.out; have := HJ22.out; have := HK3.out; omega
                          case rel => exact ⟨(wrap64 (x15_3 + 1)), (by first | rfl | (simp; done) | (simp [*]; done)), H', ⟨by have := HJ3.out; have := HJ22.out; have := HK3.out; omega⟩, ⟨by (with_reducible repeat (first | apply Kd.R_alloc | apply Kd.R_drewN | apply Kd.R_drew)); exact Kd.R_mono HO_7.out (fun _ hk => trivial)⟩, ⟨by (with_reducible repeat (first | apply Kd.V_alloc | apply Kd.V_drewN | apply Kd.V_drew)); exact Kd.V_mono HO_116000.out (fun _ hk => ⟨hk.1.2.2.1, ⟨hk.1.2.2.2.1, hk.1.2.2.2.2.1⟩⟩)⟩, ⟨by (with_reducible repeat (first | apply Kd.V_alloc | apply Kd.V_drewN | apply Kd.V_drew)); exact Kd.V_mono HO_116001.out (fun _ hk => ⟨hk.1.2.2.1, ⟨hk.1.2.2.2.1, hk.1.2.2.2.2.1⟩⟩)⟩, ⟨by exact BK101.out⟩, ⟨by exact BK115.out⟩, ⟨qB⟩⟩
                        replace c58 := Bool.eq_false_iff.mpr c58; subst c58; have H1 : (some false) = some true := by first | (rw [if_neg (show ¬ (false = true) by decide)] at H; exact H) | rfl
                        clear H; have H := H1; clear H1; exact absurd H (by simp)
                      rw [if_neg c56] at H; have c56b0 : (t138 == 0) = false := beq_eq_false_iff_ne.mpr c56; have c56b1 : (t138 != 0) = true := bne_iff_ne.mpr c56; have H' := zA H; clear H; try go_wp2
                      have n0_ := zA (Kd.R_drew HO_7.out); have n1_ := zA (Kd.V_drew HO_116000.out); have n2_ := zA (Kd.V_drew HO_116001.out); have n3_ := zA (zAq BK101.out); have n4_ := zA (zAq BK115.out); have n5_ := zA (zC HB.out); clear HO_7; clear HO_116000; clear HO_116001; clear BK101; clear BK115; clear HB; have HO_7 := n0_; have HO_116000 := n1_; have HO_116001 := n2_; have BK101 := n3_; have BK115 := n4_; have HB := n5_; clear n0_ n1_ n2_ n3_ n4_ n5_; have p131 : 0 ≤ (x15_3 : Int) := of_decide_eq_true qA; have q131 : x15_3 < (l2.length : Int) := of_decide_eq_true qA; obtain ⟨ad131, e131, hx131_0⟩ := Kd.at_int HR2.out x15_3 p131 q131; have hw131_0 := hx131_0; cases e131
                      replace hx131_0 := (HB.out.cell (zCq w _ hx131_0)).trans hx131_0; replace p131 := eq_true p131; replace q131 := eq_true q131; refine start_ (n := 13) (S := fun w' => w'.cell? ⟨gb101, 0, none⟩ = some (.slice A0_0 l0_0.length c0_0) ∧ w'.cell? ⟨gb101, 1, none⟩ = some (.slice A0_1 l0_1.length c0_1) ∧ w'.cell? (ad131.add (x15_3).toNat) = some (.int .i64 (rd l2 x15_3))) (ds := []) #[o0, o0, o0, o0, o0, o0, o0, o0, o0, o0, o0, o0, o0] (by kernel_rfl) rfl rfl ⟨(zF BK101.out 0).trans rfl, (zF BK101.out 1).trans rfl, ((HB.out.cell (zCq w _ hw131_0)).trans hw131_0)⟩ (fun hHeld => ?_); refine with_tabW backhaullaw14_IndexAdds.tab14 backhaullaw14_IndexAdds.bits14 (fun HT_ HW_ => ?_); generalize wr.drew = w73 at HO_7 HO_116000 HO_116001 BK101 BK115 HB hx131_0 hHeld ⊢; refine pure_ (i := 1) (N := some 104) #[o0, o1, o0, o0, o0, o0, o0, o0, o0, o0, o0, o0, o0] rfl rfl (any_of HT_.out (by kernel_rfl)) (fun _ _ _ h => h) (Or.inl ⟨by rfl, qy⟩) qz ?_; refine pure_ (i := 2) (N := some 105) #[o0, o1, o1, o0, o0, o0, o0, o0, o0, o0, o0, o0, o0] rfl rfl (any_of HT_.out (by kernel_rfl)) (fun _ _ _ h => h) (Or.inl ⟨by rfl, qy⟩) qz ?_; refine pure_ (i := 3) (N := some 106) #[o0, o1, o1, o1, o0, o0, o0, o0, o0, o0, o0, o0, o0] rfl rfl (any_of HT_.out (by kernel_rfl)) (fun _ _ _ h => h) (Or.inl ⟨by rfl, qy⟩) qz ?_; refine pure_ (i := 4) (N := some 107) #[o0, o1, o1, o1, o1, o0, o0, o0, o0, o0, o0, o0, o0] rfl rfl (any_of HT_.out (by kernel_rfl)) (fun _ _ _ h => h) (Or.inl ⟨by rfl, qy⟩) qz ?_; refine take_ (i := 0) (N := some 103) (v := ?_) (a' := ?_) #[o1, o1, o1, o1, o1, o0, o0, o0, o0, o0, o0, o0, o0] rfl rfl (take_ofW HT_.out HW_.out (by kernel_rfl)) (fun _ _ _ h => h) (Or.inl ⟨by rfl, ?_⟩) hHeld ?_ ?_; rotate_left
                      · rintro w' ⟨s0, s1, s2⟩
                        go_simp; with_reducible rfl
                      rotate_left
                      · simp only [Act.put, zH, zI, zJ, i64_w, i32_w]
                        rfl
                      refine take_ (i := 5) (N := some 108) (v := ?_) (a' := ?_) #[o1, o1, o1, o1, o1, o1, o0, o0, o0, o0, o0, o0, o0] rfl rfl (take_ofW HT_.out HW_.out (by kernel_rfl)) (fun _ _ _ h => h) (Or.inl ⟨by rfl, ?_⟩) hHeld ?_ ?_; rotate_left
                      · rintro w' ⟨s0, s1, s2⟩
                        go_simp; with_reducible rfl
                      rotate_left
                      · simp only [Act.put, zH, zI, zJ, i64_w, i32_w]
                        rfl
                      refine join_ (σ := Value × Value × Nat) 2 #[o1, o1, o1, o1, o1, o1, o1, o1, o1, o1, o1, o0, o0] (fun s_ => [(109, .tuple #[.agg #[s_.1, s_.2.1], .int .i64 t138]), (16, .pointer (some ⟨s_.2.2, 0, none⟩)), (102, .tuple #[.agg #[s_.1, s_.2.1], .int .i64 t138]), (110, .agg #[s_.1, s_.2.1]), (111, .int .i64 t138)]) (fun s_ w' => (w'.cell? ⟨gb101, 0, none⟩ = some (.slice A0_0 l0_0.length c0_0) ∧ w'.cell? ⟨gb101, 1, none⟩ = some (.slice A0_1 l0_1.length c0_1) ∧ w'.cell? (ad131.add (x15_3).toNat) = some (.int .i64 (rd l2 x15_3))) ∧ (Kd.R Kd.string 9 w' w.heap.size (fun _ => True) s_.1 t132) ∧ (Kd.N (Kd.slice 3 (Kd.int .i64)) 44 w' w.heap.size (fun k_ => some k_ ≠ (s_.1 : Value).ownBlock ∧ some k_ ≠ (.slice Ao34 t104.length co34 : Value).ownBlock ∧ k_ ≠ gb101 ∧ k_ ≠ gb115 ∧ k_ ≠ s_.2.2) s_.2.1 t135) ∧ (Kd.V Kd.string 9 w' w.heap.size (fun k_ => some k_ ≠ (s_.1 : Value).ownBlock ∧ some k_ ≠ (s_.2.1 : Value).ownBlock ∧ some k_ ≠ (.slice Ao34 t104.length co34 : Value).ownBlock ∧ k_ ≠ gb101 ∧ k_ ≠ gb115 ∧ k_ ≠ s_.2.2) (.slice Ao29 t108.length co29) t108) ∧ (Kd.V (Kd.slice 3 (Kd.int .i64)) 44 w' w.heap.size (fun k_ => some k_ ≠ (s_.1 : Value).ownBlock ∧ some k_ ≠ (s_.2.1 : Value).ownBlock ∧ some k_ ≠ (.slice Ao34 t104.length co34 : Value).ownBlock ∧ k_ ≠ gb101 ∧ k_ ≠ gb115 ∧ k_ ≠ s_.2.2) (.slice Ao32 t111.length co32) t111) ∧ (Kd.R k146 146 w' w.heap.size (fun _ => True) (.slice Ao34 t104.length co34) t104) ∧ (w'.heap[gb101]? = some (.cells #[.slice A0_0 l0_0.length c0_0, .slice A0_1 l0_1.length c0_1] 51 (0, 0))) ∧ (w'.heap[gb115]? = some (.cells #[.slice Ao29 t108.length co29, .slice Ao32 t111.length co32] 51 (0, 0))) ∧ (w'.heap[s_.2.2]? = some (.cells #[.slice none 0 0, .slice none 0 0] 51 (0, 0))) ∧ (w.heap.size ≤ s_.2.2) ∧ (w.heap.size ≤ s_.2.2) ∧ (gb101 ≠ s_.2.2) ∧ (s_.2.2 ≠ gb101) ∧ (gb115 ≠ s_.2.2) ∧ (s_.2.2 ≠ gb115) ∧ (Below w.heap.size w w')) ?_ ?_; rotate_left
                      · intro hCont
                        refine two_ (i := 6) (j := 10) (Ni := some 109) (Nj := some 16) #[o1, o1, o1, o1, o1, o1, o1, o0, o0, o0, o0, o0, o0] #[o1, o1, o1, o1, o1, o1, o0, o0, o0, o0, o1, o0, o0] rfl rfl rfl rfl (two_of HT_.out (by kernel_rfl)) (by decide) (by decide) (fun K hK => ?_) (fun K hK => ?_)
                        · skip
                          refine goes_ Try.func37 (by kernel_rfl) rfl #[.agg #[.slice A0_0 l0_0.length c0_0, .slice A0_1 l0_1.length c0_1], .string a1, .int .i64 (rd l2 x15_3)] (by rfl) rfl rfl qG ?_; with_reducible refine (index_Drop.calls k3 _ _ l0_0 (fun k_ => k_ < w.heap.size) _ _ l0_1 a1 (rd l2 x15_3) t132 t135 t138 _ ?side1 ?side2 ?side3 A53.out).mono ?_
                          (case side1 => exact qC (Kd.C_below HR0_0.out HB.out))
                          (case side2 => exact HC0_0.out)
                          (case side3 => exact Kd.V_mk HC0_1.out (Kd.F_below (Kd.C_F (Kd.heap_slice 3 (Kd.heap_int .i64)) HR0_1.out) qB))
                          rintro e w74 ⟨v133, v136, rfl, ho0, ho1, hb⟩; refine ⟨_, rfl, ?_⟩; have n0_ := zA (Kd.R_below (by (with_reducible repeat (first | apply Kd.R_alloc | apply Kd.R_drewN | apply Kd.R_drew)); exact HO_7.out) hb); have n1_ := zA (Kd.V_mono (Kd.V_told (Kd.V_told (Kd.V_old (by (with_reducible repeat (first | apply Kd.V_alloc | apply Kd.V_drewN | apply Kd.V_drew)); exact HO_116000.out) hb) (Kd.R_base ho0)) (Kd.N_base ho1)) (fun _ h_ => h_.1)); have n2_ := zA (Kd.V_mono (Kd.V_told (Kd.V_told (Kd.V_old (by (with_reducible repeat (first | apply Kd.V_alloc | apply Kd.V_drewN | apply Kd.V_drew)); exact HO_116001.out) hb) (Kd.R_base ho0)) (Kd.N_base ho1)) (fun _ h_ => h_.1)); have n3_ := zA (Kd.R_lower (Kd.R_mono (ok' := fun k_ => True) ho0 (fun _ hk_ => trivial)) (zW qB)); have n4_ := zA (Kd.N_lower (Kd.N_mono (ok' := fun k_ => some k_ ≠ (v133 : Value).ownBlock ∧ some k_ ≠ (.slice Ao34 t104.length co34 : Value).ownBlock ∧ k_ ≠ gb101 ∧ k_ ≠ gb115) ho1 (fun k_ hk_ => ⟨hk_.2, Or.elim hk_.1 (fun hs_ => fun e_ => Nat.not_le.2 hs_ (Kd.R_base HO_7.out k_ e_.symm)) (fun hn_ => (Kd.fresh' (Kd.R_lt (by (with_reducible repeat (first | apply Kd.R_alloc | apply Kd.R_drewN | apply Kd.R_drew)); exact HO_7.out)) k_ hn_)), Or.elim hk_.1 (fun hs_ => fun e_ => Nat.not_le.2 hs_ (by rw [e_]; exact GW101.out)) (fun hn_ => (Kd.freshB (g := gb101) (o := .cells #[.slice A0_0 l0_0.length c0_0, .slice A0_1 l0_1.length c0_1] 51 (0, 0)) (qW BK101.out) k_ hn_)), Or.elim hk_.1 (fun hs_ => fun e_ => Nat.not_le.2 hs_ (by rw [e_]; exact GW115.out)) (fun hn_ => (Kd.freshB (g := gb115) (o := .cells #[.slice Ao29 t108.length co29, .slice Ao32 t111.length co32] 51 (0, 0)) (qW BK115.out) k_ hn_))⟩)) (zW qB)); have n5_ := zA (qX BK101.out hb); have n6_ := zA (qX BK115.out hb); have n7_ := zA (zV qB hb); clear HO_7; clear HO_116000; clear HO_116001; clear BK101; clear BK115; clear HB; have HO_7 := n0_; have HO_116000 := n1_; have HO_116001 := n2_; have HO134 := n3_; have HO137 := n4_; have BK101 := n5_; have BK115 := n6_; have HB := n7_; clear n0_ n1_ n2_ n3_ n4_ n5_ n6_ n7_; (try clear hb); (try clear hb2); (try clear hk); (try clear hi); (try clear ho0); (try clear ho1)
                          refine hK.out _ _ ⟨(zF BK101.out 0).trans rfl, (zF BK101.out 1).trans rfl, ((HB.out.cell (zCq w _ hw131_0)).trans hw131_0)⟩ (fun hHeld => ?_); clear hK K; refine norm_ (a' := ?_) ?_ ?_; rotate_left
                          · show Act.put _ (some 109) _ = _
                            simp only [Act.put, zH, zI, zJ, i64_w, i32_w]; rfl
                          refine pure_ (i := 7) (N := some 102) #[o1, o1, o1, o1, o1, o1, o1, o1, o0, o0, o0, o0, o0] rfl rfl (any_of HT_.out (by kernel_rfl)) (fun _ _ _ h => h) (Or.inl ⟨by rfl, qy⟩) qz ?_; refine pure_ (i := 8) (N := some 110) #[o1, o1, o1, o1, o1, o1, o1, o1, o1, o0, o0, o0, o0] rfl rfl (any_of HT_.out (by kernel_rfl)) (fun _ _ _ h => h) (Or.inl ⟨by rfl, qy⟩) qz ?_; refine pure_ (i := 9) (N := some 111) #[o1, o1, o1, o1, o1, o1, o1, o1, o1, o1, o0, o0, o0] rfl rfl (any_of HT_.out (by kernel_rfl)) (fun _ _ _ h => h) (Or.inl ⟨by rfl, qy⟩) qz ?_; refine one_ (i := 10) (N := some 16) #[o1, o1, o1, o1, o1, o1, o1, o1, o1, o1, o1, o0, o0] rfl rfl (one_of HT_.out (by kernel_rfl)) (by decide) (fun K hK => ?_); refine box_step ?hg (N := 16) ?hd (cs := #[.slice none 0 0, .slice none 0 0]) (t := 51) ?hr ?_; (case hd => rfl); (case hg => rfl); (case hr => first | (go_simp; done) | (go_simp; rfl)); intro gb139 hg w75 hbox hb; have n0_ := zA (Kd.R_below (by (with_reducible repeat (first | apply Kd.R_alloc | apply Kd.R_drewN | apply Kd.R_drew)); exact HO_7.out) hb); have n1_ := zA (Kd.V_below (Kd.V_elderB (by (with_reducible repeat (first | apply Kd.V_alloc | apply Kd.V_drewN | apply Kd.V_drew)); exact HO_116000.out) gb139 (Nat.le_of_eq hg.symm)) hb); have n2_ := zA (Kd.V_below (Kd.V_elderB (by (with_reducible repeat (first | apply Kd.V_alloc | apply Kd.V_drewN | apply Kd.V_drew)); exact HO_116001.out) gb139 (Nat.le_of_eq hg.symm)) hb); have n3_ := zA (Kd.R_below (by (with_reducible repeat (first | apply Kd.R_alloc | apply Kd.R_drewN | apply Kd.R_drew)); exact HO134.out) hb); have n4_ := zA (Kd.N_below (Kd.N_elderB (by (with_reducible repeat (first | apply Kd.N_alloc | apply Kd.N_drewN | apply Kd.N_drew)); exact HO137.out) gb139 (Nat.le_of_eq hg.symm)) hb); have n5_ := zA (qX BK101.out hb); have n6_ := zA (qX BK115.out hb); have n7_ := zA (zV qB hb); have n8_ := zA (hbox); have n9_ := zA ((qS : w.heap.size ≤ gb139)); have n10_ := zA ((qS : w.heap.size ≤ gb139)); have n11_ := zA ((by rw [hg]; exact zLq (qL BK101.out) : gb101 ≠ gb139)); have n12_ := zA ((by rw [hg]; exact zMq (qL BK101.out) : gb139 ≠ gb101)); have n13_ := zA ((by rw [hg]; exact zLq (qL BK115.out) : gb115 ≠ gb139)); have n14_ := zA ((by rw [hg]; exact zMq (qL BK115.out) : gb139 ≠ gb115)); clear HO_7; clear HO_116000; clear HO_116001; clear HO134; clear HO137; clear BK101; clear BK115; clear HB; have HO_7 := n0_; have HO_116000 := n1_; have HO_116001 := n2_; have HO134 := n3_; have HO137 := n4_; have BK101 := n5_; have BK115 := n6_; have HB := n7_; have BK139 := n8_; have GW139 := n9_; have GE139 := n10_; have NB101_139 := n11_; have NB139_101 := n12_; have NB115_139 := n13_; have NB139_115 := n14_; clear n0_ n1_ n2_ n3_ n4_ n5_ n6_ n7_ n8_ n9_ n10_ n11_ n12_ n13_ n14_; clear hb hbox hg
                          refine hK.out _ _ ⟨(zF BK101.out 0).trans rfl, (zF BK101.out 1).trans rfl, ((HB.out.cell (zCq w _ hw131_0)).trans hw131_0)⟩ (fun hHeld => ?_); clear hK K; refine norm_ (a' := ?_) ?_ ?_; rotate_left
                          · show Act.put _ (some 16) _ = _
                            simp only [Act.put, zH, zI, zJ, i64_w, i32_w]; rfl
                          exact norm_ (by simp only [putAll, Act.put, zH, zI, zJ]) (hCont (v133, v136, gb139) _ ⟨hHeld, (by (with_reducible repeat (first | apply Kd.R_alloc | apply Kd.R_drewN | apply Kd.R_drew)); exact HO134.out), (by (with_reducible repeat (first | apply Kd.N_alloc | apply Kd.N_drewN | apply Kd.N_drew)); exact Kd.N_mono HO137.out (fun _ hk => ⟨hk.1.1, ⟨hk.1.2.1, ⟨hk.1.2.2.1, ⟨hk.1.2.2.2, hk.2⟩⟩⟩⟩)), (by (with_reducible repeat (first | apply Kd.V_alloc | apply Kd.V_drewN | apply Kd.V_drew)); exact Kd.V_mono HO_116000.out (fun _ hk => ⟨hk.1.1.2, ⟨hk.1.2, ⟨hk.1.1.1.1, ⟨hk.1.1.1.2.1, ⟨hk.1.1.1.2.2, hk.2⟩⟩⟩⟩⟩)), (by (with_reducible repeat (first | apply Kd.V_alloc | apply Kd.V_drewN | apply Kd.V_drew)); exact Kd.V_mono HO_116001.out (fun _ hk => ⟨hk.1.1.2, ⟨hk.1.2, ⟨hk.1.1.1.1, ⟨hk.1.1.1.2.1, ⟨hk.1.1.1.2.2, hk.2⟩⟩⟩⟩⟩)), (by (with_reducible repeat (first | apply Kd.R_alloc | apply Kd.R_drewN | apply Kd.R_drew)); exact HO_7.out), (qW BK101.out), (qW BK115.out), (qW BK139.out), GW139.out, GE139.out, NB101_139.out, NB139_101.out, NB115_139.out, NB139_115.out, qB⟩)
                        skip; refine box_step ?hg (N := 16) ?hd (cs := #[.slice none 0 0, .slice none 0 0]) (t := 51) ?hr ?_; (case hd => rfl); (case hg => rfl); (case hr => first | (go_simp; done) | (go_simp; rfl)); intro gb139 hg w74 hbox hb; have n0_ := zA (Kd.R_below (by (with_reducible repeat (first | apply Kd.R_alloc | apply Kd.R_drewN | apply Kd.R_drew)); exact HO_7.out) hb); have n1_ := zA (Kd.V_below (Kd.V_elderB (by (with_reducible repeat (first | apply Kd.V_alloc | apply Kd.V_drewN | apply Kd.V_drew)); exact HO_116000.out) gb139 (Nat.le_of_eq hg.symm)) hb); have n2_ := zA (Kd.V_below (Kd.V_elderB (by (with_reducible repeat (first | apply Kd.V_alloc | apply Kd.V_drewN | apply Kd.V_drew)); exact HO_116001.out) gb139 (Nat.le_of_eq hg.symm)) hb); have n3_ := zA (qX BK101.out hb); have n4_ := zA (qX BK115.out hb); have n5_ := zA (zV qB hb); have n6_ := zA (hbox); have n7_ := zA ((qS : w.heap.size ≤ gb139)); have n8_ := zA ((qS : w.heap.size ≤ gb139)); have n9_ := zA ((by rw [hg]; exact zLq (qL BK101.out) : gb101 ≠ gb139)); have n10_ := zA ((by rw [hg]; exact zMq (qL BK101.out) : gb139 ≠ gb101)); have n11_ := zA ((by rw [hg]; exact zLq (qL BK115.out) : gb115 ≠ gb139)); have n12_ := zA ((by rw [hg]; exact zMq (qL BK115.out) : gb139 ≠ gb115)); clear HO_7; clear HO_116000; clear HO_116001; clear BK101; clear BK115; clear HB; have HO_7 := n0_; have HO_116000 := n1_; have HO_116001 := n2_; have BK101 := n3_; have BK115 := n4_; have HB := n5_; have BK139 := n6_; have GW139 := n7_; have GE139 := n8_; have NB101_139 := n9_; have NB139_101 := n10_; have NB115_139 := n11_; have NB139_115 := n12_; clear n0_ n1_ n2_ n3_ n4_ n5_ n6_ n7_ n8_ n9_ n10_ n11_ n12_; clear hb hbox hg; refine hK.out _ _ ⟨(zF BK101.out 0).trans rfl, (zF BK101.out 1).trans rfl, ((HB.out.cell (zCq w _ hw131_0)).trans hw131_0)⟩ (fun hHeld => ?_); clear hK K; refine norm_ (a' := ?_) ?_ ?_; rotate_left
                        · show Act.put _ (some 16) _ = _
                          simp only [Act.put, zH, zI, zJ, i64_w, i32_w]; rfl
                        refine one_ (i := 6) (N := some 109) #[o1, o1, o1, o1, o1, o1, o1, o0, o0, o0, o1, o0, o0] rfl rfl (one_of HT_.out (by kernel_rfl)) (by decide) (fun K hK => ?_); refine goes_ Try.func37 (by kernel_rfl) rfl #[.agg #[.slice A0_0 l0_0.length c0_0, .slice A0_1 l0_1.length c0_1], .string a1, .int .i64 (rd l2 x15_3)] (by rfl) rfl rfl qG ?_; with_reducible refine (index_Drop.calls k3 _ _ l0_0 (fun k_ => k_ < w.heap.size) _ _ l0_1 a1 (rd l2 x15_3) t132 t135 t138 _ ?side1 ?side2 ?side3 A53.out).mono ?_
                        (case side1 => exact qC (Kd.C_below HR0_0.out HB.out))
                        (case side2 => exact HC0_0.out)
                        (case side3 => exact Kd.V_mk HC0_1.out (Kd.F_below (Kd.C_F (Kd.heap_slice 3 (Kd.heap_int .i64)) HR0_1.out) qB))
                        rintro e w75 ⟨v133, v136, rfl, ho0, ho1, hb⟩; refine ⟨_, rfl, ?_⟩; have n0_ := zA (Kd.R_below (by (with_reducible repeat (first | apply Kd.R_alloc | apply Kd.R_drewN | apply Kd.R_drew)); exact HO_7.out) hb); have n1_ := zA (Kd.V_mono (Kd.V_told (Kd.V_told (Kd.V_old (by (with_reducible repeat (first | apply Kd.V_alloc | apply Kd.V_drewN | apply Kd.V_drew)); exact HO_116000.out) hb) (Kd.R_base ho0)) (Kd.N_base ho1)) (fun _ h_ => h_.1)); have n2_ := zA (Kd.V_mono (Kd.V_told (Kd.V_told (Kd.V_old (by (with_reducible repeat (first | apply Kd.V_alloc | apply Kd.V_drewN | apply Kd.V_drew)); exact HO_116001.out) hb) (Kd.R_base ho0)) (Kd.N_base ho1)) (fun _ h_ => h_.1)); have n3_ := zA (Kd.R_lower (Kd.R_mono (ok' := fun k_ => True) ho0 (fun _ hk_ => trivial)) (zW qB)); have n4_ := zA (Kd.N_lower (Kd.N_mono (ok' := fun k_ => some k_ ≠ (v133 : Value).ownBlock ∧ some k_ ≠ (.slice Ao34 t104.length co34 : Value).ownBlock ∧ k_ ≠ gb101 ∧ k_ ≠ gb115 ∧ k_ ≠ gb139) ho1 (fun k_ hk_ => ⟨hk_.2, Or.elim hk_.1 (fun hs_ => fun e_ => Nat.not_le.2 hs_ (Kd.R_base HO_7.out k_ e_.symm)) (fun hn_ => (Kd.fresh' (Kd.R_lt (by (with_reducible repeat (first | apply Kd.R_alloc | apply Kd.R_drewN | apply Kd.R_drew)); exact HO_7.out)) k_ hn_)), Or.elim hk_.1 (fun hs_ => fun e_ => Nat.not_le.2 hs_ (by rw [e_]; exact GW101.out)) (fun hn_ => (Kd.freshB (g := gb101) (o := .cells #[.slice A0_0 l0_0.length c0_0, .slice A0_1 l0_1.length c0_1] 51 (0, 0)) (qW BK101.out) k_ hn_)), Or.elim hk_.1 (fun hs_ => fun e_ => Nat.not_le.2 hs_ (by rw [e_]; exact GW115.out)) (fun hn_ => (Kd.freshB (g := gb115) (o := .cells #[.slice Ao29 t108.length co29, .slice Ao32 t111.length co32] 51 (0, 0)) (qW BK115.out) k_ hn_)), Or.elim hk_.1 (fun hs_ => fun e_ => Nat.not_le.2 hs_ (by rw [e_]; exact GW139.out)) (fun hn_ => (Kd.freshB (g := gb139) (o := .cells #[.slice none 0 0, .slice none 0 0] 51 (0, 0)) (qW BK139.out) k_ hn_))⟩)) (zW qB)); have n5_ := zA (qX BK101.out hb); have n6_ := zA (qX BK115.out hb); have n7_ := zA (qX BK139.out hb); have n8_ := zA (zV qB hb); clear HO_7; clear HO_116000; clear HO_116001; clear BK101; clear BK115; clear BK139; clear HB; have HO_7 := n0_; have HO_116000 := n1_; have HO_116001 := n2_; have HO134 := n3_; have HO137 := n4_; have BK101 := n5_; have BK115 := n6_; have BK139 := n7_; have HB := n8_; clear n0_ n1_ n2_ n3_ n4_ n5_ n6_ n7_ n8_; (try clear hb); (try clear hb2); (try clear hk); (try clear hi); (try clear ho0); (try clear ho1)
                        refine hK.out _ _ ⟨(zF BK101.out 0).trans rfl, (zF BK101.out 1).trans rfl, ((HB.out.cell (zCq w _ hw131_0)).trans hw131_0)⟩ (fun hHeld => ?_); clear hK K; refine norm_ (a' := ?_) ?_ ?_; rotate_left
                        · show Act.put _ (some 109) _ = _
                          simp only [Act.put, zH, zI, zJ, i64_w, i32_w]; rfl
                        refine pure_ (i := 7) (N := some 102) #[o1, o1, o1, o1, o1, o1, o1, o1, o0, o0, o1, o0, o0] rfl rfl (any_of HT_.out (by kernel_rfl)) (fun _ _ _ h => h) (Or.inl ⟨by rfl, qy⟩) qz ?_; refine pure_ (i := 8) (N := some 110) #[o1, o1, o1, o1, o1, o1, o1, o1, o1, o0, o1, o0, o0] rfl rfl (any_of HT_.out (by kernel_rfl)) (fun _ _ _ h => h) (Or.inl ⟨by rfl, qy⟩) qz ?_; refine pure_ (i := 9) (N := some 111) #[o1, o1, o1, o1, o1, o1, o1, o1, o1, o1, o1, o0, o0] rfl rfl (any_of HT_.out (by kernel_rfl)) (fun _ _ _ h => h) (Or.inl ⟨by rfl, qy⟩) qz ?_; exact norm_ (by simp only [putAll, Act.put, zH, zI, zJ]) (hCont (v133, v136, gb139) _ ⟨hHeld, (by (with_reducible repeat (first | apply Kd.R_alloc | apply Kd.R_drewN | apply Kd.R_drew)); exact HO134.out), (by (with_reducible repeat (first | apply Kd.N_alloc | apply Kd.N_drewN | apply Kd.N_drew)); exact HO137.out), (by (with_reducible repeat (first | apply Kd.V_alloc | apply Kd.V_drewN | apply Kd.V_drew)); exact Kd.V_mono HO_116000.out (fun _ hk => ⟨hk.1.2, ⟨hk.2, ⟨hk.1.1.1.1, ⟨hk.1.1.1.2.1, ⟨hk.1.1.1.2.2, hk.1.1.2⟩⟩⟩⟩⟩)), (by (with_reducible repeat (first | apply Kd.V_alloc | apply Kd.V_drewN | apply Kd.V_drew)); exact Kd.V_mono HO_116001.out (fun _ hk => ⟨hk.1.2, ⟨hk.2, ⟨hk.1.1.1.1, ⟨hk.1.1.1.2.1, ⟨hk.1.1.1.2.2, hk.1.1.2⟩⟩⟩⟩⟩)), (by (with_reducible repeat (first | apply Kd.R_alloc | apply Kd.R_drewN | apply Kd.R_drew)); exact HO_7.out), (qW BK101.out), (qW BK115.out), (qW BK139.out), GW139.out, GE139.out, NB101_139.out, NB139_101.out, NB115_139.out, NB139_115.out, qB⟩)
                      rintro ⟨v133, v136, gb139⟩ w76 ⟨hS_, h0_, h1_, h2_, h3_, h4_, h5_, h6_, h7_, h8_, h9_, h10_, h11_, h12_, h13_, h14_⟩; have n0_ : Aside0 (Kd.R Kd.string 9 w76 w.heap.size (fun _ => True) v133 t132) := ⟨h0_⟩
                      have n1_ : Aside0 (Kd.N (Kd.slice 3 (Kd.int .i64)) 44 w76 w.heap.size (fun k_ => some k_ ≠ (v133 : Value).ownBlock ∧ some k_ ≠ (.slice Ao34 t104.length co34 : Value).ownBlock ∧ k_ ≠ gb101 ∧ k_ ≠ gb115 ∧ k_ ≠ gb139) v136 t135) := ⟨h1_⟩
                      have n2_ : Aside0 (Kd.V Kd.string 9 w76 w.heap.size (fun k_ => some k_ ≠ (v133 : Value).ownBlock ∧ some k_ ≠ (v136 : Value).ownBlock ∧ some k_ ≠ (.slice Ao34 t104.length co34 : Value).ownBlock ∧ k_ ≠ gb101 ∧ k_ ≠ gb115 ∧ k_ ≠ gb139) (.slice Ao29 t108.length co29) t108) := ⟨h2_⟩
                      have n3_ : Aside0 (Kd.V (Kd.slice 3 (Kd.int .i64)) 44 w76 w.heap.size (fun k_ => some k_ ≠ (v133 : Value).ownBlock ∧ some k_ ≠ (v136 : Value).ownBlock ∧ some k_ ≠ (.slice Ao34 t104.length co34 : Value).ownBlock ∧ k_ ≠ gb101 ∧ k_ ≠ gb115 ∧ k_ ≠ gb139) (.slice Ao32 t111.length co32) t111) := ⟨h3_⟩
                      have n4_ : Aside0 (Kd.R k146 146 w76 w.heap.size (fun _ => True) (.slice Ao34 t104.length co34) t104) := ⟨h4_⟩
                      have n5_ : Aside0 (w76.heap[gb101]? = some (.cells #[.slice A0_0 l0_0.length c0_0, .slice A0_1 l0_1.length c0_1] 51 (0, 0))) := ⟨h5_⟩
                      have n6_ : Aside0 (w76.heap[gb115]? = some (.cells #[.slice Ao29 t108.length co29, .slice Ao32 t111.length co32] 51 (0, 0))) := ⟨h6_⟩
                      have n7_ : Aside0 (w76.heap[gb139]? = some (.cells #[.slice none 0 0, .slice none 0 0] 51 (0, 0))) := ⟨h7_⟩
                      have n8_ : Aside0 (w.heap.size ≤ gb139) := ⟨h8_⟩
                      have n9_ : Aside0 (w.heap.size ≤ gb139) := ⟨h9_⟩
                      have n10_ : Aside0 (gb101 ≠ gb139) := ⟨h10_⟩
                      have n11_ : Aside0 (gb139 ≠ gb101) := ⟨h11_⟩
                      have n12_ : Aside0 (gb115 ≠ gb139) := ⟨h12_⟩
                      have n13_ : Aside0 (gb139 ≠ gb115) := ⟨h13_⟩
                      have n14_ : Aside0 (Below w.heap.size w w76) := ⟨h14_⟩
                      clear HO_7; clear HO_116000; clear HO_116001; clear BK101; clear BK115; clear HB; clear h0_ h1_ h2_ h3_ h4_ h5_ h6_ h7_ h8_ h9_ h10_ h11_ h12_ h13_ h14_; have HO134 := n0_; have HO137 := n1_; have HO_116000 := n2_; have HO_116001 := n3_; have HO_7 := n4_; have BK101 := n5_; have BK115 := n6_; have BK139 := n7_; have GW139 := n8_; have GE139 := n9_; have NB101_139 := n10_; have NB139_101 := n11_; have NB115_139 := n12_; have NB139_115 := n13_; have HB := n14_; clear n0_ n1_ n2_ n3_ n4_ n5_ n6_ n7_ n8_ n9_ n10_ n11_ n12_ n13_ n14_; have hHeld : w76.cell? ⟨gb101, 0, none⟩ = some (.slice A0_0 l0_0.length c0_0) ∧ w76.cell? ⟨gb101, 1, none⟩ = some (.slice A0_1 l0_1.length c0_1) ∧ w76.cell? (ad131.add (x15_3).toNat) = some (.int .i64 (rd l2 x15_3)) := hS_; obtain ⟨Ao77, co77, eo77⟩ := Kd.R_slice HO134.out; (first | subst eo77 | (injection eo77 with f1_ f2_ f3_; have f4_ := f1_.symm; have f5_ := f3_.symm; clear f1_ f2_ f3_; subst f4_; subst f5_))
                      obtain ⟨Ao79, co79, eo79⟩ := Kd.N_slice HO137.out; (first | subst eo79 | (injection eo79 with f1_ f2_ f3_; have f4_ := f1_.symm; have f5_ := f3_.symm; clear f1_ f2_ f3_; subst f4_; subst f5_))
                      refine norm_ (a' := ?_) ?_ ?_; rotate_left
                      · simp only [putAll, Act.put, zH, zI, zJ]
                        rfl
                      refine one_ (i := 11) (N := none) #[o1, o1, o1, o1, o1, o1, o1, o1, o1, o1, o1, o1, o0] rfl rfl (one_of HT_.out (by kernel_rfl)) (by decide) (fun K hK => ?_); have hs78 : w76.cell? ⟨gb139, 0, none⟩ = some (.slice none 0 0) := (zF BK139.out 0).trans rfl; have hfs78 := zG BK139.out 0; have hns78_0 := NB101_139.out; have hns78_1 := NB115_139.out; have hms78_0 := NB139_101.out; have hms78_1 := NB139_115.out; have hs80 : w76.cell? ⟨gb139, 1, none⟩ = some (.slice none 0 0) := (zF BK139.out 1).trans rfl; have hfs80 := zG BK139.out 1; have hns80_0 := NB101_139.out; have hns80_1 := NB115_139.out; have hms80_0 := NB139_101.out; have hms80_1 := NB139_115.out; refine skip_ (w1 := ?_) (by rfl) rfl ?_ ?_; rotate_left
                      · go_simp
                        rfl
                      refine hK.out _ _ ⟨((cell_far (p := ⟨gb139, _, none⟩) NB101_139.out _).trans (((cell_far (p := ⟨gb139, _, none⟩) NB101_139.out _).trans (hHeld.1)))), ((cell_far (p := ⟨gb139, _, none⟩) NB101_139.out _).trans (((cell_far (p := ⟨gb139, _, none⟩) NB101_139.out _).trans (hHeld.2.1)))), ((cell_far (p := ⟨gb139, _, none⟩) (by first | exact zLq (Nat.lt_of_lt_of_le (by have := zCq _ _ hw131_0; first | rwa [add_block] at this | exact this) GW139.out) | (rw [add_block]; exact zLq (Nat.lt_of_lt_of_le (by have := zCq _ _ hw131_0; first | rwa [add_block] at this | exact this) GW139.out)) | (show (Addr.add _ _).block ≠ _; rw [add_block]; exact zLq (Nat.lt_of_lt_of_le (by have := zCq _ _ hw131_0; first | rwa [add_block] at this | exact this) GW139.out)) | (dsimp only; exact zLq (Nat.lt_of_lt_of_le (by have := zCq _ _ hw131_0; first | rwa [add_block] at this | exact this) GW139.out))) _).trans (((cell_far (p := ⟨gb139, _, none⟩) (by first | exact zLq (Nat.lt_of_lt_of_le (by have := zCq _ _ hw131_0; first | rwa [add_block] at this | exact this) GW139.out) | (rw [add_block]; exact zLq (Nat.lt_of_lt_of_le (by have := zCq _ _ hw131_0; first | rwa [add_block] at this | exact this) GW139.out)) | (show (Addr.add _ _).block ≠ _; rw [add_block]; exact zLq (Nat.lt_of_lt_of_le (by have := zCq _ _ hw131_0; first | rwa [add_block] at this | exact this) GW139.out)) | (dsimp only; exact zLq (Nat.lt_of_lt_of_le (by have := zCq _ _ hw131_0; first | rwa [add_block] at this | exact this) GW139.out))) _).trans (hHeld.2.2))))⟩ (fun hHeld => ?_); clear hK K; refine pure_ (i := 12) (N := some 17) #[o1, o1, o1, o1, o1, o1, o1, o1, o1, o1, o1, o1, o1] rfl rfl (any_of HT_.out (by kernel_rfl)) (fun _ _ _ h => h) (Or.inl ⟨by rfl, qy⟩) qz ?_; refine done_ (done_of HT_.out (by kernel_rfl)) ?_; have p140 : 0 ≤ (x15_3 : Int) := of_decide_eq_true qA; have q140 : x15_3 < (l2.length : Int) := of_decide_eq_true qA; obtain ⟨ad140, e140, hx140_0⟩ := Kd.at_int HR2.out x15_3 p140 q140; obtain rfl : ad131 = ad140 := (by injection e140)
                      have hn140_0 : ad131.block ≠ gb139 := zLq (Nat.lt_of_lt_of_le (by have := zCq _ _ hx140_0; first | rwa [add_block] at this | exact this) GW139.out); have hn140_1 : ad131.block ≠ gb139 := zLq (Nat.lt_of_lt_of_le (by have := zCq _ _ hx140_0; first | rwa [add_block] at this | exact this) GW139.out); replace hx140_0 := (HB.out.cell (zCq w _ hx140_0)).trans hx140_0; replace hx140_0 := (cell_far (p := ⟨gb139, 0, none⟩) (by first | (rw [add_block]; exact hn140_0) | (show (Addr.add _ _).block ≠ _; rw [add_block]; exact hn140_0) | exact hn140_0) (.slice Ao77 t132.length co77)).trans hx140_0; replace hx140_0 := (cell_far (p := ⟨gb139, 1, none⟩) (by first | (rw [add_block]; exact hn140_1) | (show (Addr.add _ _).block ≠ _; rw [add_block]; exact hn140_1) | exact hn140_1) (.slice Ao79 t135.length co79)).trans hx140_0; clear hn140_0; clear hn140_1; replace p140 := eq_true p140; replace q140 := eq_true q140; try go_wp2_with (first | ((with_reducible refine zJq (f := 40) rfl ?_); refine goesL_ (some 119) rfl rfl Try.func40 (by kernel_rfl) rfl #[.slice Ao34 t104.length co34, .string a1, .int .i64 (rd l2 x15_3)] rfl qG ?_; (with_reducible refine (backhaulref14_Drop.calls k3 _ _ t104 a1 (rd l2 x15_3) t141 t142 _ ?side1 ?side2 A54.out).mono ?_); (case side1 => refine (Kd.R_reads' (e := 146) (base := w.heap.size) (ok := fun k_ => True) (n := t104.length) (c := co34) ?_).2.2; exact (by (with_reducible repeat (first | apply Kd.R_alloc | apply Kd.R_drewN | apply Kd.R_drew)); exact (Kd.R_mono (Kd.R_far (p := ⟨gb139, 1, none⟩) (Kd.R_far (p := ⟨gb139, 0, none⟩) (Kd.R_types HO_7.out BK139.out (by decide)) (fun _ hk => hk.2) (.slice Ao77 t132.length co77)) (fun _ hk => hk.2) (.slice Ao79 t135.length co79)) (fun _ h_ => h_.1)))); (case side2 => exact (Kd.R_reads' HO_7.out).2.1); rintro e w81 ⟨v143, rfl, ho0, hb⟩; refine ⟨_, rfl, ?_⟩; have n0_ := zA (Kd.R_elder' (by (with_reducible repeat (first | apply Kd.R_alloc | apply Kd.R_drewN | apply Kd.R_drew)); exact (Kd.R_mono (Kd.R_far (p := ⟨gb139, 1, none⟩) (Kd.R_far (p := ⟨gb139, 0, none⟩) (Kd.R_types HO_7.out BK139.out (by decide)) (fun _ hk => hk.2) (.slice Ao77 t132.length co77)) (fun _ hk => hk.2) (.slice Ao79 t135.length co79)) (fun _ h_ => h_.1))) (Kd.R_base ho0) hb); have n1_ := zA (Kd.V_elder' (by (with_reducible repeat (first | apply Kd.V_alloc | apply Kd.V_drewN | apply Kd.V_drew)); exact (Kd.V_mono (Kd.V_far (p := ⟨gb139, 1, none⟩) (Kd.V_far (p := ⟨gb139, 0, none⟩) (Kd.V_mono HO_116000.out (fun k_ hk => (⟨hk, hk.2.2.2.2.2⟩ : _ ∧ k_ ≠ gb139))) (fun _ hk => hk.2) (.slice Ao77 t132.length co77)) (fun _ hk => hk.2) (.slice Ao79 t135.length co79)) (fun _ h_ => h_.1))) (Kd.R_base ho0) hb); have n2_ := zA (Kd.V_elder' (by (with_reducible repeat (first | apply Kd.V_alloc | apply Kd.V_drewN | apply Kd.V_drew)); exact (Kd.V_mono (Kd.V_far (p := ⟨gb139, 1, none⟩) (Kd.V_far (p := ⟨gb139, 0, none⟩) (Kd.V_mono HO_116001.out (fun k_ hk => (⟨hk, hk.2.2.2.2.2⟩ : _ ∧ k_ ≠ gb139))) (fun _ hk => hk.2) (.slice Ao77 t132.length co77)) (fun _ hk => hk.2) (.slice Ao79 t135.length co79)) (fun _ h_ => h_.1))) (Kd.R_base ho0) hb); have n3_ := zA (Kd.R_below (by (with_reducible repeat (first | apply Kd.R_alloc | apply Kd.R_drewN | apply Kd.R_drew)); exact (Kd.R_mono (Kd.R_far (p := ⟨gb139, 1, none⟩) (Kd.R_far (p := ⟨gb139, 0, none⟩) (Kd.R_types HO134.out BK139.out (by decide)) (fun _ hk => hk.2) (.slice Ao77 t132.length co77)) (fun _ hk => hk.2) (.slice Ao79 t135.length co79)) (fun _ h_ => h_.1))) hb); have n4_ := zA (Kd.N_elder' (by (with_reducible repeat (first | apply Kd.N_alloc | apply Kd.N_drewN | apply Kd.N_drew)); exact (Kd.N_mono (Kd.N_far (p := ⟨gb139, 1, none⟩) (Kd.N_far (p := ⟨gb139, 0, none⟩) (Kd.N_mono HO137.out (fun k_ hk => (⟨hk, hk.2.2.2.2⟩ : _ ∧ k_ ≠ gb139))) (fun _ hk => hk.2) (.slice Ao77 t132.length co77)) (fun _ hk => hk.2) (.slice Ao79 t135.length co79)) (fun _ h_ => h_.1))) (Kd.R_base ho0) hb); have n5_ := zA (Kd.R_lower (Kd.R_new' ho0 (Kd.R_lt (by (with_reducible repeat (first | apply Kd.R_alloc | apply Kd.R_drewN | apply Kd.R_drew)); exact (Kd.R_mono (Kd.R_far (p := ⟨gb139, 1, none⟩) (Kd.R_far (p := ⟨gb139, 0, none⟩) (Kd.R_types HO_7.out BK139.out (by decide)) (fun _ hk => hk.2) (.slice Ao77 t132.length co77)) (fun _ hk => hk.2) (.slice Ao79 t135.length co79)) (fun _ h_ => h_.1))))) (zW qB)); have n6_ := zA (qX BK101.out hb); have n7_ := zA (qX BK115.out hb); have n8_ := zA (zX (g := gb139) (o := .cells #[.slice Ao77 t132.length co77, .slice Ao79 t135.length co79] 51 (0, 0)) (qV BK139.out) hb); have n9_ := zA (zV qB hb); clear HO_7 HO_116000 HO_116001 HO134 HO137 BK101 BK115 BK139 HB; have HO_7 := n0_; have HO_116000 := n1_; have HO_116001 := n2_; have HO134 := n3_; have HO137 := n4_; have HO144 := n5_; have BK101 := n6_; have BK115 := n7_; have BK139 := n8_; have HB := n9_; clear n0_ n1_ n2_ n3_ n4_ n5_ n6_ n7_ n8_ n9_; (try clear hb); (try clear ho0)))
                      go_roundg k3
                      case measure => have := HJ3.out; have := HJ22.out; have := HK3.out; omega
                      case rel => exact ⟨(wrap64 (x15_3 + 1)), (by first | rfl | (simp; done) | (simp [*]; done)), H', ⟨by have := HJ3.out; have := HJ22.out; have := HK3.out; omega⟩, ⟨by (with_reducible repeat (first | apply Kd.R_alloc | apply Kd.R_drewN | apply Kd.R_drew)); exact Kd.R_mono HO_7.out (fun _ hk => trivial)⟩, ⟨by (with_reducible repeat (first | apply Kd.V_alloc | apply Kd.V_drewN | apply Kd.V_drew)); exact Kd.V_mono HO_116000.out (fun _ hk => ⟨hk.1.2.2.1, ⟨hk.1.2.2.2.1, hk.1.2.2.2.2.1⟩⟩)⟩, ⟨by (with_reducible repeat (first | apply Kd.V_alloc | apply Kd.V_drewN | apply Kd.V_drew)); exact Kd.V_mono HO_116001.out (fun _ hk => ⟨hk.1.2.2.1, ⟨hk.1.2.2.2.1, hk.1.2.2.2.2.1⟩⟩)⟩, ⟨by exact BK101.out⟩, ⟨by exact BK115.out⟩, ⟨qB⟩⟩
                    rw [if_neg c55] at H; have c55b0 : (t138 == t142) = false := beq_eq_false_iff_ne.mpr c55; have c55b1 : (t138 != t142) = true := bne_iff_ne.mpr c55; exact absurd H (by simp)
                  rw [if_neg c52] at H; exact absurd H (by simp)
                rw [if_neg c51] at H; have c51b0 : decide (x15_3 < (l2.length : Int)) = false := zGq c51; clear c51; replace H := Option.bind_eq_some_iff.mp H; obtain ⟨t130, A820, H⟩ := H; try dsimp only at H
                have A82 := zA A820; clear A820; by_cases c83 : t130 = true
                · subst c83
                  have H1 : (some true) = some true := by first | (rw [if_pos rfl] at H; exact H) | rfl
                  clear H; have H := H1; clear H1; clear H; go_wp2_with (first | ((with_reducible refine zJq (f := 26) rfl ?_); refine goesL_ (some 135) rfl rfl Try.func26 (by kernel_rfl) rfl #[] rfl qG ?_; (with_reducible refine (backhaullaw14_awake.calls  true _ A82.out).mono ?_); rintro e w84 ⟨rfl, hb⟩; refine ⟨_, rfl, ?_⟩; have n0_ := zA (Kd.R_below (by (with_reducible repeat (first | apply Kd.R_alloc | apply Kd.R_drewN | apply Kd.R_drew)); exact HO_7.out) hb); have n1_ := zA (Kd.V_below (by (with_reducible repeat (first | apply Kd.V_alloc | apply Kd.V_drewN | apply Kd.V_drew)); exact HO_116000.out) hb); have n2_ := zA (Kd.V_below (by (with_reducible repeat (first | apply Kd.V_alloc | apply Kd.V_drewN | apply Kd.V_drew)); exact HO_116001.out) hb); have n3_ := zA (qX BK101.out hb); have n4_ := zA (qX BK115.out hb); have n5_ := zA (zV qB hb); clear HO_7 HO_116000 HO_116001 BK101 BK115 HB; have HO_7 := n0_; have HO_116000 := n1_; have HO_116001 := n2_; have BK101 := n3_; have BK115 := n4_; have HB := n5_; clear n0_ n1_ n2_ n3_ n4_ n5_; (try clear hb))); go_ret; exact ⟨qE, qB⟩
                replace c83 := Bool.eq_false_iff.mpr c83; subst c83; have H1 : (some false) = some true := by first | (rw [if_neg (show ¬ (false = true) by decide)] at H; exact H) | rfl
                clear H; have H := H1; clear H1; exact absurd H (by simp)
      replace c21 := Bool.eq_false_iff.mpr c21; subst c21; have H1 : ((index_Drop.f kj3 l0_0 l0_1 a1 1).bind fun bt116 => (if t114 = 40 then (if bt116.2.2 = 40 then ((backhaullaw14_awake.f).bind fun t124 => (if t124 = true then (some true) else (some false))) else (some false)) else (some false))) = some true := by first | (rw [if_neg (show ¬ (false = true) by decide)] at H; exact H) | rfl
      clear H; have H := H1; clear H1; replace H := Option.bind_eq_some_iff.mp H; obtain ⟨⟨t116, t119, t122⟩, A850, H⟩ := H; try dsimp only at H
      have A85 := zA A850; clear A850; by_cases c86 : t114 = 40
      · rw [if_pos c86] at H
        have c86b0 : (t114 == 40) = true := beq_iff_eq.mpr c86; have c86b1 : (t114 != 40) = false := bne_eq_false_iff_eq.mpr c86; clear c86; by_cases c87 : t122 = 40
        · rw [if_pos c87] at H
          have c87b0 : (t122 == 40) = true := beq_iff_eq.mpr c87; have c87b1 : (t122 != 40) = false := bne_eq_false_iff_eq.mpr c87; clear c87; replace H := Option.bind_eq_some_iff.mp H; obtain ⟨t124, A880, H⟩ := H; try dsimp only at H
          have A88 := zA A880; clear A880; by_cases c89 : t124 = true
          · subst c89
            have H1 : (some true) = some true := by first | (rw [if_pos rfl] at H; exact H) | rfl
            clear H; have H := H1; clear H1; clear H; obtain ⟨_, _, _, _⟩ := qc2f BK101.out; go_wp2_with (first | ((with_reducible refine zJq (f := 27) rfl ?_); refine goesL_ (some 39) rfl rfl Try.func27 (by kernel_rfl) rfl #[.slice A0_0 l0_0.length c0_0, .slice A0_1 l0_1.length c0_1] rfl qG ?_; (with_reducible refine (backhaulref14_Pairs.calls kj3 _ _ l0_0 _ _ l0_1 t104 false _ ?side1 ?side2 ?side3 ?side4 A19.out).mono ?_); (case side1 => exact qC (Kd.C_below HR0_0.out HB.out)); (case side2 => exact HC0_0.out); (case side3 => exact qC (Kd.C_below HR0_1.out HB.out)); (case side4 => exact HC0_1.out); rintro e w91 ⟨v106, rfl, ho0, hb⟩; refine ⟨_, rfl, ?_⟩; have n0_ := zA (Kd.R_lower ho0 (zW qB)); have n1_ := zA (qX BK101.out hb); have n2_ := zA (zV qB hb); clear BK101 HB; have HO107 := n0_; have BK101 := n1_; have HB := n2_; clear n0_ n1_ n2_; (try clear hb); (try clear ho0); obtain ⟨_, _, _, _⟩ := qc2f BK101.out) | ((with_reducible refine zJq (f := 36) rfl ?_); refine goesL_ (some 46) rfl rfl Try.func36 (by kernel_rfl) rfl #[.agg #[.slice A0_0 l0_0.length c0_0, .slice A0_1 l0_1.length c0_1], .string a1, .slice A2 l2.length c2] rfl qG ?_; (with_reducible refine (index_Add.calls kj3 (fun k_ => k_ < w.heap.size) _ _ l0_0 (fun k_ => k_ < w.heap.size) _ _ l0_1 a1 _ _ l2 t108 t111 t114 _ ?side1 ?side2 ?side3 ?side4 A20.out).mono ?_); (case side1 => exact Kd.V_mk HC0_0.out (Kd.F_below (Kd.C_F Kd.heap_string HR0_0.out) qB)); (case side2 => exact Kd.V_mk HC0_1.out (Kd.F_below (Kd.C_F (Kd.heap_slice 3 (Kd.heap_int .i64)) HR0_1.out) qB)); (case side3 => exact qC (Kd.C_below HR2.out HB.out)); (case side4 => exact HC2.out); rintro e w93 ⟨v109, v112, rfl, ho0, ho1, hb⟩; refine ⟨_, rfl, ?_⟩; have n0_ := zA (Kd.R_below (by (with_reducible repeat (first | apply Kd.R_alloc | apply Kd.R_drewN | apply Kd.R_drew)); exact HO107.out) hb); have n1_ := zA (Kd.V_lower (Kd.V_mono (ok' := fun k_ => some k_ ≠ (v106 : Value).ownBlock ∧ k_ ≠ gb101) ho0 (fun k_ hk_ => ⟨Or.elim hk_ (fun hs_ => Or.elim hs_ (fun hs_ => fun e_ => Nat.not_le.2 hs_ (Kd.R_base HO107.out k_ e_.symm)) (fun hs_ => fun e_ => Nat.not_le.2 hs_ (Kd.R_base HO107.out k_ e_.symm))) (fun hn_ => (Kd.fresh' (Kd.R_lt (by (with_reducible repeat (first | apply Kd.R_alloc | apply Kd.R_drewN | apply Kd.R_drew)); exact HO107.out)) k_ hn_)), Or.elim hk_ (fun hs_ => Or.elim hs_ (fun hs_ => fun e_ => Nat.not_le.2 hs_ (by rw [e_]; exact GW101.out)) (fun hs_ => fun e_ => Nat.not_le.2 hs_ (by rw [e_]; exact GW101.out))) (fun hn_ => (Kd.freshB (g := gb101) (o := .cells #[.slice A0_0 l0_0.length c0_0, .slice A0_1 l0_1.length c0_1] 51 (0, 0)) (qW BK101.out) k_ hn_))⟩)) (zW qB)); have n2_ := zA (Kd.V_lower (Kd.V_mono (ok' := fun k_ => some k_ ≠ (v106 : Value).ownBlock ∧ k_ ≠ gb101) ho1 (fun k_ hk_ => ⟨Or.elim hk_ (fun hs_ => Or.elim hs_ (fun hs_ => fun e_ => Nat.not_le.2 hs_ (Kd.R_base HO107.out k_ e_.symm)) (fun hs_ => fun e_ => Nat.not_le.2 hs_ (Kd.R_base HO107.out k_ e_.symm))) (fun hn_ => (Kd.fresh' (Kd.R_lt (by (with_reducible repeat (first | apply Kd.R_alloc | apply Kd.R_drewN | apply Kd.R_drew)); exact HO107.out)) k_ hn_)), Or.elim hk_ (fun hs_ => Or.elim hs_ (fun hs_ => fun e_ => Nat.not_le.2 hs_ (by rw [e_]; exact GW101.out)) (fun hs_ => fun e_ => Nat.not_le.2 hs_ (by rw [e_]; exact GW101.out))) (fun hn_ => (Kd.freshB (g := gb101) (o := .cells #[.slice A0_0 l0_0.length c0_0, .slice A0_1 l0_1.length c0_1] 51 (0, 0)) (qW BK101.out) k_ hn_))⟩)) (zW qB)); have n3_ := zA (qX BK101.out hb); have n4_ := zA (zV qB hb); clear HO107 BK101 HB; have HO107 := n0_; have HO110 := n1_; have HO113 := n2_; have BK101 := n3_; have HB := n4_; clear n0_ n1_ n2_ n3_ n4_; (try clear hb); (try clear ho0); (try clear ho1)) | ((with_reducible refine gate_dst (N := 9) rfl ?_); (try (refine gate_guard (by rfl) ?_; dsimp only)); refine box_event qr (N := 9) qr (cs := #[.slice none 0 0, .slice none 0 0]) (t := 51) qg ?_; intro gb115 hg w94 hbox hb; have n0_ := zA (Kd.R_below (by (with_reducible repeat (first | apply Kd.R_alloc | apply Kd.R_drewN | apply Kd.R_drew)); exact HO107.out) hb); have n1_ := zA (Kd.V_below (Kd.V_elderB (by (with_reducible repeat (first | apply Kd.V_alloc | apply Kd.V_drewN | apply Kd.V_drew)); exact HO110.out) gb115 (Nat.le_of_eq hg.symm)) hb); have n2_ := zA (Kd.V_below (Kd.V_elderB (by (with_reducible repeat (first | apply Kd.V_alloc | apply Kd.V_drewN | apply Kd.V_drew)); exact HO113.out) gb115 (Nat.le_of_eq hg.symm)) hb); have n3_ := zA (qX BK101.out hb); have n4_ := zA (zV qB hb); have n5_ := zA (hbox); have n6_ := zA ((qS : w.heap.size ≤ gb115)); have n7_ := zA ((qS : w.heap.size ≤ gb115)); have n8_ := zA ((by rw [hg]; exact zLq (qL BK101.out) : gb101 ≠ gb115)); have n9_ := zA ((by rw [hg]; exact zMq (qL BK101.out) : gb115 ≠ gb101)); clear HO107 HO110 HO113 BK101 HB; have HO107 := n0_; have HO110 := n1_; have HO113 := n2_; have BK101 := n3_; have HB := n4_; have BK115 := n5_; have GW115 := n6_; have GE115 := n7_; have NB101_115 := n8_; have NB115_101 := n9_; clear n0_ n1_ n2_ n3_ n4_ n5_ n6_ n7_ n8_ n9_ hb hbox hg; obtain ⟨Ao95, co95, eo95⟩ := Kd.V_slice HO110.out; subst eo95; have hnb96 := NB115_101.out; have hnc96 := NB101_115.out; obtain ⟨_, _, _, _⟩ := qc2f BK115.out; obtain ⟨Ao98, co98, eo98⟩ := Kd.V_slice HO113.out; subst eo98) | ((with_reducible refine gate_store (t := 51) (p := 9) rfl ?_); refine store_event (t := 51) (p := 9) (v := ?vo_w99) (w1 := ((w94.setCell ⟨gb115, 0, none⟩ (.slice Ao95 t108.length co95)).setCell ⟨gb115, 1, none⟩ (.slice Ao98 t111.length co98))) ?hg ?ho ?hn ?hr ?_; (case ho => rfl); (case hg => rfl); (case hn => rfl); (case hr => first | (go_simp; done) | (go_simp; rfl)); intro w99 hw; have n0_ : Aside0 (Kd.R k146 146 w99 w.heap.size (fun _ => True) v106 t104) := ⟨(by rw [hw]; exact (by (with_reducible repeat (first | apply Kd.R_alloc | apply Kd.R_drewN | apply Kd.R_drew)); exact Kd.R_mono (Kd.R_far (p := ⟨gb115, 1, none⟩) (Kd.R_far (p := ⟨gb115, 0, none⟩) (Kd.R_types HO107.out BK115.out (by decide)) (fun _ hk => hk.2) (.slice Ao95 t108.length co95)) (fun _ hk => hk.2) (.slice Ao98 t111.length co98)) (fun _ hk => trivial)))⟩; have n1_ : Aside0 (Kd.V Kd.string 9 w99 w.heap.size (fun k_ => some k_ ≠ (v106 : Value).ownBlock ∧ k_ ≠ gb101 ∧ k_ ≠ gb115) (.slice Ao95 t108.length co95) t108) := ⟨(by rw [hw]; exact (by (with_reducible repeat (first | apply Kd.V_alloc | apply Kd.V_drewN | apply Kd.V_drew)); exact Kd.V_mono (Kd.V_far (p := ⟨gb115, 1, none⟩) (Kd.V_far (p := ⟨gb115, 0, none⟩) (Kd.V_mono HO110.out (fun k_ hk => (⟨hk, hk.2⟩ : _ ∧ k_ ≠ gb115))) (fun _ hk => hk.2) (.slice Ao95 t108.length co95)) (fun _ hk => hk.2) (.slice Ao98 t111.length co98)) (fun _ hk => ⟨hk.1.1.1, ⟨hk.1.1.2, hk.1.2⟩⟩)))⟩; have n2_ : Aside0 (Kd.V (Kd.slice 3 (Kd.int .i64)) 44 w99 w.heap.size (fun k_ => some k_ ≠ (v106 : Value).ownBlock ∧ k_ ≠ gb101 ∧ k_ ≠ gb115) (.slice Ao98 t111.length co98) t111) := ⟨(by rw [hw]; exact (by (with_reducible repeat (first | apply Kd.V_alloc | apply Kd.V_drewN | apply Kd.V_drew)); exact Kd.V_mono (Kd.V_far (p := ⟨gb115, 1, none⟩) (Kd.V_far (p := ⟨gb115, 0, none⟩) (Kd.V_mono HO113.out (fun k_ hk => (⟨hk, hk.2⟩ : _ ∧ k_ ≠ gb115))) (fun _ hk => hk.2) (.slice Ao95 t108.length co95)) (fun _ hk => hk.2) (.slice Ao98 t111.length co98)) (fun _ hk => ⟨hk.1.1.1, ⟨hk.1.1.2, hk.1.2⟩⟩)))⟩; have n3_ : Aside0 (w99.heap[gb101]? = some (.cells #[.slice A0_0 l0_0.length c0_0, .slice A0_1 l0_1.length c0_1] 51 (0, 0))) := ⟨(by rw [hw]; exact (qW BK101.out))⟩; have n4_ : Aside0 (w99.heap[gb115]? = some (.cells #[.slice Ao95 t108.length co95, .slice Ao98 t111.length co98] 51 (0, 0))) := ⟨(by rw [hw]; exact (qV BK115.out))⟩; have n5_ : Aside0 (Below w.heap.size w w99) := ⟨(by rw [hw]; exact qB)⟩; clear hw HO107 HO110 HO113 BK101 BK115 HB; have HO107 := n0_; have HO110 := n1_; have HO113 := n2_; have BK101 := n3_; have BK115 := n4_; have HB := n5_; clear n0_ n1_ n2_ n3_ n4_ n5_; obtain ⟨_, _, _, _⟩ := qc2f BK101.out) | ((with_reducible refine zJq (f := 37) rfl ?_); refine goesL_ (some 54) rfl rfl Try.func37 (by kernel_rfl) rfl #[.agg #[.slice A0_0 l0_0.length c0_0, .slice A0_1 l0_1.length c0_1], .string a1, .int .i64 1] rfl qG ?_; (with_reducible refine (index_Drop.calls kj3 _ _ l0_0 (fun k_ => k_ < w.heap.size) _ _ l0_1 a1 1 t116 t119 t122 _ ?side1 ?side2 ?side3 A85.out).mono ?_); (case side1 => exact qC (Kd.C_below HR0_0.out HB.out)); (case side2 => exact HC0_0.out); (case side3 => exact Kd.V_mk HC0_1.out (Kd.F_below (Kd.C_F (Kd.heap_slice 3 (Kd.heap_int .i64)) HR0_1.out) qB)); rintro e w101 ⟨v117, v120, rfl, ho0, ho1, hb⟩; refine ⟨_, rfl, ?_⟩; have n0_ := zA (Kd.R_below (by (with_reducible repeat (first | apply Kd.R_alloc | apply Kd.R_drewN | apply Kd.R_drew)); exact HO107.out) hb); have n1_ := zA (Kd.V_mono (Kd.V_told (Kd.V_told (Kd.V_old (by (with_reducible repeat (first | apply Kd.V_alloc | apply Kd.V_drewN | apply Kd.V_drew)); exact HO110.out) hb) (Kd.R_base ho0)) (Kd.N_base ho1)) (fun _ h_ => h_.1)); have n2_ := zA (Kd.V_mono (Kd.V_told (Kd.V_told (Kd.V_old (by (with_reducible repeat (first | apply Kd.V_alloc | apply Kd.V_drewN | apply Kd.V_drew)); exact HO113.out) hb) (Kd.R_base ho0)) (Kd.N_base ho1)) (fun _ h_ => h_.1)); have n3_ := zA (Kd.R_lower (Kd.R_mono (ok' := fun k_ => True) ho0 (fun _ hk_ => trivial)) (zW qB)); have n4_ := zA (Kd.N_lower (Kd.N_mono (ok' := fun k_ => some k_ ≠ (v117 : Value).ownBlock ∧ some k_ ≠ (v106 : Value).ownBlock ∧ k_ ≠ gb101 ∧ k_ ≠ gb115) ho1 (fun k_ hk_ => ⟨hk_.2, Or.elim hk_.1 (fun hs_ => fun e_ => Nat.not_le.2 hs_ (Kd.R_base HO107.out k_ e_.symm)) (fun hn_ => (Kd.fresh' (Kd.R_lt (by (with_reducible repeat (first | apply Kd.R_alloc | apply Kd.R_drewN | apply Kd.R_drew)); exact HO107.out)) k_ hn_)), Or.elim hk_.1 (fun hs_ => fun e_ => Nat.not_le.2 hs_ (by rw [e_]; exact GW101.out)) (fun hn_ => (Kd.freshB (g := gb101) (o := .cells #[.slice A0_0 l0_0.length c0_0, .slice A0_1 l0_1.length c0_1] 51 (0, 0)) (qW BK101.out) k_ hn_)), Or.elim hk_.1 (fun hs_ => fun e_ => Nat.not_le.2 hs_ (by rw [e_]; exact GW115.out)) (fun hn_ => (Kd.freshB (g := gb115) (o := .cells #[.slice Ao95 t108.length co95, .slice Ao98 t111.length co98] 51 (0, 0)) (qW BK115.out) k_ hn_))⟩)) (zW qB)); have n5_ := zA (qX BK101.out hb); have n6_ := zA (qX BK115.out hb); have n7_ := zA (zV qB hb); clear HO107 HO110 HO113 BK101 BK115 HB; have HO107 := n0_; have HO110 := n1_; have HO113 := n2_; have HO118 := n3_; have HO121 := n4_; have BK101 := n5_; have BK115 := n6_; have HB := n7_; clear n0_ n1_ n2_ n3_ n4_ n5_ n6_ n7_; (try clear hb); (try clear ho0); (try clear ho1)) | ((with_reducible refine gate_dst (N := 11) rfl ?_); (try (refine gate_guard (by rfl) ?_; dsimp only)); refine box_event qr (N := 11) qr (cs := #[.slice none 0 0, .slice none 0 0]) (t := 51) qg ?_; intro gb123 hg w102 hbox hb; have n0_ := zA (Kd.R_below (by (with_reducible repeat (first | apply Kd.R_alloc | apply Kd.R_drewN | apply Kd.R_drew)); exact HO107.out) hb); have n1_ := zA (Kd.V_below (Kd.V_elderB (by (with_reducible repeat (first | apply Kd.V_alloc | apply Kd.V_drewN | apply Kd.V_drew)); exact HO110.out) gb123 (Nat.le_of_eq hg.symm)) hb); have n2_ := zA (Kd.V_below (Kd.V_elderB (by (with_reducible repeat (first | apply Kd.V_alloc | apply Kd.V_drewN | apply Kd.V_drew)); exact HO113.out) gb123 (Nat.le_of_eq hg.symm)) hb); have n3_ := zA (Kd.R_below (by (with_reducible repeat (first | apply Kd.R_alloc | apply Kd.R_drewN | apply Kd.R_drew)); exact HO118.out) hb); have n4_ := zA (Kd.N_below (Kd.N_elderB (by (with_reducible repeat (first | apply Kd.N_alloc | apply Kd.N_drewN | apply Kd.N_drew)); exact HO121.out) gb123 (Nat.le_of_eq hg.symm)) hb); have n5_ := zA (qX BK101.out hb); have n6_ := zA (qX BK115.out hb); have n7_ := zA (zV qB hb); have n8_ := zA (hbox); have n9_ := zA ((qS : w.heap.size ≤ gb123)); have n10_ := zA ((qS : w.heap.size ≤ gb123)); have n11_ := zA ((by rw [hg]; exact zLq (qL BK101.out) : gb101 ≠ gb123)); have n12_ := zA ((by rw [hg]; exact zMq (qL BK101.out) : gb123 ≠ gb101)); have n13_ := zA ((by rw [hg]; exact zLq (qL BK115.out) : gb115 ≠ gb123)); have n14_ := zA ((by rw [hg]; exact zMq (qL BK115.out) : gb123 ≠ gb115)); clear HO107 HO110 HO113 HO118 HO121 BK101 BK115 HB; have HO107 := n0_; have HO110 := n1_; have HO113 := n2_; have HO118 := n3_; have HO121 := n4_; have BK101 := n5_; have BK115 := n6_; have HB := n7_; have BK123 := n8_; have GW123 := n9_; have GE123 := n10_; have NB101_123 := n11_; have NB123_101 := n12_; have NB115_123 := n13_; have NB123_115 := n14_; clear n0_ n1_ n2_ n3_ n4_ n5_ n6_ n7_ n8_ n9_ n10_ n11_ n12_ n13_ n14_ hb hbox hg; obtain ⟨Ao103, co103, eo103⟩ := Kd.R_slice HO118.out; subst eo103; have hnb104 := NB123_101.out; have hnc104 := NB101_123.out; have hnb105 := NB123_115.out; have hnc105 := NB115_123.out; obtain ⟨_, _, _, _⟩ := qc2f BK123.out; obtain ⟨Ao107, co107, eo107⟩ := Kd.N_slice HO121.out; subst eo107) | (go_at_call 26; (with_reducible refine (backhaullaw14_awake.calls  true _ A88.out).mono ?_); rintro e w108 ⟨rfl, hb⟩; have n0_ := zA (Kd.R_below (by (with_reducible repeat (first | apply Kd.R_alloc | apply Kd.R_drewN | apply Kd.R_drew)); exact (Kd.R_mono (Kd.R_far (p := ⟨gb123, 1, none⟩) (Kd.R_far (p := ⟨gb123, 0, none⟩) (Kd.R_types HO107.out BK123.out (by decide)) (fun _ hk => hk.2) (.slice Ao103 t116.length co103)) (fun _ hk => hk.2) (.slice Ao107 t119.length co107)) (fun _ h_ => h_.1))) hb); have n1_ := zA (Kd.V_below (by (with_reducible repeat (first | apply Kd.V_alloc | apply Kd.V_drewN | apply Kd.V_drew)); exact (Kd.V_mono (Kd.V_far (p := ⟨gb123, 1, none⟩) (Kd.V_far (p := ⟨gb123, 0, none⟩) (Kd.V_mono HO110.out (fun k_ hk => (⟨hk, hk.2⟩ : _ ∧ k_ ≠ gb123))) (fun _ hk => hk.2) (.slice Ao103 t116.length co103)) (fun _ hk => hk.2) (.slice Ao107 t119.length co107)) (fun _ h_ => h_.1))) hb); have n2_ := zA (Kd.V_below (by (with_reducible repeat (first | apply Kd.V_alloc | apply Kd.V_drewN | apply Kd.V_drew)); exact (Kd.V_mono (Kd.V_far (p := ⟨gb123, 1, none⟩) (Kd.V_far (p := ⟨gb123, 0, none⟩) (Kd.V_mono HO113.out (fun k_ hk => (⟨hk, hk.2⟩ : _ ∧ k_ ≠ gb123))) (fun _ hk => hk.2) (.slice Ao103 t116.length co103)) (fun _ hk => hk.2) (.slice Ao107 t119.length co107)) (fun _ h_ => h_.1))) hb); have n3_ := zA (Kd.R_below (by (with_reducible repeat (first | apply Kd.R_alloc | apply Kd.R_drewN | apply Kd.R_drew)); exact (Kd.R_mono (Kd.R_far (p := ⟨gb123, 1, none⟩) (Kd.R_far (p := ⟨gb123, 0, none⟩) (Kd.R_types HO118.out BK123.out (by decide)) (fun _ hk => hk.2) (.slice Ao103 t116.length co103)) (fun _ hk => hk.2) (.slice Ao107 t119.length co107)) (fun _ h_ => h_.1))) hb); have n4_ := zA (Kd.N_below (by (with_reducible repeat (first | apply Kd.N_alloc | apply Kd.N_drewN | apply Kd.N_drew)); exact (Kd.N_mono (Kd.N_far (p := ⟨gb123, 1, none⟩) (Kd.N_far (p := ⟨gb123, 0, none⟩) (Kd.N_mono HO121.out (fun k_ hk => (⟨hk, hk.2⟩ : _ ∧ k_ ≠ gb123))) (fun _ hk => hk.2) (.slice Ao103 t116.length co103)) (fun _ hk => hk.2) (.slice Ao107 t119.length co107)) (fun _ h_ => h_.1))) hb); have n5_ := zA (qX BK101.out hb); have n6_ := zA (qX BK115.out hb); have n7_ := zA (zX (g := gb123) (o := .cells #[.slice Ao103 t116.length co103, .slice Ao107 t119.length co107] 51 (0, 0)) (qV BK123.out) hb); have n8_ := zA (zV qB hb); clear HO107 HO110 HO113 HO118 HO121 BK101 BK115 BK123 HB; have HO107 := n0_; have HO110 := n1_; have HO113 := n2_; have HO118 := n3_; have HO121 := n4_; have BK101 := n5_; have BK115 := n6_; have BK123 := n7_; have HB := n8_; clear n0_ n1_ n2_ n3_ n4_ n5_ n6_ n7_ n8_; (try clear hb)))
            go_ret; exact ⟨qE, qB⟩
          replace c89 := Bool.eq_false_iff.mpr c89; subst c89; have H1 : (some false) = some true := by first | (rw [if_neg (show ¬ (false = true) by decide)] at H; exact H) | rfl
          clear H; have H := H1; clear H1; exact absurd H (by simp)
        rw [if_neg c87] at H; have c87b0 : (t122 == 40) = false := beq_eq_false_iff_ne.mpr c87; have c87b1 : (t122 != 40) = true := bne_iff_ne.mpr c87; exact absurd H (by simp)
      rw [if_neg c86] at H; have c86b0 : (t114 == 40) = false := beq_eq_false_iff_ne.mpr c86; have c86b1 : (t114 != 40) = true := bne_iff_ne.mpr c86; exact absurd H (by simp)
def backhaullaw14_IndexAdds.Pure : Prop := ∀ (l0_0 : List ByteArray) (l0_1 : List (List Int)) (a1 : ByteArray) (l2 : List Int), (l0_0.length ≤ maxLen ∧ ∀ x ∈ l0_0, x.size ≤ maxLen) → (l0_1.length ≤ maxLen ∧ ∀ x ∈ l0_1, (x.length ≤ maxLen ∧ ∀ y ∈ x, (Lit.int .i64 y).wf = true)) → a1.size ≤ maxLen → (l2.length ≤ maxLen ∧ ∀ x ∈ l2, (Lit.int .i64 x).wf = true) → ∃ k, backhaullaw14_IndexAdds.f k l0_0 l0_1 a1 l2 = some true
end Go.Proofs.Ytdpcgigjlcpofaa.F
set_option linter.unusedVariables false
namespace Go.Proofs.Ytdpcgigjlcpofaa.Q
open Go.RowKit Go.Proofs.YtdpcgigjlcpofaaW.PrintWords Go.Proofs.YtdpcgigjlcpofaaW.PrintLast Go.Proofs.YtdpcgigjlcpofaaW.PrintMore
theorem Ev.ite {α : Type} {c : Prop} [Decidable c] {a b : Nat → Option α} {r : α} (h1 : c → Ev a r) (h2 : ¬ c → Ev b r) : Ev (fun k => if c then a k else b k) r := by
  by_cases h : c
  · simp only [if_pos h]; exact h1 h
  simp only [if_neg h]; exact h2 h
theorem Ev.pos {α : Type} {c : Prop} [Decidable c] {a b : Nat → Option α} {r : α} (h : c) (h1 : Ev a r) : Ev (fun k => if c then a k else b k) r := by
  simp only [if_pos h]; exact h1
theorem Ev.neg {α : Type} {c : Prop} [Decidable c] {a b : Nat → Option α} {r : α} (h : ¬ c) (h1 : Ev b r) : Ev (fun k => if c then a k else b k) r := by
  simp only [if_neg h]; exact h1
theorem Ev.ok {α : Type} {a b : α} (h : a = b) : Ev (fun _ => some a) b := ⟨0, fun _ _ => by rw [h]⟩
theorem Ev.const {α : Type} {o : Option α} {r : α} (h : o = some r) : Ev (fun _ => o) r := ⟨0, fun _ _ => h⟩
theorem Ev.bindc {α β : Type} {o : Option α} {f : Nat → α → Option β} {a : α} {r : β} (h : o = some a) (k : Ev (fun n => f n a) r) : Ev (fun n => o.bind (f n)) r := by
  subst h
  exact k
theorem Ev.eq {α : Type} {g : Nat → Option α} {a b : α} (h : Ev g a) (e : a = b) : Ev g b := e ▸ h
theorem wrap_eq {x : Int} (h0 : -9223372036854775808 ≤ x) (h1 : x ≤ 9223372036854775807) : wrap64 x = x := by
  unfold wrap64; omega
theorem u64_eq {x : Int} (h0 : 0 ≤ x) (h1 : x < 18446744073709551616) : IntKind.u64.wrap x = x := by
  simp [IntKind.wrap, IntKind.signed, IntKind.bits]; omega
theorem countP_split {α : Type} {p : α → Bool} {l : List α} {n : Nat} (hn : n ≤ l.length) (h1 : ∀ j (h : j < l.length), j < n → p l[j] = true) (h2 : ∀ j (h : j < l.length), n ≤ j → p l[j] = false) : l.countP p = n := by
  have e : l = l.take n ++ l.drop n := (List.take_append_drop n l).symm
  have a : (l.take n).countP p = (l.take n).length := by
    rw [List.countP_eq_length]
    intro x hx
    obtain ⟨j, hj, rfl⟩ := List.mem_iff_getElem.1 hx
    rw [List.length_take] at hj
    rw [List.getElem_take]
    exact h1 j (by omega) (by omega)
  have b : (l.drop n).countP p = 0 := by
    rw [List.countP_eq_zero]
    intro x hx
    obtain ⟨j, hj, rfl⟩ := List.mem_iff_getElem.1 hx
    rw [List.length_drop] at hj
    rw [List.getElem_drop, h2 (n + j) (by omega) (by omega)]
    simp
  rw [e, List.countP_append, a, b, List.length_take]
  omega
theorem idxOf_first {α : Type} [BEq α] [LawfulBEq α] {l : List α} {t : α} {i : Nat} (h : i < l.length) (he : l[i] = t) (h1 : ∀ j (h : j < l.length), j < i → l[j] ≠ t) : l.idxOf t = i := by
  unfold List.idxOf
  rw [List.findIdx_eq h]
  exact ⟨by simp [he], fun j hj => by simpa using h1 j (by omega) hj⟩
theorem rd_nat {l : List Int} {i : Nat} (h : i < l.length) : rd l (i : Int) = l[i] := by
  unfold rd; simp [List.getD_eq_getElem?_getD, h]
theorem rdOf_nat {α : Type} {d : α} {l : List α} {i : Nat} (h : i < l.length) : rdOf d l (i : Int) = l[i] := by
  unfold rdOf; simp [List.getD_eq_getElem?_getD, h]
theorem drop_cons {α : Type} {l : List α} {i : Nat} (h : i < l.length) : l.drop i = l[i] :: l.drop (i + 1) := List.drop_eq_getElem_cons h
theorem bytes_ext {a b : ByteArray} : a.toList = b.toList ↔ a = b := by
  constructor
  · intro h
    rw [ByteArray.toList_eq, ByteArray.toList_eq] at h
    cases a; cases b
    simpa [Array.toList_inj] using h
  rintro rfl; rfl
end Go.Proofs.Ytdpcgigjlcpofaa.Q
set_option linter.unusedVariables false
namespace Go.Proofs.Ytdpcgigjlcpofaa.Q
open Go.RowKit Go.Proofs.YtdpcgigjlcpofaaW.PrintWords Go.Proofs.YtdpcgigjlcpofaaW.PrintLast Go.Proofs.YtdpcgigjlcpofaaW.PrintMore
theorem less_irrefl (l : List UInt8) : Op.bytesLess l l = false := by
  induction l with
  | nil => rfl
  | cons a l ih => simp [Op.bytesLess, ih]
def bytesB (l : List UInt8) : ByteArray := ⟨l.toArray⟩
theorem data_append (a b : ByteArray) : (a ++ b).data.toList = a.data.toList ++ b.data.toList := by simp [ByteArray.data_append]
theorem size_data (a : ByteArray) : a.data.toList.length = a.size := by rw [Array.length_toList]; rfl
theorem bt_data (s : ByteArray) (i : Nat) (h : i < s.size) : bt s (i : Int) = ((s.data.toList[i]'(by rw [size_data]; exact h)).toNat : Int) := by
  unfold bt
  rw [dif_pos (by simpa using h)]
  simp [ByteArray.getElem_eq_getElem_data]
def wide (w : Int) : Prop := w = 1 ∨ w = 2 ∨ w = 4 ∨ w = 8
instance (w : Int) : Decidable (wide w) := by unfold wide; infer_instance
def natI (l : List UInt8) : List Int := l.map (fun b => (b.toNat : Int))
theorem strOfNums_nat (l : List UInt8) : strOfNums (natI l) = bytesB l := by
  unfold strOfNums natI bytesB
  rw [List.map_map]
  congr 2
  exact (List.map_congr_left fun b _ => by simp).trans (List.map_id l)
end Go.Proofs.Ytdpcgigjlcpofaa.Q
set_option linter.unusedVariables false
namespace Go.Proofs.Ytdpcgigjlcpofaa.Q
open Go.RowKit Go.Proofs.YtdpcgigjlcpofaaX Go.Proofs.YtdpcgigjlcpofaaW.PrintWords Go.Proofs.YtdpcgigjlcpofaaW.PrintLast Go.Proofs.YtdpcgigjlcpofaaW.PrintMore
theorem less_cons (a b : UInt8) (x y : List UInt8) : Op.bytesLess (a :: x) (b :: y) = true ↔ a.toNat < b.toNat ∨ (a = b ∧ Op.bytesLess x y = true) := by
  simp only [Op.bytesLess, Bool.or_eq_true, Bool.and_eq_true, decide_eq_true_eq, beq_iff_eq, UInt8.lt_iff_toNat_lt]
theorem less_nil (x : List UInt8) : Op.bytesLess x [] = false := by cases x <;> rfl
theorem less_trans : ∀ (a b c : List UInt8), Op.bytesLess a b = true → Op.bytesLess b c = true → Op.bytesLess a c = true
  | _, [], _, h, _ => by rw [less_nil] at h; cases h
  | _, _ :: _, [], _, h => by rw [less_nil] at h; cases h
  | [], _ :: _, _ :: _, _, _ => rfl
  | a :: x, b :: y, c :: z, h1, h2 => by
    rw [less_cons] at h1 h2 ⊢
    rcases h1 with h1 | ⟨rfl, h1⟩
    · rcases h2 with h2 | ⟨rfl, h2⟩
      · exact .inl (by omega)
      exact .inl h1
    rcases h2 with h2 | ⟨rfl, h2⟩
    · exact .inl h2
    exact .inr ⟨rfl, less_trans x y z h1 h2⟩
theorem less_total : ∀ (a b : List UInt8), Op.bytesLess a b = false → Op.bytesLess b a = false → a = b
  | [], [], _, _ => rfl
  | [], _ :: _, h, _ => by simp [Op.bytesLess] at h
  | _ :: _, [], _, h => by simp [Op.bytesLess] at h
  | a :: x, b :: y, h1, h2 => by
    have n1 : ¬ Op.bytesLess (a :: x) (b :: y) = true := by rw [h1]; decide
    have n2 : ¬ Op.bytesLess (b :: y) (a :: x) = true := by rw [h2]; decide
    rw [less_cons] at n1 n2
    have hab : a = b := UInt8.toNat_inj.1 (by omega)
    subst hab
    rw [less_total x y (by cases e : Op.bytesLess x y; rfl; exact absurd (.inr ⟨rfl, e⟩) n1) (by cases e : Op.bytesLess y x; rfl; exact absurd (.inr ⟨rfl, e⟩) n2)]
def up8 (b : UInt8) : UInt8 := if 97 ≤ b.toNat ∧ b.toNat ≤ 122 then UInt8.ofNat (b.toNat - 32) else b
theorem up8_toNat (b : UInt8) : ((up8 b).toNat : Int) = upI b.toNat := by
  unfold up8 upI
  by_cases h : 97 ≤ b.toNat ∧ b.toNat ≤ 122
  · rw [if_pos h, if_pos (by omega)]
    have : (UInt8.ofNat (b.toNat - 32)).toNat = b.toNat - 32 := by simp; omega
    rw [this]; omega
  rw [if_neg h, if_neg (by omega)]
theorem up8_of (b : UInt8) : UInt8.ofNat (upI b.toNat).toNat = up8 b := by
  apply UInt8.toNat_inj.1
  have h := up8_toNat b
  have h2 := (up8 b).toNat_lt
  have : (upI b.toNat).toNat = (up8 b).toNat := by omega
  rw [this]; simp
theorem up_runes (l : List UInt8) : ((runes l).map fun r => UInt8.ofNat (upI r).toNat) = l.map up8 := by
  simp only [runes, List.map_map]
  exact List.map_congr_left fun b _ => up8_of b
def serB (l : List UInt8) : Prop := 1 ≤ l.length ∧ l.length ≤ 16 ∧ l.getLast? ≠ some 45 ∧ okL 3 (runes l) = true
instance (l : List UInt8) : Decidable (serB l) := by unfold serB; infer_instance
theorem foldS_eq (s : ByteArray) : foldS s = if serB s.data.toList then (⟨(s.data.toList.map up8).toArray⟩, 0) else (⟨#[]⟩, 9) := by
  unfold foldS
  rw [up_runes]
  by_cases h : s.size < 1 ∨ s.size > 16 ∨ s.data.toList.getLast? = some 45 ∨ okL 3 (runes s.data.toList) = false
  · rw [if_pos h, if_neg]
    rintro ⟨h1, h2, h3, h4⟩
    rw [size_data] at h1 h2
    rcases h with h | h | h | h
    · omega
    · omega
    · exact h3 h
    rw [h] at h4; cases h4
  rw [if_neg h, if_pos]
  refine ⟨by rw [size_data]; omega, by rw [size_data]; omega, fun x => h (.inr (.inr (.inl x))), ?_⟩
  cases e : okL 3 (runes s.data.toList)
  · exact absurd (.inr (.inr (.inr e))) h
  rfl
theorem bytes_mk (s : ByteArray) (l : List UInt8) : (⟨l.toArray⟩ : ByteArray) = s ↔ l = s.data.toList := by
  constructor
  · rintro rfl; rfl
  intro h; subst h; rfl
theorem checkS_iff (s : ByteArray) : checkS s = 0 ↔ serB s.data.toList ∧ s.data.toList.map up8 = s.data.toList := by
  unfold checkS
  rw [foldS_eq]
  by_cases h : serB s.data.toList
  · rw [if_pos h]
    constructor
    · intro x
      split at x
      · rename_i y; exact ⟨h, (bytes_mk _ _).1 y.2⟩
      cases x
    rintro ⟨_, x⟩; rw [if_pos ⟨rfl, (bytes_mk _ _).2 x⟩]
  rw [if_neg h, if_neg (fun x => absurd x.1 (by decide))]
  exact Iff.intro (fun x => absurd x (by decide)) (fun x => absurd x.1 h)
theorem checkS_or (s : ByteArray) : checkS s = 0 ∨ checkS s = 9 := by unfold checkS; split <;> simp
theorem toList_data (s : ByteArray) : s.toList = s.data.toList := ByteArray.toList_eq s
def lt8 (a b : ByteArray) : Prop := Op.bytesLess a.toList b.toList = true
instance (a b : ByteArray) : Decidable (lt8 a b) := by unfold lt8; infer_instance
theorem lt8_irrefl (a : ByteArray) : ¬ lt8 a a := by unfold lt8; rw [less_irrefl]; decide
theorem lt8_trans {a b c : ByteArray} (h : lt8 a b) (g : lt8 b c) : lt8 a c := less_trans _ _ _ h g
theorem lt8_total {a b : ByteArray} (h : ¬ lt8 a b) (g : ¬ lt8 b a) : a = b := by
  have := less_total a.toList b.toList (by unfold lt8 at h; simpa using h) (by unfold lt8 at g; simpa using g)
  rw [toList_data, toList_data] at this
  cases a; cases b; simpa [Array.toList_inj] using this
def notUp : Option ByteArray → ByteArray → Bool
  | none, _ => false
  | some q, s => !(Op.bytesLess q.toList s.toList)
def rowG : Option ByteArray → List ByteArray → Int
  | _, [] => 0
  | p, s :: l => if checkS s = 0 then (if notUp p s = true then 32 else rowG (some s) l) else 9
theorem notUp_some {q s : ByteArray} : notUp (some q) s = false ↔ lt8 q s := by simp [notUp, lt8]
theorem rowG_zero {l : List ByteArray} : ∀ {p : Option ByteArray}, rowG p l = 0 → (∀ s ∈ l, checkS s = 0) ∧ l.Pairwise lt8 ∧ ∀ q, p = some q → ∀ s ∈ l, lt8 q s := by
  induction l with
  | nil => intro p _; simp
  | cons a l ih =>
    intro p h
    simp only [rowG] at h
    by_cases h1 : checkS a = 0
    · rw [if_pos h1] at h
      by_cases h2 : notUp p a = true
      · rw [if_pos h2] at h; cases h
      rw [if_neg h2] at h
      obtain ⟨i1, i2, i3⟩ := ih h
      have hq : ∀ q, p = some q → lt8 q a := fun q e => by
        subst e
        exact notUp_some.1 (by simpa using h2)
      refine ⟨fun s hs => ?_, List.pairwise_cons.2 ⟨fun s hs => i3 a rfl s hs, i2⟩, fun q e s hs => ?_⟩
      · rcases List.mem_cons.1 hs with rfl | hs
        · exact h1
        exact i1 s hs
      rcases List.mem_cons.1 hs with rfl | hs
      · exact hq q e
      exact lt8_trans (hq q e) (i3 a rfl s hs)
    rw [if_neg h1] at h; cases h
theorem rowG_of {l : List ByteArray} : ∀ {p : Option ByteArray}, (∀ s ∈ l, checkS s = 0) → l.Pairwise lt8 → (∀ q, p = some q → ∀ s ∈ l, lt8 q s) → rowG p l = 0 := by
  induction l with
  | nil => intro p _ _ _; rfl
  | cons a l ih =>
    intro p h1 h2 h3
    simp only [rowG]
    obtain ⟨g1, g2⟩ := List.pairwise_cons.1 h2
    have e : ¬ notUp p a = true := by
      cases p with
      | none => simp [notUp]
      | some q => rw [notUp_some.2 (h3 q rfl a List.mem_cons_self)]; decide
    rw [if_pos (h1 a List.mem_cons_self), if_neg e]
    exact ih (fun s hs => h1 s (List.mem_cons_of_mem _ hs)) g2 (fun q hq s hs => by injection hq with hq; subst hq; exact g1 s hs)
theorem pair_get {l : List ByteArray} (h : l.Pairwise lt8) {i j : Nat} (hj : j < l.length) (hij : i < j) : lt8 (l[i]'(by omega)) l[j] := List.pairwise_iff_getElem.1 h i j _ hj hij
def idxT (l : List ByteArray) (s : ByteArray) : Option Nat := l.findIdx? (fun x => decide (x = s))
theorem idxT_some {l : List ByteArray} {s : ByteArray} {i : Nat} (h : i < l.length) (he : l[i] = s) (hn : ∀ j (h : j < l.length), j < i → l[j] ≠ s) : idxT l s = some i := by
  unfold idxT
  rw [List.findIdx?_eq_some_iff_getElem]
  exact ⟨h, by simp [he], fun j hj => by simpa using hn j (by omega) hj⟩
theorem idxT_none {l : List ByteArray} {s : ByteArray} (hn : ∀ j (h : j < l.length), l[j] ≠ s) : idxT l s = none := by
  unfold idxT
  rw [List.findIdx?_eq_none_iff]
  intro x hx
  obtain ⟨j, hj, rfl⟩ := List.mem_iff_getElem.1 hx
  simpa using hn j hj
theorem idxT_get {l : List ByteArray} {s : ByteArray} {i : Nat} (h : idxT l s = some i) : ∃ h : i < l.length, l[i] = s ∧ ∀ j (h : j < l.length), j < i → l[j] ≠ s := by
  unfold idxT at h
  rw [List.findIdx?_eq_some_iff_getElem] at h
  obtain ⟨h1, h2, h3⟩ := h
  exact ⟨h1, by simpa using h2, fun j hj hji => by simpa using h3 j hji⟩
def findT (l : List ByteArray) (s : ByteArray) : Int × Bool := match idxT l s with
  | some i => ((i : Int), true)
  | none => (if rowG none l = 0 then (l.countP (fun x => decide (lt8 x s)) : Int) else 0, false)
theorem findT_sorted {l : List ByteArray} {s : ByteArray} {n : Nat} (hs : l.Pairwise lt8) (hn : n ≤ l.length) (h1 : ∀ j (h : j < l.length), j < n → lt8 l[j] s) (h2 : ∀ j (h : j < l.length), n ≤ j → ¬ lt8 l[j] s) (h0 : rowG none l = 0) : findT l s = ((n : Int), decide (∃ h : n < l.length, l[n] = s)) := by
  have hlt : ∀ j (h : j < l.length), j < n → l[j] ≠ s := fun j hj hjn e => lt8_irrefl s (e ▸ h1 j hj hjn)
  unfold findT
  by_cases h : ∃ h : n < l.length, l[n] = s
  · obtain ⟨hn', he⟩ := h
    rw [idxT_some hn' he hlt]
    simp only [Prod.mk.injEq, true_and]
    exact (decide_eq_true ⟨hn', he⟩).symm
  rw [idxT_none (fun j hj e => ?_)]
  · simp only [if_pos h0]
    refine Prod.ext ?_ (decide_eq_false h).symm
    have : l.countP (fun x => decide (lt8 x s)) = n := by
      have e : l = l.take n ++ l.drop n := (List.take_append_drop n l).symm
      have a : (l.take n).countP (fun x => decide (lt8 x s)) = (l.take n).length := by
        rw [List.countP_eq_length]
        intro x hx
        obtain ⟨j, hj, rfl⟩ := List.mem_iff_getElem.1 hx
        rw [List.length_take] at hj
        rw [List.getElem_take]
        simpa using h1 j (by omega) (by omega)
      have b : (l.drop n).countP (fun x => decide (lt8 x s)) = 0 := by
        rw [List.countP_eq_zero]
        intro x hx
        obtain ⟨j, hj, rfl⟩ := List.mem_iff_getElem.1 hx
        rw [List.length_drop] at hj
        rw [List.getElem_drop]
        simpa using h2 (n + j) (by omega) (by omega)
      rw [e, List.countP_append, a, b, List.length_take]
      omega
    show (_ : Int) = _
    rw [this]
  rcases Nat.lt_or_ge j n with hjn | hjn
  · exact hlt j hj hjn e
  rcases Nat.lt_or_ge n j with hnj | hnj
  · have h3 := pair_get hs hj hnj
    rw [e] at h3
    exact h2 n (by omega) (Nat.le_refl _) h3
  have : j = n := by omega
  subst this
  exact h ⟨hj, e⟩
end Go.Proofs.Ytdpcgigjlcpofaa.Q
set_option linter.unusedVariables false
namespace Go.Proofs.Ytdpcgigjlcpofaa.Q
open Go.RowKit Go.Proofs.Ytdpcgigjlcpofaa.F Go.Proofs.YtdpcgigjlcpofaaW.PrintWords Go.Proofs.YtdpcgigjlcpofaaW.PrintLast Go.Proofs.YtdpcgigjlcpofaaW.PrintMore
def rising (last : Int) : List Int → Int
  | [] => 0
  | x :: xs => if x < 1 ∨ x > 999999 then 31 else if x ≤ last then 32 else rising x xs
theorem rows_Rising_l0 {l : List Int} (hl : l.length < 9223372036854775807) (d : Nat) : ∀ (i : Nat) (last : Int), l.length - i = d → i ≤ l.length →
    Ev (fun k => rows_Rising.l0 k last l (l.length : Int) (i : Int)) (rising last (l.drop i)) := by
  induction d with
  | zero =>
    intro i last hd hi
    refine Ev.step (fun k => by simp only [rows_Rising.l0]; rfl) ?_
    refine Ev.neg (by omega) (Ev.ok ?_)
    rw [List.drop_eq_nil_of_le (by omega)]; rfl
  | succ d ih =>
    intro i last hd hi
    have h : i < l.length := by omega
    refine Ev.step (fun k => by simp only [rows_Rising.l0]; rfl) ?_
    refine Ev.pos (by omega) (Ev.pos (by omega) (Ev.pos (by omega) ?_))
    rw [drop_cons h, rd_nat h]
    have hj : ∀ b : Bool, (b = true ↔ (l[i] < 1 ∨ l[i] > 999999)) → Ev (fun k => rows_Rising.j1 k last l[i] l (l.length : Int) (i : Int) b) (rising last (l[i] :: l.drop (i + 1))) := by
      intro b hb
      refine Ev.step (fun k => by simp only [rows_Rising.j1]; rfl) ?_
      simp only [rising]
      refine Ev.ite (fun h1 => ?_) (fun h1 => ?_)
      · rw [if_pos (hb.1 h1)]; exact Ev.ok rfl
      rw [if_neg (fun h2 => h1 (hb.2 h2))]
      refine Ev.ite (fun h2 => ?_) (fun h2 => ?_)
      · rw [if_pos h2]; exact Ev.ok rfl
      rw [if_neg h2, wrap_eq (by omega) (by omega)]
      exact ih (i + 1) l[i] (by omega) (by omega)
    refine Ev.ite (fun h1 => hj true (by simp [h1])) (fun h1 => hj _ (by simp; omega))
theorem rows_Rising_f {l : List Int} (hl : l.length < 9223372036854775807) : Ev (fun k => rows_Rising.f k l) (rising 0 l) := by
  unfold rows_Rising.f
  exact rows_Rising_l0 hl l.length 0 0 (by omega) (by omega)
theorem ref_Rising_l0 {l : List Int} (hl : l.length < 9223372036854775807) (d : Nat) : ∀ (i : Nat), l.length - i = d → i ≤ l.length →
    Ev (fun k => backhaulref13_Rising.l0 k l (i : Int)) (rising (if i = 0 then 0 else l.getD (i - 1) 0) (l.drop i)) := by
  induction d with
  | zero =>
    intro i hd hi
    refine Ev.step (fun k => by simp only [backhaulref13_Rising.l0]; rfl) ?_
    refine Ev.neg (by omega) (Ev.ok ?_)
    rw [List.drop_eq_nil_of_le (by omega)]; rfl
  | succ d ih =>
    intro i hd hi
    have h : i < l.length := by omega
    refine Ev.step (fun k => by simp only [backhaulref13_Rising.l0]; rfl) ?_
    refine Ev.pos (by omega) (Ev.pos (by omega) ?_)
    rw [drop_cons h, rd_nat h]
    have ih' := ih (i + 1) (by omega) (by omega)
    rw [if_neg (by omega), Nat.add_sub_cancel, List.getD_eq_getElem?_getD, List.getElem?_eq_getElem h, Option.getD_some] at ih'
    have hj : ∀ b : Bool, (b = true ↔ (l[i] < 1 ∨ l[i] > 999999)) → Ev (fun k => backhaulref13_Rising.j1 k l (i : Int) b) (rising (if i = 0 then 0 else l.getD (i - 1) 0) (l[i] :: l.drop (i + 1))) := by
      intro b hb
      refine Ev.step (fun k => by simp only [backhaulref13_Rising.j1]; rfl) ?_
      simp only [rising]
      refine Ev.ite (fun h1 => ?_) (fun h1 => ?_)
      · rw [if_pos (hb.1 h1)]; exact Ev.ok rfl
      have hn : ¬ (l[i] < 1 ∨ l[i] > 999999) := fun h2 => h1 (hb.2 h2)
      rw [if_neg hn]
      refine Ev.ite (fun h2 => ?_) (fun h2 => ?_)
      · rw [wrap_eq (by omega) (by omega)]
        have hi1 : ((i : Int) - 1) = ((i - 1 : Nat) : Int) := by omega
        have hg : l.getD (i - 1) 0 = l[i - 1] := by simp [List.getD_eq_getElem?_getD, show i - 1 < l.length by omega]
        rw [if_neg (show ¬ i = 0 by omega), hi1, rd_nat (show i - 1 < l.length by omega), rd_nat h, hg]
        refine Ev.pos (by omega) (Ev.pos (by omega) (Ev.pos (by omega) (Ev.pos (by omega) ?_)))
        refine Ev.ite (fun h3 => ?_) (fun h3 => ?_)
        · rw [if_pos h3]; exact Ev.ok rfl
        rw [if_neg h3, wrap_eq (by omega) (by omega)]; exact ih'
      rw [if_pos (show i = 0 by omega), if_neg (by omega), wrap_eq (by omega) (by omega)]; exact ih'
    refine Ev.ite (fun h1 => hj true (by simp [h1])) (fun h1 => hj _ (by simp; omega))
theorem ref_Rising_f {l : List Int} (hl : l.length < 9223372036854775807) : Ev (fun k => backhaulref13_Rising.f k l) (rising 0 l) := by
  unfold backhaulref13_Rising.f
  exact ref_Rising_l0 hl l.length 0 (by omega) (by omega)
def find (l : List Int) (id : Int) : Int × Bool := if id ∈ l then ((l.idxOf id : Int), true) else (if rising 0 l = 0 then (l.countP (fun x => decide (x < id)) : Int) else l.length, false)
theorem rising_zero {last : Int} {l : List Int} (h : rising last l = 0) : (∀ x ∈ l, last < x ∧ 1 ≤ x ∧ x ≤ 999999) ∧ l.Pairwise (· < ·) := by
  induction l generalizing last with
  | nil => simp
  | cons x xs ih =>
    simp only [rising] at h
    split at h
    · cases h
    split at h
    · cases h
    obtain ⟨a, b⟩ := ih h
    refine ⟨fun y hy => ?_, List.pairwise_cons.2 ⟨fun y hy => (a y hy).1, b⟩⟩
    rcases List.mem_cons.1 hy with rfl | hy
    · omega
    have := a y hy; omega
theorem rising_of {last : Int} {l : List Int} (h1 : ∀ x ∈ l, last < x ∧ 1 ≤ x ∧ x ≤ 999999) (h2 : l.Pairwise (· < ·)) : rising last l = 0 := by
  induction l generalizing last with
  | nil => rfl
  | cons x xs ih =>
    have hx := h1 x List.mem_cons_self
    obtain ⟨a, b⟩ := List.pairwise_cons.1 h2
    simp only [rising]
    rw [if_neg (by omega), if_neg (by omega)]
    exact ih (fun y hy => ⟨a y hy, (h1 y (List.mem_cons_of_mem _ hy)).2⟩) b
theorem sorted_get {l : List Int} (h : l.Pairwise (· < ·)) {i j : Nat} (hj : j < l.length) (hij : i < j) : l[i]'(by omega) < l[j] := List.pairwise_iff_getElem.1 h i j _ hj hij
theorem bs_l0 {l : List Int} {t : Int} (hl : l.length < 4611686018427387904) (hs : l.Pairwise (· < ·)) (d : Nat) : ∀ (lo hi : Nat), hi - lo = d → lo ≤ hi → hi ≤ l.length →
    (∀ j (h : j < l.length), j < lo → l[j] < t) → (∀ j (h : j < l.length), hi ≤ j → ¬ l[j] < t) →
    Ev (fun k => slices_BinarySearch_int_int.l0 k l t (l.length : Int) (lo : Int) (hi : Int)) ((l.countP (fun x => decide (x < t)) : Int), decide (t ∈ l)) := by
  induction d using Nat.strongRecOn with
  | _ d ih =>
    intro lo hi hd hlo hhi h1 h2
    refine Ev.step (fun k => by simp only [slices_BinarySearch_int_int.l0]; rfl) ?_
    by_cases hlt : lo < hi
    · have hw : wrap64 ((IntKind.u64.wrap (wrap64 ((lo : Int) + (hi : Int)))) / 2) = (((lo + hi) / 2 : Nat) : Int) := by
        rw [wrap_eq (x := (lo : Int) + (hi : Int)) (by omega) (by omega), u64_eq (x := (lo : Int) + (hi : Int)) (by omega) (by omega), wrap_eq (x := ((lo : Int) + (hi : Int)) / 2) (by omega) (by omega)]; omega
      have hm : (lo + hi) / 2 < l.length := by omega
      rw [hw]
      refine Ev.pos (by omega) (Ev.pos (by omega) (Ev.pos (by omega) ?_))
      rw [rd_nat hm]
      refine Ev.bindc (a := decide (l[(lo + hi) / 2] < t)) (by simp [cmp_Less_int.f, cmp_isNaN_int.f]) ?_
      refine Ev.ite (fun hc => ?_) (fun hc => ?_)
      · have hc' : l[(lo + hi) / 2] < t := by simpa using hc
        rw [wrap_eq (by omega) (by omega)]
        refine ih (hi - ((lo + hi) / 2 + 1)) (by omega) ((lo + hi) / 2 + 1) hi rfl (by omega) hhi (fun j hj hjl => ?_) h2
        rcases Nat.lt_or_ge j ((lo + hi) / 2) with hlt2 | hge
        · have := sorted_get hs hm hlt2; omega
        have : j = (lo + hi) / 2 := by omega
        subst this; exact hc'
      have hc' : ¬ l[(lo + hi) / 2] < t := by simpa using hc
      refine ih ((lo + hi) / 2 - lo) (by omega) lo ((lo + hi) / 2) rfl (by omega) (by omega) h1 (fun j hj hjl => ?_)
      rcases Nat.lt_or_ge ((lo + hi) / 2) j with hlt2 | hge
      · have := sorted_get hs hj hlt2; omega
      have : j = (lo + hi) / 2 := by omega
      subst this; exact hc'
    have he : lo = hi := by omega
    subst he
    have hcount : l.countP (fun x => decide (x < t)) = lo := countP_split hhi (fun j hj hjl => by simpa using h1 j hj hjl) (fun j hj hjl => by simpa using h2 j hj hjl)
    rw [hcount]
    refine Ev.neg (by omega) ?_
    refine Ev.ite (fun hc => ?_) (fun hc => ?_)
    · have hlo' : lo < l.length := by omega
      refine Ev.pos (by omega) (Ev.pos (by omega) ?_)
      rw [rd_nat hlo']
      refine Ev.ite (fun he => ?_) (fun he => ?_)
      · refine Ev.ok ?_
        have : t ∈ l := he ▸ List.getElem_mem hlo'
        simp [this]
      refine Ev.bindc (a := false) (by simp [slices_isNaN_int.f]) ?_
      refine Ev.neg (by simp) (Ev.ok ?_)
      have : ¬ t ∈ l := by
        intro hmem
        obtain ⟨j, hj, hjt⟩ := List.mem_iff_getElem.1 hmem
        rcases Nat.lt_trichotomy j lo with h | h | h
        · have := h1 j hj h; omega
        · subst h; exact he hjt
        have := sorted_get hs hj h; have := h2 lo hlo' (Nat.le_refl _); omega
      simp [this]
    refine Ev.ok ?_
    have : ¬ t ∈ l := by
      intro hmem
      obtain ⟨j, hj, hjt⟩ := List.mem_iff_getElem.1 hmem
      have := h1 j hj (by omega); omega
    simp [this]
theorem bs_f {l : List Int} {t : Int} (hl : l.length < 4611686018427387904) (hs : l.Pairwise (· < ·)) :
    Ev (fun k => slices_BinarySearch_int_int.f k l t) ((l.countP (fun x => decide (x < t)) : Int), decide (t ∈ l)) := by
  unfold slices_BinarySearch_int_int.f
  exact bs_l0 hl hs l.length 0 l.length (by omega) (by omega) (by omega) (fun j hj h => by omega) (fun j hj h => by omega)
theorem index_l0 {l : List Int} {t : Int} (hl : l.length < 9223372036854775807) (d : Nat) : ∀ (i : Nat), l.length - i = d → i ≤ l.length → (∀ j (h : j < l.length), j < i → l[j] ≠ t) →
    Ev (fun k => slices_Index_int_int.l0 k l t (l.length : Int) (i : Int)) (if t ∈ l then (l.idxOf t : Int) else -1) := by
  induction d with
  | zero =>
    intro i hd hi h1
    refine Ev.step (fun k => by simp only [slices_Index_int_int.l0]; rfl) ?_
    refine Ev.neg (by omega) (Ev.ok ?_)
    have : ¬ t ∈ l := by
      intro hmem
      obtain ⟨j, hj, hjt⟩ := List.mem_iff_getElem.1 hmem
      exact h1 j hj (by omega) hjt
    rw [if_neg this]
  | succ d ih =>
    intro i hd hi h1
    have h : i < l.length := by omega
    refine Ev.step (fun k => by simp only [slices_Index_int_int.l0]; rfl) ?_
    refine Ev.pos (by omega) (Ev.pos (by omega) (Ev.pos (by omega) ?_))
    rw [rd_nat h]
    refine Ev.ite (fun he => Ev.ok ?_) (fun he => ?_)
    · rw [if_pos (he ▸ List.getElem_mem h)]
      rw [idxOf_first h he.symm h1]
    rw [wrap_eq (by omega) (by omega)]
    exact ih (i + 1) (by omega) (by omega) (fun j hj hjl => by
      rcases Nat.lt_or_ge j i with h2 | h2
      · exact h1 j hj h2
      have : j = i := by omega
      subst this; exact fun e => he e.symm)
theorem index_f {l : List Int} {t : Int} (hl : l.length < 9223372036854775807) : Ev (fun k => slices_Index_int_int.f k l t) (if t ∈ l then (l.idxOf t : Int) else -1) := by
  unfold slices_Index_int_int.f
  exact index_l0 hl l.length 0 (by omega) (by omega) (fun j hj h => by omega)
theorem idxOf_sorted {l : List Int} {t : Int} (hs : l.Pairwise (· < ·)) (hm : t ∈ l) : l.idxOf t = l.countP (fun x => decide (x < t)) := by
  obtain ⟨i, hi, he⟩ := List.mem_iff_getElem.1 hm
  have h1 : ∀ j (h : j < l.length), j < i → l[j] < t := fun j hj h => he ▸ sorted_get hs hi h
  rw [idxOf_first hi he (fun j hj h => by have := h1 j hj h; omega)]
  refine (countP_split (by omega) (fun j hj h => by simpa using h1 j hj h) (fun j hj h => ?_)).symm
  have : t ≤ l[j] := by
    rcases Nat.lt_or_ge i j with h2 | h2
    · have := sorted_get hs hj h2; omega
    have : j = i := by omega
    subst this; omega
  simpa using this
theorem rows_Find_f {l : List Int} {id : Int} (hl : l.length < 4611686018427387904) : Ev (fun k => rows_Find.f k l id) (find l id) := by
  unfold rows_Find.f find
  refine Ev.bind (rows_Rising_f (by omega)) (Ev.ite (fun h => ?_) (fun h => ?_))
  · have hs := (rising_zero h).2
    refine Ev.bind (bs_f (by omega) hs) (Ev.ok ?_)
    by_cases hm : id ∈ l
    · simp [hm, idxOf_sorted hs hm]
    simp [hm, h]
  refine Ev.bind (index_f (by omega)) ?_
  by_cases hm : id ∈ l
  · rw [if_pos hm, if_pos hm]
    refine Ev.pos (by omega) (Ev.ok rfl)
  rw [if_neg hm, if_neg hm, if_neg h]
  exact Ev.neg (by omega) (Ev.ok rfl)
end Go.Proofs.Ytdpcgigjlcpofaa.Q
set_option linter.unusedVariables false
set_option linter.unusedSimpArgs false
namespace Go.Proofs.Ytdpcgigjlcpofaa.Q
open Go.RowKit Go.Proofs.Ytdpcgigjlcpofaa.F Go.Proofs.YtdpcgigjlcpofaaX Go.Proofs.YtdpcgigjlcpofaaW.PrintWords Go.Proofs.YtdpcgigjlcpofaaW.PrintLast Go.Proofs.YtdpcgigjlcpofaaW.PrintMore
abbrev PrT := S146
def ltP (p q : PrT) : Prop := lt8 p.f0 q.f0 ∨ (p.f0 = q.f0 ∧ p.f1 < q.f1)
theorem ltP_irrefl (p : PrT) : ¬ ltP p p := fun h => h.elim (lt8_irrefl _) (fun h => Int.lt_irrefl _ h.2)
theorem ltP_trans {p q r : PrT} (h : ltP p q) (g : ltP q r) : ltP p r := by
  rcases h with h | ⟨h1, h2⟩ <;> rcases g with g | ⟨g1, g2⟩
  · exact .inl (lt8_trans h g)
  · exact .inl (g1 ▸ h)
  · exact .inl (h1 ▸ g)
  exact .inr ⟨h1.trans g1, by omega⟩
theorem prT_ext {p q : PrT} (h0 : p.f0 = q.f0) (h1 : p.f1 = q.f1) : p = q := by
  cases p; cases q
  simp only at h0 h1
  rw [h0, h1]
theorem ltP_total {p q : PrT} (h : ¬ ltP p q) (g : ¬ ltP q p) : p = q := by
  have e : p.f0 = q.f0 := lt8_total (fun x => h (.inl x)) (fun x => g (.inl x))
  refine prT_ext e ?_
  have h1 : ¬ p.f1 < q.f1 := fun x => h (.inr ⟨e, x⟩)
  have h2 : ¬ q.f1 < p.f1 := fun x => g (.inr ⟨e.symm, x⟩)
  omega
theorem sorted_ext : ∀ (l m : List PrT), l.Pairwise ltP → m.Pairwise ltP → (∀ p, p ∈ l ↔ p ∈ m) → l = m
  | [], [], _, _, _ => rfl
  | [], b :: m, _, _, h => by have := (h b).2 List.mem_cons_self; simp at this
  | a :: l, [], _, _, h => by have := (h a).1 List.mem_cons_self; simp at this
  | a :: l, b :: m, hl, hm, h => by
    obtain ⟨l1, l2⟩ := List.pairwise_cons.1 hl
    obtain ⟨m1, m2⟩ := List.pairwise_cons.1 hm
    have e : a = b := by
      rcases List.mem_cons.1 ((h a).1 List.mem_cons_self) with e | e
      · exact e
      rcases List.mem_cons.1 ((h b).2 List.mem_cons_self) with g | g
      · exact g.symm
      exact (ltP_irrefl a (ltP_trans (l1 b g) (m1 a e))).elim
    subst e
    rw [sorted_ext l m l2 m2 fun p => ⟨fun hp => ?_, fun hp => ?_⟩]
    · rcases List.mem_cons.1 ((h p).1 (List.mem_cons_of_mem _ hp)) with e | e
      · exact (ltP_irrefl a (e ▸ l1 p hp)).elim
      exact e
    rcases List.mem_cons.1 ((h p).2 (List.mem_cons_of_mem _ hp)) with e | e
    · exact (ltP_irrefl a (e ▸ m1 p hp)).elim
    exact e
def pairsOf : List ByteArray → List (List Int) → List PrT
  | k :: ks, l :: is => l.map (fun i => (⟨k, i⟩ : PrT)) ++ pairsOf ks is
  | _, _ => []
def okI (ks : List ByteArray) (is : List (List Int)) : Prop := rowG none ks = 0 ∧ ks.length = is.length ∧ ∀ l ∈ is, l ≠ [] ∧ rising 0 l = 0
def sumL (is : List (List Int)) : Nat := (is.map List.length).sum
theorem pairs_append : ∀ (A : List ByteArray) (C : List (List Int)) {B : List ByteArray} {D : List (List Int)}, A.length = C.length → pairsOf (A ++ B) (C ++ D) = pairsOf A C ++ pairsOf B D
  | [], [], _, _, _ => rfl
  | [], _ :: _, _, _, h => by simp at h
  | _ :: _, [], _, _, h => by simp at h
  | a :: A, c :: C, B, D, h => by
    simp only [List.length_cons] at h
    simp only [List.cons_append, pairsOf, pairs_append A C (by omega), List.append_assoc]
theorem pairs_key {p : PrT} : ∀ (A : List ByteArray) (C : List (List Int)), p ∈ pairsOf A C → p.f0 ∈ A
  | [], _, h => by simp [pairsOf] at h
  | a :: A, [], h => by simp [pairsOf] at h
  | a :: A, c :: C, h => by
    simp only [pairsOf, List.mem_append, List.mem_map] at h
    rcases h with ⟨i, _, rfl⟩ | h
    · exact List.mem_cons_self
    exact List.mem_cons_of_mem _ (pairs_key A C h)
theorem pairs_len : ∀ (A : List ByteArray) (C : List (List Int)), A.length = C.length → (pairsOf A C).length = sumL C
  | [], [], _ => rfl
  | [], _ :: _, h => by simp at h
  | _ :: _, [], h => by simp at h
  | a :: A, c :: C, h => by
    simp only [List.length_cons] at h
    have := pairs_len A C (by omega)
    simp only [pairsOf, List.length_append, List.length_map, sumL, List.map_cons, List.sum_cons] at this ⊢
    omega
theorem pairs_sorted : ∀ (A : List ByteArray) (C : List (List Int)), A.Pairwise lt8 → (∀ l ∈ C, l.Pairwise (· < ·)) → (pairsOf A C).Pairwise ltP
  | [], _, _, _ => by simp [pairsOf]
  | _ :: _, [], _, _ => by simp [pairsOf]
  | a :: A, c :: C, hA, hC => by
    obtain ⟨a1, a2⟩ := List.pairwise_cons.1 hA
    simp only [pairsOf]
    refine List.pairwise_append.2 ⟨?_, pairs_sorted A C a2 (fun l hl => hC l (List.mem_cons_of_mem _ hl)), fun p hp q hq => ?_⟩
    · rw [List.pairwise_map]
      exact (hC c List.mem_cons_self).imp fun h => .inr ⟨rfl, h⟩
    obtain ⟨i, _, rfl⟩ := List.mem_map.1 hp
    exact .inl (a1 _ (pairs_key A C hq))
theorem ok_sorted {ks : List ByteArray} {is : List (List Int)} (h : okI ks is) : (pairsOf ks is).Pairwise ltP :=
  pairs_sorted ks is (rowG_zero h.1).2.1 (fun l hl => (rising_zero (h.2.2 l hl).2).2)
theorem ok_part {A B : List ByteArray} {C D : List (List Int)} {s : ByteArray} {l : List Int} (hl : A.length = C.length) (h : okI (A ++ s :: B) (C ++ l :: D)) :
    pairsOf (A ++ s :: B) (C ++ l :: D) = pairsOf A C ++ (l.map (fun i => (⟨s, i⟩ : PrT)) ++ pairsOf B D) ∧ s ∉ A ∧ s ∉ B := by
  refine ⟨pairs_append A C hl, fun g => ?_, fun g => ?_⟩
  · have := (rowG_zero h.1).2.1
    rw [List.pairwise_append] at this
    exact lt8_irrefl s (this.2.2 s g s List.mem_cons_self)
  have := (rowG_zero h.1).2.1
  rw [List.pairwise_append] at this
  exact lt8_irrefl s ((List.pairwise_cons.1 this.2.1).1 s g)
theorem mem_part {A B : List ByteArray} {C D : List (List Int)} {s : ByteArray} {l : List Int} (hl : A.length = C.length) (h : okI (A ++ s :: B) (C ++ l :: D)) (p : PrT) :
    p ∈ pairsOf (A ++ s :: B) (C ++ l :: D) ↔ (p.f0 = s ∧ p.f1 ∈ l) ∨ (p.f0 ≠ s ∧ (p ∈ pairsOf A C ∨ p ∈ pairsOf B D)) := by
  obtain ⟨e, hA, hB⟩ := ok_part hl h
  rw [e]
  simp only [List.mem_append, List.mem_map]
  constructor
  · rintro (g | ⟨i, hi, rfl⟩ | g)
    · exact .inr ⟨fun q => hA (q ▸ pairs_key _ _ g), .inl g⟩
    · exact .inl ⟨rfl, hi⟩
    exact .inr ⟨fun q => hB (q ▸ pairs_key _ _ g), .inr g⟩
  rintro (⟨g1, g2⟩ | ⟨_, g | g⟩)
  · exact .inr (.inl ⟨p.f1, g2, prT_ext g1.symm rfl⟩)
  · exact .inl g
  exact .inr (.inr g)
theorem ok_set {A B : List ByteArray} {C D : List (List Int)} {s : ByteArray} {l l' : List Int} (h : okI (A ++ s :: B) (C ++ l :: D)) (h' : l' ≠ [] ∧ rising 0 l' = 0) : okI (A ++ s :: B) (C ++ l' :: D) := by
  refine ⟨h.1, ?_, fun x hx => ?_⟩
  · have := h.2.1
    simp only [List.length_append, List.length_cons] at this ⊢
    exact this
  rcases List.mem_append.1 hx with g | g
  · exact h.2.2 x (List.mem_append.2 (.inl g))
  rcases List.mem_cons.1 g with rfl | g
  · exact h'
  exact h.2.2 x (List.mem_append.2 (.inr (List.mem_cons_of_mem _ g)))
theorem ok_cut {A B : List ByteArray} {C D : List (List Int)} {s : ByteArray} {l : List Int} (h : okI (A ++ s :: B) (C ++ l :: D)) : okI (A ++ B) (C ++ D) := by
  obtain ⟨h1, h2, _⟩ := rowG_zero h.1
  refine ⟨rowG_of (fun x hx => h1 x ?_) ?_ (fun q e => by cases e), ?_, fun x hx => h.2.2 x ?_⟩
  · rcases List.mem_append.1 hx with g | g
    · exact List.mem_append.2 (.inl g)
    exact List.mem_append.2 (.inr (List.mem_cons_of_mem _ g))
  · exact h2.sublist (List.Sublist.append (List.Sublist.refl _) (List.sublist_cons_self _ _))
  · have := h.2.1
    simp only [List.length_append, List.length_cons] at this ⊢
    omega
  rcases List.mem_append.1 hx with g | g
  · exact List.mem_append.2 (.inl g)
  exact List.mem_append.2 (.inr (List.mem_cons_of_mem _ g))
theorem ok_new {A B : List ByteArray} {C D : List (List Int)} {s : ByteArray} {l' : List Int} (h : okI (A ++ B) (C ++ D)) (hs : checkS s = 0) (hA : ∀ x ∈ A, lt8 x s) (hB : ∀ x ∈ B, lt8 s x) (h' : l' ≠ [] ∧ rising 0 l' = 0) : okI (A ++ s :: B) (C ++ l' :: D) := by
  obtain ⟨h1, h2, _⟩ := rowG_zero h.1
  obtain ⟨p1, p2, p3⟩ := List.pairwise_append.1 h2
  refine ⟨rowG_of (fun x hx => ?_) (List.pairwise_append.2 ⟨p1, List.pairwise_cons.2 ⟨hB, p2⟩, fun x hx y hy => ?_⟩) (fun q e => by cases e), ?_, fun x hx => ?_⟩
  · rcases List.mem_append.1 hx with g | g
    · exact h1 x (List.mem_append.2 (.inl g))
    rcases List.mem_cons.1 g with rfl | g
    · exact hs
    exact h1 x (List.mem_append.2 (.inr g))
  · rcases List.mem_cons.1 hy with rfl | g
    · exact hA x hx
    exact p3 x hx y g
  · have := h.2.1
    simp only [List.length_append, List.length_cons] at this ⊢
    omega
  rcases List.mem_append.1 hx with g | g
  · exact h.2.2 x (List.mem_append.2 (.inl g))
  rcases List.mem_cons.1 g with rfl | g
  · exact h'
  exact h.2.2 x (List.mem_append.2 (.inr g))
theorem mem_cut {A B : List ByteArray} {C D : List (List Int)} (hl : A.length = C.length) (p : PrT) : p ∈ pairsOf (A ++ B) (C ++ D) ↔ p ∈ pairsOf A C ∨ p ∈ pairsOf B D := by
  rw [pairs_append A C hl, List.mem_append]
theorem rising_put {l : List Int} {id : Int} (h : rising 0 l = 0) (hn : id ∉ l) (h0 : 1 ≤ id ∧ id ≤ 999999) : rising 0 (l.take (l.countP (fun x => decide (x < id))) ++ id :: l.drop (l.countP (fun x => decide (x < id)))) = 0 := by
  obtain ⟨h1, h2⟩ := rising_zero h
  have key : ∀ j (hj : j < l.length), (l[j] < id ↔ j < l.countP (fun x => decide (x < id))) := by
    intro j hj
    have hsp : l.countP (fun x => decide (x < id)) = (l.take (j + 1)).countP (fun x => decide (x < id)) + (l.drop (j + 1)).countP (fun x => decide (x < id)) := by
      rw [← List.countP_append, List.take_append_drop]
    constructor
    · intro hlt
      have : (l.take (j + 1)).countP (fun x => decide (x < id)) = (l.take (j + 1)).length := by
        rw [List.countP_eq_length]
        intro x hx
        obtain ⟨q, hq, rfl⟩ := List.mem_iff_getElem.1 hx
        rw [List.length_take] at hq
        rw [List.getElem_take]
        rcases Nat.lt_or_ge q j with g | g
        · have := sorted_get h2 hj g
          exact decide_eq_true (by omega)
        have : q = j := by omega
        subst this
        exact decide_eq_true hlt
      rw [hsp, this, List.length_take]
      omega
    intro hlt
    refine Classical.byContradiction fun hge => ?_
    have hd : (l.drop j).countP (fun x => decide (x < id)) = 0 := by
      rw [List.countP_eq_zero]
      intro x hx
      obtain ⟨q, hq, rfl⟩ := List.mem_iff_getElem.1 hx
      rw [List.length_drop] at hq
      rw [List.getElem_drop]
      rcases Nat.eq_zero_or_pos q with rfl | g
      · simpa using hge
      have := sorted_get h2 (i := j) (j := j + q) (by omega) (by omega)
      simp
      omega
    have hsp2 : l.countP (fun x => decide (x < id)) = (l.take j).countP (fun x => decide (x < id)) + (l.drop j).countP (fun x => decide (x < id)) := by
      rw [← List.countP_append, List.take_append_drop]
    have := List.countP_le_length (p := fun x => decide (x < id)) (l := l.take j)
    rw [List.length_take] at this
    omega
  refine rising_of (fun x hx => ?_) (List.pairwise_append.2 ⟨h2.sublist (List.take_sublist _ _), List.pairwise_cons.2 ⟨fun x hx => ?_, h2.sublist (List.drop_sublist _ _)⟩, fun x hx y hy => ?_⟩)
  · rcases List.mem_append.1 hx with g | g
    · have := h1 x (List.mem_of_mem_take g); omega
    rcases List.mem_cons.1 g with rfl | g
    · omega
    have := h1 x (List.mem_of_mem_drop g); omega
  · obtain ⟨q, hq, rfl⟩ := List.mem_iff_getElem.1 hx
    rw [List.length_drop] at hq
    rw [List.getElem_drop]
    have : ¬ l[l.countP (fun x => decide (x < id)) + q] < id := fun g => absurd ((key (l.countP (fun x => decide (x < id)) + q) (by omega)).1 g) (by omega)
    have hne : l[l.countP (fun x => decide (x < id)) + q] ≠ id := fun e => hn (e ▸ List.getElem_mem _)
    omega
  obtain ⟨q, hq, rfl⟩ := List.mem_iff_getElem.1 hx
  rw [List.length_take] at hq
  rw [List.getElem_take]
  have hlt := (key q (by omega)).2 (by omega)
  rcases List.mem_cons.1 hy with rfl | g
  · exact hlt
  obtain ⟨r, hr, rfl⟩ := List.mem_iff_getElem.1 g
  rw [List.length_drop] at hr
  rw [List.getElem_drop]
  exact sorted_get h2 (by omega) (by omega)
theorem mem_put {l : List Int} {id x : Int} (n : Nat) : x ∈ l.take n ++ id :: l.drop n ↔ x = id ∨ x ∈ l := by
  rw [List.mem_append, List.mem_cons]
  conv => rhs; rw [← List.take_append_drop n l, List.mem_append]
  constructor
  · rintro (h | h | h)
    · exact .inr (.inl h)
    · exact .inl h
    exact .inr (.inr h)
  rintro (h | h | h)
  · exact .inr (.inl h)
  · exact .inl h
  exact .inr (.inr h)
theorem rising_cut {l : List Int} (n : Nat) (h : rising 0 l = 0) : rising 0 (l.take n ++ l.drop (n + 1)) = 0 := by
  obtain ⟨h1, h2⟩ := rising_zero h
  have hs : (l.take n ++ l.drop (n + 1)).Sublist l := by
    conv => rhs; rw [← List.take_append_drop n l]
    refine List.Sublist.append (List.Sublist.refl _) ?_
    rw [← List.drop_drop]
    exact List.drop_sublist _ _
  exact rising_of (fun x hx => h1 x (hs.subset hx)) (h2.sublist hs)
theorem mem_cutI {l : List Int} {n : Nat} (h : rising 0 l = 0) (hn : n < l.length) (x : Int) : x ∈ l.take n ++ l.drop (n + 1) ↔ x ∈ l ∧ x ≠ l[n] := by
  obtain ⟨_, h2⟩ := rising_zero h
  have e : l = l.take n ++ l[n] :: l.drop (n + 1) := by rw [← List.drop_eq_getElem_cons hn, List.take_append_drop]
  have hp := h2
  rw [e] at hp
  obtain ⟨p1, p2, p3⟩ := List.pairwise_append.1 hp
  have p4 := (List.pairwise_cons.1 p2).1
  rw [List.mem_append]
  constructor
  · rintro (g | g)
    · exact ⟨List.mem_of_mem_take g, fun q => by have := p3 x g l[n] List.mem_cons_self; omega⟩
    exact ⟨List.mem_of_mem_drop g, fun q => by have := p4 x g; omega⟩
  rintro ⟨g, q⟩
  rw [e] at g
  rcases List.mem_append.1 g with g | g
  · exact .inl g
  rcases List.mem_cons.1 g with g | g
  · exact (q g).elim
  exact .inr g
end Go.Proofs.Ytdpcgigjlcpofaa.Q
set_option linter.unusedVariables false
namespace Go.Proofs.Ytdpcgigjlcpofaa.Q
open Go.RowKit Go.Proofs.Ytdpcgigjlcpofaa.F Go.Proofs.YtdpcgigjlcpofaaX Go.Proofs.YtdpcgigjlcpofaaW.PrintWords Go.Proofs.YtdpcgigjlcpofaaW.PrintLast Go.Proofs.YtdpcgigjlcpofaaW.PrintMore
theorem ref01_class_f (r : Int) : backhaulref01_Class.f 20 r = some (clsI r) := by
  unfold backhaulref01_Class.f clsI
  simp only [backhaulref01_Class.j0, backhaulref01_Class.j1]
  (repeat' split) <;> simp_all <;> omega
theorem ref01_class_ev (r : Int) : Ev (fun k => backhaulref01_Class.f k r) (clsI r) := Ev.of (fun k => backhaulref01_Class.mono r k) (ref01_class_f r)
def foldRest (last : Int) (t l : List UInt8) : ByteArray × Int := if okL last (runes l) = true then (bytesB (t ++ l.map up8), 0) else (⟨#[]⟩, 9)
theorem cls_45 {b : UInt8} : clsI b.toNat = 3 ↔ b = 45 := by
  have h45 : (45 : UInt8).toNat = 45 := rfl
  have hn := b.toNat_lt
  constructor
  · intro h
    apply UInt8.toNat_inj.1
    unfold clsI at h
    (repeat' split at h) <;> omega
  rintro rfl; decide
theorem okL_iff {last : Int} {b : UInt8} {l : List UInt8} : okL last (runes (b :: l)) = true ↔ (clsI b.toNat ≠ 0 ∧ ¬ (b = 45 ∧ last = 3)) ∧ okL (clsI b.toNat) (runes l) = true := by
  show (mayB (clsI b.toNat) last && okL (clsI b.toNat) (runes l)) = true ↔ _
  rw [Bool.and_eq_true]
  have : mayB (clsI b.toNat) last = true ↔ clsI b.toNat ≠ 0 ∧ ¬ (b = 45 ∧ last = 3) := by
    unfold mayB
    rw [← cls_45]
    simp only [Bool.and_eq_true, Bool.or_eq_true, bne_iff_ne]
    omega
  rw [this]
theorem bt_nat {s : ByteArray} {i : Nat} (h : i < s.data.toList.length) : bt s (i : Int) = ((s.data.toList[i]).toNat : Int) := bt_data s i (by rw [← size_data]; exact h)
theorem bt_45 {s : ByteArray} {i : Nat} (h : i < s.data.toList.length) : bt s (i : Int) = 45 ↔ s.data.toList[i] = 45 := by
  rw [bt_nat h]
  constructor
  · intro x; apply UInt8.toNat_inj.1; show _ = 45; omega
  intro x; rw [x]; rfl
theorem ref01_fold_j2 {s : ByteArray} {i : Nat} {t : List UInt8} {b : UInt8} {r : ByteArray × Int} (ht : t.length < 100) (hi : i < 100) (h : Ev (fun k => backhaulref01_Fold.l0 k s (natI (t ++ [up8 b])) (((i + 1 : Nat)) : Int)) r) : Ev (fun k => backhaulref01_Fold.j2 k s (natI t) (i : Int) (b.toNat : Int) false) r := by
  have hl : (natI t).length = t.length := by simp [natI]
  have hn := b.toNat_lt
  have e : ∀ x : Int, x = ((up8 b).toNat : Int) → natI t ++ [x] = natI (t ++ [up8 b]) := by rintro x rfl; simp [natI]
  refine Ev.step (fun k => by simp only [backhaulref01_Fold.j2]; rfl) ?_
  rw [wrap_eq (by omega) (by omega)]
  refine Ev.neg (by decide) (Ev.ite (fun h1 => Ev.ite (fun h2 => Ev.pos (by omega) ?_) (fun h2 => Ev.pos (by omega) ?_)) (fun h1 => Ev.pos (by omega) ?_))
  · rw [e _ (by rw [up8_toNat]; unfold upI; rw [if_pos (by omega)]; omega)]; exact h
  · rw [e _ (by rw [up8_toNat]; unfold upI; rw [if_neg (by omega)])]; exact h
  rw [e _ (by rw [up8_toNat]; unfold upI; rw [if_neg (by omega)])]; exact h
theorem ref01_fold_bad {s : ByteArray} {i c : Int} {o : List Int} {last : Int} {t l : List UInt8} (h : ¬ okL last (runes l) = true) : Ev (fun k => backhaulref01_Fold.j2 k s o i c true) (foldRest last t l) := by
  refine Ev.step (fun k => by simp only [backhaulref01_Fold.j2]; rfl) ?_
  refine Ev.pos trivial (Ev.ok ?_)
  unfold foldRest
  rw [if_neg h]
theorem ref01_fold_l0 {s : ByteArray} (hs : s.size ≤ 16) (h0 : ∀ h : 0 < s.data.toList.length, s.data.toList[0] ≠ 45) (d : Nat) : ∀ (i : Nat) (t : List UInt8) (last : Int), s.size - i = d → i ≤ s.size → t.length = i → (i = 0 ∨ ∃ h : i - 1 < s.data.toList.length, last = clsI (s.data.toList[i - 1]).toNat) → Ev (fun k => backhaulref01_Fold.l0 k s (natI t) (i : Int)) (foldRest last t (s.data.toList.drop i)) := by
  have hsz := size_data s
  induction d with
  | zero =>
    intro i t last hd hi ht hla
    refine Ev.step (fun k => by simp only [backhaulref01_Fold.l0]; rfl) ?_
    refine Ev.neg (by omega) (Ev.ok ?_)
    rw [List.drop_eq_nil_of_le (by omega)]
    unfold foldRest
    rw [if_pos (show okL last (runes []) = true from rfl), strOfNums_nat, List.map_nil, List.append_nil]
  | succ d ih =>
    intro i t last hd hi ht hla
    have h : i < s.data.toList.length := by omega
    have hb : bt s (i : Int) = ((s.data.toList[i]).toNat : Int) := bt_nat h
    have hn := (s.data.toList[i]).toNat_lt
    have hw : wrap32 (((s.data.toList[i]).toNat : Int)) = ((s.data.toList[i]).toNat : Int) := by unfold wrap32; omega
    refine Ev.step (fun k => by simp only [backhaulref01_Fold.l0]; rfl) ?_
    refine Ev.pos (by omega) (Ev.pos (by omega) ?_)
    rw [drop_cons h, hb, hw]
    have hd1 : s.size - (i + 1) = d := by clear hb hw ih hla hn ht; omega
    have hd2 : i + 1 ≤ s.size := by clear hb hw ih hla hn ht; omega
    have good : okL last (runes (s.data.toList[i] :: s.data.toList.drop (i + 1))) = okL (clsI (s.data.toList[i]).toNat) (runes (s.data.toList.drop (i + 1))) → Ev (fun k => backhaulref01_Fold.j2 k s (natI t) (i : Int) ((s.data.toList[i]).toNat : Int) false) (foldRest last t (s.data.toList[i] :: s.data.toList.drop (i + 1))) := by
      intro e
      refine ref01_fold_j2 (by omega) (by omega) (Ev.eq (ih (i + 1) (t ++ [up8 s.data.toList[i]]) (clsI (s.data.toList[i]).toNat) hd1 hd2 (by simp [ht]) (.inr ⟨by simpa using h, by simp⟩)) ?_)
      unfold foldRest
      rw [e, List.map_cons, List.append_assoc]
      rfl
    have eq_of : (clsI (s.data.toList[i]).toNat ≠ 0 ∧ ¬ (s.data.toList[i] = 45 ∧ last = 3)) → okL last (runes (s.data.toList[i] :: s.data.toList.drop (i + 1))) = okL (clsI (s.data.toList[i]).toNat) (runes (s.data.toList.drop (i + 1))) := by
      intro hg
      rw [Bool.eq_iff_iff, okL_iff]
      exact ⟨fun x => x.2, fun x => ⟨hg, x⟩⟩
    refine Ev.bind (ref01_class_ev _) (Ev.ite (fun h1 => ?_) (fun h1 => ?_))
    · exact ref01_fold_bad (fun x => (okL_iff.1 x).1.1 h1)
    refine Ev.ite (fun h2 => ?_) (fun h2 => ?_)
    · have h45 : s.data.toList[i] = 45 := by apply UInt8.toNat_inj.1; show _ = 45; omega
      have hi1 : 1 ≤ i := by
        rcases Nat.eq_zero_or_pos i with h' | h'
        · subst h'; exact absurd h45 (h0 h)
        exact h'
      obtain ⟨hp, hl⟩ := hla.resolve_left (by omega)
      rw [wrap_eq (x := (i : Int) - 1) (by omega) (by omega), show (i : Int) - 1 = ((i - 1 : Nat) : Int) by omega]
      refine Ev.pos (by omega) (Ev.pos (by omega) ?_)
      by_cases h3 : s.data.toList[i - 1] = 45
      · rw [show (bt s ((i - 1 : Nat) : Int) == 45) = true from beq_iff_eq.2 ((bt_45 hp).2 h3)]
        exact ref01_fold_bad (fun x => (okL_iff.1 x).1.2 ⟨h45, by rw [hl]; exact cls_45.2 h3⟩)
      rw [show (bt s ((i - 1 : Nat) : Int) == 45) = false from beq_eq_false_iff_ne.2 (fun x => h3 ((bt_45 hp).1 x))]
      exact good (eq_of ⟨h1, fun x => h3 (cls_45.1 (by rw [← hl]; exact x.2))⟩)
    exact good (eq_of ⟨h1, fun x => h2 (by rw [x.1]; rfl)⟩)
theorem last_get {l : List UInt8} (h : l.length - 1 < l.length) : l.getLast? = some (l[l.length - 1]) := by
  rw [List.getLast?_eq_getElem?, List.getElem?_eq_getElem h]
theorem ref01_fold_f (s : ByteArray) (hs : s.size < 1099511627776) : Ev (fun k => backhaulref01_Fold.f k s) (foldS s) := by
  have hsz := size_data s
  have bad : ¬ serB s.data.toList → Ev (fun k => backhaulref01_Fold.j0 k s true) (foldS s) := by
    intro h
    refine Ev.step (fun k => by simp only [backhaulref01_Fold.j0]; rfl) ?_
    refine Ev.pos trivial (Ev.ok ?_)
    rw [foldS_eq, if_neg h]
  unfold backhaulref01_Fold.f
  refine Ev.ite (fun h => bad (fun x => by have := x.1; omega)) (fun h => Ev.ite (fun h1 => bad (fun x => by have := x.2.1; omega)) (fun h1 => Ev.pos (by omega) ?_))
  have hl0 : 0 < s.data.toList.length := by omega
  have e0 : bt s 0 = 45 ↔ s.data.toList[0] = 45 := bt_45 (i := 0) hl0
  refine Ev.ite (fun h2 => bad (fun x => ?_)) (fun h2 => ?_)
  · have h3 := x.2.2.2
    have h4 : s.data.toList = s.data.toList[0] :: s.data.toList.drop 1 := by
      have := drop_cons (l := s.data.toList) (i := 0) hl0
      simpa using this
    rw [h4] at h3
    exact (okL_iff.1 h3).1.2 ⟨e0.1 h2, rfl⟩
  have hlast : s.data.toList.length - 1 < s.data.toList.length := by omega
  rw [wrap_eq (by omega) (by omega), show (s.size : Int) - 1 = ((s.data.toList.length - 1 : Nat) : Int) by omega]
  refine Ev.pos (by omega) (Ev.pos (by omega) ?_)
  by_cases h3 : s.data.toList[s.data.toList.length - 1] = 45
  · rw [show (bt s ((s.data.toList.length - 1 : Nat) : Int) == 45) = true from beq_iff_eq.2 ((bt_45 hlast).2 h3)]
    exact bad (fun x => x.2.2.1 (by rw [last_get hlast, h3]))
  rw [show (bt s ((s.data.toList.length - 1 : Nat) : Int) == 45) = false from beq_eq_false_iff_ne.2 (fun x => h3 ((bt_45 hlast).1 x))]
  refine Ev.step (fun k => by simp only [backhaulref01_Fold.j0]; rfl) ?_
  refine Ev.neg (by decide) (Ev.eq (ref01_fold_l0 (by omega) (fun _ x => h2 (e0.2 x)) s.size 0 [] 3 (by omega) (by omega) rfl (.inl rfl)) ?_)
  rw [List.drop_zero, foldS_eq]
  unfold foldRest
  by_cases h4 : okL 3 (runes s.data.toList) = true
  · rw [if_pos h4, if_pos ⟨by omega, by omega, by rw [last_get hlast]; intro x; exact h3 (Option.some.inj x), h4⟩]; rfl
  rw [if_neg h4, if_neg (fun x => h4 x.2.2.2)]
theorem check_toList (s : ByteArray) : (if (foldS s).2 = 0 then (if (foldS s).1.toList = s.toList then some (0 : Int) else some 9) else some 9) = some (checkS s) := by
  unfold checkS
  by_cases h1 : (foldS s).2 = 0
  · rw [if_pos h1]
    by_cases h2 : (foldS s).1.toList = s.toList
    · rw [if_pos h2, if_pos ⟨h1, bytes_ext.1 h2⟩]
    rw [if_neg h2, if_neg (fun x => h2 (by rw [x.2]))]
  rw [if_neg h1, if_neg (fun x => h1 x.1)]
theorem ref01_check_f (s : ByteArray) (hs : s.size < 1099511627776) : Ev (fun k => backhaulref01_Check.f k s) (checkS s) := by
  unfold backhaulref01_Check.f
  exact Ev.bind (ref01_fold_f s hs) (Ev.const (check_toList s))
theorem serial_check_f (s : ByteArray) (hs : s.size < 9223372036854775807) : serial_Check.f s = some (checkS s) := by
  unfold serial_Check.f serial_Fold.f checkS
  rw [if_pos hs, Option.bind_some]
  have e : (foldS s).1.toList = s.toList ↔ (foldS s).1 = s := by
    constructor
    · intro h
      rw [ByteArray.toList_eq, ByteArray.toList_eq] at h
      generalize (foldS s).1 = a at *
      cases a; cases s
      simpa [Array.toList_inj] using h
    intro h; rw [h]
  by_cases h1 : (foldS s).2 = 0
  · rw [if_pos h1]
    by_cases h2 : (foldS s).1.toList = s.toList
    · rw [if_pos h2, if_pos ⟨h1, e.1 h2⟩]
    rw [if_neg h2, if_neg (fun x => h2 (e.2 x.2))]
  rw [if_neg h1, if_neg (fun x => h1 x.1)]
end Go.Proofs.Ytdpcgigjlcpofaa.Q
set_option linter.unusedVariables false
namespace Go.Proofs.Ytdpcgigjlcpofaa.Q
open Go.RowKit Go.Proofs.Ytdpcgigjlcpofaa.F Go.Proofs.YtdpcgigjlcpofaaX Go.Proofs.YtdpcgigjlcpofaaW.PrintWords Go.Proofs.YtdpcgigjlcpofaaW.PrintLast Go.Proofs.YtdpcgigjlcpofaaW.PrintMore
theorem serial_row_l0 {l : List ByteArray} (hl : l.length < 4611686018427387904) (hs : ∀ x ∈ l, x.size < 1099511627776) (d : Nat) : ∀ (i : Nat), l.length - i = d → i ≤ l.length → Ev (fun k => serial_Row.l0 k l l (l.length : Int) (i : Int)) (rowG (if i = 0 then none else l[i - 1]?) (l.drop i)) := by
  induction d with
  | zero =>
    intro i hd hi
    refine Ev.step (fun k => by simp only [serial_Row.l0]; rfl) ?_
    refine Ev.neg (by omega) (Ev.ok ?_)
    rw [List.drop_eq_nil_of_le (by omega)]; rfl
  | succ d ih =>
    intro i hd hi
    have h : i < l.length := by omega
    refine Ev.step (fun k => by simp only [serial_Row.l0]; rfl) ?_
    refine Ev.pos (by omega) (Ev.pos (by omega) (Ev.pos (by omega) ?_))
    rw [drop_cons h, rdOf_nat h, wrap_eq (x := (i : Int) + 1) (by omega) (by omega)]
    have ih' := ih (i + 1) (by omega) (by omega)
    rw [if_neg (by omega), Nat.add_sub_cancel, List.getElem?_eq_getElem h] at ih'
    refine Ev.bindc (serial_check_f _ (by have := hs _ (List.getElem_mem h); omega)) ?_
    simp only [rowG]
    refine Ev.ite (fun h1 => ?_) (fun h1 => ?_)
    · rw [if_pos h1]
      refine Ev.ite (fun h2 => ?_) (fun h2 => ?_)
      · have h' : i - 1 < l.length := by omega
        rw [wrap_eq (x := (i : Int) - 1) (by omega) (by omega), show (i : Int) - 1 = ((i - 1 : Nat) : Int) by omega, rdOf_nat h', if_neg (show ¬ i = 0 by omega), List.getElem?_eq_getElem h']
        refine Ev.pos (by omega) (Ev.pos (by omega) ?_)
        refine Ev.ite (fun h3 => ?_) (fun h3 => ?_)
        · rw [if_neg (by simp [notUp, h3])]; exact ih'
        rw [if_pos (by simp [notUp, h3])]; exact Ev.ok rfl
      rw [if_pos (show i = 0 by omega), if_neg (by simp [notUp])]; exact ih'
    rw [if_neg h1, (checkS_or _).resolve_left h1]; exact Ev.ok rfl
theorem serial_row_f {l : List ByteArray} (hl : l.length < 4611686018427387904) (hs : ∀ x ∈ l, x.size < 1099511627776) : Ev (fun k => serial_Row.f k l) (rowG none l) := by
  unfold serial_Row.f
  exact serial_row_l0 hl hs l.length 0 (by omega) (by omega)
theorem ref01_row_l0 {l : List ByteArray} (hl : l.length < 4611686018427387904) (hs : ∀ x ∈ l, x.size < 1099511627776) (d : Nat) : ∀ (i : Nat), l.length - i = d → i ≤ l.length → Ev (fun k => backhaulref01_Row.l0 k l (i : Int)) (rowG (if i = 0 then none else l[i - 1]?) (l.drop i)) := by
  induction d with
  | zero =>
    intro i hd hi
    refine Ev.step (fun k => by simp only [backhaulref01_Row.l0]; rfl) ?_
    refine Ev.neg (by omega) (Ev.ok ?_)
    rw [List.drop_eq_nil_of_le (by omega)]; rfl
  | succ d ih =>
    intro i hd hi
    have h : i < l.length := by omega
    refine Ev.step (fun k => by simp only [backhaulref01_Row.l0]; rfl) ?_
    refine Ev.pos (by omega) (Ev.pos (by omega) ?_)
    rw [drop_cons h, rdOf_nat h, wrap_eq (x := (i : Int) + 1) (by omega) (by omega)]
    have ih' := ih (i + 1) (by omega) (by omega)
    rw [if_neg (by omega), Nat.add_sub_cancel, List.getElem?_eq_getElem h] at ih'
    refine Ev.bind (ref01_check_f _ (hs _ (List.getElem_mem h))) ?_
    simp only [rowG]
    refine Ev.ite (fun h1 => ?_) (fun h1 => ?_)
    · rw [if_pos h1]
      refine Ev.ite (fun h2 => ?_) (fun h2 => ?_)
      · have h' : i - 1 < l.length := by omega
        rw [wrap_eq (x := (i : Int) - 1) (by omega) (by omega), show (i : Int) - 1 = ((i - 1 : Nat) : Int) by omega, rdOf_nat h', if_neg (show ¬ i = 0 by omega), List.getElem?_eq_getElem h']
        refine Ev.pos (by omega) (Ev.pos (by omega) ?_)
        refine Ev.ite (fun h3 => ?_) (fun h3 => ?_)
        · rw [if_neg (by simp [notUp, h3])]; exact ih'
        rw [if_pos (by simp [notUp, h3])]; exact Ev.ok rfl
      rw [if_pos (show i = 0 by omega), if_neg (by simp [notUp])]; exact ih'
    rw [if_neg h1]; exact Ev.ok rfl
theorem ref01_row_f {l : List ByteArray} (hl : l.length < 4611686018427387904) (hs : ∀ x ∈ l, x.size < 1099511627776) : Ev (fun k => backhaulref01_Row.f k l) (rowG none l) := by
  unfold backhaulref01_Row.f
  exact ref01_row_l0 hl hs l.length 0 (by omega) (by omega)
end Go.Proofs.Ytdpcgigjlcpofaa.Q
set_option linter.unusedVariables false
namespace Go.Proofs.Ytdpcgigjlcpofaa.Q
open Go.RowKit Go.Proofs.Ytdpcgigjlcpofaa.F Go.Proofs.YtdpcgigjlcpofaaX Go.Proofs.YtdpcgigjlcpofaaW.PrintWords Go.Proofs.YtdpcgigjlcpofaaW.PrintLast Go.Proofs.YtdpcgigjlcpofaaW.PrintMore
theorem cmp_less_text (a b : ByteArray) : cmp_Less_string.f a b = some (Op.bytesLess a.toList b.toList) := by
  simp [cmp_Less_string.f, cmp_isNaN_string.f]
theorem bst_l0 {l : List ByteArray} {t : ByteArray} (hl : l.length < 4611686018427387904) (h0 : rowG none l = 0) (hs : l.Pairwise lt8) (d : Nat) : ∀ (lo hi : Nat), hi - lo = d → lo ≤ hi → hi ≤ l.length →
    (∀ j (h : j < l.length), j < lo → lt8 l[j] t) → (∀ j (h : j < l.length), hi ≤ j → ¬ lt8 l[j] t) →
    Ev (fun k => slices_BinarySearch_string_string.l0 k l t (l.length : Int) (lo : Int) (hi : Int)) (findT l t) := by
  induction d using Nat.strongRecOn with
  | _ d ih =>
    intro lo hi hd hlo hhi h1 h2
    refine Ev.step (fun k => by simp only [slices_BinarySearch_string_string.l0]; rfl) ?_
    by_cases hlt : lo < hi
    · have hw : wrap64 ((IntKind.u64.wrap (wrap64 ((lo : Int) + (hi : Int)))) / 2) = (((lo + hi) / 2 : Nat) : Int) := by
        rw [wrap_eq (x := (lo : Int) + (hi : Int)) (by omega) (by omega), u64_eq (x := (lo : Int) + (hi : Int)) (by omega) (by omega), wrap_eq (x := ((lo : Int) + (hi : Int)) / 2) (by omega) (by omega)]; omega
      have hm : (lo + hi) / 2 < l.length := by omega
      rw [hw]
      refine Ev.pos (by omega) (Ev.pos (by omega) (Ev.pos (by omega) ?_))
      rw [rdOf_nat hm]
      refine Ev.bindc (cmp_less_text _ _) ?_
      refine Ev.ite (fun hc => ?_) (fun hc => ?_)
      · have hc' : lt8 l[(lo + hi) / 2] t := hc
        rw [wrap_eq (by omega) (by omega)]
        refine ih (hi - ((lo + hi) / 2 + 1)) (by omega) ((lo + hi) / 2 + 1) hi rfl (by omega) hhi (fun j hj hjl => ?_) h2
        rcases Nat.lt_or_ge j ((lo + hi) / 2) with hlt2 | hge
        · exact lt8_trans (pair_get hs hm hlt2) hc'
        have : j = (lo + hi) / 2 := by omega
        subst this; exact hc'
      have hc' : ¬ lt8 l[(lo + hi) / 2] t := hc
      refine ih ((lo + hi) / 2 - lo) (by omega) lo ((lo + hi) / 2) rfl (by omega) (by omega) h1 (fun j hj hjl => ?_)
      rcases Nat.lt_or_ge ((lo + hi) / 2) j with hlt2 | hge
      · exact fun x => hc' (lt8_trans (pair_get hs hj hlt2) x)
      have : j = (lo + hi) / 2 := by omega
      subst this; exact hc'
    have he : lo = hi := by omega
    subst he
    rw [findT_sorted hs hhi h1 h2 h0]
    refine Ev.neg (by omega) ?_
    refine Ev.ite (fun hc => ?_) (fun hc => ?_)
    · have hlo' : lo < l.length := by omega
      refine Ev.pos (by omega) (Ev.pos (by omega) ?_)
      rw [rdOf_nat hlo']
      refine Ev.ite (fun he => ?_) (fun he => ?_)
      · refine Ev.ok ?_
        rw [decide_eq_true (⟨hlo', bytes_ext.1 he⟩ : ∃ h : lo < l.length, l[lo] = t)]
      refine Ev.bindc (a := false) (by simp [slices_isNaN_string.f]) ?_
      refine Ev.neg (by simp) (Ev.ok ?_)
      rw [decide_eq_false (fun x : ∃ h : lo < l.length, l[lo] = t => he (by rw [x.2]))]
    refine Ev.ok ?_
    rw [decide_eq_false (fun x : ∃ h : lo < l.length, l[lo] = t => by have := x.1; omega)]
theorem bst_f {l : List ByteArray} {t : ByteArray} (hl : l.length < 4611686018427387904) (h0 : rowG none l = 0) : Ev (fun k => slices_BinarySearch_string_string.f k l t) (findT l t) := by
  unfold slices_BinarySearch_string_string.f
  exact bst_l0 hl h0 (rowG_zero h0).2.1 l.length 0 l.length (by omega) (by omega) (by omega) (fun j hj h => by omega) (fun j hj h => by omega)
def idxI (l : List ByteArray) (t : ByteArray) : Int := match idxT l t with
  | some i => (i : Int)
  | none => -1
theorem indext_l0 {l : List ByteArray} {t : ByteArray} (hl : l.length < 4611686018427387904) (d : Nat) : ∀ (i : Nat), l.length - i = d → i ≤ l.length → (∀ j (h : j < l.length), j < i → l[j] ≠ t) →
    Ev (fun k => slices_Index_string_string.l0 k l t (l.length : Int) (i : Int)) (idxI l t) := by
  induction d with
  | zero =>
    intro i hd hi h1
    refine Ev.step (fun k => by simp only [slices_Index_string_string.l0]; rfl) ?_
    refine Ev.neg (by omega) (Ev.ok ?_)
    unfold idxI
    rw [idxT_none (fun j hj => h1 j hj (by omega))]
  | succ d ih =>
    intro i hd hi h1
    have h : i < l.length := by omega
    refine Ev.step (fun k => by simp only [slices_Index_string_string.l0]; rfl) ?_
    refine Ev.pos (by omega) (Ev.pos (by omega) (Ev.pos (by omega) ?_))
    rw [rdOf_nat h]
    refine Ev.ite (fun he => Ev.ok ?_) (fun he => ?_)
    · unfold idxI
      rw [idxT_some h (bytes_ext.1 he).symm h1]
    rw [wrap_eq (by omega) (by omega)]
    exact ih (i + 1) (by omega) (by omega) (fun j hj hjl => by
      rcases Nat.lt_or_ge j i with h2 | h2
      · exact h1 j hj h2
      have : j = i := by omega
      subst this; exact fun e => he (by rw [e]))
theorem serial_find_f {l : List ByteArray} {t : ByteArray} (hl : l.length < 4611686018427387904) (hs : ∀ x ∈ l, x.size < 1099511627776) : Ev (fun k => serial_Find.f k l t) (findT l t) := by
  unfold serial_Find.f
  refine Ev.bind (serial_row_f hl hs) (Ev.ite (fun h => Ev.bind (bst_f hl h) (Ev.ok rfl)) (fun h => ?_))
  have hi : Ev (fun k => slices_Index_string_string.f k l t) (idxI l t) := by
    unfold slices_Index_string_string.f
    exact indext_l0 hl l.length 0 (by omega) (by omega) (fun j hj h => by omega)
  refine Ev.bind hi (Ev.ok ?_)
  unfold idxI findT
  cases e : idxT l t with
  | none => simp only [if_neg h]; rfl
  | some i =>
    have : mx (i : Int) 0 = i := by unfold mx; split <;> omega
    simp [this]
end Go.Proofs.Ytdpcgigjlcpofaa.Q
set_option linter.unusedVariables false
set_option linter.unusedSimpArgs false
namespace Go.Proofs.Ytdpcgigjlcpofaa.Q
open Go.RowKit Go.Proofs.Ytdpcgigjlcpofaa.F Go.Proofs.YtdpcgigjlcpofaaX Go.Proofs.YtdpcgigjlcpofaaW.PrintWords Go.Proofs.YtdpcgigjlcpofaaW.PrintLast Go.Proofs.YtdpcgigjlcpofaaW.PrintMore
theorem rdI {is : List (List Int)} {i : Nat} (h : i < is.length) : rd_L14 is (i : Int) = is[i] := by
  unfold rd_L14; simp [List.getD_eq_getElem?_getD, h]
theorem rdP {l : List PrT} {i : Nat} (h : i < l.length) : rd_T146 l (i : Int) = l[i] := by
  unfold rd_T146; simp [h]
structure Small (ks : List ByteArray) (is : List (List Int)) : Prop where
  k1 : ks.length ≤ 5000
  k2 : is.length ≤ 5000
  k3 : ∀ x ∈ ks, x.size ≤ 1000
  k4 : ∀ l ∈ is, l.length ≤ 5000
theorem sumL_cons (l : List Int) (is : List (List Int)) : sumL (l :: is) = l.length + sumL is := by unfold sumL; simp
theorem sumL_le : ∀ (is : List (List Int)), (∀ l ∈ is, l.length ≤ 5000) → sumL is ≤ 5000 * is.length
  | [], _ => by simp [sumL]
  | l :: is, h => by
    have h1 := h l List.mem_cons_self
    have h2 := sumL_le is fun x hx => h x (List.mem_cons_of_mem _ hx)
    rw [sumL_cons, List.length_cons]
    omega
section
variable {ks : List ByteArray} {is : List (List Int)} (S : Small ks is)
include S
theorem pairs_l0 (d : Nat) : ∀ (i : Nat) (n : Nat), is.length - i = d → i ≤ is.length → n + sumL (is.drop i) ≤ 25000000 → Ev (fun k => index_pairs.l0 k (n : Int) is (is.length : Int) (i : Int)) ((n + sumL (is.drop i) : Nat) : Int) := by
  have h2 := S.k2
  induction d with
  | zero =>
    intro i n hd hi hn
    refine Ev.step (fun k => by simp only [index_pairs.l0]; rfl) (Ev.neg (by omega) (Ev.ok ?_))
    rw [List.drop_eq_nil_of_le (by omega)]
    simp [sumL]
  | succ d ih =>
    intro i n hd hi hn
    have h : i < is.length := by omega
    rw [drop_cons h, sumL_cons] at hn ⊢
    refine Ev.step (fun k => by simp only [index_pairs.l0]; rfl) (Ev.pos (by omega) (Ev.pos (by omega) (Ev.pos (by omega) ?_)))
    rw [rdI h, wrap_eq (x := (i : Int) + 1) (by omega) (by omega), wrap_eq (x := (n : Int) + (is[i].length : Int)) (by omega) (by omega)]
    have := ih (i + 1) (n + is[i].length) (by omega) (by omega) (by omega)
    rw [Nat.add_assoc] at this
    exact this
theorem pairs_f : Ev (fun k => index_pairs.f k ks is) (sumL is : Int) := by
  unfold index_pairs.f
  have h2 := S.k2
  have h3 := sumL_le is S.k4
  have := pairs_l0 S is.length 0 0 (by omega) (by omega) (by rw [List.drop_zero]; omega)
  rw [List.drop_zero, Nat.zero_add] at this
  exact this
end
def badB (l : List Int) : Bool := decide (l.length = 0) || (rising 0 l != 0)
theorem badB_iff {l : List Int} : badB l = false ↔ l ≠ [] ∧ rising 0 l = 0 := by
  unfold badB
  rw [Bool.or_eq_false_iff, decide_eq_false_iff_not, bne_eq_false_iff_eq, List.length_eq_zero_iff]
theorem wrong_f {l : List Int} (hl : l.length ≤ 5000) : Ev (fun k => index_Check_1.f k l) (badB l) := by
  unfold index_Check_1.f badB
  refine Q.Ev.ite (fun c => Ev.ok ?_) (fun c => ?_)
  · rw [decide_eq_true (by omega), Bool.true_or]
  rw [decide_eq_false (by omega), Bool.false_or]
  exact Ev.bind (rows_Rising_f (by omega)) (Ev.ok rfl)
def idxB : Nat → List (List Int) → Int
  | _, [] => -1
  | i, l :: r => if badB l = true then (i : Int) else idxB (i + 1) r
theorem idxB_any : ∀ (is : List (List Int)) (i : Nat), decide (idxB i is ≥ 0) = is.any badB
  | [], i => rfl
  | l :: r, i => by
    unfold idxB
    rw [List.any_cons]
    by_cases c : badB l = true
    · rw [if_pos c, c, Bool.true_or]
      exact decide_eq_true (by omega)
    rw [if_neg c, Bool.eq_false_iff.2 c, Bool.false_or]
    exact idxB_any r (i + 1)
theorem idxfunc_l0 {is : List (List Int)} (h2 : is.length ≤ 5000) (h4 : ∀ l ∈ is, l.length ≤ 5000) (d : Nat) : ∀ i : Nat, is.length - i = d → i ≤ is.length → Ev (fun k => slices_IndexFunc_index_Check_1.l0 k is (is.length : Int) (i : Int)) (idxB i (is.drop i)) := by
  induction d with
  | zero =>
    intro i hd hi
    refine Ev.step (fun k => by simp only [slices_IndexFunc_index_Check_1.l0]; rfl) (Ev.neg (by omega) (Ev.ok ?_))
    rw [List.drop_eq_nil_of_le (by omega)]
    rfl
  | succ d ih =>
    intro i hd hi
    have h : i < is.length := by omega
    refine Ev.step (fun k => by simp only [slices_IndexFunc_index_Check_1.l0]; rfl) (Ev.pos (by omega) (Ev.pos (by omega) (Ev.pos (by omega) ?_)))
    rw [rdI h, wrap_eq (x := (i : Int) + 1) (by omega) (by omega), drop_cons h]
    refine Ev.bind (wrong_f (h4 _ (List.getElem_mem h))) (Q.Ev.ite (fun c => Ev.ok ?_) (fun c => ?_))
    · unfold idxB
      rw [if_pos c]
    unfold idxB
    rw [if_neg c]
    exact ih (i + 1) (by omega) (by omega)
theorem contains_f {is : List (List Int)} (h2 : is.length ≤ 5000) (h4 : ∀ l ∈ is, l.length ≤ 5000) : Ev (fun k => slices_ContainsFunc_index_Check_1.f k is) (is.any badB) := by
  unfold slices_ContainsFunc_index_Check_1.f slices_IndexFunc_index_Check_1.f
  have := idxfunc_l0 h2 h4 is.length 0 (by omega) (by omega)
  rw [List.drop_zero] at this
  exact Ev.bind this (Ev.ok (idxB_any is 0))
def okB (ks : List ByteArray) (is : List (List Int)) : Bool := decide (rowG none ks = 0) && (decide (ks.length = is.length) && !is.any badB)
theorem okB_iff {ks : List ByteArray} {is : List (List Int)} : okB ks is = true ↔ okI ks is := by
  unfold okB okI
  rw [Bool.and_eq_true, Bool.and_eq_true, decide_eq_true_eq, decide_eq_true_eq, Bool.not_eq_true', List.any_eq_false]
  refine and_congr Iff.rfl (and_congr Iff.rfl ⟨fun h l hl => badB_iff.1 (Bool.eq_false_iff.2 (h l hl)), fun h l hl => by rw [badB_iff.2 (h l hl)]; decide⟩)
def chkI (ks : List ByteArray) (is : List (List Int)) : Int := if okB ks is = true ∧ sumL is ≤ 2000 then 0 else 40
section
variable {ks : List ByteArray} {is : List (List Int)} (S : Small ks is)
include S
theorem sizes_k : ks.length < 4611686018427387904 ∧ ∀ x ∈ ks, x.size < 1099511627776 := by
  have := S.k1
  exact ⟨by omega, fun x hx => by have := S.k3 x hx; omega⟩
theorem icheck_f : Ev (fun k => index_Check.f k ks is) (chkI ks is) := by
  have hz := sizes_k S
  have j0 : ∀ u : Bool, u = true → ¬ (okB ks is = true ∧ sumL is ≤ 2000) → Ev (fun k => index_Check.j0 k u ks is) (chkI ks is) := fun u hu hn =>
    Ev.step (fun k => by simp only [index_Check.j0]; rfl) (Q.Ev.pos hu (Ev.ok (by unfold chkI; rw [if_neg hn])))
  unfold index_Check.f
  refine Ev.bind (serial_row_f hz.1 hz.2) (Q.Ev.ite (fun c1 => Q.Ev.ite (fun c2 => ?_) (fun c2 => j0 true rfl ?_)) (fun c1 => j0 true rfl ?_))
  · refine Ev.bind (pairs_f S) ?_
    by_cases c3 : (sumL is : Int) > 2000
    · rw [decide_eq_true c3]
      exact j0 true rfl (fun h => by omega)
    rw [decide_eq_false c3]
    refine Ev.step (fun k => by simp only [index_Check.j0]; rfl) (Q.Ev.neg (by decide) (Ev.bind (contains_f S.k2 S.k4) (Q.Ev.ite (fun c4 => Ev.ok ?_) (fun c4 => Ev.ok ?_))))
    · unfold chkI okB
      rw [if_neg (by rw [c4]; simp)]
    have e : okB ks is = true := by
      unfold okB
      rw [decide_eq_true c1, decide_eq_true (show ks.length = is.length by omega), Bool.eq_false_iff.2 c4]
      rfl
    unfold chkI
    rw [if_pos ⟨e, by omega⟩]
  · intro h
    have := (okB_iff.1 h.1).2.1
    omega
  intro h
  exact c1 (okB_iff.1 h.1).1
theorem ipairs_l1 {i : Nat} (h : i < is.length) (hk : ks.length = is.length) {R : List PrT × Bool} (m : Nat) : ∀ (j : Nat) (out : List PrT), is[i].length - j = m → j ≤ is[i].length → out.length + (is[i].length - j) ≤ 50000000 →
    (Ev (fun k => backhaulref14_Pairs.l0 k ks is (out ++ (is[i].drop j).map (fun n => (⟨ks[i]'(by omega), n⟩ : PrT))) ((i + 1 : Nat) : Int)) R) → Ev (fun k => backhaulref14_Pairs.l1 k ks is out (i : Int) (j : Int)) R := by
  have h4 := S.k4 _ (List.getElem_mem h)
  have h2 := S.k2
  induction m with
  | zero =>
    intro j out hd hj ho hR
    refine Ev.step (fun k => by simp only [backhaulref14_Pairs.l1]; rfl) (Ev.pos (by omega) (Ev.pos (by omega) ?_))
    rw [rdI h, wrap_eq (x := (i : Int) + 1) (by omega) (by omega)]
    rw [List.drop_eq_nil_of_le (by omega), List.map_nil, List.append_nil] at hR
    exact Ev.neg (by omega) hR
  | succ m ih =>
    intro j out hd hj ho hR
    have hjl : j < is[i].length := by omega
    refine Ev.step (fun k => by simp only [backhaulref14_Pairs.l1]; rfl) (Ev.pos (by omega) (Ev.pos (by omega) ?_))
    rw [rdI h, rdOf_nat (show i < ks.length by omega), rd_nat hjl, wrap_eq (x := (j : Int) + 1) (by omega) (by omega)]
    refine Ev.pos (by omega) (Ev.pos (by omega) (Ev.pos (by omega) (Ev.pos (by omega) ?_)))
    refine ih (j + 1) _ (by omega) (by omega) (by simp; omega) ?_
    rw [drop_cons hjl, List.map_cons] at hR
    rw [List.append_assoc, List.singleton_append]
    exact hR
theorem ipairs_l0 (hk : ks.length = is.length) (m : Nat) : ∀ (i : Nat) (out : List PrT), is.length - i = m → i ≤ is.length → out.length ≤ 5000 * i → Ev (fun k => backhaulref14_Pairs.l0 k ks is out (i : Int)) (if (is.drop i).any badB = true then ([], false) else (out ++ pairsOf (ks.drop i) (is.drop i), decide ((out ++ pairsOf (ks.drop i) (is.drop i)).length ≤ 2000))) := by
  have h2 := S.k2
  induction m with
  | zero =>
    intro i out hd hi ho
    refine Ev.step (fun k => by simp only [backhaulref14_Pairs.l0]; rfl) (Ev.neg (by omega) (Ev.ok ?_))
    rw [List.drop_eq_nil_of_le (by omega : is.length ≤ i), List.drop_eq_nil_of_le (by omega : ks.length ≤ i)]
    simp [pairsOf]
    omega
  | succ m ih =>
    intro i out hd hi ho
    have h : i < is.length := by omega
    have hk' : i < ks.length := by omega
    have h4 := S.k4 _ (List.getElem_mem h)
    rw [drop_cons h, drop_cons hk', List.any_cons]
    have bad : ∀ u : Bool, u = true → badB is[i] = true → Ev (fun k => backhaulref14_Pairs.j2 k ks is out (i : Int) u) (if (badB is[i] || (is.drop (i + 1)).any badB) = true then ([], false) else (out ++ pairsOf (ks[i] :: ks.drop (i + 1)) (is[i] :: is.drop (i + 1)), decide ((out ++ pairsOf (ks[i] :: ks.drop (i + 1)) (is[i] :: is.drop (i + 1))).length ≤ 2000))) := fun u hu hb =>
      Ev.step (fun k => by simp only [backhaulref14_Pairs.j2]; rfl) (Q.Ev.pos hu (Ev.ok (by rw [hb, Bool.true_or, if_pos rfl])))
    refine Ev.step (fun k => by simp only [backhaulref14_Pairs.l0]; rfl) (Ev.pos (by omega) (Ev.pos (by omega) (Ev.pos (by omega) ?_)))
    rw [rdI h]
    refine Q.Ev.ite (fun c => bad true rfl ?_) (fun c => Ev.bind (ref_Rising_f (by omega)) ?_)
    · unfold badB
      rw [decide_eq_true (by omega), Bool.true_or]
    by_cases c2 : rising 0 is[i] = 0
    · rw [c2]
      have hb : badB is[i] = false := badB_iff.2 ⟨fun e => c (by rw [e]; rfl), c2⟩
      rw [hb, Bool.false_or]
      refine Ev.step (fun k => by simp only [backhaulref14_Pairs.j2]; rfl) (Q.Ev.neg (by decide) ?_)
      refine ipairs_l1 S h hk is[i].length 0 out (by omega) (by omega) (by omega) ?_
      have := ih (i + 1) (out ++ is[i].map (fun n => (⟨ks[i], n⟩ : PrT))) (by omega) (by omega) (by simp; omega)
      rw [List.drop_zero]
      simp only [pairsOf, ← List.append_assoc]
      exact this
    refine bad _ (by simpa using c2) ?_
    unfold badB
    rw [Bool.or_eq_true]
    exact .inr (by simpa using c2)
theorem ref_pairs_f : Ev (fun k => backhaulref14_Pairs.f k ks is) (if okB ks is = true then (pairsOf ks is, decide (sumL is ≤ 2000)) else ([], false)) := by
  have hz := sizes_k S
  have j0 : ∀ u : Bool, u = true → ¬ okB ks is = true → Ev (fun k => backhaulref14_Pairs.j0 k ks is u) (if okB ks is = true then (pairsOf ks is, decide (sumL is ≤ 2000)) else ([], false)) := fun u hu hn =>
    Ev.step (fun k => by simp only [backhaulref14_Pairs.j0]; rfl) (Q.Ev.pos hu (Ev.ok (by rw [if_neg hn])))
  unfold backhaulref14_Pairs.f
  refine Ev.bind (ref01_row_f hz.1 hz.2) (Q.Ev.ite (fun c1 => ?_) (fun c1 => j0 true rfl (fun h => c1 (okB_iff.1 h).1)))
  by_cases c2 : ks.length = is.length
  · have e : ((ks.length : Int) != (is.length : Int)) = false := by simp [c2]
    rw [e]
    refine Ev.step (fun k => by simp only [backhaulref14_Pairs.j0]; rfl) (Q.Ev.neg (by decide) (Ev.eq (ipairs_l0 S c2 is.length 0 [] (by omega) (by omega) (by simp)) ?_))
    rw [List.drop_zero, List.drop_zero, List.nil_append, pairs_len ks is c2]
    have ho : okB ks is = !is.any badB := by unfold okB; rw [decide_eq_true c1, decide_eq_true c2]; rfl
    rw [ho]
    cases is.any badB <;> rfl
  have e : ((ks.length : Int) != (is.length : Int)) = true := by
    simp only [bne_iff_ne, ne_eq]
    omega
  exact j0 _ e (fun h => c2 (okB_iff.1 h).2.1)
end
end Go.Proofs.Ytdpcgigjlcpofaa.Q
set_option linter.unusedVariables false
set_option linter.unusedSimpArgs false
namespace Go.Proofs.Ytdpcgigjlcpofaa.Q
open Go.RowKit Go.Proofs.Ytdpcgigjlcpofaa.F Go.Proofs.YtdpcgigjlcpofaaX Go.Proofs.YtdpcgigjlcpofaaW.PrintWords Go.Proofs.YtdpcgigjlcpofaaW.PrintLast Go.Proofs.YtdpcgigjlcpofaaW.PrintMore
theorem chk_or (ks : List ByteArray) (is : List (List Int)) : chkI ks is = 0 ∨ chkI ks is = 40 := by
  unfold chkI
  split
  · exact .inl rfl
  exact .inr rfl
theorem chk_zero {ks : List ByteArray} {is : List (List Int)} : chkI ks is = 0 ↔ okI ks is ∧ sumL is ≤ 2000 := by
  unfold chkI
  split
  · rename_i h
    exact ⟨fun _ => ⟨okB_iff.1 h.1, h.2⟩, fun _ => rfl⟩
  rename_i h
  exact ⟨fun g => (by cases g), fun g => (h ⟨okB_iff.2 g.1, g.2⟩).elim⟩
theorem find_split {ks : List ByteArray} {is : List (List Int)} {s : ByteArray} {j : Nat} (hk : ks.length = is.length) (h : ks[j]? = some s) : ∃ hj : j < is.length, ks = ks.take j ++ s :: ks.drop (j + 1) ∧ is = is.take j ++ is[j] :: is.drop (j + 1) ∧ (ks.take j).length = (is.take j).length := by
  obtain ⟨h1, rfl⟩ := List.getElem?_eq_some_iff.1 h
  refine ⟨by omega, ?_, ?_, by simp; omega⟩
  · rw [← List.drop_eq_getElem_cons h1, List.take_append_drop]
  rw [← List.drop_eq_getElem_cons (by omega), List.take_append_drop]
section
variable {ks : List ByteArray} {is : List (List Int)} (S : Small ks is)
include S
end
end Go.Proofs.Ytdpcgigjlcpofaa.Q
set_option linter.unusedVariables false
set_option linter.unusedSimpArgs false
namespace Go.Proofs.Ytdpcgigjlcpofaa.Q
open Go.RowKit Go.Proofs.Ytdpcgigjlcpofaa.F Go.Proofs.YtdpcgigjlcpofaaX Go.Proofs.YtdpcgigjlcpofaaW.PrintWords Go.Proofs.YtdpcgigjlcpofaaW.PrintLast Go.Proofs.YtdpcgigjlcpofaaW.PrintMore
def fewI (ks : List ByteArray) (is : List (List Int)) : Bool := decide (ks.length ≤ 100) && (decide (is.length ≤ 100) && ((is.all fun l => decide (l.length ≤ 2100)) && ks.all fun x => decide (x.size ≤ 100)))
theorem ifew_l1 {ks : List ByteArray} {is : List (List Int)} (h1 : ks.length ≤ 100) (m : Nat) : ∀ i : Nat, ks.length - i = m → i ≤ ks.length → Ev (fun k => backhaullaw14_Few.l1 k (i : Int) ks is) ((ks.drop i).all fun x => decide (x.size ≤ 100)) := by
  induction m with
  | zero =>
    intro i hd hi
    refine Ev.step (fun k => by simp only [backhaullaw14_Few.l1]; rfl) (Ev.neg (by omega) (Ev.ok ?_))
    rw [List.drop_eq_nil_of_le (by omega)]
    rfl
  | succ m ih =>
    intro i hd hi
    have h : i < ks.length := by omega
    refine Ev.step (fun k => by simp only [backhaullaw14_Few.l1]; rfl) (Ev.pos (by omega) (Ev.pos (by omega) ?_))
    rw [rdOf_nat h, wrap_eq (x := (i : Int) + 1) (by omega) (by omega), drop_cons h, List.all_cons]
    refine Q.Ev.ite (fun c => Ev.ok ?_) (fun c => ?_)
    · rw [decide_eq_false (by omega), Bool.false_and]
    rw [decide_eq_true (by omega), Bool.true_and]
    exact ih (i + 1) (by omega) (by omega)
theorem ifew_l0 {ks : List ByteArray} {is : List (List Int)} (h1 : ks.length ≤ 100) (h2 : is.length ≤ 100) (m : Nat) : ∀ i : Nat, is.length - i = m → i ≤ is.length → Ev (fun k => backhaullaw14_Few.l0 k (i : Int) ks is) (((is.drop i).all fun l => decide (l.length ≤ 2100)) && ks.all fun x => decide (x.size ≤ 100)) := by
  induction m with
  | zero =>
    intro i hd hi
    have := ifew_l1 (is := is) h1 ks.length 0 (by omega) (by omega)
    rw [List.drop_zero] at this
    refine Ev.step (fun k => by simp only [backhaullaw14_Few.l0]; rfl) (Ev.neg (by omega) ?_)
    rw [List.drop_eq_nil_of_le (by omega)]
    exact this
  | succ m ih =>
    intro i hd hi
    have h : i < is.length := by omega
    refine Ev.step (fun k => by simp only [backhaullaw14_Few.l0]; rfl) (Ev.pos (by omega) (Ev.pos (by omega) ?_))
    rw [rdI h, wrap_eq (x := (i : Int) + 1) (by omega) (by omega), drop_cons h, List.all_cons]
    refine Q.Ev.ite (fun c => Ev.ok ?_) (fun c => ?_)
    · rw [decide_eq_false (by omega), Bool.false_and, Bool.false_and]
    rw [decide_eq_true (by omega), Bool.true_and]
    exact ih (i + 1) (by omega) (by omega)
theorem ifew_f (ks : List ByteArray) (is : List (List Int)) : Ev (fun k => backhaullaw14_Few.f k ks is) (fewI ks is) := by
  unfold backhaullaw14_Few.f fewI
  have bad : ∀ u : Bool, u = true → Ev (fun k => backhaullaw14_Few.j0 k u ks is) false := fun u hu =>
    Ev.step (fun k => by simp only [backhaullaw14_Few.j0]; rfl) (Q.Ev.pos hu (Ev.ok rfl))
  refine Q.Ev.ite (fun c => ?_) (fun c => ?_)
  · rw [decide_eq_false (show ¬ ks.length ≤ 100 by omega), Bool.false_and]
    exact bad true rfl
  rw [decide_eq_true (show ks.length ≤ 100 by omega), Bool.true_and]
  by_cases c2 : (is.length : Int) > 100
  · rw [decide_eq_true c2, decide_eq_false (show ¬ is.length ≤ 100 by omega), Bool.false_and]
    exact bad true rfl
  rw [decide_eq_false c2, decide_eq_true (show is.length ≤ 100 by omega), Bool.true_and]
  refine Ev.step (fun k => by simp only [backhaullaw14_Few.j0]; rfl) (Q.Ev.neg (by decide) ?_)
  have := ifew_l0 (ks := ks) (is := is) (by omega) (by omega) is.length 0 (by omega) (by omega)
  rw [List.drop_zero] at this
  exact this
theorem few_small {ks : List ByteArray} {is : List (List Int)} (h : fewI ks is = true) : Small ks is := by
  unfold fewI at h
  simp only [Bool.and_eq_true, decide_eq_true_eq, List.all_eq_true] at h
  exact ⟨by omega, by omega, fun x hx => by have := h.2.2.2 x hx; omega, fun l hl => by have := h.2.2.1 l hl; omega⟩
end Go.Proofs.Ytdpcgigjlcpofaa.Q
set_option linter.unusedVariables false
set_option linter.unusedSimpArgs false
namespace Go.Proofs.Ytdpcgigjlcpofaa.Q
open Go.RowKit Go.Proofs.Ytdpcgigjlcpofaa.F Go.Proofs.YtdpcgigjlcpofaaX Go.Proofs.YtdpcgigjlcpofaaW.PrintWords Go.Proofs.YtdpcgigjlcpofaaW.PrintLast Go.Proofs.YtdpcgigjlcpofaaW.PrintMore
theorem ser_size {s : ByteArray} (h : checkS s = 0) : s.size ≤ 16 := by
  have := ((checkS_iff s).1 h).1.2.1
  rw [Array.length_toList] at this
  exact this
theorem sum_mem : ∀ {is : List (List Int)} {l : List Int}, l ∈ is → l.length ≤ sumL is
  | [], _, h => by simp at h
  | a :: is, l, h => by
    rw [sumL_cons]
    rcases List.mem_cons.1 h with rfl | h
    · omega
    have := sum_mem h
    omega
theorem sum_len : ∀ {is : List (List Int)}, (∀ l ∈ is, l ≠ []) → is.length ≤ sumL is
  | [], _ => by simp
  | a :: is, h => by
    rw [sumL_cons, List.length_cons]
    have := sum_len fun l hl => h l (List.mem_cons_of_mem _ hl)
    have := List.length_pos_iff.2 (h a List.mem_cons_self)
    omega
theorem chk_small {ks : List ByteArray} {is : List (List Int)} (h : chkI ks is = 0) : Small ks is := by
  obtain ⟨ho, h2⟩ := chk_zero.1 h
  have h3 := sum_len fun l hl => (ho.2.2 l hl).1
  have h4 := ho.2.1
  refine ⟨by omega, by omega, fun x hx => ?_, fun l hl => ?_⟩
  · have := ser_size ((rowG_zero ho.1).1 x hx)
    omega
  have := sum_mem hl
  omega
def ltb (q p : PrT) : Bool := Op.bytesLess q.f0.toList p.f0.toList || (decide (q.f0 = p.f0) && decide (q.f1 < p.f1))
theorem ltb_iff {q p : PrT} : ltb q p = true ↔ ltP q p := by
  unfold ltb ltP lt8
  rw [Bool.or_eq_true, Bool.and_eq_true, decide_eq_true_eq, decide_eq_true_eq]
def insP (p : PrT) : List PrT → List PrT
  | [] => [p]
  | q :: r => if ltb q p = true then q :: insP p r else p :: q :: r
theorem mem_insP {p x : PrT} : ∀ (l : List PrT), x ∈ insP p l ↔ x = p ∨ x ∈ l
  | [] => by simp [insP]
  | q :: r => by
    unfold insP
    split
    · rw [List.mem_cons, mem_insP r, List.mem_cons]
      exact ⟨fun h => h.elim (fun h => .inr (.inl h)) (fun h => h.elim .inl (fun h => .inr (.inr h))), fun h => h.elim (fun h => .inr (.inl h)) (fun h => h.elim .inl (fun h => .inr (.inr h)))⟩
    rw [List.mem_cons]
theorem len_insP {p : PrT} : ∀ (l : List PrT), (insP p l).length = l.length + 1
  | [] => rfl
  | q :: r => by
    unfold insP
    split
    · rw [List.length_cons, len_insP r, List.length_cons]
    rfl
theorem insP_sorted {p : PrT} : ∀ (l : List PrT), l.Pairwise ltP → p ∉ l → (insP p l).Pairwise ltP
  | [], _, _ => by simp [insP]
  | q :: r, h, hp => by
    obtain ⟨h1, h2⟩ := List.pairwise_cons.1 h
    unfold insP
    split
    · rename_i c
      refine List.pairwise_cons.2 ⟨fun x hx => ?_, insP_sorted r h2 fun g => hp (List.mem_cons_of_mem _ g)⟩
      rcases (mem_insP r).1 hx with rfl | g
      · exact ltb_iff.1 c
      exact h1 x g
    rename_i c
    have hq : ltP p q := Classical.byContradiction fun g => hp (by rw [ltP_total g (fun g' => c (ltb_iff.2 g'))]; exact List.mem_cons_self)
    refine List.pairwise_cons.2 ⟨fun x hx => ?_, h⟩
    rcases List.mem_cons.1 hx with rfl | g
    · exact hq
    exact ltP_trans hq (h1 x g)
def hasB (l : List PrT) (s : ByteArray) (id : Int) : Bool := l.any fun p => decide (p.f0 = s) && decide (p.f1 = id)
theorem hasB_iff {l : List PrT} {s : ByteArray} {id : Int} : hasB l s id = true ↔ (⟨s, id⟩ : PrT) ∈ l := by
  unfold hasB
  rw [List.any_eq_true]
  constructor
  · rintro ⟨p, hp, h⟩
    rw [Bool.and_eq_true, decide_eq_true_eq, decide_eq_true_eq] at h
    rwa [← prT_ext (p := p) (q := ⟨s, id⟩) h.1 h.2]
  intro h
  exact ⟨_, h, by simp⟩
def addR (s : ByteArray) : List PrT → List Int → List PrT × Int
  | l, [] => (l, 0)
  | l, id :: r => if id < 1 ∨ id > 999999 then ([], 31) else if hasB l s id = true then ([], 32) else if 2000 ≤ l.length then ([], 37) else addR s (insP ⟨s, id⟩ l) r
def dropP (l : List PrT) (s : ByteArray) (id : Int) : List PrT := l.filter fun p => !(decide (p.f0 = s) && decide (p.f1 = id))
theorem mem_dropP {l : List PrT} {s : ByteArray} {id : Int} {p : PrT} : p ∈ dropP l s id ↔ p ∈ l ∧ ¬ (p.f0 = s ∧ p.f1 = id) := by
  unfold dropP
  rw [List.mem_filter, Bool.not_eq_true', Bool.and_eq_false_iff, decide_eq_false_iff_not, decide_eq_false_iff_not]
  exact and_congr Iff.rfl Decidable.not_and_iff_not_or_not.symm
theorem dropP_sorted {l : List PrT} {s : ByteArray} {id : Int} (h : l.Pairwise ltP) : (dropP l s id).Pairwise ltP := h.sublist List.filter_sublist
theorem dropP_len {l : List PrT} {s : ByteArray} {id : Int} : (dropP l s id).length = l.length ↔ hasB l s id = false := by
  unfold dropP hasB
  rw [List.length_filter_eq_length_iff, List.any_eq_false]
  constructor
  · intro h p hp
    have := h p hp
    intro g
    rw [g] at this
    exact absurd this (by decide)
  intro h p hp
  have := h p hp
  rw [Bool.not_eq_true] at this
  rw [this]
  rfl
theorem has_l0 {l : List PrT} {s : ByteArray} {id : Int} (hl : l.length ≤ 30000000) (m : Nat) : ∀ i : Nat, l.length - i = m → i ≤ l.length → Ev (fun k => backhaulref14_has.l0 k l (i : Int) s id) (hasB (l.drop i) s id) := by
  induction m with
  | zero =>
    intro i hd hi
    refine Ev.step (fun k => by simp only [backhaulref14_has.l0]; rfl) (Ev.neg (by omega) (Ev.ok ?_))
    rw [List.drop_eq_nil_of_le (by omega)]
    rfl
  | succ m ih =>
    intro i hd hi
    have h : i < l.length := by omega
    refine Ev.step (fun k => by simp only [backhaulref14_has.l0]; rfl) (Ev.pos (by omega) (Ev.pos (by omega) ?_))
    rw [rdP h, wrap_eq (x := (i : Int) + 1) (by omega) (by omega), drop_cons h]
    have e : ((l[i].f0.toList == s.toList) && (l[i].f1 == id)) = (decide (l[i].f0 = s) && decide (l[i].f1 = id)) := by
      congr 1
      rw [Bool.eq_iff_iff, beq_iff_eq, decide_eq_true_eq, bytes_ext]
    unfold hasB
    rw [List.any_cons]
    refine Q.Ev.ite (fun c => Ev.ok ?_) (fun c => ?_)
    · rw [e] at c
      rw [c, Bool.true_or]
    rw [e] at c
    rw [Bool.eq_false_iff.2 c, Bool.false_or]
    exact ih (i + 1) (by omega) (by omega)
theorem has_f {l : List PrT} {s : ByteArray} {id : Int} (hl : l.length ≤ 30000000) : Ev (fun k => backhaulref14_has.f k l s id) (hasB l s id) := by
  unfold backhaulref14_has.f
  have := has_l0 (s := s) (id := id) hl l.length 0 (by omega) (by omega)
  rw [List.drop_zero] at this
  exact this
theorem radd_l0 {l : List PrT} {s : ByteArray} {id : Int} (hl : l.length ≤ 30000000) (m : Nat) : ∀ i : Nat, l.length - i = m → i ≤ l.length → Ev (fun k => backhaulref14_add.l0 k l (i : Int) s id) (l.take i ++ insP ⟨s, id⟩ (l.drop i)) := by
  have take_one : ∀ i, (h : i < l.length) → l.take (i + 1) ++ insP ⟨s, id⟩ (l.drop (i + 1)) = l.take i ++ (l[i] :: insP ⟨s, id⟩ (l.drop (i + 1))) := fun i h => by
    rw [List.take_succ_eq_append_getElem h, List.append_assoc, List.singleton_append]
  induction m with
  | zero =>
    intro i hd hi
    refine Ev.step (fun k => by simp only [backhaulref14_add.l0]; rfl) (Ev.neg (by omega) ?_)
    simp only [Option.bind_some]
    refine Ev.pos (by omega) (Ev.pos (by omega) (Ev.pos (by simp; omega) (Ev.pos (by simp; omega) (Ev.pos (by simp; omega) (Ev.ok ?_)))))
    rw [Int.toNat_natCast, List.drop_eq_nil_of_le (show l.length ≤ i by omega)]
    simp [insP]
  | succ m ih =>
    intro i hd hi
    have h : i < l.length := by omega
    refine Ev.step (fun k => by simp only [backhaulref14_add.l0]; rfl) (Ev.pos (by omega) (Ev.pos (by omega) ?_))
    rw [rdP h, wrap_eq (x := (i : Int) + 1) (by omega) (by omega), drop_cons h]
    simp only [Option.bind_some]
    have next := ih (i + 1) (by omega) (by omega)
    rw [take_one i h] at next
    have stop : ltb l[i] ⟨s, id⟩ ≠ true → [] ++ l.take ((i : Int)).toNat ++ [(⟨s, id⟩ : PrT)] ++ l.drop ((i : Int)).toNat = l.take i ++ insP ⟨s, id⟩ (l[i] :: l.drop (i + 1)) := fun c => by
      unfold insP
      rw [if_neg c, Int.toNat_natCast, drop_cons h]
      simp
    have more : ltb l[i] ⟨s, id⟩ = true → insP ⟨s, id⟩ (l[i] :: l.drop (i + 1)) = l[i] :: insP ⟨s, id⟩ (l.drop (i + 1)) := fun c => by
      conv => lhs; unfold insP
      rw [if_pos c]
    refine Q.Ev.ite (fun c => ?_) (fun c => ?_)
    · rw [more (by unfold ltb; rw [c, Bool.true_or])]
      exact next
    refine Q.Ev.ite (fun c2 => Q.Ev.ite (fun c3 => ?_) (fun c3 => ?_)) (fun c2 => ?_)
    · rw [more (by unfold ltb; rw [decide_eq_true (bytes_ext.1 c2), decide_eq_true c3]; simp)]
      exact next
    · exact Ev.pos (by omega) (Ev.pos (by simp; omega) (Ev.pos (by simp; omega) (Ev.pos (by simp; omega) (Ev.ok (stop (by unfold ltb; rw [Bool.eq_false_iff.2 c, decide_eq_false c3]; simp))))))
    exact Ev.pos (by omega) (Ev.pos (by simp; omega) (Ev.pos (by simp; omega) (Ev.pos (by simp; omega) (Ev.ok (stop (by unfold ltb; rw [Bool.eq_false_iff.2 c, decide_eq_false (fun g => c2 (bytes_ext.2 g))]; simp))))))
theorem radd_f {l : List PrT} {s : ByteArray} {id : Int} (hl : l.length ≤ 30000000) : Ev (fun k => backhaulref14_add.f k l s id) (insP ⟨s, id⟩ l) := by
  unfold backhaulref14_add.f
  have := radd_l0 (s := s) (id := id) hl l.length 0 (by omega) (by omega)
  rw [List.drop_zero, List.take_zero, List.nil_append] at this
  exact this
theorem rAdd_l0 {s : ByteArray} {ids : List Int} (h2 : ids.length ≤ 5000) (m : Nat) : ∀ (i : Nat) (l : List PrT), ids.length - i = m → i ≤ ids.length → l.length ≤ 20000000 + i → Ev (fun k => backhaulref14_Add.l0 k l s ids (i : Int)) (addR s l (ids.drop i)) := by
  induction m with
  | zero =>
    intro i l hd hi hl
    refine Ev.step (fun k => by simp only [backhaulref14_Add.l0]; rfl) (Ev.neg (by omega) (Ev.ok ?_))
    rw [List.drop_eq_nil_of_le (by omega)]
    rfl
  | succ m ih =>
    intro i l hd hi hl
    have h : i < ids.length := by omega
    rw [drop_cons h]
    unfold addR
    have out : ∀ u : Bool, u = true → Ev (fun k => backhaulref14_Add.j1 k l s ids (i : Int) u) (([], 31) : List PrT × Int) := fun u hu =>
      Ev.step (fun k => by simp only [backhaulref14_Add.j1]; rfl) (Q.Ev.pos hu (Ev.ok rfl))
    refine Ev.step (fun k => by simp only [backhaulref14_Add.l0]; rfl) (Ev.pos (by omega) (Ev.pos (by omega) ?_))
    rw [rd_nat h]
    by_cases c1 : ids[i] < 1
    · rw [if_pos (.inl c1)]
      exact Q.Ev.pos c1 (out true rfl)
    refine Q.Ev.neg c1 ?_
    by_cases c2 : ids[i] > 999999
    · rw [if_pos (.inr c2)]
      exact out _ (decide_eq_true c2)
    rw [if_neg (fun g => g.elim c1 c2), decide_eq_false c2]
    refine Ev.step (fun k => by simp only [backhaulref14_Add.j1]; rfl) (Q.Ev.neg (by decide) (Ev.pos (by omega) (Ev.pos (by omega) ?_)))
    rw [rd_nat h, wrap_eq (x := (i : Int) + 1) (by omega) (by omega)]
    refine Ev.bind (has_f (by omega)) (Q.Ev.ite (fun c3 => Ev.ok (by rw [if_pos c3])) (fun c3 => ?_))
    rw [if_neg c3]
    refine Q.Ev.ite (fun c4 => Ev.ok (by rw [if_pos (by omega)])) (fun c4 => ?_)
    rw [if_neg (by omega)]
    exact Ev.bind (radd_f (by omega)) (ih (i + 1) _ (by omega) (by omega) (by rw [len_insP]; omega))
theorem ref_add_f {l : List PrT} {s : ByteArray} {ids : List Int} (hl : l.length ≤ 20000000) (hs : s.size < 1099511627776) (h2 : ids.length ≤ 5000) : Ev (fun k => backhaulref14_Add.f k l s ids) (if checkS s = 0 then addR s l ids else ([], 9)) := by
  unfold backhaulref14_Add.f
  refine Ev.bind (ref01_check_f s hs) (Q.Ev.ite (fun c => ?_) (fun c => Ev.ok (by rw [if_neg c])))
  rw [if_pos c]
  have := rAdd_l0 (s := s) h2 ids.length 0 l (by omega) (by omega) (by omega)
  rw [List.drop_zero] at this
  exact this
theorem rdrop_l0 {l : List PrT} {s : ByteArray} {id : Int} (hl : l.length ≤ 30000000) (m : Nat) : ∀ (i : Nat) (out : List PrT), l.length - i = m → i ≤ l.length → out.length ≤ i → Ev (fun k => backhaulref14_Drop.l0 k l s id out (i : Int)) (if (out ++ dropP (l.drop i) s id).length = l.length then ([], 31) else (out ++ dropP (l.drop i) s id, 0)) := by
  induction m with
  | zero =>
    intro i out hd hi ho
    refine Ev.step (fun k => by simp only [backhaulref14_Drop.l0]; rfl) (Ev.neg (by omega) ?_)
    have e : out ++ dropP (l.drop i) s id = out := by rw [List.drop_eq_nil_of_le (by omega)]; simp [dropP]
    rw [e]
    refine Q.Ev.ite (fun c => Ev.ok ?_) (fun c => Ev.ok ?_)
    · rw [if_pos (by omega)]
    rw [if_neg (by omega)]
  | succ m ih =>
    intro i out hd hi ho
    have h : i < l.length := by omega
    refine Ev.step (fun k => by simp only [backhaulref14_Drop.l0]; rfl) (Ev.pos (by omega) (Ev.pos (by omega) ?_))
    rw [rdP h, wrap_eq (x := (i : Int) + 1) (by omega) (by omega), drop_cons h]
    have keep : ¬ (l[i].f0 = s ∧ l[i].f1 = id) → out ++ dropP (l[i] :: l.drop (i + 1)) s id = (out ++ [l[i]]) ++ dropP (l.drop (i + 1)) s id := fun c => by
      unfold dropP
      rw [List.filter_cons_of_pos (by rw [Bool.not_eq_true', Bool.and_eq_false_iff, decide_eq_false_iff_not, decide_eq_false_iff_not]; exact Decidable.not_and_iff_not_or_not.1 c), List.append_assoc, List.singleton_append]
    refine Q.Ev.ite (fun c => Q.Ev.ite (fun c2 => ?_) (fun c2 => ?_)) (fun c => ?_)
    · have e : dropP (l[i] :: l.drop (i + 1)) s id = dropP (l.drop (i + 1)) s id := by
        unfold dropP
        rw [List.filter_cons_of_neg (by simp [bytes_ext.1 c, c2])]
      rw [e]
      exact ih (i + 1) _ (by omega) (by omega) (by omega)
    · rw [keep (fun g => c2 g.2)]
      exact Ev.pos (by omega) (ih (i + 1) _ (by omega) (by omega) (by simp; omega))
    rw [keep (fun g => c (bytes_ext.2 g.1))]
    exact Ev.pos (by omega) (ih (i + 1) _ (by omega) (by omega) (by simp; omega))
theorem ref_drop_f {l : List PrT} {s : ByteArray} {id : Int} (hl : l.length ≤ 30000000) : Ev (fun k => backhaulref14_Drop.f k l s id) (if hasB l s id = true then (dropP l s id, 0) else ([], 31)) := by
  unfold backhaulref14_Drop.f
  have := rdrop_l0 (s := s) (id := id) hl l.length 0 [] (by omega) (by omega) (by simp)
  rw [List.drop_zero, List.nil_append] at this
  refine Ev.eq this ?_
  by_cases c : hasB l s id = true
  · rw [if_pos c, if_neg (fun g => by rw [dropP_len.1 g] at c; cases c)]
  rw [if_neg c, if_pos (dropP_len.2 (Bool.eq_false_iff.2 c))]
theorem rsame_l0 {l : List PrT} (hl : l.length ≤ 30000000) (m : Nat) : ∀ i : Nat, l.length - i = m → i ≤ l.length → Ev (fun k => backhaulref14_Same.l0 k l l (i : Int)) true := by
  induction m with
  | zero =>
    intro i hd hi
    exact Ev.step (fun k => by simp only [backhaulref14_Same.l0]; rfl) (Ev.neg (by omega) (Ev.ok rfl))
  | succ m ih =>
    intro i hd hi
    refine Ev.step (fun k => by simp only [backhaulref14_Same.l0]; rfl) (Ev.pos (by omega) (Ev.pos (by omega) (Ev.pos (by omega) (Q.Ev.neg (by simp) ?_))))
    rw [wrap_eq (x := (i : Int) + 1) (by omega) (by omega)]
    exact ih (i + 1) (by omega) (by omega)
theorem same_pairs_f {ks : List ByteArray} {is : List (List Int)} {l : List PrT} (h : chkI ks is = 0) (e : pairsOf ks is = l) : Ev (fun k => backhaullaw14_same.f k ks is l) true := by
  subst e
  obtain ⟨ho, h2⟩ := chk_zero.1 h
  have hl : (pairsOf ks is).length ≤ 2000 := by rw [pairs_len ks is ho.2.1]; exact h2
  unfold backhaullaw14_same.f
  refine Ev.bind (ref_pairs_f (chk_small h)) ?_
  rw [if_pos (okB_iff.2 ho)]
  refine Q.Ev.pos (decide_eq_true h2) (Ev.bind (a := true) ?_ (Ev.ok rfl))
  unfold backhaulref14_Same.f
  exact Q.Ev.pos rfl (rsame_l0 (l := pairsOf ks is) (by omega) (pairsOf ks is).length 0 (by omega) (by omega))
end Go.Proofs.Ytdpcgigjlcpofaa.Q
