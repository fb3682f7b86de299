-- merged and pruned by prune.py (the session's own program); its words go back to the kit's print
import Derived.Test.YtdpcgigjlcpofaaProg
import Derived.Below
import Derived.Deep.Draws
import Derived.Deep.AppendLies
import Derived.Maps.AppendAt
import Derived.OwnWalk
import Derived.Laws.BytesArg
import Derived.Laws.MakeOwn
import Derived.Laws.OwnMore
import Derived.Deep.OwnRows
import Derived.Tactics
import Derived.Lib.ConvBytes
import Derived.Laws.Slices
import Derived.WalkKit
import Derived.KernelRfl
import Derived.RowKit3
import Derived.Deep.LoopGhost
import Derived.Deep.QuietTactic
import Derived.BigQuiet
import Derived.WideLaws
import Derived.Deep.DeepCutAuto
import Derived.Deep.CutBlock
import Derived.Deep.RegionHeld3
import Derived.Laws.Rows
import Derived.Lib.AppendStr
import Derived.ArgAppend
import Derived.Laws.IdiomCopy
import Derived.OrdersHeld
import Derived.Laws.BitsLemmas
import Derived.RowKit
import Derived.Laws.StructEq
import Derived.Deep.RegionLawGrows
import Derived.Lib.SliceRun
import Derived.Lib.OthersKept
import Derived.Lib.RuneCount
import Derived.Laws.Cover4
import Derived.Outline
import Derived.Shelf.Strings.Builder1
import Derived.Shelf.Strings.BuilderF
import Derived.Shelf.Strings.BuilderK
import Derived.Shelf.Utf8.RuneCount
import Derived.Shelf.Strings.Prefix
import Derived.Ground.Names2Prog
import Derived.Shelf.Slices.ReverseS
import Derived.Shelf.Slices.Clone
import Derived.Shelf.Slices.SearchI
import Derived.Shelf.Slices.Delete
import Derived.Shelf.Slices.Cells
import Derived.Shelf.Slices.Empties
import Derived.Ground.SlgnProg
import Derived.Shelf.SlicesE.Clone
import Derived.Laws.CopyRow
import Derived.Laws.CopyOwn
import Derived.Shelf.Spec.SlicesInsertGrow
import Derived.Test.YtdpcgigjlcpofaaZIndexTurns3
namespace Go.Proofs.Ytdpcgigjlcpofaa.F
open Go.RowKit Go.Proofs.YtdpcgigjlcpofaaX Go.Proofs.YtdpcgigjlcpofaaW.PrintWords Go.Proofs.YtdpcgigjlcpofaaW.PrintLast Go.Proofs.YtdpcgigjlcpofaaW.PrintMore
attribute [local go_sem] max2_int min2_int max_two min_two max_three min_three max_four min_four   
attribute [local go_sem high] str_geq str_leq str_gtr
set_option linter.unusedVariables false
set_option linter.unusedSimpArgs false
mutual
def backhaulref01_Fold.j0 : Nat → ByteArray → Bool → Option (ByteArray × Int)
  | 0, _, _ => none
  | k + 1, x0, x27 => if x27 = true then (some ((⟨#[]⟩ : ByteArray), 9)) else (backhaulref01_Fold.l0 k x0 ([] : List Int) 0)
def backhaulref01_Fold.l0 : Nat → ByteArray → List Int → Int → Option (ByteArray × Int)
  | 0, _, _, _ => none
  | k + 1, x0, x4, x5 => if x5 < (x0.size : Int) then (if 0 ≤ x5 then ((backhaulref01_Class.f k (wrap32 (bt x0 x5))).bind fun t101 => (if t101 = 0 then (backhaulref01_Fold.j2 k x0 x4 x5 (bt x0 x5) true) else (if (bt x0 x5) = 45 then (if 0 ≤ (wrap64 (x5 - 1)) then (if (wrap64 (x5 - 1)) < (x0.size : Int) then (backhaulref01_Fold.j2 k x0 x4 x5 (bt x0 x5) ((bt x0 (wrap64 (x5 - 1))) == 45)) else (none)) else (none)) else (backhaulref01_Fold.j2 k x0 x4 x5 (bt x0 x5) false)))) else (none)) else (some (strOfNums x4, 0))
def backhaulref01_Fold.j2 : Nat → ByteArray → List Int → Int → Int → Bool → Option (ByteArray × Int)
  | 0, _, _, _, _, _ => none
  | k + 1, x0, x4, x5, x6, x51 => if x51 = true then (some ((⟨#[]⟩ : ByteArray), 9)) else (if x6 ≥ 97 then (if x6 ≤ 122 then (if x4.length < 140737488355328 then (backhaulref01_Fold.l0 k x0 (x4 ++ [(x6 - 32) % 256]) (wrap64 (x5 + 1))) else (none)) else (if x4.length < 140737488355328 then (backhaulref01_Fold.l0 k x0 (x4 ++ [x6]) (wrap64 (x5 + 1))) else (none))) else (if x4.length < 140737488355328 then (backhaulref01_Fold.l0 k x0 (x4 ++ [x6]) (wrap64 (x5 + 1))) else (none)))
end
def backhaulref01_Fold.f (k : Nat) (a0 : ByteArray) : Option (ByteArray × Int) := if (a0.size : Int) = 0 then (backhaulref01_Fold.j0 k a0 true) else (if (a0.size : Int) > 16 then (backhaulref01_Fold.j0 k a0 true) else (if 0 < (a0.size : Int) then (if (bt a0 0) = 45 then (backhaulref01_Fold.j0 k a0 true) else (if 0 ≤ (wrap64 ((a0.size : Int) - 1)) then (if (wrap64 ((a0.size : Int) - 1)) < (a0.size : Int) then (backhaulref01_Fold.j0 k a0 ((bt a0 (wrap64 ((a0.size : Int) - 1))) == 45)) else (none)) else (none))) else (none)))
theorem backhaulref01_Fold.mono_l : ∀ k, (∀ y0 y1, LeO (backhaulref01_Fold.j0 k y0 y1) (backhaulref01_Fold.j0 (k + 1) y0 y1)) ∧ (∀ y0 y1 y2, LeO (backhaulref01_Fold.l0 k y0 y1 y2) (backhaulref01_Fold.l0 (k + 1) y0 y1 y2)) ∧ (∀ y0 y1 y2 y3 y4, LeO (backhaulref01_Fold.j2 k y0 y1 y2 y3 y4) (backhaulref01_Fold.j2 (k + 1) y0 y1 y2 y3 y4))
  | 0 => ⟨fun _ _ r h => by simp [backhaulref01_Fold.j0] at h, fun _ _ _ r h => by simp [backhaulref01_Fold.l0] at h, fun _ _ _ _ _ r h => by simp [backhaulref01_Fold.j2] at h⟩
  | k + 1 => by
    obtain ⟨ih0, ih1, ih2⟩ := backhaulref01_Fold.mono_l k
    refine ⟨?_, ?_, ?_⟩
    · intro y0 y1
      unfold backhaulref01_Fold.j0
      repeat' (with_reducible first | exact ih0 _ _ | exact ih1 _ _ _ | exact ih2 _ _ _ _ _ | exact backhaulref01_Class.mono _ _ | exact LeO.refl _ | exact LeO.none _ | refine LeO.ite ?_ ?_ | refine LeO.bind ?_ (fun _ => ?_))
    · intro y0 y1 y2
      unfold backhaulref01_Fold.l0
      repeat' (with_reducible first | exact ih0 _ _ | exact ih1 _ _ _ | exact ih2 _ _ _ _ _ | exact backhaulref01_Class.mono _ _ | exact LeO.refl _ | exact LeO.none _ | refine LeO.ite ?_ ?_ | refine LeO.bind ?_ (fun _ => ?_))
    intro y0 y1 y2 y3 y4
    unfold backhaulref01_Fold.j2
    repeat' (with_reducible first | exact ih0 _ _ | exact ih1 _ _ _ | exact ih2 _ _ _ _ _ | exact backhaulref01_Class.mono _ _ | exact LeO.refl _ | exact LeO.none _ | refine LeO.ite ?_ ?_ | refine LeO.bind ?_ (fun _ => ?_))
theorem backhaulref01_Fold.mono : ∀ a0 k, LeO (backhaulref01_Fold.f k a0) (backhaulref01_Fold.f (k + 1) a0) := by
  intro a0 k
  obtain ⟨ih0, ih1, ih2⟩ := backhaulref01_Fold.mono_l k
  unfold backhaulref01_Fold.f
  repeat' (with_reducible first | exact ih0 _ _ | exact ih1 _ _ _ | exact ih2 _ _ _ _ _ | exact backhaulref01_Class.mono _ _ | exact LeO.refl _ | exact LeO.none _ | refine LeO.ite ?_ ?_ | refine LeO.bind ?_ (fun _ => ?_))
set_option maxHeartbeats 8000000 in
set_option maxRecDepth 100000 in
theorem backhaulref01_Fold.calls (k : Nat) (a0 : ByteArray) (r1 : ByteArray) (r2 : Int) (w : World) (h : backhaulref01_Fold.f k a0 = some (r1, r2)) :
    Calls Try.prog 142 #[.string a0] w fun e w' => e = .returned (.tuple #[.string r1, .int .i64 r2]) ∧ Below w.heap.size w w' := by
  have HB := zA (Below.refl w.heap.size w)
  have H : (if (a0.size : Int) = 0 then (backhaulref01_Fold.j0 k a0 true) else (if (a0.size : Int) > 16 then (backhaulref01_Fold.j0 k a0 true) else (if 0 < (a0.size : Int) then (if (bt a0 0) = 45 then (backhaulref01_Fold.j0 k a0 true) else (if 0 ≤ (wrap64 ((a0.size : Int) - 1)) then (if (wrap64 ((a0.size : Int) - 1)) < (a0.size : Int) then (backhaulref01_Fold.j0 k a0 ((bt a0 (wrap64 ((a0.size : Int) - 1))) == 45)) else (none)) else (none))) else (none)))) = some (r1, r2) := h
  clear h
  have HC2 := zA H
  clear H
  go_enter Try.func142, Try.ntmps142
  go_upto_region 1 with (fail)
  go_cut [27] (fun v27 wc => ∃ (kq : Nat) (x27_1 : Bool), v27 = .bool x27_1 ∧ Aside0 (backhaulref01_Fold.j0 kq a0 x27_1 = some (r1, r2)) ∧ Aside0 (kq ≤ k) ∧ Aside0 (Below w.heap.size w wc))
  case first =>
    have H := HC2.out; clear HC2; by_cases c3 : (a0.size : Int) = 0
    · rw [if_pos c3] at H
      have c3b0 : ((a0.size : Int) == 0) = true := beq_iff_eq.mpr c3; have c3b1 : ((a0.size : Int) != 0) = false := bne_eq_false_iff_eq.mpr c3; clear c3; (first | rw [c3b0] | (simp only [i64_w, i32_w]; rw [c3b0]) | skip)
      have H' := zA H; clear H; go_wp2; go_meet
      case rel => exact ⟨_, (true), (by first | rfl | (simp; done) | (simp [*]; done)), H', ⟨by first | omega | exact Nat.le_refl _⟩, ⟨qB⟩⟩
    rw [if_neg c3] at H; have c3b0 : ((a0.size : Int) == 0) = false := beq_eq_false_iff_ne.mpr c3; have c3b1 : ((a0.size : Int) != 0) = true := bne_iff_ne.mpr c3; (first | rw [c3b0] | (simp only [i64_w, i32_w]; rw [c3b0]) | skip)
    by_cases c4 : (a0.size : Int) > 16
    · rw [if_pos c4] at H
      have c4b0 : decide (16 < (a0.size : Int)) = true := zFq c4; have c4b1 : decide (16 < a0.size) = true := zFq (by omega); clear c4; have H' := zA H; clear H; go_wp2; go_meet
      case rel => exact ⟨_, (true), (by first | rfl | (simp; done) | (simp [*]; done)), H', ⟨by first | omega | exact Nat.le_refl _⟩, ⟨qB⟩⟩
    rw [if_neg c4] at H; have c4b0 : decide (16 < (a0.size : Int)) = false := zGq c4; have c4b1 : decide (16 < a0.size) = false := zGq (by omega); clear c4; by_cases c5 : 0 < (a0.size : Int)
    · rw [if_pos c5] at H
      have c5b0 : decide (0 < (a0.size : Int)) = true := zFq c5; have c5b1 : decide (0 < a0.size) = true := zFq (by omega); clear c5; by_cases c7 : (bt a0 0) = 45
      · rw [if_pos c7] at H
        have c7b0 : ((bt a0 0) == 45) = true := beq_iff_eq.mpr c7; have c7b1 : ((bt a0 0) != 45) = false := bne_eq_false_iff_eq.mpr c7; clear c7; have H' := zA H; clear H; have p6 : 0 ≤ (0 : Int) := (by omega)
        have q6 : 0 < a0.size := (by have : (0 : Int) < (a0.size : Int) := of_decide_eq_true qA; omega)
        have hx6 : ∀ h : 0 < a0.size, ((a0[0]'h).toNat : Int) = bt a0 0 := bt_at a0 0; clear p6; have qi6 : (0 < (a0.size : Int)) = True := eq_true (of_decide_eq_true qA); replace q6 := eq_true q6; go_wp2; go_meet
        case rel => exact ⟨_, (true), (by first | rfl | (simp; done) | (simp [*]; done)), H', ⟨by first | omega | exact Nat.le_refl _⟩, ⟨qB⟩⟩
      rw [if_neg c7] at H; have c7b0 : ((bt a0 0) == 45) = false := beq_eq_false_iff_ne.mpr c7; have c7b1 : ((bt a0 0) != 45) = true := bne_iff_ne.mpr c7; obtain ⟨ji8, hji8⟩ : ∃ j_ : Int, (wrap64 ((a0.size : Int) - 1)) = j_ := ⟨_, rfl⟩
      replace H : (if 0 ≤ (ji8) then (if (ji8) < (a0.size : Int) then (backhaulref01_Fold.j0 k a0 ((bt a0 (ji8)) == 45)) else (none)) else (none)) = some (r1, r2) := by first | (rw [hji8] at H; exact H) | (simp only [hji8] at H ⊢; exact H)
      have hji8w : (IntKind.i64.wrap ((a0.size : Int) - 1)) = ji8 := (i64_w _).trans hji8; by_cases c9 : 0 ≤ (ji8)
      · rw [if_pos c9] at H
        have c9b0 : decide (0 ≤ (ji8)) = true := zFq c9; clear c9; by_cases c10 : (ji8) < (a0.size : Int)
        · rw [if_pos c10] at H
          have c10b0 : decide ((ji8) < (a0.size : Int)) = true := zFq c10; clear c10; have H' := zA H; clear H; have p6 : 0 ≤ (0 : Int) := (by omega)
          have q6 : 0 < a0.size := (by have : (0 : Int) < (a0.size : Int) := of_decide_eq_true qA; omega)
          have hx6 : ∀ h : 0 < a0.size, ((a0[0]'h).toNat : Int) = bt a0 0 := bt_at a0 0; clear p6; have qi6 : (0 < (a0.size : Int)) = True := eq_true (of_decide_eq_true qA); replace q6 := eq_true q6; have p11 : 0 ≤ ((ji8) : Int) := of_decide_eq_true qA; have q11 : (ji8) < (a0.size : Int) := of_decide_eq_true qA; have hx11 := bt_at a0 (ji8); replace p11 := eq_true p11; replace q11 := eq_true q11; go_wp2; go_meet
          case rel => exact ⟨_, (((bt a0 (ji8)) == 45)), (by first | rfl | (simp; done) | (simp only [← hji8] <;> (first | rfl | simp)) | (simp [*]; done)), H', ⟨by first | omega | exact Nat.le_refl _⟩, ⟨qB⟩⟩
        rw [if_neg c10] at H; exact absurd H (by simp)
      rw [if_neg c9] at H; exact absurd H (by simp)
    rw [if_neg c5] at H; exact absurd H (by simp)
  case rest =>
    clear HC2; try clear c1
    try clear p1
    try clear q1
    try clear hx1
    try clear p2
    try clear c3
    try clear c3b0
    try clear c3b1
    try clear c4
    try clear c4b0
    try clear c4b1
    try clear c5
    try clear c5b0
    try clear c5b1
    try clear p6
    try clear q6
    try clear hx6
    try clear qi6
    try clear c7
    try clear c7b0
    try clear c7b1
    try clear c9
    try clear c9b0
    try clear c10
    try clear c10b0
    try clear p11
    try clear q11
    try clear hx11
    try clear p11
    try clear p6
    try clear q11
    try clear q6
    obtain ⟨kq, x27_1, rfl, HA, HJ1, HB⟩ := hcut; cases kq with
    | zero => exact absurd HA.out (by simp [backhaulref01_Fold.j0])
    | succ kj1 =>
      have H := HA.out; clear HA; simp only [backhaulref01_Fold.j0] at H; by_cases c12 : x27_1 = true
      · subst c12
        have H1 : (some ((⟨#[]⟩ : ByteArray), 9)) = some (r1, r2) := by first | (rw [if_pos rfl] at H; exact H) | rfl
        clear H; have H := H1; clear H1; simp only [zNq, zOq] at H; obtain ⟨rfl, rfl⟩ := H; go_wp2; go_ret2; exact ⟨qE, qB⟩
      replace c12 := Bool.eq_false_iff.mpr c12; subst c12; have H1 : (backhaulref01_Fold.l0 kj1 a0 ([] : List Int) 0) = some (r1, r2) := by first | (rw [if_neg (show ¬ (false = true) by decide)] at H; exact H) | rfl
      clear H; have H := H1; clear H1; have H' := zA H; clear H; go_wp2; go_loopg [4, 5] kj1 (fun kq v4 v5 w' => ∃ (x4_2 : List Int) (x5_2 : Int), v5 = .int .i64 x5_2 ∧ Aside0 (backhaulref01_Fold.l0 kq a0 x4_2 x5_2 = some (r1, r2)) ∧ Aside0 (kq ≤ kj1) ∧ Aside0 (Kd.R (Kd.int .u8) 5 w' w.heap.size (fun _ => True) v4 x4_2) ∧ Aside0 (Below w.heap.size w w'))
      case atStart => exact ⟨(([] : List Int)), (0), (by first | rfl | (simp; done) | (simp [*]; done)), H', ⟨Nat.le_refl _⟩, ⟨qN⟩, ⟨qB⟩⟩
      case round =>
        clear H'; try clear c1
        try clear p1
        try clear q1
        try clear hx1
        try clear p2
        try clear c3
        try clear c3b0
        try clear c3b1
        try clear c4
        try clear c4b0
        try clear c4b1
        try clear c5
        try clear c5b0
        try clear c5b1
        try clear p6
        try clear q6
        try clear hx6
        try clear qi6
        try clear c7
        try clear c7b0
        try clear c7b1
        try clear c9
        try clear c9b0
        try clear c10
        try clear c10b0
        try clear p11
        try clear q11
        try clear hx11
        try clear c12
        try clear p1
        try clear p11
        try clear p2
        try clear p6
        try clear q1
        try clear q11
        try clear q6
        obtain ⟨x4_2, x5_2, rfl, HA, HK2, HO_4, HB⟩ := hrel; cases gk with
        | zero => exact absurd HA.out (by simp [backhaulref01_Fold.l0])
        | succ k2 =>
          have H := HA.out; clear HA; simp only [backhaulref01_Fold.l0] at H; by_cases c13 : x5_2 < (a0.size : Int)
          · rw [if_pos c13] at H
            have c13b0 : decide (x5_2 < (a0.size : Int)) = true := zFq c13; clear c13; by_cases c14 : 0 ≤ x5_2
            · rw [if_pos c14] at H
              have c14b0 : decide (0 ≤ x5_2) = true := zFq c14; clear c14; have HC16 := zA H; clear H; have p15 : 0 ≤ (x5_2 : Int) := of_decide_eq_true qA; have q15 : x5_2 < (a0.size : Int) := of_decide_eq_true qA; have hx15 := bt_at a0 x5_2; replace p15 := eq_true p15; replace q15 := eq_true q15; go_upto_region 8 with (fail)
              go_cut [51] (fun v51 wc => ∃ (kq : Nat) (x51_15 : Bool), v51 = .bool x51_15 ∧ Aside0 (backhaulref01_Fold.j2 kq a0 x4_2 x5_2 (bt a0 x5_2) x51_15 = some (r1, r2)) ∧ Aside0 (kq ≤ k2) ∧ Aside0 (Kd.R (Kd.int .u8) 5 wc w.heap.size (fun _ => True) u4 x4_2) ∧ Aside0 (Below w.heap.size w wc))
              case first =>
                have H := HC16.out; clear HC16; replace H := Option.bind_eq_some_iff.mp H; obtain ⟨t101, A170, H⟩ := H; try dsimp only at H
                have A17 := zA A170; clear A170; by_cases c18 : t101 = 0
                · rw [if_pos c18] at H
                  have c18b0 : (t101 == 0) = true := beq_iff_eq.mpr c18; have c18b1 : (t101 != 0) = false := bne_eq_false_iff_eq.mpr c18; clear c18; (first | rw [c18b0] | (simp only [i64_w, i32_w]; rw [c18b0]) | skip)
                  have H' := zA H; clear H; go_wp2_with (first | ((with_reducible refine zJq (f := 164) rfl ?_); refine goesL_ (some 39) rfl rfl Try.func164 (by kernel_rfl) rfl #[.int .i32 (wrap32 (bt a0 x5_2))] rfl qG ?_; (with_reducible refine (backhaulref01_Class.calls k2 (wrap32 (bt a0 x5_2)) t101 _ A17.out).mono ?_); rintro e w' ⟨rfl, ⟨nd, rfl⟩⟩; refine ⟨_, rfl, ?_⟩)); go_meet
                  case rel => exact ⟨_, (true), (by first | rfl | (simp; done) | (simp [*]; done)), H', ⟨by have := HJ1.out; have := HK2.out; first | omega | exact Nat.le_refl _⟩, ⟨by (with_reducible repeat (first | apply Kd.R_alloc | apply Kd.R_drewN | apply Kd.R_drew)); exact HO_4.out⟩, ⟨qB⟩⟩
                rw [if_neg c18] at H; have c18b0 : (t101 == 0) = false := beq_eq_false_iff_ne.mpr c18; have c18b1 : (t101 != 0) = true := bne_iff_ne.mpr c18; (first | rw [c18b0] | (simp only [i64_w, i32_w]; rw [c18b0]) | skip)
                by_cases c19 : (bt a0 x5_2) = 45
                · rw [if_pos c19] at H
                  have c19b0 : ((bt a0 x5_2) == 45) = true := beq_iff_eq.mpr c19; have c19b1 : ((bt a0 x5_2) != 45) = false := bne_eq_false_iff_eq.mpr c19; clear c19; obtain ⟨ji20, hji20⟩ : ∃ j_ : Int, (wrap64 (x5_2 - 1)) = j_ := ⟨_, rfl⟩
                  replace H : (if 0 ≤ (ji20) then (if (ji20) < (a0.size : Int) then (backhaulref01_Fold.j2 k2 a0 x4_2 x5_2 (bt a0 x5_2) ((bt a0 (ji20)) == 45)) else (none)) else (none)) = some (r1, r2) := by first | (rw [hji20] at H; exact H) | (simp only [hji20] at H ⊢; exact H)
                  (try rw [hji20] at A17)
                  have hji20w : (IntKind.i64.wrap (x5_2 - 1)) = ji20 := (i64_w _).trans hji20; by_cases c21 : 0 ≤ (ji20)
                  · rw [if_pos c21] at H
                    have c21b0 : decide (0 ≤ (ji20)) = true := zFq c21; clear c21; by_cases c22 : (ji20) < (a0.size : Int)
                    · rw [if_pos c22] at H
                      have c22b0 : decide ((ji20) < (a0.size : Int)) = true := zFq c22; clear c22; have H' := zA H; clear H; go_wp2_with (first | ((with_reducible refine zJq (f := 164) rfl ?_); refine goesL_ (some 39) rfl rfl Try.func164 (by kernel_rfl) rfl #[.int .i32 (wrap32 (bt a0 x5_2))] rfl qG ?_; (with_reducible refine (backhaulref01_Class.calls k2 (wrap32 (bt a0 x5_2)) t101 _ A17.out).mono ?_); rintro e w' ⟨rfl, ⟨nd, rfl⟩⟩; refine ⟨_, rfl, ?_⟩; have p23 : 0 ≤ ((ji20) : Int) := of_decide_eq_true qA; have q23 : (ji20) < (a0.size : Int) := of_decide_eq_true qA; have hx23 := bt_at a0 (ji20); replace p23 := eq_true p23; replace q23 := eq_true q23)); go_meet
                      case rel => exact ⟨_, (((bt a0 (ji20)) == 45)), (by first | rfl | (simp; done) | (simp only [← hji20] <;> (first | rfl | simp)) | (simp [*]; done)), H', ⟨by have := HJ1.out; have := HK2.out; first | omega | exact Nat.le_refl _⟩, ⟨by (with_reducible repeat (first | apply Kd.R_alloc | apply Kd.R_drewN | apply Kd.R_drew)); exact HO_4.out⟩, ⟨qB⟩⟩
                    rw [if_neg c22] at H; exact absurd H (by simp)
                  rw [if_neg c21] at H; exact absurd H (by simp)
                rw [if_neg c19] at H; have c19b0 : ((bt a0 x5_2) == 45) = false := beq_eq_false_iff_ne.mpr c19; have c19b1 : ((bt a0 x5_2) != 45) = true := bne_iff_ne.mpr c19; have H' := zA H; clear H; go_wp2_with (first | ((with_reducible refine zJq (f := 164) rfl ?_); refine goesL_ (some 39) rfl rfl Try.func164 (by kernel_rfl) rfl #[.int .i32 (wrap32 (bt a0 x5_2))] rfl qG ?_; (with_reducible refine (backhaulref01_Class.calls k2 (wrap32 (bt a0 x5_2)) t101 _ A17.out).mono ?_); rintro e w' ⟨rfl, ⟨nd, rfl⟩⟩; refine ⟨_, rfl, ?_⟩)); go_meet
                case rel => exact ⟨_, (false), (by first | rfl | (simp; done) | (simp [*]; done)), H', ⟨by have := HJ1.out; have := HK2.out; first | omega | exact Nat.le_refl _⟩, ⟨by (with_reducible repeat (first | apply Kd.R_alloc | apply Kd.R_drewN | apply Kd.R_drew)); exact HO_4.out⟩, ⟨qB⟩⟩
              case rest =>
                clear HC16; try clear c1
                try clear p1
                try clear q1
                try clear hx1
                try clear c2
                try clear p2
                try clear q2
                try clear hx2
                try clear c3
                try clear c3b0
                try clear c3b1
                try clear p3
                try clear c4
                try clear c4b0
                try clear c4b1
                try clear c5
                try clear c5b0
                try clear c5b1
                try clear p6
                try clear q6
                try clear hx6
                try clear qi6
                try clear c7
                try clear c7b0
                try clear c7b1
                try clear c9
                try clear c9b0
                try clear c10
                try clear c10b0
                try clear p11
                try clear q11
                try clear hx11
                try clear c12
                try clear c13
                try clear c13b0
                try clear c14
                try clear c14b0
                try clear p15
                try clear q15
                try clear hx15
                try clear c16
                try clear c18
                try clear c18b0
                try clear c18b1
                try clear c19
                try clear c19b0
                try clear c19b1
                try clear c21
                try clear c21b0
                try clear c22
                try clear c22b0
                try clear p23
                try clear q23
                try clear hx23
                try clear p1
                try clear p11
                try clear p15
                try clear p2
                try clear p23
                try clear p6
                try clear q1
                try clear q11
                try clear q15
                try clear q23
                try clear q6
                obtain ⟨kq, x51_15, rfl, HA, HJ15, HO_4, HB⟩ := hcut; cases kq with
                | zero => exact absurd HA.out (by simp [backhaulref01_Fold.j2])
                | succ kj15 =>
                  have H := HA.out; clear HA; simp only [backhaulref01_Fold.j2] at H; by_cases c24 : x51_15 = true
                  · subst c24
                    have H1 : (some ((⟨#[]⟩ : ByteArray), 9)) = some (r1, r2) := by first | (rw [if_pos rfl] at H; exact H) | rfl
                    clear H; have H := H1; clear H1; simp only [zNq, zOq] at H; obtain ⟨rfl, rfl⟩ := H; go_wp2; go_ret2; exact ⟨qE, qB⟩
                  replace c24 := Bool.eq_false_iff.mpr c24; subst c24; have H1 : (if (bt a0 x5_2) ≥ 97 then (if (bt a0 x5_2) ≤ 122 then (if x4_2.length < 140737488355328 then (backhaulref01_Fold.l0 kj15 a0 (x4_2 ++ [((bt a0 x5_2) - 32) % 256]) (wrap64 (x5_2 + 1))) else (none)) else (if x4_2.length < 140737488355328 then (backhaulref01_Fold.l0 kj15 a0 (x4_2 ++ [(bt a0 x5_2)]) (wrap64 (x5_2 + 1))) else (none))) else (if x4_2.length < 140737488355328 then (backhaulref01_Fold.l0 kj15 a0 (x4_2 ++ [(bt a0 x5_2)]) (wrap64 (x5_2 + 1))) else (none))) = some (r1, r2) := by first | (rw [if_neg (show ¬ (false = true) by decide)] at H; exact H) | rfl
                  clear H; have H := H1; clear H1; by_cases c25 : (bt a0 x5_2) ≥ 97
                  · rw [if_pos c25] at H
                    have c25b0 : decide (97 ≤ (bt a0 x5_2)) = true := zFq c25; clear c25; by_cases c26 : (bt a0 x5_2) ≤ 122
                    · rw [if_pos c26] at H
                      have c26b0 : decide ((bt a0 x5_2) ≤ 122) = true := zFq c26; clear c26; by_cases c27 : x4_2.length < 140737488355328
                      · rw [if_pos c27] at H
                        have LMc27 := zA c27; clear c27; obtain ⟨y102, hy102⟩ : ∃ y_ : List Int, y_ = (x4_2 ++ [((bt a0 x5_2) - 32) % 256]) := ⟨_, rfl⟩
                        replace H : (backhaulref01_Fold.l0 kj15 a0 y102 (wrap64 (x5_2 + 1))) = some (r1, r2) := by first | (rw [hy102]; with_reducible exact H) | (have H2_ := (Option.bind_some _ _).symm.trans H; rw [hy102]; with_reducible exact H2_) | (have H2_ := (Option.bind_some _ _).symm.trans H; with_reducible exact H2_) | with_reducible exact H | (rw [hy102]; exact H) | exact H
                        have Ny102 := zA hy102; clear hy102; have H' := zA H; clear H; go_wp2_with (first | ((with_reducible refine gate_builtin (b := .append) (xs := #[.tmp 60, .tmp 62]) rfl ?_); (try (refine gate_guard (by rfl) ?_; dsimp only)); at_builtin; refine Kd.R_append (Kd.int .u8) (w0 := w) w.heap.size rfl (.tmp 60) (.tmp 62) 185 5 (.int .u8 0) 1 rfl Try.underlying185 info5 rfl (by decide) (by omega) u4 x4_2 (((bt a0 x5_2) - 32) % 256) [.int .u8 (((bt a0 x5_2) - 32) % 256)] (fun _ => True) (fun _ => False) rfl rfl ?aP (fun _ hk => hk.elim) ?aF ?aO ?aB ?aS ?aL ?_; (case aP => exact rfl); (case aB => exact qB); (case aF => exact (fun _ _ => trivial)); (case aO => exact (by (with_reducible repeat (first | apply Kd.R_alloc | apply Kd.R_drewN | apply Kd.R_drew)); exact HO_4.out)); (case aS => exact (zW qB)); (case aL => have := LMc27.out; omega); intro v103 w28 ho hb hg hat; rw [← Ny102.out] at ho; have n0_ := zA (hb); have n1_ := zA (ho); clear HB HO_4; have HB := n0_; have HO104 := n1_; clear n0_ n1_ ho hb hg hat)); go_roundg kj15
                        case measure => have := HJ1.out; have := HK2.out; have := HJ15.out; omega
                        case rel => exact ⟨(y102), (wrap64 (x5_2 + 1)), (by first | rfl | (simp; done) | (simp [*]; done)), H', ⟨by have := HJ1.out; have := HK2.out; have := HJ15.out; omega⟩, ⟨by (with_reducible repeat (first | apply Kd.R_alloc | apply Kd.R_drewN | apply Kd.R_drew)); exact HO104.out⟩, ⟨qB⟩⟩
                      rw [if_neg c27] at H; exact absurd H (by simp)
                    rw [if_neg c26] at H; have c26b0 : decide ((bt a0 x5_2) ≤ 122) = false := zGq c26; clear c26; by_cases c29 : x4_2.length < 140737488355328
                    · rw [if_pos c29] at H
                      have LMc29 := zA c29; clear c29; obtain ⟨y105, hy105⟩ : ∃ y_ : List Int, y_ = (x4_2 ++ [(bt a0 x5_2)]) := ⟨_, rfl⟩
                      replace H : (backhaulref01_Fold.l0 kj15 a0 y105 (wrap64 (x5_2 + 1))) = some (r1, r2) := by first | (rw [hy105]; with_reducible exact H) | (have H2_ := (Option.bind_some _ _).symm.trans H; rw [hy105]; with_reducible exact H2_) | (have H2_ := (Option.bind_some _ _).symm.trans H; with_reducible exact H2_) | with_reducible exact H | (rw [hy105]; exact H) | exact H
                      have Ny105 := zA hy105; clear hy105; have H' := zA H; clear H; go_wp2_with (first | ((with_reducible refine gate_builtin (b := .append) (xs := #[.tmp 60, .tmp 62]) rfl ?_); (try (refine gate_guard (by rfl) ?_; dsimp only)); at_builtin; refine Kd.R_append (Kd.int .u8) (w0 := w) w.heap.size rfl (.tmp 60) (.tmp 62) 185 5 (.int .u8 0) 1 rfl Try.underlying185 info5 rfl (by decide) (by omega) u4 x4_2 (bt a0 x5_2) [.int .u8 (bt a0 x5_2)] (fun _ => True) (fun _ => False) rfl rfl ?aP (fun _ hk => hk.elim) ?aF ?aO ?aB ?aS ?aL ?_; (case aP => exact rfl); (case aB => exact qB); (case aF => exact (fun _ _ => trivial)); (case aO => exact (by (with_reducible repeat (first | apply Kd.R_alloc | apply Kd.R_drewN | apply Kd.R_drew)); exact HO_4.out)); (case aS => exact (zW qB)); (case aL => have := LMc29.out; omega); intro v106 w30 ho hb hg hat; rw [← Ny105.out] at ho; have n0_ := zA (hb); have n1_ := zA (ho); clear HB HO_4; have HB := n0_; have HO107 := n1_; clear n0_ n1_ ho hb hg hat)); go_roundg kj15
                      case measure => have := HJ1.out; have := HK2.out; have := HJ15.out; omega
                      case rel => exact ⟨(y105), (wrap64 (x5_2 + 1)), (by first | rfl | (simp; done) | (simp [*]; done)), H', ⟨by have := HJ1.out; have := HK2.out; have := HJ15.out; omega⟩, ⟨by (with_reducible repeat (first | apply Kd.R_alloc | apply Kd.R_drewN | apply Kd.R_drew)); exact HO107.out⟩, ⟨qB⟩⟩
                    rw [if_neg c29] at H; exact absurd H (by simp)
                  rw [if_neg c25] at H; have c25b0 : decide (97 ≤ (bt a0 x5_2)) = false := zGq c25; clear c25; by_cases c31 : x4_2.length < 140737488355328
                  · rw [if_pos c31] at H
                    have LMc31 := zA c31; clear c31; obtain ⟨y108, hy108⟩ : ∃ y_ : List Int, y_ = (x4_2 ++ [(bt a0 x5_2)]) := ⟨_, rfl⟩
                    replace H : (backhaulref01_Fold.l0 kj15 a0 y108 (wrap64 (x5_2 + 1))) = some (r1, r2) := by first | (rw [hy108]; with_reducible exact H) | (have H2_ := (Option.bind_some _ _).symm.trans H; rw [hy108]; with_reducible exact H2_) | (have H2_ := (Option.bind_some _ _).symm.trans H; with_reducible exact H2_) | with_reducible exact H | (rw [hy108]; exact H) | exact H
                    have Ny108 := zA hy108; clear hy108; have H' := zA H; clear H; go_wp2_with (first | ((with_reducible refine gate_builtin (b := .append) (xs := #[.tmp 60, .tmp 62]) rfl ?_); (try (refine gate_guard (by rfl) ?_; dsimp only)); at_builtin; refine Kd.R_append (Kd.int .u8) (w0 := w) w.heap.size rfl (.tmp 60) (.tmp 62) 185 5 (.int .u8 0) 1 rfl Try.underlying185 info5 rfl (by decide) (by omega) u4 x4_2 (bt a0 x5_2) [.int .u8 (bt a0 x5_2)] (fun _ => True) (fun _ => False) rfl rfl ?aP (fun _ hk => hk.elim) ?aF ?aO ?aB ?aS ?aL ?_; (case aP => exact rfl); (case aB => exact qB); (case aF => exact (fun _ _ => trivial)); (case aO => exact (by (with_reducible repeat (first | apply Kd.R_alloc | apply Kd.R_drewN | apply Kd.R_drew)); exact HO_4.out)); (case aS => exact (zW qB)); (case aL => have := LMc31.out; omega); intro v109 w32 ho hb hg hat; rw [← Ny108.out] at ho; have n0_ := zA (hb); have n1_ := zA (ho); clear HB HO_4; have HB := n0_; have HO110 := n1_; clear n0_ n1_ ho hb hg hat)); go_roundg kj15
                    case measure => have := HJ1.out; have := HK2.out; have := HJ15.out; omega
                    case rel => exact ⟨(y108), (wrap64 (x5_2 + 1)), (by first | rfl | (simp; done) | (simp [*]; done)), H', ⟨by have := HJ1.out; have := HK2.out; have := HJ15.out; omega⟩, ⟨by (with_reducible repeat (first | apply Kd.R_alloc | apply Kd.R_drewN | apply Kd.R_drew)); exact HO110.out⟩, ⟨qB⟩⟩
                  rw [if_neg c31] at H; exact absurd H (by simp)
            rw [if_neg c14] at H; exact absurd H (by simp)
          rw [if_neg c13] at H; have c13b0 : decide (x5_2 < (a0.size : Int)) = false := zGq c13; clear c13; simp only [zNq, zOq] at H; obtain ⟨rfl, rfl⟩ := H; have hcv33 := own_string (P := Try.prog) Try.underlying185 Try.underlying5 Try.underlying9 (Kd.own_of_R HO_4.out); go_wp2; go_ret2; exact ⟨qE, qB⟩
def backhaulref01_Check.f (k : Nat) (a0 : ByteArray) : Option (Int) := (backhaulref01_Fold.f k a0).bind fun bt101 => (if bt101.2 = 0 then (if bt101.1.toList = a0.toList then (some 0) else (some 9)) else (some 9))
theorem backhaulref01_Check.mono : ∀ a0 k, LeO (backhaulref01_Check.f k a0) (backhaulref01_Check.f (k + 1) a0) := by
  intro a0 k
  unfold backhaulref01_Check.f
  repeat' (with_reducible first | exact backhaulref01_Fold.mono _ _ | exact LeO.refl _ | exact LeO.none _ | refine LeO.ite ?_ ?_ | refine LeO.bind ?_ (fun _ => ?_))
set_option maxHeartbeats 8000000 in
set_option maxRecDepth 100000 in
theorem backhaulref01_Check.calls (k : Nat) (a0 : ByteArray) (r : Int) (w : World) (h : backhaulref01_Check.f k a0 = some r) :
    Calls Try.prog 91 #[.string a0] w fun e w' => e = .returned (.int .i64 r) ∧ Below w.heap.size w w' := by
  have HB := zA (Below.refl w.heap.size w)
  have H : ((backhaulref01_Fold.f k a0).bind fun bt101 => (if bt101.2 = 0 then (if bt101.1.toList = a0.toList then (some 0) else (some 9)) else (some 9))) = some r := h
  clear h
  replace H := Option.bind_eq_some_iff.mp H
  obtain ⟨⟨t101, t102⟩, A20, H⟩ := H
  try dsimp only at H
  have A2 := zA A20
  clear A20
  by_cases c3 : t102 = 0
  · rw [if_pos c3] at H
    have c3b0 : (t102 == 0) = true := beq_iff_eq.mpr c3; have c3b1 : (t102 != 0) = false := bne_eq_false_iff_eq.mpr c3; clear c3; by_cases c4 : t101.toList = a0.toList
    · rw [if_pos c4] at H
      have c4b0 : (t101.toList == a0.toList) = true := beq_iff_eq.mpr c4; have c4b1 : (t101.toList != a0.toList) = false := bne_eq_false_iff_eq.mpr c4; clear c4; obtain rfl := zKq H; go_enter Try.func91, Try.ntmps91; go_wp2_with (first | ((with_reducible refine zJq (f := 142) rfl ?_); refine goesL_ (some 7) rfl rfl Try.func142 (by kernel_rfl) rfl #[.string a0] rfl qG ?_; (with_reducible refine (backhaulref01_Fold.calls k a0 t101 t102 _ A2.out).mono ?_); rintro e w5 ⟨rfl, hb⟩; refine ⟨_, rfl, ?_⟩; have n0_ := zA (zV qB hb); clear HB; have HB := n0_; clear n0_; (try clear hb))); go_ret; exact ⟨qE, qB⟩
    rw [if_neg c4] at H; have c4b0 : (t101.toList == a0.toList) = false := beq_eq_false_iff_ne.mpr c4; have c4b1 : (t101.toList != a0.toList) = true := bne_iff_ne.mpr c4; obtain rfl := zKq H; go_enter Try.func91, Try.ntmps91; go_wp2_with (first | ((with_reducible refine zJq (f := 142) rfl ?_); refine goesL_ (some 7) rfl rfl Try.func142 (by kernel_rfl) rfl #[.string a0] rfl qG ?_; (with_reducible refine (backhaulref01_Fold.calls k a0 t101 t102 _ A2.out).mono ?_); rintro e w6 ⟨rfl, hb⟩; refine ⟨_, rfl, ?_⟩; have n0_ := zA (zV qB hb); clear HB; have HB := n0_; clear n0_; (try clear hb))); go_ret; exact ⟨qE, qB⟩
  rw [if_neg c3] at H
  have c3b0 : (t102 == 0) = false := beq_eq_false_iff_ne.mpr c3
  have c3b1 : (t102 != 0) = true := bne_iff_ne.mpr c3
  obtain rfl := zKq H
  go_enter Try.func91, Try.ntmps91
  go_wp2_with (first | ((with_reducible refine zJq (f := 142) rfl ?_); refine goesL_ (some 7) rfl rfl Try.func142 (by kernel_rfl) rfl #[.string a0] rfl qG ?_; (with_reducible refine (backhaulref01_Fold.calls k a0 t101 t102 _ A2.out).mono ?_); rintro e w7 ⟨rfl, hb⟩; refine ⟨_, rfl, ?_⟩; have n0_ := zA (zV qB hb); clear HB; have HB := n0_; clear n0_; (try clear hb)))
  go_ret
  exact ⟨qE, qB⟩
def backhaulref01_Row.l0 : Nat → List ByteArray → Int → Option (Int)
  | 0, _, _ => none
  | k + 1, x0, x3 => if x3 < (x0.length : Int) then (if 0 ≤ x3 then ((backhaulref01_Check.f k (rdOf ByteArray.empty x0 x3)).bind fun t102 => (if t102 = 0 then (if x3 > 0 then (if 0 ≤ (wrap64 (x3 - 1)) then (if (wrap64 (x3 - 1)) < (x0.length : Int) then (if ((Op.bytesLess ((rdOf ByteArray.empty x0 (wrap64 (x3 - 1))).toList) ((rdOf ByteArray.empty x0 x3).toList)) = true) then (backhaulref01_Row.l0 k x0 (wrap64 (x3 + 1))) else (some 32)) else (none)) else (none)) else (backhaulref01_Row.l0 k x0 (wrap64 (x3 + 1)))) else (some 9))) else (none)) else (some 0)
def backhaulref01_Row.f (k : Nat) (l0 : List ByteArray) : Option (Int) := backhaulref01_Row.l0 k l0 0
theorem backhaulref01_Row.mono_l : ∀ k, (∀ y0 y1, LeO (backhaulref01_Row.l0 k y0 y1) (backhaulref01_Row.l0 (k + 1) y0 y1))
  | 0 => fun _ _ r h => by simp [backhaulref01_Row.l0] at h
  | k + 1 => by
    have ih0 := backhaulref01_Row.mono_l k
    intro y0 y1
    unfold backhaulref01_Row.l0
    repeat' (with_reducible first | exact ih0 _ _ | exact backhaulref01_Check.mono _ _ | exact LeO.refl _ | exact LeO.none _ | refine LeO.ite ?_ ?_ | refine LeO.bind ?_ (fun _ => ?_))
theorem backhaulref01_Row.mono : ∀ a0 k, LeO (backhaulref01_Row.f k a0) (backhaulref01_Row.f (k + 1) a0) := by
  intro a0 k
  have ih0 := backhaulref01_Row.mono_l k
  unfold backhaulref01_Row.f
  repeat' (with_reducible first | exact ih0 _ _ | exact backhaulref01_Check.mono _ _ | exact LeO.refl _ | exact LeO.none _ | refine LeO.ite ?_ ?_ | refine LeO.bind ?_ (fun _ => ?_))
set_option maxHeartbeats 8000000 in
set_option maxRecDepth 100000 in
theorem backhaulref01_Row.calls (k : Nat) (A0 : Option Addr) (c0 : Nat) (l0 : List ByteArray) (r : Int) (w : World) (hr0 : Kd.C Kd.string w A0 l0.length l0) (hc0 : l0.length ≤ c0) (h : backhaulref01_Row.f k l0 = some r) :
    Calls Try.prog 78 #[.slice A0 l0.length c0] w fun e w' => e = .returned (.int .i64 r) ∧ Below w.heap.size w w' := by
  have HR0 := zA hr0
  have HC0 := zA hc0
  clear hr0 hc0
  have HB := zA (Below.refl w.heap.size w)
  have H : (backhaulref01_Row.l0 k l0 0) = some r := h
  clear h
  have H' := zA H
  clear H
  go_enter Try.func78, Try.ntmps78
  go_wp2
  repeat (go_quiet (fail); try go_wp2)
  go_loopg [3] k (fun kq v3 w' => ∃ (x3_1 : Int), v3 = .int .i64 x3_1 ∧ Aside0 (backhaulref01_Row.l0 kq l0 x3_1 = some r) ∧ Aside0 (kq ≤ k) ∧ Aside0 (Below w.heap.size w w'))
  case atStart => exact ⟨(0), (by first | rfl | (simp; done) | (simp [*]; done)), H', ⟨Nat.le_refl _⟩, ⟨qB⟩⟩
  case round =>
    clear H'; obtain ⟨x3_1, rfl, HA, HK1, HB⟩ := hrel; cases gk with
    | zero => exact absurd HA.out (by simp [backhaulref01_Row.l0])
    | succ k1 =>
      have H := HA.out; clear HA; simp only [backhaulref01_Row.l0] at H; by_cases c2 : x3_1 < (l0.length : Int)
      · rw [if_pos c2] at H
        have c2b0 : decide (x3_1 < (l0.length : Int)) = true := zFq c2; clear c2; by_cases c3 : 0 ≤ x3_1
        · rw [if_pos c3] at H
          have c3b0 : decide (0 ≤ x3_1) = true := zFq c3; clear c3; replace H := Option.bind_eq_some_iff.mp H; obtain ⟨t102, A40, H⟩ := H; try dsimp only at H
          have A4 := zA A40; clear A40; by_cases c5 : t102 = 0
          · rw [if_pos c5] at H
            have c5b0 : (t102 == 0) = true := beq_iff_eq.mpr c5; have c5b1 : (t102 != 0) = false := bne_eq_false_iff_eq.mpr c5; clear c5; by_cases c6 : x3_1 > 0
            · rw [if_pos c6] at H
              have c6b0 : decide (0 < x3_1) = true := zFq c6; clear c6; obtain ⟨ji7, hji7⟩ : ∃ j_ : Int, (wrap64 (x3_1 - 1)) = j_ := ⟨_, rfl⟩
              replace H : (if 0 ≤ (ji7) then (if (ji7) < (l0.length : Int) then (if ((Op.bytesLess ((rdOf ByteArray.empty l0 (ji7)).toList) ((rdOf ByteArray.empty l0 x3_1).toList)) = true) then (backhaulref01_Row.l0 k1 l0 (wrap64 (x3_1 + 1))) else (some 32)) else (none)) else (none)) = some r := by first | (rw [hji7] at H; exact H) | (simp only [hji7] at H ⊢; exact H)
              (try rw [hji7] at A4)
              have hji7w : (IntKind.i64.wrap (x3_1 - 1)) = ji7 := (i64_w _).trans hji7; by_cases c8 : 0 ≤ (ji7)
              · rw [if_pos c8] at H
                have c8b0 : decide (0 ≤ (ji7)) = true := zFq c8; clear c8; by_cases c9 : (ji7) < (l0.length : Int)
                · rw [if_pos c9] at H
                  have c9b0 : decide ((ji7) < (l0.length : Int)) = true := zFq c9; clear c9; by_cases c10 : ((Op.bytesLess ((rdOf ByteArray.empty l0 (ji7)).toList) ((rdOf ByteArray.empty l0 x3_1).toList)) = true)
                  · rw [if_pos c10] at H
                    have c10b0 : (Op.bytesLess ((rdOf ByteArray.empty l0 (ji7)).toList) ((rdOf ByteArray.empty l0 x3_1).toList)) = true := c10; clear c10; have H' := zA H; clear H; have p101 : 0 ≤ (x3_1 : Int) := of_decide_eq_true qA; have q101 : x3_1 < (l0.length : Int) := of_decide_eq_true qA; obtain ⟨ad101, e101, hx101_0⟩ := Kd.at_string HR0.out x3_1 p101 q101; cases e101
                    replace hx101_0 := (HB.out.cell (zCq w _ hx101_0)).trans hx101_0; replace p101 := eq_true p101; replace q101 := eq_true q101; go_wp2_with (first | (go_at_call 91; (with_reducible refine (backhaulref01_Check.calls k1 (rdOf ByteArray.empty l0 x3_1) t102 _ A4.out).mono ?_); rintro e w11 ⟨rfl, hb⟩; have n0_ := zA (zV qB hb); clear HB; have HB := n0_; clear n0_; (try clear hb); have p103 : 0 ≤ (x3_1 : Int) := of_decide_eq_true qA; have q103 : x3_1 < (l0.length : Int) := of_decide_eq_true qA; obtain ⟨ad103, e103, hx103_0⟩ := Kd.at_string HR0.out x3_1 p103 q103; obtain rfl : ad101 = ad103 := (by injection e103); replace hx103_0 := (HB.out.cell (zCq w _ hx103_0)).trans hx103_0; replace p103 := eq_true p103; replace q103 := eq_true q103; have p104 : 0 ≤ ((ji7) : Int) := of_decide_eq_true qA; have q104 : (ji7) < (l0.length : Int) := of_decide_eq_true qA; obtain ⟨ad104, e104, hx104_0⟩ := Kd.at_string HR0.out (ji7) p104 q104; obtain rfl : ad101 = ad104 := (by injection e104); replace hx104_0 := (HB.out.cell (zCq w _ hx104_0)).trans hx104_0; replace p104 := eq_true p104; replace q104 := eq_true q104)); repeat (go_quiet (first | (go_at_call 91; (with_reducible refine (backhaulref01_Check.calls k1 (rdOf ByteArray.empty l0 x3_1) t102 _ A4.out).mono ?_); rintro e w11 ⟨rfl, hb⟩; have n0_ := zA (zV qB hb); clear HB; have HB := n0_; clear n0_; (try clear hb); have p103 : 0 ≤ (x3_1 : Int) := of_decide_eq_true qA; have q103 : x3_1 < (l0.length : Int) := of_decide_eq_true qA; obtain ⟨ad103, e103, hx103_0⟩ := Kd.at_string HR0.out x3_1 p103 q103; obtain rfl : ad101 = ad103 := (by injection e103); replace hx103_0 := (HB.out.cell (zCq w _ hx103_0)).trans hx103_0; replace p103 := eq_true p103; replace q103 := eq_true q103; have p104 : 0 ≤ ((ji7) : Int) := of_decide_eq_true qA; have q104 : (ji7) < (l0.length : Int) := of_decide_eq_true qA; obtain ⟨ad104, e104, hx104_0⟩ := Kd.at_string HR0.out (ji7) p104 q104; obtain rfl : ad101 = ad104 := (by injection e104); replace hx104_0 := (HB.out.cell (zCq w _ hx104_0)).trans hx104_0; replace p104 := eq_true p104; replace q104 := eq_true q104)); try go_wp2_with (first | (go_at_call 91; (with_reducible refine (backhaulref01_Check.calls k1 (rdOf ByteArray.empty l0 x3_1) t102 _ A4.out).mono ?_); rintro e w11 ⟨rfl, hb⟩; have n0_ := zA (zV qB hb); clear HB; have HB := n0_; clear n0_; (try clear hb); have p103 : 0 ≤ (x3_1 : Int) := of_decide_eq_true qA; have q103 : x3_1 < (l0.length : Int) := of_decide_eq_true qA; obtain ⟨ad103, e103, hx103_0⟩ := Kd.at_string HR0.out x3_1 p103 q103; obtain rfl : ad101 = ad103 := (by injection e103); replace hx103_0 := (HB.out.cell (zCq w _ hx103_0)).trans hx103_0; replace p103 := eq_true p103; replace q103 := eq_true q103; have p104 : 0 ≤ ((ji7) : Int) := of_decide_eq_true qA; have q104 : (ji7) < (l0.length : Int) := of_decide_eq_true qA; obtain ⟨ad104, e104, hx104_0⟩ := Kd.at_string HR0.out (ji7) p104 q104; obtain rfl : ad101 = ad104 := (by injection e104); replace hx104_0 := (HB.out.cell (zCq w _ hx104_0)).trans hx104_0; replace p104 := eq_true p104; replace q104 := eq_true q104)))
                    go_roundg k1
                    case measure => have := HK1.out; omega
                    case rel => exact ⟨(wrap64 (x3_1 + 1)), (by first | rfl | (simp; done) | (simp [*]; done)), H', ⟨by have := HK1.out; omega⟩, ⟨qB⟩⟩
                  rw [if_neg c10] at H; have c10b0 : (Op.bytesLess ((rdOf ByteArray.empty l0 (ji7)).toList) ((rdOf ByteArray.empty l0 x3_1).toList)) = false := by simpa using c10
                  clear c10; obtain rfl := zKq H; have p101 : 0 ≤ (x3_1 : Int) := of_decide_eq_true qA; have q101 : x3_1 < (l0.length : Int) := of_decide_eq_true qA; obtain ⟨ad101, e101, hx101_0⟩ := Kd.at_string HR0.out x3_1 p101 q101; cases e101
                  replace hx101_0 := (HB.out.cell (zCq w _ hx101_0)).trans hx101_0; replace p101 := eq_true p101; replace q101 := eq_true q101; go_wp2_with (first | (go_at_call 91; (with_reducible refine (backhaulref01_Check.calls k1 (rdOf ByteArray.empty l0 x3_1) t102 _ A4.out).mono ?_); rintro e w12 ⟨rfl, hb⟩; have n0_ := zA (zV qB hb); clear HB; have HB := n0_; clear n0_; (try clear hb); have p103 : 0 ≤ (x3_1 : Int) := of_decide_eq_true qA; have q103 : x3_1 < (l0.length : Int) := of_decide_eq_true qA; obtain ⟨ad103, e103, hx103_0⟩ := Kd.at_string HR0.out x3_1 p103 q103; obtain rfl : ad101 = ad103 := (by injection e103); replace hx103_0 := (HB.out.cell (zCq w _ hx103_0)).trans hx103_0; replace p103 := eq_true p103; replace q103 := eq_true q103; have p104 : 0 ≤ ((ji7) : Int) := of_decide_eq_true qA; have q104 : (ji7) < (l0.length : Int) := of_decide_eq_true qA; obtain ⟨ad104, e104, hx104_0⟩ := Kd.at_string HR0.out (ji7) p104 q104; obtain rfl : ad101 = ad104 := (by injection e104); replace hx104_0 := (HB.out.cell (zCq w _ hx104_0)).trans hx104_0; replace p104 := eq_true p104; replace q104 := eq_true q104)); repeat (go_quiet (first | (go_at_call 91; (with_reducible refine (backhaulref01_Check.calls k1 (rdOf ByteArray.empty l0 x3_1) t102 _ A4.out).mono ?_); rintro e w12 ⟨rfl, hb⟩; have n0_ := zA (zV qB hb); clear HB; have HB := n0_; clear n0_; (try clear hb); have p103 : 0 ≤ (x3_1 : Int) := of_decide_eq_true qA; have q103 : x3_1 < (l0.length : Int) := of_decide_eq_true qA; obtain ⟨ad103, e103, hx103_0⟩ := Kd.at_string HR0.out x3_1 p103 q103; obtain rfl : ad101 = ad103 := (by injection e103); replace hx103_0 := (HB.out.cell (zCq w _ hx103_0)).trans hx103_0; replace p103 := eq_true p103; replace q103 := eq_true q103; have p104 : 0 ≤ ((ji7) : Int) := of_decide_eq_true qA; have q104 : (ji7) < (l0.length : Int) := of_decide_eq_true qA; obtain ⟨ad104, e104, hx104_0⟩ := Kd.at_string HR0.out (ji7) p104 q104; obtain rfl : ad101 = ad104 := (by injection e104); replace hx104_0 := (HB.out.cell (zCq w _ hx104_0)).trans hx104_0; replace p104 := eq_true p104; replace q104 := eq_true q104)); try go_wp2_with (first | (go_at_call 91; (with_reducible refine (backhaulref01_Check.calls k1 (rdOf ByteArray.empty l0 x3_1) t102 _ A4.out).mono ?_); rintro e w12 ⟨rfl, hb⟩; have n0_ := zA (zV qB hb); clear HB; have HB := n0_; clear n0_; (try clear hb); have p103 : 0 ≤ (x3_1 : Int) := of_decide_eq_true qA; have q103 : x3_1 < (l0.length : Int) := of_decide_eq_true qA; obtain ⟨ad103, e103, hx103_0⟩ := Kd.at_string HR0.out x3_1 p103 q103; obtain rfl : ad101 = ad103 := (by injection e103); replace hx103_0 := (HB.out.cell (zCq w _ hx103_0)).trans hx103_0; replace p103 := eq_true p103; replace q103 := eq_true q103; have p104 : 0 ≤ ((ji7) : Int) := of_decide_eq_true qA; have q104 : (ji7) < (l0.length : Int) := of_decide_eq_true qA; obtain ⟨ad104, e104, hx104_0⟩ := Kd.at_string HR0.out (ji7) p104 q104; obtain rfl : ad101 = ad104 := (by injection e104); replace hx104_0 := (HB.out.cell (zCq w _ hx104_0)).trans hx104_0; replace p104 := eq_true p104; replace q104 := eq_true q104)))
                  go_ret; exact ⟨by first | rfl | (simp [errW_none, errW_some] <;> rfl) | (simp only [← hji7]; first | rfl | (simp [errW_none, errW_some] <;> rfl)) | (simp [*, errW_none, errW_some] <;> rfl), qB⟩
                rw [if_neg c9] at H; exact absurd H (by simp)
              rw [if_neg c8] at H; exact absurd H (by simp)
            rw [if_neg c6] at H; have c6b0 : decide (0 < x3_1) = false := zGq c6; clear c6; have H' := zA H; clear H; have p101 : 0 ≤ (x3_1 : Int) := of_decide_eq_true qA; have q101 : x3_1 < (l0.length : Int) := of_decide_eq_true qA; obtain ⟨ad101, e101, hx101_0⟩ := Kd.at_string HR0.out x3_1 p101 q101; cases e101
            replace hx101_0 := (HB.out.cell (zCq w _ hx101_0)).trans hx101_0; replace p101 := eq_true p101; replace q101 := eq_true q101; go_wp2_with (first | (go_at_call 91; (with_reducible refine (backhaulref01_Check.calls k1 (rdOf ByteArray.empty l0 x3_1) t102 _ A4.out).mono ?_); rintro e w13 ⟨rfl, hb⟩; have n0_ := zA (zV qB hb); clear HB; have HB := n0_; clear n0_; (try clear hb))); repeat (go_quiet (first | (go_at_call 91; (with_reducible refine (backhaulref01_Check.calls k1 (rdOf ByteArray.empty l0 x3_1) t102 _ A4.out).mono ?_); rintro e w13 ⟨rfl, hb⟩; have n0_ := zA (zV qB hb); clear HB; have HB := n0_; clear n0_; (try clear hb))); try go_wp2_with (first | (go_at_call 91; (with_reducible refine (backhaulref01_Check.calls k1 (rdOf ByteArray.empty l0 x3_1) t102 _ A4.out).mono ?_); rintro e w13 ⟨rfl, hb⟩; have n0_ := zA (zV qB hb); clear HB; have HB := n0_; clear n0_; (try clear hb))))
            go_roundg k1
            case measure => have := HK1.out; omega
            case rel => exact ⟨(wrap64 (x3_1 + 1)), (by first | rfl | (simp; done) | (simp [*]; done)), H', ⟨by have := HK1.out; omega⟩, ⟨qB⟩⟩
          rw [if_neg c5] at H; have c5b0 : (t102 == 0) = false := beq_eq_false_iff_ne.mpr c5; have c5b1 : (t102 != 0) = true := bne_iff_ne.mpr c5; obtain rfl := zKq H; have p101 : 0 ≤ (x3_1 : Int) := of_decide_eq_true qA; have q101 : x3_1 < (l0.length : Int) := of_decide_eq_true qA; obtain ⟨ad101, e101, hx101_0⟩ := Kd.at_string HR0.out x3_1 p101 q101; cases e101
          replace hx101_0 := (HB.out.cell (zCq w _ hx101_0)).trans hx101_0; replace p101 := eq_true p101; replace q101 := eq_true q101; go_wp2_with (first | (go_at_call 91; (with_reducible refine (backhaulref01_Check.calls k1 (rdOf ByteArray.empty l0 x3_1) t102 _ A4.out).mono ?_); rintro e w14 ⟨rfl, hb⟩; have n0_ := zA (zV qB hb); clear HB; have HB := n0_; clear n0_; (try clear hb))); repeat (go_quiet (first | (go_at_call 91; (with_reducible refine (backhaulref01_Check.calls k1 (rdOf ByteArray.empty l0 x3_1) t102 _ A4.out).mono ?_); rintro e w14 ⟨rfl, hb⟩; have n0_ := zA (zV qB hb); clear HB; have HB := n0_; clear n0_; (try clear hb))); try go_wp2_with (first | (go_at_call 91; (with_reducible refine (backhaulref01_Check.calls k1 (rdOf ByteArray.empty l0 x3_1) t102 _ A4.out).mono ?_); rintro e w14 ⟨rfl, hb⟩; have n0_ := zA (zV qB hb); clear HB; have HB := n0_; clear n0_; (try clear hb))))
          go_ret; exact ⟨qE, qB⟩
        rw [if_neg c3] at H; exact absurd H (by simp)
      rw [if_neg c2] at H; have c2b0 : decide (x3_1 < (l0.length : Int)) = false := zGq c2; clear c2; obtain rfl := zKq H; go_wp2; repeat (go_quiet (fail); try go_wp2)
      go_ret; exact ⟨qE, qB⟩
mutual
def backhaulref13_Rising.l0 : Nat → List Int → Int → Option (Int)
  | 0, _, _ => none
  | k + 1, x0, x3 => if x3 < (x0.length : Int) then (if 0 ≤ x3 then (if (rd x0 x3) < 1 then (backhaulref13_Rising.j1 k x0 x3 true) else (backhaulref13_Rising.j1 k x0 x3 (decide ((rd x0 x3) > 999999)))) else (none)) else (some 0)
def backhaulref13_Rising.j1 : Nat → List Int → Int → Bool → Option (Int)
  | 0, _, _, _ => none
  | k + 1, x0, x3, x21 => if x21 = true then (some 31) else (if x3 > 0 then (if 0 ≤ x3 then (if x3 < (x0.length : Int) then (if 0 ≤ (wrap64 (x3 - 1)) then (if (wrap64 (x3 - 1)) < (x0.length : Int) then (if (rd x0 x3) ≤ (rd x0 (wrap64 (x3 - 1))) then (some 32) else (backhaulref13_Rising.l0 k x0 (wrap64 (x3 + 1)))) else (none)) else (none)) else (none)) else (none)) else (backhaulref13_Rising.l0 k x0 (wrap64 (x3 + 1))))
end
def backhaulref13_Rising.f (k : Nat) (l0 : List Int) : Option (Int) := backhaulref13_Rising.l0 k l0 0
theorem backhaulref13_Rising.mono_l : ∀ k, (∀ y0 y1, LeO (backhaulref13_Rising.l0 k y0 y1) (backhaulref13_Rising.l0 (k + 1) y0 y1)) ∧ (∀ y0 y1 y2, LeO (backhaulref13_Rising.j1 k y0 y1 y2) (backhaulref13_Rising.j1 (k + 1) y0 y1 y2))
  | 0 => ⟨fun _ _ r h => by simp [backhaulref13_Rising.l0] at h, fun _ _ _ r h => by simp [backhaulref13_Rising.j1] at h⟩
  | k + 1 => by
    obtain ⟨ih0, ih1⟩ := backhaulref13_Rising.mono_l k
    refine ⟨?_, ?_⟩
    · intro y0 y1
      unfold backhaulref13_Rising.l0
      repeat' (with_reducible first | exact ih0 _ _ | exact ih1 _ _ _ | exact LeO.refl _ | exact LeO.none _ | refine LeO.ite ?_ ?_ | refine LeO.bind ?_ (fun _ => ?_))
    intro y0 y1 y2
    unfold backhaulref13_Rising.j1
    repeat' (with_reducible first | exact ih0 _ _ | exact ih1 _ _ _ | exact LeO.refl _ | exact LeO.none _ | refine LeO.ite ?_ ?_ | refine LeO.bind ?_ (fun _ => ?_))
theorem backhaulref13_Rising.mono : ∀ a0 k, LeO (backhaulref13_Rising.f k a0) (backhaulref13_Rising.f (k + 1) a0) := by
  intro a0 k
  obtain ⟨ih0, ih1⟩ := backhaulref13_Rising.mono_l k
  unfold backhaulref13_Rising.f
  repeat' (with_reducible first | exact ih0 _ _ | exact ih1 _ _ _ | exact LeO.refl _ | exact LeO.none _ | refine LeO.ite ?_ ?_ | refine LeO.bind ?_ (fun _ => ?_))
set_option maxHeartbeats 8000000 in
set_option maxRecDepth 100000 in
theorem backhaulref13_Rising.calls (k : Nat) (A0 : Option Addr) (c0 : Nat) (l0 : List Int) (r : Int) (w : World) (hr0 : Kd.C (Kd.int .i64) w A0 l0.length l0) (hc0 : l0.length ≤ c0) (h : backhaulref13_Rising.f k l0 = some r) :
    Calls Try.prog 79 #[.slice A0 l0.length c0] w fun e w' => e = .returned (.int .i64 r) ∧ Drawn0 w w' := by
  have HR0 := zA hr0
  have HC0 := zA hc0
  clear hr0 hc0
  have H : (backhaulref13_Rising.l0 k l0 0) = some r := h
  clear h
  have H' := zA H
  clear H
  go_enter Try.func79, Try.ntmps79
  go_wp2
  repeat (go_quiet (fail); try go_wp2)
  go_loopg [3] k (fun kq v3 w' => ∃ (x3_1 : Int), v3 = .int .i64 x3_1 ∧ Aside0 (backhaulref13_Rising.l0 kq l0 x3_1 = some r) ∧ Aside0 (kq ≤ k) ∧ Drawn0 w w')
  case atStart => exact ⟨(0), (by first | rfl | (simp; done) | (simp [*]; done)), H', ⟨Nat.le_refl _⟩, by repeat (first | exact Drawn0.refl _ | apply Drawn0.step)⟩
  case round =>
    clear H'; obtain ⟨x3_1, rfl, HA, HK1, ⟨m1, rfl⟩⟩ := hrel; cases gk with
    | zero => exact absurd HA.out (by simp [backhaulref13_Rising.l0])
    | succ k1 =>
      have H := HA.out; clear HA; simp only [backhaulref13_Rising.l0] at H; by_cases c2 : x3_1 < (l0.length : Int)
      · rw [if_pos c2] at H
        have c2b0 : decide (x3_1 < (l0.length : Int)) = true := zFq c2; clear c2; have HC3 := zA H; clear H; go_upto_region 4 with (fail)
        repeat (go_quiet (fail); go_upto_region 4 with (fail))
        go_cut [21] (fun v21 wc => ∃ (kq : Nat) (x21_2 : Bool), v21 = .bool x21_2 ∧ Aside0 (backhaulref13_Rising.j1 kq l0 x3_1 x21_2 = some r) ∧ Aside0 (kq ≤ k1) ∧ Drawn0 w wc)
        case first =>
          have H := HC3.out; clear HC3; by_cases c4 : 0 ≤ x3_1
          · rw [if_pos c4] at H
            have c4b0 : decide (0 ≤ x3_1) = true := zFq c4; clear c4; (first | rw [c4b0] | (simp only [i64_w, i32_w]; rw [c4b0]) | skip)
            by_cases c5 : (rd l0 x3_1) < 1
            · rw [if_pos c5] at H
              have c5b0 : decide ((rd l0 x3_1) < 1) = true := zFq c5; clear c5; have H' := zA H; clear H; have p101 : 0 ≤ (x3_1 : Int) := of_decide_eq_true qA; have q101 : x3_1 < (l0.length : Int) := of_decide_eq_true qA; obtain ⟨ad101, e101, hx101_0⟩ := Kd.at_int HR0.out x3_1 p101 q101; cases e101
              replace p101 := eq_true p101; replace q101 := eq_true q101; go_wp2; repeat (go_quiet (fail); try go_wp2)
              go_meet
              case rel => exact ⟨_, (true), (by first | rfl | (simp; done) | (simp [*]; done)), H', ⟨by have := HK1.out; first | omega | exact Nat.le_refl _⟩, by repeat (first | exact Drawn0.refl _ | apply Drawn0.step)⟩
            rw [if_neg c5] at H; have c5b0 : decide ((rd l0 x3_1) < 1) = false := zGq c5; clear c5; have H' := zA H; clear H; have p101 : 0 ≤ (x3_1 : Int) := of_decide_eq_true qA; have q101 : x3_1 < (l0.length : Int) := of_decide_eq_true qA; obtain ⟨ad101, e101, hx101_0⟩ := Kd.at_int HR0.out x3_1 p101 q101; cases e101
            replace p101 := eq_true p101; replace q101 := eq_true q101; have p102 : 0 ≤ (x3_1 : Int) := of_decide_eq_true qA; have q102 : x3_1 < (l0.length : Int) := of_decide_eq_true qA; obtain ⟨ad102, e102, hx102_0⟩ := Kd.at_int HR0.out x3_1 p102 q102; obtain rfl : ad101 = ad102 := (by injection e102)
            replace p102 := eq_true p102; replace q102 := eq_true q102; go_wp2; repeat (go_quiet (fail); try go_wp2)
            go_meet
            case rel => exact ⟨_, (decide ((rd l0 x3_1) > 999999)), (by first | rfl | (simp; done) | (simp [*]; done)), H', ⟨by have := HK1.out; first | omega | exact Nat.le_refl _⟩, by repeat (first | exact Drawn0.refl _ | apply Drawn0.step)⟩
          rw [if_neg c4] at H; exact absurd H (by simp)
        case rest =>
          clear HC3; try clear p1
          try clear q1
          try clear hx1
          try clear c2
          try clear c2b0
          try clear p2
          try clear c4
          try clear c4b0
          try clear c5
          try clear c5b0
          try clear hx101_0
          try clear hx102_0
          try clear p101
          try clear p102
          try clear q101
          try clear q102
          obtain ⟨kq, x21_2, rfl, HA, HJ2, ⟨mc2, rfl⟩⟩ := hcut; cases kq with
          | zero => exact absurd HA.out (by simp [backhaulref13_Rising.j1])
          | succ kj2 =>
            have H := HA.out; clear HA; simp only [backhaulref13_Rising.j1] at H; by_cases c6 : x21_2 = true
            · subst c6
              have H1 : (some 31) = some r := by first | (rw [if_pos rfl] at H; exact H) | rfl
              clear H; have H := H1; clear H1; obtain rfl := zKq H; go_wp2; repeat (go_quiet (fail); try go_wp2)
              go_ret; exact ⟨by first | rfl | (simp; done) | (simp [*]; done), by repeat (first | exact Drawn0.refl _ | apply Drawn0.step)⟩
            replace c6 := Bool.eq_false_iff.mpr c6; subst c6; have H1 : (if x3_1 > 0 then (if 0 ≤ x3_1 then (if x3_1 < (l0.length : Int) then (if 0 ≤ (wrap64 (x3_1 - 1)) then (if (wrap64 (x3_1 - 1)) < (l0.length : Int) then (if (rd l0 x3_1) ≤ (rd l0 (wrap64 (x3_1 - 1))) then (some 32) else (backhaulref13_Rising.l0 kj2 l0 (wrap64 (x3_1 + 1)))) else (none)) else (none)) else (none)) else (none)) else (backhaulref13_Rising.l0 kj2 l0 (wrap64 (x3_1 + 1)))) = some r := by first | (rw [if_neg (show ¬ (false = true) by decide)] at H; exact H) | rfl
            clear H; have H := H1; clear H1; by_cases c7 : x3_1 > 0
            · rw [if_pos c7] at H
              have c7b0 : decide (0 < x3_1) = true := zFq c7; clear c7; by_cases c8 : 0 ≤ x3_1
              · rw [if_pos c8] at H
                have c8b0 : decide (0 ≤ x3_1) = true := zFq c8; clear c8; by_cases c9 : x3_1 < (l0.length : Int)
                · rw [if_pos c9] at H
                  have c9b0 : decide (x3_1 < (l0.length : Int)) = true := zFq c9; clear c9; obtain ⟨ji10, hji10⟩ : ∃ j_ : Int, (wrap64 (x3_1 - 1)) = j_ := ⟨_, rfl⟩
                  replace H : (if 0 ≤ (ji10) then (if (ji10) < (l0.length : Int) then (if (rd l0 x3_1) ≤ (rd l0 (ji10)) then (some 32) else (backhaulref13_Rising.l0 kj2 l0 (wrap64 (x3_1 + 1)))) else (none)) else (none)) = some r := by first | (rw [hji10] at H; exact H) | (simp only [hji10] at H ⊢; exact H)
                  have hji10w : (IntKind.i64.wrap (x3_1 - 1)) = ji10 := (i64_w _).trans hji10; by_cases c11 : 0 ≤ (ji10)
                  · rw [if_pos c11] at H
                    have c11b0 : decide (0 ≤ (ji10)) = true := zFq c11; clear c11; by_cases c12 : (ji10) < (l0.length : Int)
                    · rw [if_pos c12] at H
                      have c12b0 : decide ((ji10) < (l0.length : Int)) = true := zFq c12; clear c12; by_cases c13 : (rd l0 x3_1) ≤ (rd l0 (ji10))
                      · rw [if_pos c13] at H
                        have c13b0 : decide ((rd l0 x3_1) ≤ (rd l0 (ji10))) = true := zFq c13; clear c13; obtain rfl := zKq H; have p103 : 0 ≤ (x3_1 : Int) := of_decide_eq_true qA; have q103 : x3_1 < (l0.length : Int) := of_decide_eq_true qA; obtain ⟨ad103, e103, hx103_0⟩ := Kd.at_int HR0.out x3_1 p103 q103; cases e103
                        replace p103 := eq_true p103; replace q103 := eq_true q103; have p104 : 0 ≤ ((ji10) : Int) := of_decide_eq_true qA; have q104 : (ji10) < (l0.length : Int) := of_decide_eq_true qA; obtain ⟨ad104, e104, hx104_0⟩ := Kd.at_int HR0.out (ji10) p104 q104; obtain rfl : ad103 = ad104 := (by injection e104)
                        replace p104 := eq_true p104; replace q104 := eq_true q104; go_wp2; repeat (go_quiet (fail); try go_wp2)
                        go_ret; exact ⟨by first | rfl | (simp; done) | (simp only [← hji10] <;> (first | rfl | simp)) | (simp [*]; done), by repeat (first | exact Drawn0.refl _ | apply Drawn0.step)⟩
                      rw [if_neg c13] at H; have c13b0 : decide ((rd l0 x3_1) ≤ (rd l0 (ji10))) = false := zGq c13; clear c13; have H' := zA H; clear H; have p103 : 0 ≤ (x3_1 : Int) := of_decide_eq_true qA; have q103 : x3_1 < (l0.length : Int) := of_decide_eq_true qA; obtain ⟨ad103, e103, hx103_0⟩ := Kd.at_int HR0.out x3_1 p103 q103; cases e103
                      replace p103 := eq_true p103; replace q103 := eq_true q103; have p104 : 0 ≤ ((ji10) : Int) := of_decide_eq_true qA; have q104 : (ji10) < (l0.length : Int) := of_decide_eq_true qA; obtain ⟨ad104, e104, hx104_0⟩ := Kd.at_int HR0.out (ji10) p104 q104; obtain rfl : ad103 = ad104 := (by injection e104)
                      replace p104 := eq_true p104; replace q104 := eq_true q104; go_wp2; repeat (go_quiet (fail); try go_wp2)
                      go_roundg kj2
                      case measure => have := HK1.out; have := HJ2.out; omega
                      case rel => exact ⟨(wrap64 (x3_1 + 1)), (by first | rfl | (simp; done) | (simp [*]; done)), H', ⟨by have := HK1.out; have := HJ2.out; omega⟩, by repeat (first | exact Drawn0.refl _ | apply Drawn0.step)⟩
                    rw [if_neg c12] at H; exact absurd H (by simp)
                  rw [if_neg c11] at H; exact absurd H (by simp)
                rw [if_neg c9] at H; exact absurd H (by simp)
              rw [if_neg c8] at H; exact absurd H (by simp)
            rw [if_neg c7] at H; have c7b0 : decide (0 < x3_1) = false := zGq c7; clear c7; have H' := zA H; clear H; go_wp2; repeat (go_quiet (fail); try go_wp2)
            go_roundg kj2
            case measure => have := HK1.out; have := HJ2.out; omega
            case rel => exact ⟨(wrap64 (x3_1 + 1)), (by first | rfl | (simp; done) | (simp [*]; done)), H', ⟨by have := HK1.out; have := HJ2.out; omega⟩, by repeat (first | exact Drawn0.refl _ | apply Drawn0.step)⟩
      rw [if_neg c2] at H; have c2b0 : decide (x3_1 < (l0.length : Int)) = false := zGq c2; clear c2; obtain rfl := zKq H; go_wp2; repeat (go_quiet (fail); try go_wp2)
      go_ret; exact ⟨by first | rfl | (simp; done) | (simp [*]; done), by repeat (first | exact Drawn0.refl _ | apply Drawn0.step)⟩
mutual
def backhaulref14_Pairs.j0 : Nat → List ByteArray → List (List Int) → Bool → Option ((List (S146)) × Bool)
  | 0, _, _, _ => none
  | k + 1, x0, x1, x18 => if x18 = true then (some (([] : List (S146)), false)) else (backhaulref14_Pairs.l0 k x0 x1 ([] : List (S146)) 0)
def backhaulref14_Pairs.l0 : Nat → List ByteArray → List (List Int) → List (S146) → Int → Option ((List (S146)) × Bool)
  | 0, _, _, _, _ => none
  | k + 1, x0, x1, x6, x7 => if x7 < (x0.length : Int) then (if 0 ≤ x7 then (if x7 < (x1.length : Int) then (if ((rd_L14 x1 x7).length : Int) = 0 then (backhaulref14_Pairs.j2 k x0 x1 x6 x7 true) else ((backhaulref13_Rising.f k (rd_L14 x1 x7)).bind fun t104 => (backhaulref14_Pairs.j2 k x0 x1 x6 x7 (t104 != 0)))) else (none)) else (none)) else (some (x6, decide ((x6.length : Int) ≤ 2000)))
def backhaulref14_Pairs.j2 : Nat → List ByteArray → List (List Int) → List (S146) → Int → Bool → Option ((List (S146)) × Bool)
  | 0, _, _, _, _, _ => none
  | k + 1, x0, x1, x6, x7, x38 => if x38 = true then (some (([] : List (S146)), false)) else (backhaulref14_Pairs.l1 k x0 x1 x6 x7 0)
def backhaulref14_Pairs.l1 : Nat → List ByteArray → List (List Int) → List (S146) → Int → Int → Option ((List (S146)) × Bool)
  | 0, _, _, _, _, _ => none
  | k + 1, x0, x1, x6, x7, x8 => if 0 ≤ x7 then (if x7 < (x1.length : Int) then (if x8 < ((rd_L14 x1 x7).length : Int) then (if x7 < (x0.length : Int) then (if 0 ≤ x8 then (if x6.length < 5864062014805 then (backhaulref14_Pairs.l1 k x0 x1 (x6 ++ [(⟨rdOf ByteArray.empty x0 x7, rd (rd_L14 x1 x7) x8⟩ : S146)]) x7 (wrap64 (x8 + 1))) else (none)) else (none)) else (none)) else (backhaulref14_Pairs.l0 k x0 x1 x6 (wrap64 (x7 + 1)))) else (none)) else (none)
end
def backhaulref14_Pairs.f (k : Nat) (l0 : List ByteArray) (l1 : List (List Int)) : Option ((List (S146)) × Bool) := (backhaulref01_Row.f k l0).bind fun t101 => (if t101 = 0 then (backhaulref14_Pairs.j0 k l0 l1 ((l0.length : Int) != (l1.length : Int))) else (backhaulref14_Pairs.j0 k l0 l1 true))
theorem backhaulref14_Pairs.mono_l : ∀ k, (∀ y0 y1 y2, LeO (backhaulref14_Pairs.j0 k y0 y1 y2) (backhaulref14_Pairs.j0 (k + 1) y0 y1 y2)) ∧ (∀ y0 y1 y2 y3, LeO (backhaulref14_Pairs.l0 k y0 y1 y2 y3) (backhaulref14_Pairs.l0 (k + 1) y0 y1 y2 y3)) ∧ (∀ y0 y1 y2 y3 y4, LeO (backhaulref14_Pairs.j2 k y0 y1 y2 y3 y4) (backhaulref14_Pairs.j2 (k + 1) y0 y1 y2 y3 y4)) ∧ (∀ y0 y1 y2 y3 y4, LeO (backhaulref14_Pairs.l1 k y0 y1 y2 y3 y4) (backhaulref14_Pairs.l1 (k + 1) y0 y1 y2 y3 y4))
  | 0 => ⟨fun _ _ _ r h => by simp [backhaulref14_Pairs.j0] at h, fun _ _ _ _ r h => by simp [backhaulref14_Pairs.l0] at h, fun _ _ _ _ _ r h => by simp [backhaulref14_Pairs.j2] at h, fun _ _ _ _ _ r h => by simp [backhaulref14_Pairs.l1] at h⟩
  | k + 1 => by
    obtain ⟨ih0, ih1, ih2, ih3⟩ := backhaulref14_Pairs.mono_l k
    refine ⟨?_, ?_, ?_, ?_⟩
    · intro y0 y1 y2
      unfold backhaulref14_Pairs.j0
      repeat' (with_reducible first | exact ih0 _ _ _ | exact ih1 _ _ _ _ | exact ih2 _ _ _ _ _ | exact ih3 _ _ _ _ _ | exact backhaulref01_Row.mono _ _ | exact backhaulref13_Rising.mono _ _ | exact LeO.refl _ | exact LeO.none _ | refine LeO.ite ?_ ?_ | refine LeO.bind ?_ (fun _ => ?_))
    · intro y0 y1 y2 y3
      unfold backhaulref14_Pairs.l0
      repeat' (with_reducible first | exact ih0 _ _ _ | exact ih1 _ _ _ _ | exact ih2 _ _ _ _ _ | exact ih3 _ _ _ _ _ | exact backhaulref01_Row.mono _ _ | exact backhaulref13_Rising.mono _ _ | exact LeO.refl _ | exact LeO.none _ | refine LeO.ite ?_ ?_ | refine LeO.bind ?_ (fun _ => ?_))
    · intro y0 y1 y2 y3 y4
      unfold backhaulref14_Pairs.j2
      repeat' (with_reducible first | exact ih0 _ _ _ | exact ih1 _ _ _ _ | exact ih2 _ _ _ _ _ | exact ih3 _ _ _ _ _ | exact backhaulref01_Row.mono _ _ | exact backhaulref13_Rising.mono _ _ | exact LeO.refl _ | exact LeO.none _ | refine LeO.ite ?_ ?_ | refine LeO.bind ?_ (fun _ => ?_))
    intro y0 y1 y2 y3 y4
    unfold backhaulref14_Pairs.l1
    repeat' (with_reducible first | exact ih0 _ _ _ | exact ih1 _ _ _ _ | exact ih2 _ _ _ _ _ | exact ih3 _ _ _ _ _ | exact backhaulref01_Row.mono _ _ | exact backhaulref13_Rising.mono _ _ | exact LeO.refl _ | exact LeO.none _ | refine LeO.ite ?_ ?_ | refine LeO.bind ?_ (fun _ => ?_))
theorem backhaulref14_Pairs.mono : ∀ a0 a1 k, LeO (backhaulref14_Pairs.f k a0 a1) (backhaulref14_Pairs.f (k + 1) a0 a1) := by
  intro a0 a1 k
  obtain ⟨ih0, ih1, ih2, ih3⟩ := backhaulref14_Pairs.mono_l k
  unfold backhaulref14_Pairs.f
  repeat' (with_reducible first | exact ih0 _ _ _ | exact ih1 _ _ _ _ | exact ih2 _ _ _ _ _ | exact ih3 _ _ _ _ _ | exact backhaulref01_Row.mono _ _ | exact backhaulref13_Rising.mono _ _ | exact LeO.refl _ | exact LeO.none _ | refine LeO.ite ?_ ?_ | refine LeO.bind ?_ (fun _ => ?_))
def backhaulref14_Pairs.T12 : Bool × List (List Nat × List Nat) := (true, [([], []), ([], []), ([], []), ([1, 2], [1, 2]), ([3], [3]), ([], []), ([], []), ([5, 6], [5, 6]), ([7], [7]), ([], []), ([8, 9], [8, 9]), ([10], [10]), ([4, 11], [4, 11]), ([12], [12]), ([0, 13], [0, 13]), ([14, 14, 0, 1, 2, 3, 4, 5, 6, 7, 8, 9, 10, 11, 12, 13, 14], [0, 14])])
def backhaulref14_Pairs.B12 : List Nat := [0, 0, 0, 6, 14, 0, 0, 96, 224, 0, 992, 2016, 4094, 8190, 16383, 32767]
theorem backhaulref14_Pairs.tab12 : rtab .any (opsOf Try.f27 12) = backhaulref14_Pairs.T12 := by kernel_rfl
theorem backhaulref14_Pairs.bits12 : waitsOk backhaulref14_Pairs.T12.2 backhaulref14_Pairs.B12 = true := by kernel_rfl
set_option maxHeartbeats 8000000 in
set_option maxRecDepth 100000 in
theorem backhaulref14_Pairs.calls (k : Nat) (A0 : Option Addr) (c0 : Nat) (l0 : List ByteArray) (A1 : Option Addr) (c1 : Nat) (l1 : List (List Int)) (r1 : List (S146)) (r2 : Bool) (w : World) (hr0 : Kd.C Kd.string w A0 l0.length l0) (hc0 : l0.length ≤ c0) (hr1 : Kd.C (Kd.slice 3 (Kd.int .i64)) w A1 l1.length l1) (hc1 : l1.length ≤ c1) (h : backhaulref14_Pairs.f k l0 l1 = some (r1, r2)) :
    Calls Try.prog 27 #[.slice A0 l0.length c0, .slice A1 l1.length c1] w fun e w' => ∃ v0_ : Value, e = .returned (.tuple #[v0_, .bool r2]) ∧ Kd.R k146 146 w' w.heap.size (fun _ => True) v0_ r1 ∧ Below w.heap.size w w' := by
  have hu146 := Try.underlying146
  have HR0 := zA hr0
  have HC0 := zA hc0
  clear hr0 hc0
  have HR1 := zA hr1
  have HC1 := zA hc1
  clear hr1 hc1
  have HB := zA (Below.refl w.heap.size w)
  have H : ((backhaulref01_Row.f k l0).bind fun t101 => (if t101 = 0 then (backhaulref14_Pairs.j0 k l0 l1 ((l0.length : Int) != (l1.length : Int))) else (backhaulref14_Pairs.j0 k l0 l1 true))) = some (r1, r2) := h
  clear h
  have HC3 := zA H
  clear H
  go_enter Try.func27, Try.ntmps27
  go_upto_region 1 with (fail)
  go_cut [18] (fun v18 wc => ∃ (kq : Nat) (x18_2 : Bool), v18 = .bool x18_2 ∧ Aside0 (backhaulref14_Pairs.j0 kq l0 l1 x18_2 = some (r1, r2)) ∧ Aside0 (kq ≤ k) ∧ Aside0 (Below w.heap.size w wc))
  case first =>
    have H := HC3.out; clear HC3; replace H := Option.bind_eq_some_iff.mp H; obtain ⟨t101, A40, H⟩ := H; try dsimp only at H
    have A4 := zA A40; clear A40; by_cases c5 : t101 = 0
    · rw [if_pos c5] at H
      have c5b0 : (t101 == 0) = true := beq_iff_eq.mpr c5; have c5b1 : (t101 != 0) = false := bne_eq_false_iff_eq.mpr c5; clear c5; (first | rw [c5b0] | (simp only [i64_w, i32_w]; rw [c5b0]) | skip)
      have H' := zA H; clear H; go_wp2_with (first | ((with_reducible refine zJq (f := 78) rfl ?_); refine goesL_ (some 10) rfl rfl Try.func78 (by kernel_rfl) rfl #[.slice A0 l0.length c0] rfl qG ?_; (with_reducible refine (backhaulref01_Row.calls k _ _ l0 t101 _ ?side1 ?side2 A4.out).mono ?_); (case side1 => exact qC (Kd.C_below HR0.out HB.out)); (case side2 => exact HC0.out); rintro e w6 ⟨rfl, hb⟩; refine ⟨_, rfl, ?_⟩; have n0_ := zA (zV qB hb); clear HB; have HB := n0_; clear n0_; (try clear hb))); go_meet
      case rel => exact ⟨_, (((l0.length : Int) != (l1.length : Int))), (by first | rfl | (simp; done) | (simp [*]; done)), H', ⟨by first | omega | exact Nat.le_refl _⟩, ⟨qB⟩⟩
    rw [if_neg c5] at H; have c5b0 : (t101 == 0) = false := beq_eq_false_iff_ne.mpr c5; have c5b1 : (t101 != 0) = true := bne_iff_ne.mpr c5; (first | rw [c5b0] | (simp only [i64_w, i32_w]; rw [c5b0]) | skip)
    have H' := zA H; clear H; go_wp2_with (first | ((with_reducible refine zJq (f := 78) rfl ?_); refine goesL_ (some 10) rfl rfl Try.func78 (by kernel_rfl) rfl #[.slice A0 l0.length c0] rfl qG ?_; (with_reducible refine (backhaulref01_Row.calls k _ _ l0 t101 _ ?side1 ?side2 A4.out).mono ?_); (case side1 => exact qC (Kd.C_below HR0.out HB.out)); (case side2 => exact HC0.out); rintro e w7 ⟨rfl, hb⟩; refine ⟨_, rfl, ?_⟩; have n0_ := zA (zV qB hb); clear HB; have HB := n0_; clear n0_; (try clear hb))); go_meet
    case rel => exact ⟨_, (true), (by first | rfl | (simp; done) | (simp [*]; done)), H', ⟨by first | omega | exact Nat.le_refl _⟩, ⟨qB⟩⟩
  case rest =>
    clear HC3; try clear c1
    try clear c2
    try clear p2
    try clear c5
    try clear c5b0
    try clear c5b1
    try clear c7
    obtain ⟨kq, x18_2, rfl, HA, HJ2, HB⟩ := hcut; cases kq with
    | zero => exact absurd HA.out (by simp [backhaulref14_Pairs.j0])
    | succ kj2 =>
      have H := HA.out; clear HA; simp only [backhaulref14_Pairs.j0] at H; by_cases c8 : x18_2 = true
      · subst c8
        have H1 : (some (([] : List (S146)), false)) = some (r1, r2) := by first | (rw [if_pos rfl] at H; exact H) | rfl
        clear H; have H := H1; clear H1; simp only [zNq, zOq] at H; obtain ⟨rfl, rfl⟩ := H; go_wp2; go_ret2; exact ⟨_, qE, qN, qB⟩
      replace c8 := Bool.eq_false_iff.mpr c8; subst c8; have H1 : (backhaulref14_Pairs.l0 kj2 l0 l1 ([] : List (S146)) 0) = some (r1, r2) := by first | (rw [if_neg (show ¬ (false = true) by decide)] at H; exact H) | rfl
      clear H; have H := H1; clear H1; have H' := zA H; clear H; go_wp2; go_loopg [6, 7] kj2 (fun kq v6 v7 w' => ∃ (x6_2 : List (S146)) (x7_2 : Int), v7 = .int .i64 x7_2 ∧ Aside0 (backhaulref14_Pairs.l0 kq l0 l1 x6_2 x7_2 = some (r1, r2)) ∧ Aside0 (kq ≤ kj2) ∧ Aside0 (Kd.R k146 146 w' w.heap.size (fun _ => True) v6 x6_2) ∧ Aside0 (Below w.heap.size w w'))
      case atStart => exact ⟨(([] : List (S146))), (0), (by first | rfl | (simp; done) | (simp [*]; done)), H', ⟨Nat.le_refl _⟩, ⟨qN⟩, ⟨qB⟩⟩
      case round =>
        clear H'; try clear c1
        try clear c2
        try clear p2
        try clear c5
        try clear c5b0
        try clear c5b1
        try clear c7
        try clear c8
        try clear p2
        obtain ⟨x6_2, x7_2, rfl, HA, HK2, HO_6, HB⟩ := hrel; cases gk with
        | zero => exact absurd HA.out (by simp [backhaulref14_Pairs.l0])
        | succ k2 =>
          have H := HA.out; clear HA; simp only [backhaulref14_Pairs.l0] at H; by_cases c9 : x7_2 < (l0.length : Int)
          · rw [if_pos c9] at H
            have c9b0 : decide (x7_2 < (l0.length : Int)) = true := zFq c9; clear c9; have HC10 := zA H; clear H; go_upto_region 7 with (fail)
            go_cut [38] (fun v38 wc => ∃ (kq : Nat) (x38_9 : Bool), v38 = .bool x38_9 ∧ Aside0 (backhaulref14_Pairs.j2 kq l0 l1 x6_2 x7_2 x38_9 = some (r1, r2)) ∧ Aside0 (kq ≤ k2) ∧ Aside0 (Kd.R k146 146 wc w.heap.size (fun _ => True) u6 x6_2) ∧ Aside0 (Below w.heap.size w wc))
            case first =>
              have H := HC10.out; clear HC10; by_cases c11 : 0 ≤ x7_2
              · rw [if_pos c11] at H
                have c11b0 : decide (0 ≤ x7_2) = true := zFq c11; clear c11; (first | rw [c11b0] | (simp only [i64_w, i32_w]; rw [c11b0]) | skip)
                by_cases c12 : x7_2 < (l1.length : Int)
                · rw [if_pos c12] at H
                  have c12b0 : decide (x7_2 < (l1.length : Int)) = true := zFq c12; clear c12; by_cases c13 : ((rd_L14 l1 x7_2).length : Int) = 0
                  · rw [if_pos c13] at H
                    have c13b0 : (((rd_L14 l1 x7_2).length : Int) == 0) = true := beq_iff_eq.mpr c13; have c13b1 : (((rd_L14 l1 x7_2).length : Int) != 0) = false := bne_eq_false_iff_eq.mpr c13; clear c13; have H' := zA H; clear H; have p102 : 0 ≤ (x7_2 : Int) := of_decide_eq_true qA; have q102 : x7_2 < (l1.length : Int) := of_decide_eq_true qA; obtain ⟨ad102, A102_0, c102_0, e102, hx102_0, hl102_0, hi102_0⟩ := at_L14 HR1.out x7_2 p102 q102; cases e102
                    replace hx102_0 := (HB.out.cell (zCq w _ hx102_0)).trans hx102_0; have HR102_0 := zA hi102_0; have HC102_0 := zA hl102_0; clear hi102_0 hl102_0; replace p102 := eq_true p102; replace q102 := eq_true q102; go_wp2; go_meet
                    case rel => exact ⟨_, (true), (by first | rfl | (simp; done) | (simp [*]; done)), H', ⟨by have := HJ2.out; have := HK2.out; first | omega | exact Nat.le_refl _⟩, ⟨by (with_reducible repeat (first | apply Kd.R_alloc | apply Kd.R_drewN | apply Kd.R_drew)); exact HO_6.out⟩, ⟨qB⟩⟩
                  rw [if_neg c13] at H; have c13b0 : (((rd_L14 l1 x7_2).length : Int) == 0) = false := beq_eq_false_iff_ne.mpr c13; have c13b1 : (((rd_L14 l1 x7_2).length : Int) != 0) = true := bne_iff_ne.mpr c13; have c13b2 : ¬ ((rd_L14 l1 x7_2) = []) := fun h_ => c13 (by rw [h_]; rfl)
                  replace H := Option.bind_eq_some_iff.mp H; obtain ⟨t104, A140, H⟩ := H; try dsimp only at H
                  have A14 := zA A140; clear A140; have H' := zA H; clear H; have p102 : 0 ≤ (x7_2 : Int) := of_decide_eq_true qA; have q102 : x7_2 < (l1.length : Int) := of_decide_eq_true qA; obtain ⟨ad102, A102_0, c102_0, e102, hx102_0, hl102_0, hi102_0⟩ := at_L14 HR1.out x7_2 p102 q102; cases e102
                  replace hx102_0 := (HB.out.cell (zCq w _ hx102_0)).trans hx102_0; have HR102_0 := zA hi102_0; have HC102_0 := zA hl102_0; clear hi102_0 hl102_0; replace p102 := eq_true p102; replace q102 := eq_true q102; have p103 : 0 ≤ (x7_2 : Int) := of_decide_eq_true qA; have q103 : x7_2 < (l1.length : Int) := of_decide_eq_true qA; obtain ⟨ad103, A103_0, c103_0, e103, hx103_0, hl103_0, hi103_0⟩ := at_L14 HR1.out x7_2 p103 q103; obtain rfl : ad102 = ad103 := (by injection e103)
                  replace hx103_0 := (HB.out.cell (zCq w _ hx103_0)).trans hx103_0; have HR103_0 := zA hi103_0; have HC103_0 := zA hl103_0; clear hi103_0 hl103_0; replace p103 := eq_true p103; replace q103 := eq_true q103; have ea_ := zKq (hx102_0.symm.trans hx103_0); injection ea_ with ea_ en_ ec_
                  subst ea_; subst ec_; clear en_; go_wp2_with (first | (go_at_call 79; (with_reducible refine (backhaulref13_Rising.calls k2 _ _ (rd_L14 l1 x7_2) t104 _ ?side1 ?side2 A14.out).mono ?_); (case side1 => exact qC (Kd.C_below HR103_0.out HB.out)); (case side2 => exact HC103_0.out); rintro e w' ⟨rfl, ⟨nd, rfl⟩⟩)); go_meet
                  case rel => exact ⟨_, ((t104 != 0)), (by first | rfl | (simp; done) | (simp [*]; done)), H', ⟨by have := HJ2.out; have := HK2.out; first | omega | exact Nat.le_refl _⟩, ⟨by (with_reducible repeat (first | apply Kd.R_alloc | apply Kd.R_drewN | apply Kd.R_drew)); exact HO_6.out⟩, ⟨qB⟩⟩
                rw [if_neg c12] at H; exact absurd H (by simp)
              rw [if_neg c11] at H; exact absurd H (by simp)
            case rest =>
              clear HC10; try clear c1
              try clear p1
              try clear q1
              try clear hx1
              try clear c2
              try clear p2
              try clear c5
              try clear c5b0
              try clear c5b1
              try clear c7
              try clear c8
              try clear c9
              try clear c9b0
              try clear c10
              try clear p10
              try clear q10
              try clear hx10
              try clear c11
              try clear c11b0
              try clear c12
              try clear c12b0
              try clear c13
              try clear c13b0
              try clear c13b1
              try clear c13b2
              try clear hx102_0
              try clear hx103_0
              try clear p102
              try clear p103
              try clear p2
              try clear q102
              try clear q103
              obtain ⟨kq, x38_9, rfl, HA, HJ9, HO_6, HB⟩ := hcut; cases kq with
              | zero => exact absurd HA.out (by simp [backhaulref14_Pairs.j2])
              | succ kj9 =>
                have H := HA.out; clear HA; simp only [backhaulref14_Pairs.j2] at H; by_cases c15 : x38_9 = true
                · subst c15
                  have H1 : (some (([] : List (S146)), false)) = some (r1, r2) := by first | (rw [if_pos rfl] at H; exact H) | rfl
                  clear H; have H := H1; clear H1; simp only [zNq, zOq] at H; obtain ⟨rfl, rfl⟩ := H; go_wp2; go_ret2; exact ⟨_, qE, qN, qB⟩
                replace c15 := Bool.eq_false_iff.mpr c15; subst c15; have H1 : (backhaulref14_Pairs.l1 kj9 l0 l1 x6_2 x7_2 0) = some (r1, r2) := by first | (rw [if_neg (show ¬ (false = true) by decide)] at H; exact H) | rfl
                clear H; have H := H1; clear H1; have H' := zA H; clear H; go_wp2; go_loopg [6, 8] kj9 (fun kq v6 v8 w' => ∃ (x6_4 : List (S146)) (x8_4 : Int), v8 = .int .i64 x8_4 ∧ Aside0 (backhaulref14_Pairs.l1 kq l0 l1 x6_4 x7_2 x8_4 = some (r1, r2)) ∧ Aside0 (kq ≤ kj9) ∧ Aside0 (Kd.R k146 146 w' w.heap.size (fun _ => True) v6 x6_4) ∧ Aside0 (Below w.heap.size w w'))
                case atStart => exact ⟨(x6_2), (0), (by first | rfl | (simp; done) | (simp [*]; done)), H', ⟨Nat.le_refl _⟩, ⟨by (with_reducible repeat (first | apply Kd.R_alloc | apply Kd.R_drewN | apply Kd.R_drew)); exact HO_6.out⟩, ⟨qB⟩⟩
                case round =>
                  clear H'; try clear c1
                  try clear p1
                  try clear q1
                  try clear hx1
                  try clear c2
                  try clear p2
                  try clear c5
                  try clear c5b0
                  try clear c5b1
                  try clear c7
                  try clear c8
                  try clear c9
                  try clear c9b0
                  try clear c10
                  try clear p10
                  try clear q10
                  try clear hx10
                  try clear c11
                  try clear c11b0
                  try clear c12
                  try clear c12b0
                  try clear c13
                  try clear c13b0
                  try clear c13b1
                  try clear c13b2
                  try clear c15
                  try clear hx102_0
                  try clear hx103_0
                  try clear p1
                  try clear p10
                  try clear p102
                  try clear p103
                  try clear p2
                  try clear q1
                  try clear q10
                  try clear q102
                  try clear q103
                  obtain ⟨x6_4, x8_4, rfl, HA, HK4, HO_6, HB⟩ := hrel; cases gk with
                  | zero => exact absurd HA.out (by simp [backhaulref14_Pairs.l1])
                  | succ k4 =>
                    have H := HA.out; clear HA; simp only [backhaulref14_Pairs.l1] at H; by_cases c16 : 0 ≤ x7_2
                    · rw [if_pos c16] at H
                      have c16b0 : decide (0 ≤ x7_2) = true := zFq c16; clear c16; by_cases c17 : x7_2 < (l1.length : Int)
                      · rw [if_pos c17] at H
                        have c17b0 : decide (x7_2 < (l1.length : Int)) = true := zFq c17; clear c17; by_cases c18 : x8_4 < ((rd_L14 l1 x7_2).length : Int)
                        · rw [if_pos c18] at H
                          have c18b0 : decide (x8_4 < ((rd_L14 l1 x7_2).length : Int)) = true := zFq c18; clear c18; by_cases c19 : x7_2 < (l0.length : Int)
                          · rw [if_pos c19] at H
                            have c19b0 : decide (x7_2 < (l0.length : Int)) = true := zFq c19; clear c19; by_cases c20 : 0 ≤ x8_4
                            · rw [if_pos c20] at H
                              have c20b0 : decide (0 ≤ x8_4) = true := zFq c20; clear c20; by_cases c21 : x6_4.length < 5864062014805
                              · rw [if_pos c21] at H
                                have LMc21 := zA c21; clear c21; obtain ⟨y109, hy109⟩ : ∃ y_ : List (S146), y_ = (x6_4 ++ [(⟨rdOf ByteArray.empty l0 x7_2, rd (rd_L14 l1 x7_2) x8_4⟩ : S146)]) := ⟨_, rfl⟩
                                replace H : (backhaulref14_Pairs.l1 k4 l0 l1 y109 x7_2 (wrap64 (x8_4 + 1))) = some (r1, r2) := by first | (rw [hy109]; with_reducible exact H) | (have H2_ := (Option.bind_some _ _).symm.trans H; rw [hy109]; with_reducible exact H2_) | (have H2_ := (Option.bind_some _ _).symm.trans H; with_reducible exact H2_) | with_reducible exact H | (rw [hy109]; exact H) | exact H
                                have Ny109 := zA hy109; clear hy109; have H' := zA H; clear H; have p105 : 0 ≤ (x7_2 : Int) := of_decide_eq_true qA; have q105 : x7_2 < (l1.length : Int) := of_decide_eq_true qA; obtain ⟨ad105, A105_0, c105_0, e105, hx105_0, hl105_0, hi105_0⟩ := at_L14 HR1.out x7_2 p105 q105; cases e105
                                replace hx105_0 := (HB.out.cell (zCq w _ hx105_0)).trans hx105_0; have HR105_0 := zA hi105_0; have HC105_0 := zA hl105_0; clear hi105_0 hl105_0; replace p105 := eq_true p105; replace q105 := eq_true q105; try go_wp2
                                have n0_ := zA (Kd.R_drew HO_6.out); have n1_ := zA (zC HB.out); clear HO_6; clear HB; have HO_6 := n0_; have HB := n1_; clear n0_ n1_; have p106 : 0 ≤ (x7_2 : Int) := of_decide_eq_true qA; have q106 : x7_2 < (l0.length : Int) := of_decide_eq_true qA; obtain ⟨ad106, e106, hx106_0⟩ := Kd.at_string HR0.out x7_2 p106 q106; have hw106_0 := hx106_0; cases e106
                                replace hx106_0 := (HB.out.cell (zCq w _ hx106_0)).trans hx106_0; replace p106 := eq_true p106; replace q106 := eq_true q106; have p107 : 0 ≤ (x7_2 : Int) := of_decide_eq_true qA; have q107 : x7_2 < (l1.length : Int) := of_decide_eq_true qA; obtain ⟨ad107, A107_0, c107_0, e107, hx107_0, hl107_0, hi107_0⟩ := at_L14 HR1.out x7_2 p107 q107; have hw107_0 := hx107_0; obtain rfl : ad105 = ad107 := (by injection e107)
                                replace hx107_0 := (HB.out.cell (zCq w _ hx107_0)).trans hx107_0; have HR107_0 := zA hi107_0; have HC107_0 := zA hl107_0; clear hi107_0 hl107_0; replace p107 := eq_true p107; replace q107 := eq_true q107; have p108 : 0 ≤ (x8_4 : Int) := of_decide_eq_true qA; have q108 : x8_4 < ((rd_L14 l1 x7_2).length : Int) := of_decide_eq_true qA; obtain ⟨ad108, e108, hx108_0⟩ := Kd.at_int HR107_0.out x8_4 p108 q108; have hw108_0 := hx108_0; cases e108
                                replace hx108_0 := (HB.out.cell (zCq w _ hx108_0)).trans hx108_0; replace p108 := eq_true p108; replace q108 := eq_true q108; refine start_ (n := 16) (S := fun w' => w'.cell? (ad106.add (x7_2).toNat) = some (.string (rdOf ByteArray.empty l0 x7_2)) ∧ w'.cell? (ad105.add (x7_2).toNat) = some (.slice (some ad108) (rd_L14 l1 x7_2).length c107_0) ∧ w'.cell? (ad108.add (x8_4).toNat) = some (.int .i64 (rd (rd_L14 l1 x7_2) x8_4))) (ds := []) #[o0, o0, o0, o0, o0, o0, o0, o0, o0, o0, o0, o0, o0, o0, o0, o0] (by kernel_rfl) rfl rfl ⟨((HB.out.cell (zCq w _ hw106_0)).trans hw106_0), ((HB.out.cell (zCq w _ hw107_0)).trans hw107_0), ((HB.out.cell (zCq w _ hw108_0)).trans hw108_0)⟩ (fun hHeld => ?_); refine with_tabW backhaulref14_Pairs.tab12 backhaulref14_Pairs.bits12 (fun HT_ HW_ => ?_); generalize wr.drew = w22 at HO_6 HB HR107_0 hx106_0 hx107_0 hx108_0 hHeld ⊢; refine pure_ (i := 0) (N := some 48) #[o1, o0, o0, o0, o0, o0, o0, o0, o0, o0, o0, o0, o0, o0, o0, o0] rfl rfl (any_of HT_.out (by kernel_rfl)) (fun _ _ _ h => h) (Or.inl ⟨by rfl, qy⟩) qz ?_; refine pure_ (i := 1) (N := some 49) #[o1, o1, o0, o0, o0, o0, o0, o0, o0, o0, o0, o0, o0, o0, o0, o0] rfl rfl (any_of HT_.out (by kernel_rfl)) (fun _ _ _ h => h) (Or.inl ⟨by rfl, qy⟩) qz ?_; refine pure_ (i := 2) (N := some 50) #[o1, o1, o1, o0, o0, o0, o0, o0, o0, o0, o0, o0, o0, o0, o0, o0] rfl rfl (any_of HT_.out (by kernel_rfl)) (fun _ _ _ h => h) (Or.inl ⟨by rfl, qy⟩) qz ?_; refine pure_ (i := 3) (N := some 51) #[o1, o1, o1, o1, o0, o0, o0, o0, o0, o0, o0, o0, o0, o0, o0, o0] rfl rfl (any_of HT_.out (by kernel_rfl)) (fun _ _ _ h => h) (Or.inl ⟨by rfl, qy⟩) qz ?_; refine pure_ (i := 5) (N := some 53) #[o1, o1, o1, o1, o0, o1, o0, o0, o0, o0, o0, o0, o0, o0, o0, o0] rfl rfl (any_of HT_.out (by kernel_rfl)) (fun _ _ _ h => h) (Or.inl ⟨by rfl, qy⟩) qz ?_; refine pure_ (i := 6) (N := some 54) #[o1, o1, o1, o1, o0, o1, o1, o0, o0, o0, o0, o0, o0, o0, o0, o0] rfl rfl (any_of HT_.out (by kernel_rfl)) (fun _ _ _ h => h) (Or.inl ⟨by rfl, qy⟩) qz ?_; refine pure_ (i := 7) (N := some 55) #[o1, o1, o1, o1, o0, o1, o1, o1, o0, o0, o0, o0, o0, o0, o0, o0] rfl rfl (any_of HT_.out (by kernel_rfl)) (fun _ _ _ h => h) (Or.inl ⟨by rfl, qy⟩) qz ?_; refine pure_ (i := 9) (N := some 57) #[o1, o1, o1, o1, o0, o1, o1, o1, o0, o1, o0, o0, o0, o0, o0, o0] rfl rfl (any_of HT_.out (by kernel_rfl)) (fun _ _ _ h => h) (Or.inl ⟨by rfl, qy⟩) qz ?_; refine take_ (i := 4) (N := some 52) (v := ?_) (a' := ?_) #[o1, o1, o1, o1, o1, o1, o1, o1, o0, o1, o0, o0, o0, o0, o0, o0] rfl rfl (take_ofW HT_.out HW_.out (by kernel_rfl)) (fun _ _ _ h => h) (Or.inl ⟨by rfl, ?_⟩) hHeld ?_ ?_
                                rotate_left
                                · rintro w' ⟨s0, s1, s2⟩
                                  go_simp; with_reducible rfl
                                rotate_left
                                · simp only [Act.put, zH, zI, zJ, i64_w, i32_w]
                                  rfl
                                refine take_ (i := 8) (N := some 56) (v := ?_) (a' := ?_) #[o1, o1, o1, o1, o1, o1, o1, o1, o1, o1, o0, o0, o0, o0, o0, o0] rfl rfl (take_ofW HT_.out HW_.out (by kernel_rfl)) (fun _ _ _ h => h) (Or.inl ⟨by rfl, ?_⟩) hHeld ?_ ?_; rotate_left
                                · rintro w' ⟨s0, s1, s2⟩
                                  go_simp; with_reducible rfl
                                rotate_left
                                · simp only [Act.put, zH, zI, zJ, i64_w, i32_w]
                                  rfl
                                refine pure_ (i := 10) (N := some 58) #[o1, o1, o1, o1, o1, o1, o1, o1, o1, o1, o1, o0, o0, o0, o0, o0] rfl rfl (any_of HT_.out (by kernel_rfl)) (fun _ _ _ h => h) (Or.inl ⟨by rfl, qy⟩) qz ?_; refine take_ (i := 11) (N := some 59) (v := ?_) (a' := ?_) #[o1, o1, o1, o1, o1, o1, o1, o1, o1, o1, o1, o1, o0, o0, o0, o0] rfl rfl (take_ofW HT_.out HW_.out (by kernel_rfl)) (fun _ _ _ h => h) (Or.inl ⟨by rfl, ?_⟩) hHeld ?_ ?_; rotate_left
                                · rintro w' ⟨s0, s1, s2⟩
                                  go_simp; with_reducible rfl
                                rotate_left
                                · simp only [Act.put, zH, zI, zJ, i64_w, i32_w]
                                  rfl
                                refine pure_ (i := 12) (N := some 60) #[o1, o1, o1, o1, o1, o1, o1, o1, o1, o1, o1, o1, o1, o0, o0, o0] rfl rfl (any_of HT_.out (by kernel_rfl)) (fun _ _ _ h => h) (Or.inl ⟨by rfl, qy⟩) qz ?_; refine one_ (i := 13) (N := some 61) #[o1, o1, o1, o1, o1, o1, o1, o1, o1, o1, o1, o1, o1, o1, o0, o0] rfl rfl (one_of HT_.out (by kernel_rfl)) (by decide) (fun K hK => ?_); refine value_ (w1 := ?_) (v := ?_) (by rfl) rfl ?_ ?_; rotate_left 2
                                · go_simp
                                  constructor
                                  · rfl
                                  rfl
                                refine hK.out _ _ ⟨(World.cell?_alloc_lt _ _ _ (zCq _ _ (((HB.out.cell (zCq w _ hw106_0)).trans hw106_0)))).trans (((HB.out.cell (zCq w _ hw106_0)).trans hw106_0)), (World.cell?_alloc_lt _ _ _ (zCq _ _ (((HB.out.cell (zCq w _ hw107_0)).trans hw107_0)))).trans (((HB.out.cell (zCq w _ hw107_0)).trans hw107_0)), (World.cell?_alloc_lt _ _ _ (zCq _ _ (((HB.out.cell (zCq w _ hw108_0)).trans hw108_0)))).trans (((HB.out.cell (zCq w _ hw108_0)).trans hw108_0))⟩ (fun hHeld => ?_); clear hK K; refine norm_ (a' := ?_) ?_ ?_; rotate_left
                                · show Act.put _ (some 61) _ = _
                                  simp only [Act.put, zH, zI, zJ, i64_w, i32_w]; rfl
                                refine one_ (i := 14) (N := some 62) #[o1, o1, o1, o1, o1, o1, o1, o1, o1, o1, o1, o1, o1, o1, o1, o0] rfl rfl (one_of HT_.out (by kernel_rfl)) (by decide) (fun K hK => ?_); refine Kd.R_append_step k146 (w0 := w) w.heap.size (by rfl) (.tmp 48) (.tmp 61) 53 146 (.agg #[(.string ⟨#[]⟩), (.int .i64 0)]) 24 rfl Try.underlying53 info146 rfl (by decide) (by omega) u6 x6_4 (⟨rdOf ByteArray.empty l0 x7_2, rd (rd_L14 l1 x7_2) x8_4⟩ : S146) [.string (rdOf ByteArray.empty l0 x7_2), .int .i64 (rd (rd_L14 l1 x7_2) x8_4)] (fun _ => True) (fun _ => False) rfl rfl ?aP (fun _ hk => hk.elim) ?aF ?aO ?aB ?aS ?aL ?_; (case aP => exact k146_mkM _ _ _ (⟨rdOf ByteArray.empty l0 x7_2, rd (rd_L14 l1 x7_2) x8_4⟩ : S146))
                                (case aB => exact qB)
                                (case aF => exact (fun _ _ => trivial))
                                (case aO => exact (by (with_reducible repeat (first | apply Kd.R_alloc | apply Kd.R_drewN | apply Kd.R_drew)); exact HO_6.out))
                                (case aS => exact (zW qB))
                                (case aL => have := LMc21.out; omega)
                                intro v110 w23 ho hb hg hat; rw [← Ny109.out] at ho; have n0_ := zA (hb); have n1_ := zA (ho); clear HB; clear HO_6; have HB := n0_; have HO111 := n1_; clear n0_ n1_; clear ho hb hg hat; refine hK.out _ _ ⟨((HB.out.cell (zCq w _ hw106_0)).trans hw106_0), ((HB.out.cell (zCq w _ hw107_0)).trans hw107_0), ((HB.out.cell (zCq w _ hw108_0)).trans hw108_0)⟩ (fun hHeld => ?_); clear hK K; refine norm_ (a' := ?_) ?_ ?_; rotate_left
                                · show Act.put _ (some 62) _ = _
                                  simp only [Act.put, zH, zI, zJ, i64_w, i32_w]; rfl
                                refine pure_ (i := 15) (N := some 6) #[o1, o1, o1, o1, o1, o1, o1, o1, o1, o1, o1, o1, o1, o1, o1, o1] rfl rfl (any_of HT_.out (by kernel_rfl)) (fun _ _ _ h => h) (Or.inl ⟨by rfl, qy⟩) qz ?_; refine done_ (done_of HT_.out (by kernel_rfl)) ?_; try go_wp2
                                go_roundg k4
                                case measure => have := HJ2.out; have := HK2.out; have := HJ9.out; have := HK4.out; omega
                                case rel => exact ⟨(y109), (wrap64 (x8_4 + 1)), (by first | rfl | (simp; done) | (simp [*]; done)), H', ⟨by have := HJ2.out; have := HK2.out; have := HJ9.out; have := HK4.out; omega⟩, ⟨by (with_reducible repeat (first | apply Kd.R_alloc | apply Kd.R_drewN | apply Kd.R_drew)); exact HO111.out⟩, ⟨qB⟩⟩
                              rw [if_neg c21] at H; exact absurd H (by simp)
                            rw [if_neg c20] at H; exact absurd H (by simp)
                          rw [if_neg c19] at H; exact absurd H (by simp)
                        rw [if_neg c18] at H; have c18b0 : decide (x8_4 < ((rd_L14 l1 x7_2).length : Int)) = false := zGq c18; clear c18; have H' := zA H; clear H; have p105 : 0 ≤ (x7_2 : Int) := of_decide_eq_true qA; have q105 : x7_2 < (l1.length : Int) := of_decide_eq_true qA; obtain ⟨ad105, A105_0, c105_0, e105, hx105_0, hl105_0, hi105_0⟩ := at_L14 HR1.out x7_2 p105 q105; cases e105
                        replace hx105_0 := (HB.out.cell (zCq w _ hx105_0)).trans hx105_0; have HR105_0 := zA hi105_0; have HC105_0 := zA hl105_0; clear hi105_0 hl105_0; replace p105 := eq_true p105; replace q105 := eq_true q105; go_wp2; go_roundg k4
                        case measure => have := HJ2.out; have := HK2.out; have := HJ9.out; have := HK4.out; omega
                        case rel => exact ⟨(x6_4), (wrap64 (x7_2 + 1)), (by first | rfl | (simp; done) | (simp [*]; done)), H', ⟨by have := HJ2.out; have := HK2.out; have := HJ9.out; have := HK4.out; omega⟩, ⟨by (with_reducible repeat (first | apply Kd.R_alloc | apply Kd.R_drewN | apply Kd.R_drew)); exact HO_6.out⟩, ⟨qB⟩⟩
                      rw [if_neg c17] at H; exact absurd H (by simp)
                    rw [if_neg c16] at H; exact absurd H (by simp)
          rw [if_neg c9] at H; have c9b0 : decide (x7_2 < (l0.length : Int)) = false := zGq c9; clear c9; simp only [zNq, zOq] at H; obtain ⟨rfl, rfl⟩ := H; obtain ⟨Ao24, co24, eo24⟩ := Kd.R_slice HO_6.out; subst eo24; go_wp2; go_ret2; exact ⟨_, qE, by (with_reducible repeat (first | apply Kd.R_alloc | apply Kd.R_drewN | apply Kd.R_drew)); exact HO_6.out, qB⟩
theorem eqA146 (d : Nat) (w : World) (x0 y0 : ByteArray) (x1 y1 : Int) :
    (Op.equalIn (d + 2) 146 (.agg #[.string x0, .int .i64 x1]) (.agg #[.string y0, .int .i64 y1])).run Try.prog w = .ok (x0.toList == y0.toList && (x1 == y1)) w := by
  refine eqA_of Try.underlying146 (by kernel_rfl) ?_
  refine eqf_cons (by rfl) (by go_simp; rfl) (by go_simp; rfl) (by go_simp) ?_
  exact eqf_last (by rfl) (by go_simp; rfl) (by go_simp; rfl) (by go_simp)
end Go.Proofs.Ytdpcgigjlcpofaa.F
namespace Go.Proofs.Ytdpcgigjlcpofaa.F
open Go.RowKit Go.Proofs.YtdpcgigjlcpofaaX Go.Proofs.YtdpcgigjlcpofaaW.PrintWords Go.Proofs.YtdpcgigjlcpofaaW.PrintLast Go.Proofs.YtdpcgigjlcpofaaW.PrintMore
attribute [local go_sem] max2_int min2_int max_two min_two max_three min_three max_four min_four   
attribute [local go_sem high] str_geq str_leq str_gtr
set_option linter.unusedVariables false
set_option linter.unusedSimpArgs false
attribute [local go_sem high] eqA146
def backhaulref14_Same.l0 : Nat → List (S146) → List (S146) → Int → Option (Bool)
  | 0, _, _, _ => none
  | k + 1, x0, x1, x5 => if x5 < (x0.length : Int) then (if 0 ≤ x5 then (if x5 < (x1.length : Int) then (if (!((((rd_T146 x0 x5).f0).toList) == (((rd_T146 x1 x5).f0).toList)) || (!(((rd_T146 x0 x5).f1) == ((rd_T146 x1 x5).f1)))) = true then (some false) else (backhaulref14_Same.l0 k x0 x1 (wrap64 (x5 + 1)))) else (none)) else (none)) else (some true)
def backhaulref14_Same.f (k : Nat) (l0 : List (S146)) (l1 : List (S146)) : Option (Bool) := if (l0.length : Int) = (l1.length : Int) then (backhaulref14_Same.l0 k l0 l1 0) else (some false)
theorem backhaulref14_Same.mono_l : ∀ k, (∀ y0 y1 y2, LeO (backhaulref14_Same.l0 k y0 y1 y2) (backhaulref14_Same.l0 (k + 1) y0 y1 y2))
  | 0 => fun _ _ _ r h => by simp [backhaulref14_Same.l0] at h
  | k + 1 => by
    have ih0 := backhaulref14_Same.mono_l k
    intro y0 y1 y2
    unfold backhaulref14_Same.l0
    repeat' (with_reducible first | exact ih0 _ _ _ | exact LeO.refl _ | exact LeO.none _ | refine LeO.ite ?_ ?_ | refine LeO.bind ?_ (fun _ => ?_))
theorem backhaulref14_Same.mono : ∀ a0 a1 k, LeO (backhaulref14_Same.f k a0 a1) (backhaulref14_Same.f (k + 1) a0 a1) := by
  intro a0 a1 k
  have ih0 := backhaulref14_Same.mono_l k
  unfold backhaulref14_Same.f
  repeat' (with_reducible first | exact ih0 _ _ _ | exact LeO.refl _ | exact LeO.none _ | refine LeO.ite ?_ ?_ | refine LeO.bind ?_ (fun _ => ?_))
set_option maxHeartbeats 8000000 in
set_option maxRecDepth 100000 in
theorem backhaulref14_Same.calls (k : Nat) (A0 : Option Addr) (c0 : Nat) (l0 : List (S146)) (A1 : Option Addr) (c1 : Nat) (l1 : List (S146)) (r : Bool) (w : World) (hr0 : Kd.C k146 w A0 l0.length l0) (hc0 : l0.length ≤ c0) (hr1 : Kd.C k146 w A1 l1.length l1) (hc1 : l1.length ≤ c1) (h : backhaulref14_Same.f k l0 l1 = some r) :
    Calls Try.prog 94 #[.slice A0 l0.length c0, .slice A1 l1.length c1] w fun e w' => e = .returned (.bool r) ∧ Drawn0 w w' := by
  have hu146 := Try.underlying146
  have HR0 := zA hr0
  have HC0 := zA hc0
  clear hr0 hc0
  have HR1 := zA hr1
  have HC1 := zA hc1
  clear hr1 hc1
  have H : (if (l0.length : Int) = (l1.length : Int) then (backhaulref14_Same.l0 k l0 l1 0) else (some false)) = some r := h
  clear h
  by_cases c3 : (l0.length : Int) = (l1.length : Int)
  · rw [if_pos c3] at H
    have c3b0 : ((l0.length : Int) == (l1.length : Int)) = true := beq_iff_eq.mpr c3; have c3b1 : ((l0.length : Int) != (l1.length : Int)) = false := bne_eq_false_iff_eq.mpr c3; have c3b2 : (l0.length == l1.length) = true := by first | simpa using c3 | (simp at c3 ⊢; omega)
    clear c3; have H' := zA H; clear H; go_enter Try.func94, Try.ntmps94; go_wp2; repeat (go_quiet (fail); try go_wp2)
    go_loopg [5] k (fun kq v5 w' => ∃ (x5_1 : Int), v5 = .int .i64 x5_1 ∧ Aside0 (backhaulref14_Same.l0 kq l0 l1 x5_1 = some r) ∧ Aside0 (kq ≤ k) ∧ Drawn0 w w')
    case atStart => exact ⟨(0), (by first | rfl | (simp; done) | (simp [*]; done)), H', ⟨Nat.le_refl _⟩, by repeat (first | exact Drawn0.refl _ | apply Drawn0.step)⟩
    case round =>
      clear H'; try clear c1
      try clear p2
      try clear c3
      try clear c3b0
      try clear c3b1
      try clear c3b2
      obtain ⟨x5_1, rfl, HA, HK1, ⟨m1, rfl⟩⟩ := hrel; cases gk with
      | zero => exact absurd HA.out (by simp [backhaulref14_Same.l0])
      | succ k1 =>
        have H := HA.out; clear HA; simp only [backhaulref14_Same.l0] at H; by_cases c4 : x5_1 < (l0.length : Int)
        · rw [if_pos c4] at H
          have c4b0 : decide (x5_1 < (l0.length : Int)) = true := zFq c4; clear c4; by_cases c5 : 0 ≤ x5_1
          · rw [if_pos c5] at H
            have c5b0 : decide (0 ≤ x5_1) = true := zFq c5; clear c5; by_cases c6 : x5_1 < (l1.length : Int)
            · rw [if_pos c6] at H
              have c6b0 : decide (x5_1 < (l1.length : Int)) = true := zFq c6; clear c6; by_cases c7 : (!((((rd_T146 l0 x5_1).f0).toList) == (((rd_T146 l1 x5_1).f0).toList)) || (!(((rd_T146 l0 x5_1).f1) == ((rd_T146 l1 x5_1).f1)))) = true
              · rw [if_pos c7] at H
                have c7b0 : (!((((rd_T146 l0 x5_1).f0).toList) == (((rd_T146 l1 x5_1).f0).toList)) || (!(((rd_T146 l0 x5_1).f1) == ((rd_T146 l1 x5_1).f1)))) = true := c7; clear c7; obtain rfl := zKq H; have p101 : 0 ≤ (x5_1 : Int) := of_decide_eq_true qA; have q101 : x5_1 < (l0.length : Int) := of_decide_eq_true qA; obtain ⟨ad101, e101, hx101_0, hx101_1⟩ := at_T146 HR0.out x5_1 p101 q101; cases e101
                replace p101 := eq_true p101; replace q101 := eq_true q101; have p102 : 0 ≤ (x5_1 : Int) := of_decide_eq_true qA; have q102 : x5_1 < (l1.length : Int) := of_decide_eq_true qA; obtain ⟨ad102, e102, hx102_0, hx102_1⟩ := at_T146 HR1.out x5_1 p102 q102; cases e102
                replace p102 := eq_true p102; replace q102 := eq_true q102; go_wp2; repeat (go_quiet (fail); try go_wp2)
                go_ret; exact ⟨by first | rfl | (simp; done) | (simp [*]; done), by repeat (first | exact Drawn0.refl _ | apply Drawn0.step)⟩
              rw [if_neg c7] at H; have c7b0 : (!((((rd_T146 l0 x5_1).f0).toList) == (((rd_T146 l1 x5_1).f0).toList)) || (!(((rd_T146 l0 x5_1).f1) == ((rd_T146 l1 x5_1).f1)))) = false := by simpa using c7
              clear c7; have H' := zA H; clear H; have p101 : 0 ≤ (x5_1 : Int) := of_decide_eq_true qA; have q101 : x5_1 < (l0.length : Int) := of_decide_eq_true qA; obtain ⟨ad101, e101, hx101_0, hx101_1⟩ := at_T146 HR0.out x5_1 p101 q101; cases e101
              replace p101 := eq_true p101; replace q101 := eq_true q101; have p102 : 0 ≤ (x5_1 : Int) := of_decide_eq_true qA; have q102 : x5_1 < (l1.length : Int) := of_decide_eq_true qA; obtain ⟨ad102, e102, hx102_0, hx102_1⟩ := at_T146 HR1.out x5_1 p102 q102; cases e102
              replace p102 := eq_true p102; replace q102 := eq_true q102; go_wp2; repeat (go_quiet (fail); try go_wp2)
              go_roundg k1
              case measure => have := HK1.out; omega
              case rel => exact ⟨(wrap64 (x5_1 + 1)), (by first | rfl | (simp; done) | (simp [*]; done)), H', ⟨by have := HK1.out; omega⟩, by repeat (first | exact Drawn0.refl _ | apply Drawn0.step)⟩
            rw [if_neg c6] at H; exact absurd H (by simp)
          rw [if_neg c5] at H; exact absurd H (by simp)
        rw [if_neg c4] at H; have c4b0 : decide (x5_1 < (l0.length : Int)) = false := zGq c4; clear c4; obtain rfl := zKq H; go_wp2; repeat (go_quiet (fail); try go_wp2)
        go_ret; exact ⟨by first | rfl | (simp; done) | (simp [*]; done), by repeat (first | exact Drawn0.refl _ | apply Drawn0.step)⟩
  rw [if_neg c3] at H
  have c3b0 : ((l0.length : Int) == (l1.length : Int)) = false := beq_eq_false_iff_ne.mpr c3
  have c3b1 : ((l0.length : Int) != (l1.length : Int)) = true := bne_iff_ne.mpr c3
  have c3b2 : (l0.length == l1.length) = false := by first | simpa using c3 | (simp at c3 ⊢; omega)
  obtain rfl := zKq H
  go_enter Try.func94, Try.ntmps94
  go_wp2
  repeat (go_quiet (fail); try go_wp2)
  go_ret
  exact ⟨by first | rfl | (simp; done) | (simp [*]; done), by repeat (first | exact Drawn0.refl _ | apply Drawn0.step)⟩
def backhaullaw14_same.f (k : Nat) (l0_0 : List ByteArray) (l0_1 : List (List Int)) (l1 : List (S146)) : Option (Bool) := (backhaulref14_Pairs.f k l0_0 l0_1).bind fun bt102 => (if bt102.2 = true then ((backhaulref14_Same.f k bt102.1 l1).bind fun t106 => (some t106)) else (some false))
theorem backhaullaw14_same.mono : ∀ a0 a1 a2 k, LeO (backhaullaw14_same.f k a0 a1 a2) (backhaullaw14_same.f (k + 1) a0 a1 a2) := by
  intro a0 a1 a2 k
  unfold backhaullaw14_same.f
  repeat' (with_reducible first | exact backhaulref14_Pairs.mono _ _ _ | exact backhaulref14_Same.mono _ _ _ | exact LeO.refl _ | exact LeO.none _ | refine LeO.ite ?_ ?_ | refine LeO.bind ?_ (fun _ => ?_))
set_option maxHeartbeats 8000000 in
set_option maxRecDepth 100000 in
theorem backhaullaw14_same.calls (k : Nat) (A0_0 : Option Addr) (c0_0 : Nat) (l0_0 : List ByteArray) (A0_1 : Option Addr) (c0_1 : Nat) (l0_1 : List (List Int)) (A1 : Option Addr) (c1 : Nat) (l1 : List (S146)) (r : Bool) (w : World) (hr0_0 : Kd.C Kd.string w A0_0 l0_0.length l0_0) (hc0_0 : l0_0.length ≤ c0_0) (hr0_1 : Kd.C (Kd.slice 3 (Kd.int .i64)) w A0_1 l0_1.length l0_1) (hc0_1 : l0_1.length ≤ c0_1) (hr1 : Kd.C k146 w A1 l1.length l1) (hc1 : l1.length ≤ c1) (h : backhaullaw14_same.f k l0_0 l0_1 l1 = some r) :
    Calls Try.prog 39 #[.agg #[.slice A0_0 l0_0.length c0_0, .slice A0_1 l0_1.length c0_1], .slice A1 l1.length c1] w fun e w' => e = .returned (.bool r) ∧ Below w.heap.size w w' := by
  have hu51 := Try.underlying51
  have HR0_0 := zA hr0_0
  have HC0_0 := zA hc0_0
  clear hr0_0 hc0_0
  have HR0_1 := zA hr0_1
  have HC0_1 := zA hc0_1
  clear hr0_1 hc0_1
  have HR1 := zA hr1
  have HC1 := zA hc1
  clear hr1 hc1
  have HB := zA (Below.refl w.heap.size w)
  have H : ((backhaulref14_Pairs.f k l0_0 l0_1).bind fun bt102 => (if bt102.2 = true then ((backhaulref14_Same.f k bt102.1 l1).bind fun t106 => (some t106)) else (some false))) = some r := h
  clear h
  replace H := Option.bind_eq_some_iff.mp H
  obtain ⟨⟨t102, t103⟩, A30, H⟩ := H
  try dsimp only at H
  have A3 := zA A30
  clear A30
  by_cases c4 : t103 = true
  · subst c4
    have H1 : ((backhaulref14_Same.f k t102 l1).bind fun t106 => (some t106)) = some r := by first | (rw [if_pos rfl] at H; exact H) | rfl
    clear H; have H := H1; clear H1; replace H := Option.bind_eq_some_iff.mp H; obtain ⟨t106, A50, H⟩ := H; try dsimp only at H
    have A5 := zA A50; clear A50; obtain rfl := zKq H; go_enter Try.func39, Try.ntmps39; go_wp2_with (first | ((with_reducible refine gate_dst (N := 2) rfl ?_); refine box_event qr (N := 2) qr (cs := #[.slice A0_0 l0_0.length c0_0, .slice A0_1 l0_1.length c0_1]) (t := 51) qg ?_; intro gb101 hg w6 hbox hb; have n0_ := zA (zV qB hb); have n1_ := zA (hbox); have n2_ := zA ((qS : w.heap.size ≤ gb101)); have n3_ := zA ((qS : w.heap.size ≤ gb101)); clear HB; have HB := n0_; have BK101 := n1_; have GW101 := n2_; have GE101 := n3_; clear n0_ n1_ n2_ n3_ hb hbox hg; obtain ⟨_, _, _, _⟩ := qc2f BK101.out) | ((with_reducible refine zJq (f := 27) rfl ?_); refine goesL_ (some 12) rfl rfl Try.func27 (by kernel_rfl) rfl #[.slice A0_0 l0_0.length c0_0, .slice A0_1 l0_1.length c0_1] rfl qG ?_; (with_reducible refine (backhaulref14_Pairs.calls k _ _ l0_0 _ _ l0_1 t102 true _ ?side1 ?side2 ?side3 ?side4 A3.out).mono ?_); (case side1 => exact qC (Kd.C_below HR0_0.out HB.out)); (case side2 => exact HC0_0.out); (case side3 => exact qC (Kd.C_below HR0_1.out HB.out)); (case side4 => exact HC0_1.out); rintro e w8 ⟨v104, rfl, ho0, hb⟩; refine ⟨_, rfl, ?_⟩; have n0_ := zA (Kd.R_lower ho0 (zW qB)); have n1_ := zA (qX BK101.out hb); have n2_ := zA (zV qB hb); clear BK101 HB; have HO105 := n0_; have BK101 := n1_; have HB := n2_; clear n0_ n1_ n2_; (try clear hb); (try clear ho0); obtain ⟨Ao9, co9, eo9⟩ := Kd.R_slice HO105.out; subst eo9) | (go_at_call 94; (with_reducible refine (backhaulref14_Same.calls k _ _ t102 _ _ l1 t106 _ ?side1 ?side2 ?side3 ?side4 A5.out).mono ?_); (case side1 => repeat (first | exact (Kd.R_reads' HO105.out).2.2 | (with_reducible refine Kd.C_alloc ?_ _) | (with_reducible refine Kd.C_drewN ?_ _) | (with_reducible refine Kd.C_drew ?_))); (case side2 => exact (Kd.R_reads' HO105.out).2.1); (case side3 => exact qC (Kd.C_below HR1.out HB.out)); (case side4 => exact HC1.out); rintro e w' ⟨rfl, ⟨nd, rfl⟩⟩)); go_ret; exact ⟨qE, qB⟩
  replace c4 := Bool.eq_false_iff.mpr c4
  subst c4
  have H1 : (some false) = some r := by first | (rw [if_neg (show ¬ (false = true) by decide)] at H; exact H) | rfl
  clear H
  have H := H1
  clear H1
  obtain rfl := zKq H
  go_enter Try.func39, Try.ntmps39
  go_wp2_with (first | ((with_reducible refine gate_dst (N := 2) rfl ?_); refine box_event qr (N := 2) qr (cs := #[.slice A0_0 l0_0.length c0_0, .slice A0_1 l0_1.length c0_1]) (t := 51) qg ?_; intro gb101 hg w10 hbox hb; have n0_ := zA (zV qB hb); have n1_ := zA (hbox); have n2_ := zA ((qS : w.heap.size ≤ gb101)); have n3_ := zA ((qS : w.heap.size ≤ gb101)); clear HB; have HB := n0_; have BK101 := n1_; have GW101 := n2_; have GE101 := n3_; clear n0_ n1_ n2_ n3_ hb hbox hg; obtain ⟨_, _, _, _⟩ := qc2f BK101.out) | ((with_reducible refine zJq (f := 27) rfl ?_); refine goesL_ (some 12) rfl rfl Try.func27 (by kernel_rfl) rfl #[.slice A0_0 l0_0.length c0_0, .slice A0_1 l0_1.length c0_1] rfl qG ?_; (with_reducible refine (backhaulref14_Pairs.calls k _ _ l0_0 _ _ l0_1 t102 false _ ?side1 ?side2 ?side3 ?side4 A3.out).mono ?_); (case side1 => exact qC (Kd.C_below HR0_0.out HB.out)); (case side2 => exact HC0_0.out); (case side3 => exact qC (Kd.C_below HR0_1.out HB.out)); (case side4 => exact HC0_1.out); rintro e w12 ⟨v104, rfl, ho0, hb⟩; refine ⟨_, rfl, ?_⟩; have n0_ := zA (Kd.R_lower ho0 (zW qB)); have n1_ := zA (qX BK101.out hb); have n2_ := zA (zV qB hb); clear BK101 HB; have HO105 := n0_; have BK101 := n1_; have HB := n2_; clear n0_ n1_ n2_; (try clear hb); (try clear ho0)))
  go_ret
  exact ⟨qE, qB⟩
mutual
def backhaullaw14_IndexTurns.j0 : Nat → ByteArray → List Int → Bool → List ByteArray → List (List Int) → Option (Bool)
  | 0, _, _, _, _, _ => none
  | k + 1, x1, x2, x37, x102000, x102001 => if x37 = true then ((backhaullaw14_awake.f).bind fun t104 => (if t104 = true then (some true) else (some false))) else ((backhaulref14_Pairs.f k x102000 x102001).bind fun bt105 => ((index_Add.f k x102000 x102001 x1 x2).bind fun bt109 => (if bt109.2.2 = 0 then (backhaullaw14_IndexTurns.l0 k x1 x2 bt105.1 ([] : List Int) (wrap64 ((x2.length : Int) - 1)) x102000 x102001 bt109.1 bt109.2.1) else ((backhaullaw14_same.f k x102000 x102001 bt105.1).bind fun t117 => (if t117 = true then ((backhaullaw14_awake.f).bind fun t118 => (if t118 = true then (some true) else (some false))) else (some false))))))
def backhaullaw14_IndexTurns.l0 : Nat → ByteArray → List Int → List (S146) → List Int → Int → List ByteArray → List (List Int) → List ByteArray → List (List Int) → Option (Bool)
  | 0, _, _, _, _, _, _, _, _, _ => none
  | k + 1, x1, x2, x7, x11, x12, x102000, x102001, x117000, x117001 => if x12 ≥ 0 then (if 0 ≤ x12 then (if x12 < (x2.length : Int) then (if x11.length < 17592186044416 then (backhaullaw14_IndexTurns.l0 k x1 x2 x7 (x11 ++ [rd x2 x12]) (wrap64 (x12 - 1)) x102000 x102001 x117000 x117001) else (none)) else (none)) else (none)) else ((index_Add.f k x102000 x102001 x1 x11).bind fun bt123 => ((backhaulref14_Pairs.f k x117000 x117001).bind fun bt131 => (if bt123.2.2 = 0 then (if bt131.2 = true then ((backhaullaw14_same.f k bt123.1 bt123.2.1 bt131.1).bind fun t135 => (backhaullaw14_IndexTurns.j2 k x1 x2 x7 (!t135) x102000 x102001 x117000 x117001)) else (backhaullaw14_IndexTurns.j2 k x1 x2 x7 true x102000 x102001 x117000 x117001)) else (backhaullaw14_IndexTurns.j2 k x1 x2 x7 true x102000 x102001 x117000 x117001))))
def backhaullaw14_IndexTurns.j2 : Nat → ByteArray → List Int → List (S146) → Bool → List ByteArray → List (List Int) → List ByteArray → List (List Int) → Option (Bool)
  | 0, _, _, _, _, _, _, _, _ => none
  | k + 1, x1, x2, x7, x102, x102000, x102001, x117000, x117001 => if x102 = true then (some false) else (backhaullaw14_IndexTurns.l1 k x1 x2 x7 0 x102000 x102001 x117000 x117001)
def backhaullaw14_IndexTurns.l1 : Nat → ByteArray → List Int → List (S146) → Int → List ByteArray → List (List Int) → List ByteArray → List (List Int) → Option (Bool)
  | 0, _, _, _, _, _, _, _, _ => none
  | k + 1, x1, x2, x7, x17, x102000, x102001, x117000, x117001 => if x17 < (x2.length : Int) then (if 0 ≤ x17 then ((index_Drop.f k x117000 x117001 x1 (rd x2 x17)).bind fun bt137 => (if bt137.2.2 = 0 then (backhaullaw14_IndexTurns.l1 k x1 x2 x7 (wrap64 (x17 + 1)) x102000 x102001 bt137.1 bt137.2.1) else (some false))) else (none)) else ((backhaullaw14_same.f k x117000 x117001 x7).bind fun t145 => (if t145 = true then ((backhaullaw14_same.f k x102000 x102001 x7).bind fun t146 => (if t146 = true then ((backhaullaw14_awake.f).bind fun t147 => (if t147 = true then (some true) else (some false))) else (some false))) else (some false)))
end
def backhaullaw14_IndexTurns.f (k : Nat) (l0_0 : List ByteArray) (l0_1 : List (List Int)) (a1 : ByteArray) (l2 : List Int) : Option (Bool) := (backhaullaw14_Few.f k l0_0 l0_1).bind fun t102 => (if t102 = true then (if (a1.size : Int) > 100 then (backhaullaw14_IndexTurns.j0 k a1 l2 true l0_0 l0_1) else (if (l2.length : Int) > 20 then (backhaullaw14_IndexTurns.j0 k a1 l2 true l0_0 l0_1) else ((index_Check.f k l0_0 l0_1).bind fun t103 => (backhaullaw14_IndexTurns.j0 k a1 l2 (t103 != 0) l0_0 l0_1)))) else (backhaullaw14_IndexTurns.j0 k a1 l2 true l0_0 l0_1))
theorem backhaullaw14_IndexTurns.mono_l : ∀ k, (∀ y0 y1 y2 y3 y4, LeO (backhaullaw14_IndexTurns.j0 k y0 y1 y2 y3 y4) (backhaullaw14_IndexTurns.j0 (k + 1) y0 y1 y2 y3 y4)) ∧ (∀ y0 y1 y2 y3 y4 y5 y6 y7 y8, LeO (backhaullaw14_IndexTurns.l0 k y0 y1 y2 y3 y4 y5 y6 y7 y8) (backhaullaw14_IndexTurns.l0 (k + 1) y0 y1 y2 y3 y4 y5 y6 y7 y8)) ∧ (∀ y0 y1 y2 y3 y4 y5 y6 y7, LeO (backhaullaw14_IndexTurns.j2 k y0 y1 y2 y3 y4 y5 y6 y7) (backhaullaw14_IndexTurns.j2 (k + 1) y0 y1 y2 y3 y4 y5 y6 y7)) ∧ (∀ y0 y1 y2 y3 y4 y5 y6 y7, LeO (backhaullaw14_IndexTurns.l1 k y0 y1 y2 y3 y4 y5 y6 y7) (backhaullaw14_IndexTurns.l1 (k + 1) y0 y1 y2 y3 y4 y5 y6 y7))
  | 0 => ⟨fun _ _ _ _ _ r h => by simp [backhaullaw14_IndexTurns.j0] at h, fun _ _ _ _ _ _ _ _ _ r h => by simp [backhaullaw14_IndexTurns.l0] at h, fun _ _ _ _ _ _ _ _ r h => by simp [backhaullaw14_IndexTurns.j2] at h, fun _ _ _ _ _ _ _ _ r h => by simp [backhaullaw14_IndexTurns.l1] at h⟩
  | k + 1 => by
    obtain ⟨ih0, ih1, ih2, ih3⟩ := backhaullaw14_IndexTurns.mono_l k
    refine ⟨?_, ?_, ?_, ?_⟩
    · intro y0 y1 y2 y3 y4
      unfold backhaullaw14_IndexTurns.j0
      repeat' (with_reducible first | exact ih0 _ _ _ _ _ | exact ih1 _ _ _ _ _ _ _ _ _ | exact ih2 _ _ _ _ _ _ _ _ | exact ih3 _ _ _ _ _ _ _ _ | exact backhaullaw14_Few.mono _ _ _ | exact backhaullaw14_same.mono _ _ _ _ | exact backhaulref14_Pairs.mono _ _ _ | exact index_Add.mono _ _ _ _ _ | exact index_Check.mono _ _ _ | exact index_Drop.mono _ _ _ _ _ | exact LeO.refl _ | exact LeO.none _ | refine LeO.ite ?_ ?_ | refine LeO.bind ?_ (fun _ => ?_))
    · intro y0 y1 y2 y3 y4 y5 y6 y7 y8
      unfold backhaullaw14_IndexTurns.l0
      repeat' (with_reducible first | exact ih0 _ _ _ _ _ | exact ih1 _ _ _ _ _ _ _ _ _ | exact ih2 _ _ _ _ _ _ _ _ | exact ih3 _ _ _ _ _ _ _ _ | exact backhaullaw14_Few.mono _ _ _ | exact backhaullaw14_same.mono _ _ _ _ | exact backhaulref14_Pairs.mono _ _ _ | exact index_Add.mono _ _ _ _ _ | exact index_Check.mono _ _ _ | exact index_Drop.mono _ _ _ _ _ | exact LeO.refl _ | exact LeO.none _ | refine LeO.ite ?_ ?_ | refine LeO.bind ?_ (fun _ => ?_))
    · intro y0 y1 y2 y3 y4 y5 y6 y7
      unfold backhaullaw14_IndexTurns.j2
      repeat' (with_reducible first | exact ih0 _ _ _ _ _ | exact ih1 _ _ _ _ _ _ _ _ _ | exact ih2 _ _ _ _ _ _ _ _ | exact ih3 _ _ _ _ _ _ _ _ | exact backhaullaw14_Few.mono _ _ _ | exact backhaullaw14_same.mono _ _ _ _ | exact backhaulref14_Pairs.mono _ _ _ | exact index_Add.mono _ _ _ _ _ | exact index_Check.mono _ _ _ | exact index_Drop.mono _ _ _ _ _ | exact LeO.refl _ | exact LeO.none _ | refine LeO.ite ?_ ?_ | refine LeO.bind ?_ (fun _ => ?_))
    intro y0 y1 y2 y3 y4 y5 y6 y7
    unfold backhaullaw14_IndexTurns.l1
    repeat' (with_reducible first | exact ih0 _ _ _ _ _ | exact ih1 _ _ _ _ _ _ _ _ _ | exact ih2 _ _ _ _ _ _ _ _ | exact ih3 _ _ _ _ _ _ _ _ | exact backhaullaw14_Few.mono _ _ _ | exact backhaullaw14_same.mono _ _ _ _ | exact backhaulref14_Pairs.mono _ _ _ | exact index_Add.mono _ _ _ _ _ | exact index_Check.mono _ _ _ | exact index_Drop.mono _ _ _ _ _ | exact LeO.refl _ | exact LeO.none _ | refine LeO.ite ?_ ?_ | refine LeO.bind ?_ (fun _ => ?_))
theorem backhaullaw14_IndexTurns.mono : ∀ a0 a1 a2 a3 k, LeO (backhaullaw14_IndexTurns.f k a0 a1 a2 a3) (backhaullaw14_IndexTurns.f (k + 1) a0 a1 a2 a3) := by
  intro a0 a1 a2 a3 k
  obtain ⟨ih0, ih1, ih2, ih3⟩ := backhaullaw14_IndexTurns.mono_l k
  unfold backhaullaw14_IndexTurns.f
  repeat' (with_reducible first | exact ih0 _ _ _ _ _ | exact ih1 _ _ _ _ _ _ _ _ _ | exact ih2 _ _ _ _ _ _ _ _ | exact ih3 _ _ _ _ _ _ _ _ | exact backhaullaw14_Few.mono _ _ _ | exact backhaullaw14_same.mono _ _ _ _ | exact backhaulref14_Pairs.mono _ _ _ | exact index_Add.mono _ _ _ _ _ | exact index_Check.mono _ _ _ | exact index_Drop.mono _ _ _ _ _ | exact LeO.refl _ | exact LeO.none _ | refine LeO.ite ?_ ?_ | refine LeO.bind ?_ (fun _ => ?_))
def backhaullaw14_IndexTurns.T19 : Bool × List (List Nat × List Nat) := (true, [([], []), ([], []), ([], []), ([], []), ([2, 3], [2, 3]), ([4], [4]), ([0, 1, 5], [0, 1, 5]), ([6], [6]), ([7], [7]), ([7], [7]), ([], []), ([10, 8, 6, 0, 1, 2, 3, 4, 5, 6, 7, 8, 10], [8, 10]), ([9, 11, 0, 1, 2, 3, 4, 5, 6, 7, 8, 9, 10, 11], [9])])
def backhaullaw14_IndexTurns.B19 : List Nat := [0, 0, 0, 0, 12, 28, 63, 127, 255, 255, 0, 1535, 4095]
theorem backhaullaw14_IndexTurns.tab19 : rtab .any (opsOf Try.f6 19) = backhaullaw14_IndexTurns.T19 := by kernel_rfl
theorem backhaullaw14_IndexTurns.bits19 : waitsOk backhaullaw14_IndexTurns.T19.2 backhaullaw14_IndexTurns.B19 = true := by kernel_rfl
set_option maxHeartbeats 8000000 in
set_option maxRecDepth 100000 in
theorem backhaullaw14_IndexTurns.calls (k : Nat) (A0_0 : Option Addr) (c0_0 : Nat) (l0_0 : List ByteArray) (A0_1 : Option Addr) (c0_1 : Nat) (l0_1 : List (List Int)) (a1 : ByteArray) (A2 : Option Addr) (c2 : Nat) (l2 : List Int) (w : World) (hr0_0 : Kd.C Kd.string w A0_0 l0_0.length l0_0) (hc0_0 : l0_0.length ≤ c0_0) (hr0_1 : Kd.C (Kd.slice 3 (Kd.int .i64)) w A0_1 l0_1.length l0_1) (hc0_1 : l0_1.length ≤ c0_1) (hr2 : Kd.C (Kd.int .i64) w A2 l2.length l2) (hc2 : l2.length ≤ c2) (h : backhaullaw14_IndexTurns.f k l0_0 l0_1 a1 l2 = some true) :
    Calls Try.prog 6 #[.agg #[.slice A0_0 l0_0.length c0_0, .slice A0_1 l0_1.length c0_1], .string a1, .slice A2 l2.length c2] w fun e w' => e = .returned (.bool true) ∧ Below w.heap.size w w' := by
  have hu51 := Try.underlying51
  have HR0_0 := zA hr0_0
  have HC0_0 := zA hc0_0
  clear hr0_0 hc0_0
  have HR0_1 := zA hr0_1
  have HC0_1 := zA hc0_1
  clear hr0_1 hc0_1
  have HR2 := zA hr2
  have HC2 := zA hc2
  clear hr2 hc2
  have HB := zA (Below.refl w.heap.size w)
  have H : ((backhaullaw14_Few.f k l0_0 l0_1).bind fun t102 => (if t102 = true then (if (a1.size : Int) > 100 then (backhaullaw14_IndexTurns.j0 k a1 l2 true l0_0 l0_1) else (if (l2.length : Int) > 20 then (backhaullaw14_IndexTurns.j0 k a1 l2 true l0_0 l0_1) else ((index_Check.f k l0_0 l0_1).bind fun t103 => (backhaullaw14_IndexTurns.j0 k a1 l2 (t103 != 0) l0_0 l0_1)))) else (backhaullaw14_IndexTurns.j0 k a1 l2 true l0_0 l0_1))) = some true := h
  clear h
  have HC4 := zA H
  clear H
  go_enter Try.func6, Try.ntmps6
  go_upto_region 1 with (first | ((with_reducible refine gate_dst (N := 3) rfl ?_); (try (refine gate_guard (by rfl) ?_; dsimp only)); refine box_event qr (N := 3) qr (cs := #[.slice A0_0 l0_0.length c0_0, .slice A0_1 l0_1.length c0_1]) (t := 51) qg ?_; intro gb101 hg w5 hbox hb; have n0_ := zA (zV qB hb); have n1_ := zA (hbox); have n2_ := zA ((qS : w.heap.size ≤ gb101)); have n3_ := zA ((qS : w.heap.size ≤ gb101)); clear HB; have HB := n0_; have BK101 := n1_; have GW101 := n2_; have GE101 := n3_; clear n0_ n1_ n2_ n3_ hb hbox hg))
  (try simp only [Act.put, zH, zI, zJ])
  go_cut [37] (fun v37 wc => ∃ (kq : Nat) (x37_3 : Bool), v37 = .bool x37_3 ∧ Aside0 (backhaullaw14_IndexTurns.j0 kq a1 l2 x37_3 l0_0 l0_1 = some true) ∧ Aside0 (kq ≤ k) ∧ Aside0 (wc.heap[gb101]? = some (.cells #[(.slice A0_0 l0_0.length c0_0), (.slice A0_1 l0_1.length c0_1)] 51 (0, 0))) ∧ Aside0 (Below w.heap.size w wc))
  case first =>
    have H := HC4.out; clear HC4; replace H := Option.bind_eq_some_iff.mp H; obtain ⟨t102, A60, H⟩ := H; try dsimp only at H
    have A6 := zA A60; clear A60; by_cases c7 : t102 = true
    · subst c7
      have H1 : (if (a1.size : Int) > 100 then (backhaullaw14_IndexTurns.j0 k a1 l2 true l0_0 l0_1) else (if (l2.length : Int) > 20 then (backhaullaw14_IndexTurns.j0 k a1 l2 true l0_0 l0_1) else ((index_Check.f k l0_0 l0_1).bind fun t103 => (backhaullaw14_IndexTurns.j0 k a1 l2 (t103 != 0) l0_0 l0_1)))) = some true := by first | (rw [if_pos rfl] at H; exact H) | rfl
      clear H; have H := H1; clear H1; by_cases c8 : (a1.size : Int) > 100
      · rw [if_pos c8] at H
        have c8b0 : decide (100 < (a1.size : Int)) = true := zFq c8; have c8b1 : decide (100 < a1.size) = true := zFq (by omega); clear c8; (first | rw [c8b0] | (simp only [i64_w, i32_w]; rw [c8b0]) | skip)
        have H' := zA H; clear H; obtain ⟨_, _, _, _⟩ := qc2f BK101.out; go_wp2_with (first | ((with_reducible refine zJq (f := 25) rfl ?_); refine goesL_ (some 21) rfl rfl Try.func25 (by kernel_rfl) rfl #[.agg #[.slice A0_0 l0_0.length c0_0, .slice A0_1 l0_1.length c0_1]] rfl qG ?_; (with_reducible refine (backhaullaw14_Few.calls k _ _ l0_0 _ _ l0_1 true _ ?side1 ?side2 ?side3 ?side4 A6.out).mono ?_); (case side1 => exact qC (Kd.C_below HR0_0.out HB.out)); (case side2 => exact HC0_0.out); (case side3 => exact qC (Kd.C_below HR0_1.out HB.out)); (case side4 => exact HC0_1.out); rintro e w10 ⟨rfl, hb⟩; refine ⟨_, rfl, ?_⟩; have n0_ := zA (qX BK101.out hb); have n1_ := zA (zV qB hb); clear BK101 HB; have BK101 := n0_; have HB := n1_; clear n0_ n1_; (try clear hb))); go_meet
        case rel => exact ⟨_, (true), (by first | rfl | (simp; done) | (simp [*]; done)), H', ⟨by first | omega | exact Nat.le_refl _⟩, ⟨by exact BK101.out⟩, ⟨qB⟩⟩
      rw [if_neg c8] at H; have c8b0 : decide (100 < (a1.size : Int)) = false := zGq c8; have c8b1 : decide (100 < a1.size) = false := zGq (by omega); clear c8; (first | rw [c8b0] | (simp only [i64_w, i32_w]; rw [c8b0]) | skip)
      by_cases c11 : (l2.length : Int) > 20
      · rw [if_pos c11] at H
        have c11b0 : decide (20 < (l2.length : Int)) = true := zFq c11; have c11b1 : decide (20 < l2.length) = true := zFq (by omega); clear c11; have H' := zA H; clear H; obtain ⟨_, _, _, _⟩ := qc2f BK101.out; go_wp2_with (first | ((with_reducible refine zJq (f := 25) rfl ?_); refine goesL_ (some 21) rfl rfl Try.func25 (by kernel_rfl) rfl #[.agg #[.slice A0_0 l0_0.length c0_0, .slice A0_1 l0_1.length c0_1]] rfl qG ?_; (with_reducible refine (backhaullaw14_Few.calls k _ _ l0_0 _ _ l0_1 true _ ?side1 ?side2 ?side3 ?side4 A6.out).mono ?_); (case side1 => exact qC (Kd.C_below HR0_0.out HB.out)); (case side2 => exact HC0_0.out); (case side3 => exact qC (Kd.C_below HR0_1.out HB.out)); (case side4 => exact HC0_1.out); rintro e w13 ⟨rfl, hb⟩; refine ⟨_, rfl, ?_⟩; have n0_ := zA (qX BK101.out hb); have n1_ := zA (zV qB hb); clear BK101 HB; have BK101 := n0_; have HB := n1_; clear n0_ n1_; (try clear hb))); go_meet
        case rel => exact ⟨_, (true), (by first | rfl | (simp; done) | (simp [*]; done)), H', ⟨by first | omega | exact Nat.le_refl _⟩, ⟨by exact BK101.out⟩, ⟨qB⟩⟩
      rw [if_neg c11] at H; have c11b0 : decide (20 < (l2.length : Int)) = false := zGq c11; have c11b1 : decide (20 < l2.length) = false := zGq (by omega); clear c11; replace H := Option.bind_eq_some_iff.mp H; obtain ⟨t103, A140, H⟩ := H; try dsimp only at H
      have A14 := zA A140; clear A140; have H' := zA H; clear H; obtain ⟨_, _, _, _⟩ := qc2f BK101.out; go_wp2_with (first | ((with_reducible refine zJq (f := 25) rfl ?_); refine goesL_ (some 21) rfl rfl Try.func25 (by kernel_rfl) rfl #[.agg #[.slice A0_0 l0_0.length c0_0, .slice A0_1 l0_1.length c0_1]] rfl qG ?_; (with_reducible refine (backhaullaw14_Few.calls k _ _ l0_0 _ _ l0_1 true _ ?side1 ?side2 ?side3 ?side4 A6.out).mono ?_); (case side1 => exact qC (Kd.C_below HR0_0.out HB.out)); (case side2 => exact HC0_0.out); (case side3 => exact qC (Kd.C_below HR0_1.out HB.out)); (case side4 => exact HC0_1.out); rintro e w16 ⟨rfl, hb⟩; refine ⟨_, rfl, ?_⟩; have n0_ := zA (qX BK101.out hb); have n1_ := zA (zV qB hb); clear BK101 HB; have BK101 := n0_; have HB := n1_; clear n0_ n1_; (try clear hb); obtain ⟨_, _, _, _⟩ := qc2f BK101.out) | (go_at_call 28; (with_reducible refine (index_Check.calls k _ _ l0_0 _ _ l0_1 t103 _ ?side1 ?side2 ?side3 ?side4 A14.out).mono ?_); (case side1 => exact qC (Kd.C_below HR0_0.out HB.out)); (case side2 => exact HC0_0.out); (case side3 => exact qC (Kd.C_below HR0_1.out HB.out)); (case side4 => exact HC0_1.out); rintro e w18 ⟨rfl, hb⟩; have n0_ := zA (qX BK101.out hb); have n1_ := zA (zV qB hb); clear BK101 HB; have BK101 := n0_; have HB := n1_; clear n0_ n1_; (try clear hb))); go_meet
      case rel => exact ⟨_, ((t103 != 0)), (by first | rfl | (simp; done) | (simp [*]; done)), H', ⟨by first | omega | exact Nat.le_refl _⟩, ⟨by exact BK101.out⟩, ⟨qB⟩⟩
    replace c7 := Bool.eq_false_iff.mpr c7; subst c7; have H1 : (backhaullaw14_IndexTurns.j0 k a1 l2 true l0_0 l0_1) = some true := by first | (rw [if_neg (show ¬ (false = true) by decide)] at H; exact H) | rfl
    clear H; have H := H1; clear H1; have H' := zA H; clear H; obtain ⟨_, _, _, _⟩ := qc2f BK101.out; go_wp2_with (first | ((with_reducible refine zJq (f := 25) rfl ?_); refine goesL_ (some 21) rfl rfl Try.func25 (by kernel_rfl) rfl #[.agg #[.slice A0_0 l0_0.length c0_0, .slice A0_1 l0_1.length c0_1]] rfl qG ?_; (with_reducible refine (backhaullaw14_Few.calls k _ _ l0_0 _ _ l0_1 false _ ?side1 ?side2 ?side3 ?side4 A6.out).mono ?_); (case side1 => exact qC (Kd.C_below HR0_0.out HB.out)); (case side2 => exact HC0_0.out); (case side3 => exact qC (Kd.C_below HR0_1.out HB.out)); (case side4 => exact HC0_1.out); rintro e w20 ⟨rfl, hb⟩; refine ⟨_, rfl, ?_⟩; have n0_ := zA (qX BK101.out hb); have n1_ := zA (zV qB hb); clear BK101 HB; have BK101 := n0_; have HB := n1_; clear n0_ n1_; (try clear hb))); go_meet
    case rel => exact ⟨_, (true), (by first | rfl | (simp; done) | (simp [*]; done)), H', ⟨by first | omega | exact Nat.le_refl _⟩, ⟨by exact BK101.out⟩, ⟨qB⟩⟩
  case rest =>
    clear HC4; try clear c1
    try clear c2
    try clear p2
    try clear c6
    try clear c7
    try clear c8
    try clear c8b0
    try clear c8b1
    try clear c11
    try clear c11b0
    try clear c11b1
    obtain ⟨kq, x37_3, rfl, HA, HJ3, BK101, HB⟩ := hcut; cases kq with
    | zero => exact absurd HA.out (by simp [backhaullaw14_IndexTurns.j0])
    | succ kj3 =>
      have H := HA.out; clear HA; simp only [backhaullaw14_IndexTurns.j0] at H; by_cases c21 : x37_3 = true
      · subst c21
        have H1 : ((backhaullaw14_awake.f).bind fun t104 => (if t104 = true then (some true) else (some false))) = some true := by first | (rw [if_pos rfl] at H; exact H) | rfl
        clear H; have H := H1; clear H1; replace H := Option.bind_eq_some_iff.mp H; obtain ⟨t104, A220, H⟩ := H; try dsimp only at H
        have A22 := zA A220; clear A220; by_cases c23 : t104 = true
        · subst c23
          have H1 : (some true) = some true := by first | (rw [if_pos rfl] at H; exact H) | rfl
          clear H; have H := H1; clear H1; clear H; go_wp2_with (first | ((with_reducible refine zJq (f := 26) rfl ?_); refine goesL_ (some 38) rfl rfl Try.func26 (by kernel_rfl) rfl #[] rfl qG ?_; (with_reducible refine (backhaullaw14_awake.calls  true _ A22.out).mono ?_); rintro e w24 ⟨rfl, hb⟩; refine ⟨_, rfl, ?_⟩; have n0_ := zA (qX BK101.out hb); have n1_ := zA (zV qB hb); clear BK101 HB; have BK101 := n0_; have HB := n1_; clear n0_ n1_; (try clear hb))); go_ret; exact ⟨qE, qB⟩
        replace c23 := Bool.eq_false_iff.mpr c23; subst c23; have H1 : (some false) = some true := by first | (rw [if_neg (show ¬ (false = true) by decide)] at H; exact H) | rfl
        clear H; have H := H1; clear H1; exact absurd H (by simp)
      replace c21 := Bool.eq_false_iff.mpr c21; subst c21; have H1 : ((backhaulref14_Pairs.f kj3 l0_0 l0_1).bind fun bt105 => ((index_Add.f kj3 l0_0 l0_1 a1 l2).bind fun bt109 => (if bt109.2.2 = 0 then (backhaullaw14_IndexTurns.l0 kj3 a1 l2 bt105.1 ([] : List Int) (wrap64 ((l2.length : Int) - 1)) l0_0 l0_1 bt109.1 bt109.2.1) else ((backhaullaw14_same.f kj3 l0_0 l0_1 bt105.1).bind fun t117 => (if t117 = true then ((backhaullaw14_awake.f).bind fun t118 => (if t118 = true then (some true) else (some false))) else (some false)))))) = some true := by first | (rw [if_neg (show ¬ (false = true) by decide)] at H; exact H) | rfl
      clear H; have H := H1; clear H1; replace H := Option.bind_eq_some_iff.mp H; obtain ⟨⟨t105, t106⟩, A250, H⟩ := H; try dsimp only at H
      have A25 := zA A250; clear A250; replace H := Option.bind_eq_some_iff.mp H; obtain ⟨⟨t109, t112, t115⟩, A260, H⟩ := H; try dsimp only at H
      have A26 := zA A260; clear A260; by_cases c27 : t115 = 0
      · rw [if_pos c27] at H
        have c27b0 : (t115 == 0) = true := beq_iff_eq.mpr c27; have c27b1 : (t115 != 0) = false := bne_eq_false_iff_eq.mpr c27; clear c27; have H' := zA H; clear H; obtain ⟨_, _, _, _⟩ := qc2f BK101.out; go_wp2_with (first | ((with_reducible refine zJq (f := 27) rfl ?_); refine goesL_ (some 44) rfl rfl Try.func27 (by kernel_rfl) rfl #[.slice A0_0 l0_0.length c0_0, .slice A0_1 l0_1.length c0_1] rfl qG ?_; (with_reducible refine (backhaulref14_Pairs.calls kj3 _ _ l0_0 _ _ l0_1 t105 t106 _ ?side1 ?side2 ?side3 ?side4 A25.out).mono ?_); (case side1 => exact qC (Kd.C_below HR0_0.out HB.out)); (case side2 => exact HC0_0.out); (case side3 => exact qC (Kd.C_below HR0_1.out HB.out)); (case side4 => exact HC0_1.out); rintro e w29 ⟨v107, rfl, ho0, hb⟩; refine ⟨_, rfl, ?_⟩; have n0_ := zA (Kd.R_lower ho0 (zW qB)); have n1_ := zA (qX BK101.out hb); have n2_ := zA (zV qB hb); clear BK101 HB; have HO108 := n0_; have BK101 := n1_; have HB := n2_; clear n0_ n1_ n2_; (try clear hb); (try clear ho0); obtain ⟨_, _, _, _⟩ := qc2f BK101.out) | ((with_reducible refine zJq (f := 36) rfl ?_); refine goesL_ (some 51) rfl rfl Try.func36 (by kernel_rfl) rfl #[.agg #[.slice A0_0 l0_0.length c0_0, .slice A0_1 l0_1.length c0_1], .string a1, .slice A2 l2.length c2] rfl qG ?_; (with_reducible refine (index_Add.calls kj3 (fun k_ => k_ < w.heap.size) _ _ l0_0 (fun k_ => k_ < w.heap.size) _ _ l0_1 a1 _ _ l2 t109 t112 t115 _ ?side1 ?side2 ?side3 ?side4 A26.out).mono ?_); (case side1 => exact Kd.V_mk HC0_0.out (Kd.F_below (Kd.C_F Kd.heap_string HR0_0.out) qB)); (case side2 => exact Kd.V_mk HC0_1.out (Kd.F_below (Kd.C_F (Kd.heap_slice 3 (Kd.heap_int .i64)) HR0_1.out) qB)); (case side3 => exact qC (Kd.C_below HR2.out HB.out)); (case side4 => exact HC2.out); rintro e w31 ⟨v110, v113, rfl, ho0, ho1, hb⟩; refine ⟨_, rfl, ?_⟩; have n0_ := zA (Kd.R_below (by (with_reducible repeat (first | apply Kd.R_alloc | apply Kd.R_drewN | apply Kd.R_drew)); exact HO108.out) hb); have n1_ := zA (Kd.V_lower (Kd.V_mono (ok' := fun k_ => some k_ ≠ (v107 : Value).ownBlock ∧ k_ ≠ gb101) ho0 (fun k_ hk_ => ⟨Or.elim hk_ (fun hs_ => Or.elim hs_ (fun hs_ => fun e_ => Nat.not_le.2 hs_ (Kd.R_base HO108.out k_ e_.symm)) (fun hs_ => fun e_ => Nat.not_le.2 hs_ (Kd.R_base HO108.out k_ e_.symm))) (fun hn_ => (Kd.fresh' (Kd.R_lt (by (with_reducible repeat (first | apply Kd.R_alloc | apply Kd.R_drewN | apply Kd.R_drew)); exact HO108.out)) k_ hn_)), Or.elim hk_ (fun hs_ => Or.elim hs_ (fun hs_ => fun e_ => Nat.not_le.2 hs_ (by rw [e_]; exact GW101.out)) (fun hs_ => fun e_ => Nat.not_le.2 hs_ (by rw [e_]; exact GW101.out))) (fun hn_ => (Kd.freshB (g := gb101) (o := .cells #[.slice A0_0 l0_0.length c0_0, .slice A0_1 l0_1.length c0_1] 51 (0, 0)) (qW BK101.out) k_ hn_))⟩)) (zW qB)); have n2_ := zA (Kd.V_lower (Kd.V_mono (ok' := fun k_ => some k_ ≠ (v107 : Value).ownBlock ∧ k_ ≠ gb101) ho1 (fun k_ hk_ => ⟨Or.elim hk_ (fun hs_ => Or.elim hs_ (fun hs_ => fun e_ => Nat.not_le.2 hs_ (Kd.R_base HO108.out k_ e_.symm)) (fun hs_ => fun e_ => Nat.not_le.2 hs_ (Kd.R_base HO108.out k_ e_.symm))) (fun hn_ => (Kd.fresh' (Kd.R_lt (by (with_reducible repeat (first | apply Kd.R_alloc | apply Kd.R_drewN | apply Kd.R_drew)); exact HO108.out)) k_ hn_)), Or.elim hk_ (fun hs_ => Or.elim hs_ (fun hs_ => fun e_ => Nat.not_le.2 hs_ (by rw [e_]; exact GW101.out)) (fun hs_ => fun e_ => Nat.not_le.2 hs_ (by rw [e_]; exact GW101.out))) (fun hn_ => (Kd.freshB (g := gb101) (o := .cells #[.slice A0_0 l0_0.length c0_0, .slice A0_1 l0_1.length c0_1] 51 (0, 0)) (qW BK101.out) k_ hn_))⟩)) (zW qB)); have n3_ := zA (qX BK101.out hb); have n4_ := zA (zV qB hb); clear HO108 BK101 HB; have HO108 := n0_; have HO111 := n1_; have HO114 := n2_; have BK101 := n3_; have HB := n4_; clear n0_ n1_ n2_ n3_ n4_; (try clear hb); (try clear ho0); (try clear ho1)) | ((with_reducible refine gate_dst (N := 9) rfl ?_); (try (refine gate_guard (by rfl) ?_; dsimp only)); refine box_event qr (N := 9) qr (cs := #[.slice none 0 0, .slice none 0 0]) (t := 51) qg ?_; intro gb116 hg w32 hbox hb; have n0_ := zA (Kd.R_below (by (with_reducible repeat (first | apply Kd.R_alloc | apply Kd.R_drewN | apply Kd.R_drew)); exact HO108.out) hb); have n1_ := zA (Kd.V_below (Kd.V_elderB (by (with_reducible repeat (first | apply Kd.V_alloc | apply Kd.V_drewN | apply Kd.V_drew)); exact HO111.out) gb116 (Nat.le_of_eq hg.symm)) hb); have n2_ := zA (Kd.V_below (Kd.V_elderB (by (with_reducible repeat (first | apply Kd.V_alloc | apply Kd.V_drewN | apply Kd.V_drew)); exact HO114.out) gb116 (Nat.le_of_eq hg.symm)) hb); have n3_ := zA (qX BK101.out hb); have n4_ := zA (zV qB hb); have n5_ := zA (hbox); have n6_ := zA ((qS : w.heap.size ≤ gb116)); have n7_ := zA ((qS : w.heap.size ≤ gb116)); have n8_ := zA ((by rw [hg]; exact zLq (qL BK101.out) : gb101 ≠ gb116)); have n9_ := zA ((by rw [hg]; exact zMq (qL BK101.out) : gb116 ≠ gb101)); clear HO108 HO111 HO114 BK101 HB; have HO108 := n0_; have HO111 := n1_; have HO114 := n2_; have BK101 := n3_; have HB := n4_; have BK116 := n5_; have GW116 := n6_; have GE116 := n7_; have NB101_116 := n8_; have NB116_101 := n9_; clear n0_ n1_ n2_ n3_ n4_ n5_ n6_ n7_ n8_ n9_ hb hbox hg; obtain ⟨Ao33, co33, eo33⟩ := Kd.V_slice HO111.out; subst eo33; have hnb34 := NB116_101.out; have hnc34 := NB101_116.out; obtain ⟨_, _, _, _⟩ := qc2f BK116.out; obtain ⟨Ao36, co36, eo36⟩ := Kd.V_slice HO114.out; subst eo36))
        go_loopg [11, 12] kj3 (fun kq v11 v12 w' => ∃ (x11_2 : List Int) (x12_2 : Int), v12 = .int .i64 x12_2 ∧ Aside0 (backhaullaw14_IndexTurns.l0 kq a1 l2 t105 x11_2 x12_2 l0_0 l0_1 t109 t112 = some true) ∧ Aside0 (kq ≤ kj3) ∧ Aside0 (Kd.R k146 146 w' w.heap.size (fun _ => True) v107 t105) ∧ Aside0 (Kd.R (Kd.int .i64) 3 w' w.heap.size (fun _ => True) v11 x11_2) ∧ Aside0 (Kd.V Kd.string 9 w' w.heap.size (fun k_ => some k_ ≠ (v107 : Value).ownBlock ∧ some k_ ≠ (v11 : Value).ownBlock ∧ k_ ≠ gb101 ∧ k_ ≠ gb116) (.slice Ao33 t109.length co33) t109) ∧ Aside0 (Kd.V (Kd.slice 3 (Kd.int .i64)) 44 w' w.heap.size (fun k_ => some k_ ≠ (v107 : Value).ownBlock ∧ some k_ ≠ (v11 : Value).ownBlock ∧ k_ ≠ gb101 ∧ k_ ≠ gb116) (.slice Ao36 t112.length co36) t112) ∧ Aside0 (w'.heap[gb101]? = some (.cells #[(.slice A0_0 l0_0.length c0_0), (.slice A0_1 l0_1.length c0_1)] 51 (0, 0))) ∧ Aside0 (w'.heap[gb116]? = some (.cells #[(.slice Ao33 t109.length co33), (.slice Ao36 t112.length co36)] 51 (0, 0))) ∧ Aside0 (Below w.heap.size w w'))
        case atStart => exact ⟨(([] : List Int)), (wrap64 ((l2.length : Int) - 1)), (by first | rfl | (simp; done) | (simp [*]; done)), H', ⟨Nat.le_refl _⟩, ⟨by (with_reducible repeat (first | apply Kd.R_alloc | apply Kd.R_drewN | apply Kd.R_drew)); exact Kd.R_mono (Kd.R_far (p := ⟨gb116, 1, none⟩) (Kd.R_far (p := ⟨gb116, 0, none⟩) (Kd.R_types HO108.out BK116.out (by decide)) (fun _ hk => hk.2) (.slice Ao33 t109.length co33)) (fun _ hk => hk.2) (.slice Ao36 t112.length co36)) (fun _ hk => trivial)⟩, ⟨qN⟩, ⟨by (with_reducible repeat (first | apply Kd.V_alloc | apply Kd.V_drewN | apply Kd.V_drew)); exact Kd.V_mono (Kd.V_far (p := ⟨gb116, 1, none⟩) (Kd.V_far (p := ⟨gb116, 0, none⟩) (Kd.V_mono HO111.out (fun k_ hk => (⟨hk, hk.2⟩ : _ ∧ k_ ≠ gb116))) (fun _ hk => hk.2) (.slice Ao33 t109.length co33)) (fun _ hk => hk.2) (.slice Ao36 t112.length co36)) (fun _ hk => ⟨hk.1.1.1, ⟨(by simp [Value.ownBlock]), ⟨hk.1.1.2, hk.1.2⟩⟩⟩)⟩, ⟨by (with_reducible repeat (first | apply Kd.V_alloc | apply Kd.V_drewN | apply Kd.V_drew)); exact Kd.V_mono (Kd.V_far (p := ⟨gb116, 1, none⟩) (Kd.V_far (p := ⟨gb116, 0, none⟩) (Kd.V_mono HO114.out (fun k_ hk => (⟨hk, hk.2⟩ : _ ∧ k_ ≠ gb116))) (fun _ hk => hk.2) (.slice Ao33 t109.length co33)) (fun _ hk => hk.2) (.slice Ao36 t112.length co36)) (fun _ hk => ⟨hk.1.1.1, ⟨(by simp [Value.ownBlock]), ⟨hk.1.1.2, hk.1.2⟩⟩⟩)⟩, ⟨by (with_reducible repeat (first | refine zY ?_ _ | refine zAq ?_ | refine zZ ?_ _)); refine blk_far ?_ NB101_116.out _; (with_reducible repeat (first | refine zY ?_ _ | refine zAq ?_ | refine zZ ?_ _)); refine blk_far ?_ NB101_116.out _; exact BK101.out⟩, ⟨by (with_reducible repeat (first | refine zY ?_ _ | refine zAq ?_ | refine zZ ?_ _)); apply qP2; exact BK116.out⟩, ⟨qB⟩⟩
        case round =>
          clear H'; try clear c1
          try clear c2
          try clear p2
          try clear c3
          try clear c6
          try clear p6
          try clear c7
          try clear c8
          try clear c8b0
          try clear c8b1
          try clear c11
          try clear c11b0
          try clear c11b1
          try clear c21
          try clear c23
          try clear c25
          try clear c26
          try clear c27
          try clear c27b0
          try clear c27b1
          try clear c34
          try clear c36
          try clear p2
          obtain ⟨x11_2, x12_2, rfl, HA, HK2, HO_7, HO_11, HO_117000, HO_117001, BK101, BK116, HB⟩ := hrel; cases gk with
          | zero => exact absurd HA.out (by simp [backhaullaw14_IndexTurns.l0])
          | succ k2 =>
            have H := HA.out; clear HA; simp only [backhaullaw14_IndexTurns.l0] at H; by_cases c37 : x12_2 ≥ 0
            · rw [if_pos c37] at H
              have c37b0 : decide (0 ≤ x12_2) = true := zFq c37; clear c37; by_cases c38 : 0 ≤ x12_2
              · rw [if_pos c38] at H
                have c38b0 : decide (0 ≤ x12_2) = true := zFq c38; clear c38; by_cases c39 : x12_2 < (l2.length : Int)
                · rw [if_pos c39] at H
                  have c39b0 : decide (x12_2 < (l2.length : Int)) = true := zFq c39; clear c39; by_cases c40 : x11_2.length < 17592186044416
                  · rw [if_pos c40] at H
                    have LMc40 := zA c40; clear c40; obtain ⟨y120, hy120⟩ : ∃ y_ : List Int, y_ = (x11_2 ++ [rd l2 x12_2]) := ⟨_, rfl⟩
                    replace H : (backhaullaw14_IndexTurns.l0 k2 a1 l2 t105 y120 (wrap64 (x12_2 - 1)) l0_0 l0_1 t109 t112) = some true := by first | (rw [hy120]; with_reducible exact H) | (have H2_ := (Option.bind_some _ _).symm.trans H; rw [hy120]; with_reducible exact H2_) | (have H2_ := (Option.bind_some _ _).symm.trans H; with_reducible exact H2_) | with_reducible exact H | (rw [hy120]; exact H) | exact H
                    have Ny120 := zA hy120; clear hy120; have H' := zA H; clear H; have p119 : 0 ≤ (x12_2 : Int) := of_decide_eq_true qA; have q119 : x12_2 < (l2.length : Int) := of_decide_eq_true qA; obtain ⟨ad119, e119, hx119_0⟩ := Kd.at_int HR2.out x12_2 p119 q119; cases e119
                    replace hx119_0 := (HB.out.cell (zCq w _ hx119_0)).trans hx119_0; replace p119 := eq_true p119; replace q119 := eq_true q119; go_wp2_with (first | ((with_reducible refine gate_builtin (b := .append) (xs := #[.tmp 69, .tmp 74]) rfl ?_); (try (refine gate_guard (by rfl) ?_; dsimp only)); at_builtin; refine Kd.R_append (Kd.int .i64) (w0 := w) w.heap.size rfl (.tmp 69) (.tmp 74) 44 3 (.int .i64 0) 8 rfl Try.underlying44 info3 rfl (by decide) (by omega) u11 x11_2 (rd l2 x12_2) [.int .i64 (rd l2 x12_2)] (fun _ => True) (fun _ => False) rfl rfl ?aP (fun _ hk => hk.elim) ?aF ?aO ?aB ?aS ?aL ?_; (case aP => exact rfl); (case aB => exact qB); (case aF => exact (fun _ _ => trivial)); (case aO => exact (by (with_reducible repeat (first | apply Kd.R_alloc | apply Kd.R_drewN | apply Kd.R_drew)); exact HO_11.out)); (case aS => exact (zW qB)); (case aL => have := LMc40.out; omega); intro v121 w41 ho hb hg hat; rw [← Ny120.out] at ho; have n0_ := zA (Kd.R_over' (by (with_reducible repeat (first | apply Kd.R_alloc | apply Kd.R_drewN | apply Kd.R_drew)); exact HO_7.out) (Kd.R_typed (by (with_reducible repeat (first | apply Kd.R_alloc | apply Kd.R_drewN | apply Kd.R_drew)); exact HO_11.out)) (by decide) hg); have n1_ := zA (Kd.V_afterv (ok := (fun k_ => some k_ ≠ (v107 : Value).ownBlock ∧ k_ ≠ gb101 ∧ k_ ≠ gb116)) (by (with_reducible repeat (first | apply Kd.V_alloc | apply Kd.V_drewN | apply Kd.V_drew)); exact Kd.V_mono HO_117000.out (fun _ hk => ⟨⟨hk.1, ⟨hk.2.2.1, hk.2.2.2⟩⟩, hk.2.1⟩)) hg hat); have n2_ := zA (Kd.V_afterv (ok := (fun k_ => some k_ ≠ (v107 : Value).ownBlock ∧ k_ ≠ gb101 ∧ k_ ≠ gb116)) (by (with_reducible repeat (first | apply Kd.V_alloc | apply Kd.V_drewN | apply Kd.V_drew)); exact Kd.V_mono HO_117001.out (fun _ hk => ⟨⟨hk.1, ⟨hk.2.2.1, hk.2.2.2⟩⟩, hk.2.1⟩)) hg hat); have n3_ := zA (blk_grown (g := gb101) (o := .cells #[.slice A0_0 l0_0.length c0_0, .slice A0_1 l0_1.length c0_1] 51 (0, 0)) (qW BK101.out) hg (Kd.R_ne HO_11.out BK101.out (by decide))); have n4_ := zA (blk_grown (g := gb116) (o := .cells #[.slice Ao33 t109.length co33, .slice Ao36 t112.length co36] 51 (0, 0)) (qW BK116.out) hg (Kd.R_ne HO_11.out BK116.out (by decide))); have n5_ := zA (hb); have n6_ := zA (ho); clear HO_7 HO_117000 HO_117001 BK101 BK116 HB HO_11; have HO_7 := n0_; have HO_117000 := n1_; have HO_117001 := n2_; have BK101 := n3_; have BK116 := n4_; have HB := n5_; have HO122 := n6_; clear n0_ n1_ n2_ n3_ n4_ n5_ n6_ ho hb hg hat)); go_roundg k2
                    case measure => have := HJ3.out; have := HK2.out; omega
                    case rel => exact ⟨(y120), (wrap64 (x12_2 - 1)), (by first | rfl | (simp; done) | (simp [*]; done)), H', ⟨by have := HJ3.out; have := HK2.out; omega⟩, ⟨by (with_reducible repeat (first | apply Kd.R_alloc | apply Kd.R_drewN | apply Kd.R_drew)); exact HO_7.out⟩, ⟨by (with_reducible repeat (first | apply Kd.R_alloc | apply Kd.R_drewN | apply Kd.R_drew)); exact HO122.out⟩, ⟨by (with_reducible repeat (first | apply Kd.V_alloc | apply Kd.V_drewN | apply Kd.V_drew)); exact Kd.V_mono HO_117000.out (fun _ hk => ⟨hk.1.1, ⟨hk.2, ⟨hk.1.2.1, hk.1.2.2⟩⟩⟩)⟩, ⟨by (with_reducible repeat (first | apply Kd.V_alloc | apply Kd.V_drewN | apply Kd.V_drew)); exact Kd.V_mono HO_117001.out (fun _ hk => ⟨hk.1.1, ⟨hk.2, ⟨hk.1.2.1, hk.1.2.2⟩⟩⟩)⟩, ⟨by exact BK101.out⟩, ⟨by exact BK116.out⟩, ⟨qB⟩⟩
                  rw [if_neg c40] at H; exact absurd H (by simp)
                rw [if_neg c39] at H; exact absurd H (by simp)
              rw [if_neg c38] at H; exact absurd H (by simp)
            rw [if_neg c37] at H; have c37b0 : decide (0 ≤ x12_2) = false := zGq c37; clear c37; replace H := Option.bind_eq_some_iff.mp H; obtain ⟨⟨t123, t126, t129⟩, A420, H⟩ := H; try dsimp only at H
            have A42 := zA A420; clear A420; replace H := Option.bind_eq_some_iff.mp H; obtain ⟨⟨t131, t132⟩, A430, H⟩ := H; try dsimp only at H
            have A43 := zA A430; clear A430; have HC44 := zA H; clear H; have hnb45 := NB101_116.out; have hnc45 := NB116_101.out; obtain ⟨_, _, _, _⟩ := qc2f BK101.out; obtain ⟨Ao47, co47, eo47⟩ := Kd.R_slice HO_11.out; subst eo47; go_upto_region 14 with (first | ((with_reducible refine zJq (f := 36) rfl ?_); refine goesL_ (some 80) rfl rfl Try.func36 (by kernel_rfl) rfl #[.agg #[.slice A0_0 l0_0.length c0_0, .slice A0_1 l0_1.length c0_1], .string a1, .slice Ao47 x11_2.length co47] rfl qG ?_; (with_reducible refine (index_Add.calls k2 (fun k_ => k_ < w.heap.size) _ _ l0_0 (fun k_ => k_ < w.heap.size) _ _ l0_1 a1 _ _ x11_2 t123 t126 t129 _ ?side1 ?side2 ?side3 ?side4 A42.out).mono ?_); (case side1 => exact Kd.V_mk HC0_0.out (Kd.F_below (Kd.C_F Kd.heap_string HR0_0.out) qB)); (case side2 => exact Kd.V_mk HC0_1.out (Kd.F_below (Kd.C_F (Kd.heap_slice 3 (Kd.heap_int .i64)) HR0_1.out) qB)); (case side3 => repeat (first | exact (Kd.R_reads' HO_11.out).2.2 | (with_reducible refine Kd.C_alloc ?_ _) | (with_reducible refine Kd.C_drewN ?_ _) | (with_reducible refine Kd.C_drew ?_))); (case side4 => exact (Kd.R_reads' HO_11.out).2.1); rintro e w48 ⟨v124, v127, rfl, ho0, ho1, hb⟩; refine ⟨_, rfl, ?_⟩; have n0_ := zA (Kd.R_below (by (with_reducible repeat (first | apply Kd.R_alloc | apply Kd.R_drewN | apply Kd.R_drew)); exact HO_7.out) hb); have n1_ := zA (Kd.R_below (by (with_reducible repeat (first | apply Kd.R_alloc | apply Kd.R_drewN | apply Kd.R_drew)); exact HO_11.out) hb); have n2_ := zA (Kd.V_below (by (with_reducible repeat (first | apply Kd.V_alloc | apply Kd.V_drewN | apply Kd.V_drew)); exact HO_117000.out) hb); have n3_ := zA (Kd.V_below (by (with_reducible repeat (first | apply Kd.V_alloc | apply Kd.V_drewN | apply Kd.V_drew)); exact HO_117001.out) hb); have n4_ := zA (Kd.V_lower (Kd.V_mono (ok' := fun k_ => some k_ ≠ (v107 : Value).ownBlock ∧ some k_ ≠ (.slice Ao47 x11_2.length co47 : Value).ownBlock ∧ k_ ≠ gb101 ∧ k_ ≠ gb116) ho0 (fun k_ hk_ => ⟨Or.elim hk_ (fun hs_ => Or.elim hs_ (fun hs_ => fun e_ => Nat.not_le.2 hs_ (Kd.R_base HO_7.out k_ e_.symm)) (fun hs_ => fun e_ => Nat.not_le.2 hs_ (Kd.R_base HO_7.out k_ e_.symm))) (fun hn_ => (Kd.fresh' (Kd.R_lt (by (with_reducible repeat (first | apply Kd.R_alloc | apply Kd.R_drewN | apply Kd.R_drew)); exact HO_7.out)) k_ hn_)), Or.elim hk_ (fun hs_ => Or.elim hs_ (fun hs_ => fun e_ => Nat.not_le.2 hs_ (Kd.R_base HO_11.out k_ e_.symm)) (fun hs_ => fun e_ => Nat.not_le.2 hs_ (Kd.R_base HO_11.out k_ e_.symm))) (fun hn_ => (Kd.fresh' (Kd.R_lt (by (with_reducible repeat (first | apply Kd.R_alloc | apply Kd.R_drewN | apply Kd.R_drew)); exact HO_11.out)) k_ hn_)), Or.elim hk_ (fun hs_ => Or.elim hs_ (fun hs_ => fun e_ => Nat.not_le.2 hs_ (by rw [e_]; exact GW101.out)) (fun hs_ => fun e_ => Nat.not_le.2 hs_ (by rw [e_]; exact GW101.out))) (fun hn_ => (Kd.freshB (g := gb101) (o := .cells #[.slice A0_0 l0_0.length c0_0, .slice A0_1 l0_1.length c0_1] 51 (0, 0)) (qW BK101.out) k_ hn_)), Or.elim hk_ (fun hs_ => Or.elim hs_ (fun hs_ => fun e_ => Nat.not_le.2 hs_ (by rw [e_]; exact GW116.out)) (fun hs_ => fun e_ => Nat.not_le.2 hs_ (by rw [e_]; exact GW116.out))) (fun hn_ => (Kd.freshB (g := gb116) (o := .cells #[.slice Ao33 t109.length co33, .slice Ao36 t112.length co36] 51 (0, 0)) (qW BK116.out) k_ hn_))⟩)) (zW qB)); have n5_ := zA (Kd.V_lower (Kd.V_mono (ok' := fun k_ => some k_ ≠ (v107 : Value).ownBlock ∧ some k_ ≠ (.slice Ao47 x11_2.length co47 : Value).ownBlock ∧ k_ ≠ gb101 ∧ k_ ≠ gb116) ho1 (fun k_ hk_ => ⟨Or.elim hk_ (fun hs_ => Or.elim hs_ (fun hs_ => fun e_ => Nat.not_le.2 hs_ (Kd.R_base HO_7.out k_ e_.symm)) (fun hs_ => fun e_ => Nat.not_le.2 hs_ (Kd.R_base HO_7.out k_ e_.symm))) (fun hn_ => (Kd.fresh' (Kd.R_lt (by (with_reducible repeat (first | apply Kd.R_alloc | apply Kd.R_drewN | apply Kd.R_drew)); exact HO_7.out)) k_ hn_)), Or.elim hk_ (fun hs_ => Or.elim hs_ (fun hs_ => fun e_ => Nat.not_le.2 hs_ (Kd.R_base HO_11.out k_ e_.symm)) (fun hs_ => fun e_ => Nat.not_le.2 hs_ (Kd.R_base HO_11.out k_ e_.symm))) (fun hn_ => (Kd.fresh' (Kd.R_lt (by (with_reducible repeat (first | apply Kd.R_alloc | apply Kd.R_drewN | apply Kd.R_drew)); exact HO_11.out)) k_ hn_)), Or.elim hk_ (fun hs_ => Or.elim hs_ (fun hs_ => fun e_ => Nat.not_le.2 hs_ (by rw [e_]; exact GW101.out)) (fun hs_ => fun e_ => Nat.not_le.2 hs_ (by rw [e_]; exact GW101.out))) (fun hn_ => (Kd.freshB (g := gb101) (o := .cells #[.slice A0_0 l0_0.length c0_0, .slice A0_1 l0_1.length c0_1] 51 (0, 0)) (qW BK101.out) k_ hn_)), Or.elim hk_ (fun hs_ => Or.elim hs_ (fun hs_ => fun e_ => Nat.not_le.2 hs_ (by rw [e_]; exact GW116.out)) (fun hs_ => fun e_ => Nat.not_le.2 hs_ (by rw [e_]; exact GW116.out))) (fun hn_ => (Kd.freshB (g := gb116) (o := .cells #[.slice Ao33 t109.length co33, .slice Ao36 t112.length co36] 51 (0, 0)) (qW BK116.out) k_ hn_))⟩)) (zW qB)); have n6_ := zA (qX BK101.out hb); have n7_ := zA (qX BK116.out hb); have n8_ := zA (zV qB hb); clear HO_7 HO_11 HO_117000 HO_117001 BK101 BK116 HB; have HO_7 := n0_; have HO_11 := n1_; have HO_117000 := n2_; have HO_117001 := n3_; have HO125 := n4_; have HO128 := n5_; have BK101 := n6_; have BK116 := n7_; have HB := n8_; clear n0_ n1_ n2_ n3_ n4_ n5_ n6_ n7_ n8_; (try clear hb); (try clear ho0); (try clear ho1)) | ((with_reducible refine gate_dst (N := 13) rfl ?_); (try (refine gate_guard (by rfl) ?_; dsimp only)); refine box_event qr (N := 13) qr (cs := #[.slice none 0 0, .slice none 0 0]) (t := 51) qg ?_; intro gb130 hg w49 hbox hb; have n0_ := zA (Kd.R_below (by (with_reducible repeat (first | apply Kd.R_alloc | apply Kd.R_drewN | apply Kd.R_drew)); exact HO_7.out) hb); have n1_ := zA (Kd.R_below (by (with_reducible repeat (first | apply Kd.R_alloc | apply Kd.R_drewN | apply Kd.R_drew)); exact HO_11.out) hb); have n2_ := zA (Kd.V_below (Kd.V_elderB (by (with_reducible repeat (first | apply Kd.V_alloc | apply Kd.V_drewN | apply Kd.V_drew)); exact HO_117000.out) gb130 (Nat.le_of_eq hg.symm)) hb); have n3_ := zA (Kd.V_below (Kd.V_elderB (by (with_reducible repeat (first | apply Kd.V_alloc | apply Kd.V_drewN | apply Kd.V_drew)); exact HO_117001.out) gb130 (Nat.le_of_eq hg.symm)) hb); have n4_ := zA (Kd.V_below (Kd.V_elderB (by (with_reducible repeat (first | apply Kd.V_alloc | apply Kd.V_drewN | apply Kd.V_drew)); exact HO125.out) gb130 (Nat.le_of_eq hg.symm)) hb); have n5_ := zA (Kd.V_below (Kd.V_elderB (by (with_reducible repeat (first | apply Kd.V_alloc | apply Kd.V_drewN | apply Kd.V_drew)); exact HO128.out) gb130 (Nat.le_of_eq hg.symm)) hb); have n6_ := zA (qX BK101.out hb); have n7_ := zA (qX BK116.out hb); have n8_ := zA (zV qB hb); have n9_ := zA (hbox); have n10_ := zA ((qS : w.heap.size ≤ gb130)); have n11_ := zA ((qS : w.heap.size ≤ gb130)); have n12_ := zA ((by rw [hg]; exact zLq (qL BK101.out) : gb101 ≠ gb130)); have n13_ := zA ((by rw [hg]; exact zMq (qL BK101.out) : gb130 ≠ gb101)); have n14_ := zA ((by rw [hg]; exact zLq (qL BK116.out) : gb116 ≠ gb130)); have n15_ := zA ((by rw [hg]; exact zMq (qL BK116.out) : gb130 ≠ gb116)); clear HO_7 HO_11 HO_117000 HO_117001 HO125 HO128 BK101 BK116 HB; have HO_7 := n0_; have HO_11 := n1_; have HO_117000 := n2_; have HO_117001 := n3_; have HO125 := n4_; have HO128 := n5_; have BK101 := n6_; have BK116 := n7_; have HB := n8_; have BK130 := n9_; have GW130 := n10_; have GE130 := n11_; have NB101_130 := n12_; have NB130_101 := n13_; have NB116_130 := n14_; have NB130_116 := n15_; clear n0_ n1_ n2_ n3_ n4_ n5_ n6_ n7_ n8_ n9_ n10_ n11_ n12_ n13_ n14_ n15_ hb hbox hg; obtain ⟨Ao50, co50, eo50⟩ := Kd.V_slice HO125.out; subst eo50; have hnb51 := NB130_101.out; have hnc51 := NB101_130.out; have hnb52 := NB130_116.out; have hnc52 := NB116_130.out; obtain ⟨_, _, _, _⟩ := qc2f BK130.out; obtain ⟨Ao54, co54, eo54⟩ := Kd.V_slice HO128.out; subst eo54; obtain ⟨_, _, _, _⟩ := qc2f BK116.out) | ((with_reducible refine zJq (f := 27) rfl ?_); refine goesL_ (some 88) rfl rfl Try.func27 (by kernel_rfl) rfl #[.slice Ao33 t109.length co33, .slice Ao36 t112.length co36] rfl qG ?_; (with_reducible refine (backhaulref14_Pairs.calls k2 _ _ t109 _ _ t112 t131 t132 _ ?side1 ?side2 ?side3 ?side4 A43.out).mono ?_); (case side1 => refine (Kd.V_reads' (e := 9) (base := w.heap.size) (ok := fun k_ => ((some k_ ≠ (v107 : Value).ownBlock ∧ (some k_ ≠ (.slice Ao47 x11_2.length co47 : Value).ownBlock ∧ (k_ ≠ gb101 ∧ k_ ≠ gb116))) ∧ k_ ≠ gb130)) (n := t109.length) (c := co33) ?_).2.2; exact (by (with_reducible repeat (first | apply Kd.V_alloc | apply Kd.V_drewN | apply Kd.V_drew)); exact (Kd.V_mono (Kd.V_far (p := ⟨gb130, 1, none⟩) (Kd.V_far (p := ⟨gb130, 0, none⟩) (Kd.V_mono HO_117000.out (fun k_ hk => (⟨hk, hk.2⟩ : _ ∧ k_ ≠ gb130))) (fun _ hk => hk.2) (.slice Ao50 t123.length co50)) (fun _ hk => hk.2) (.slice Ao54 t126.length co54)) (fun _ h_ => h_.1)))); (case side2 => exact (Kd.V_reads' HO_117000.out).2.1); (case side3 => refine (Kd.V_reads' (e := 44) (base := w.heap.size) (ok := fun k_ => ((some k_ ≠ (v107 : Value).ownBlock ∧ (some k_ ≠ (.slice Ao47 x11_2.length co47 : Value).ownBlock ∧ (k_ ≠ gb101 ∧ k_ ≠ gb116))) ∧ k_ ≠ gb130)) (n := t112.length) (c := co36) ?_).2.2; exact (by (with_reducible repeat (first | apply Kd.V_alloc | apply Kd.V_drewN | apply Kd.V_drew)); exact (Kd.V_mono (Kd.V_far (p := ⟨gb130, 1, none⟩) (Kd.V_far (p := ⟨gb130, 0, none⟩) (Kd.V_mono HO_117001.out (fun k_ hk => (⟨hk, hk.2⟩ : _ ∧ k_ ≠ gb130))) (fun _ hk => hk.2) (.slice Ao50 t123.length co50)) (fun _ hk => hk.2) (.slice Ao54 t126.length co54)) (fun _ h_ => h_.1)))); (case side4 => exact (Kd.V_reads' HO_117001.out).2.1); rintro e w56 ⟨v133, rfl, ho0, hb⟩; refine ⟨_, rfl, ?_⟩; have n0_ := zA (Kd.R_elder' (by (with_reducible repeat (first | apply Kd.R_alloc | apply Kd.R_drewN | apply Kd.R_drew)); exact (Kd.R_mono (Kd.R_far (p := ⟨gb130, 1, none⟩) (Kd.R_far (p := ⟨gb130, 0, none⟩) (Kd.R_types HO_7.out BK130.out (by decide)) (fun _ hk => hk.2) (.slice Ao50 t123.length co50)) (fun _ hk => hk.2) (.slice Ao54 t126.length co54)) (fun _ h_ => h_.1))) (Kd.R_base ho0) hb); have n1_ := zA (Kd.R_below (by (with_reducible repeat (first | apply Kd.R_alloc | apply Kd.R_drewN | apply Kd.R_drew)); exact (Kd.R_mono (Kd.R_far (p := ⟨gb130, 1, none⟩) (Kd.R_far (p := ⟨gb130, 0, none⟩) (Kd.R_types HO_11.out BK130.out (by decide)) (fun _ hk => hk.2) (.slice Ao50 t123.length co50)) (fun _ hk => hk.2) (.slice Ao54 t126.length co54)) (fun _ h_ => h_.1))) hb); have n2_ := zA (Kd.V_elder' (by (with_reducible repeat (first | apply Kd.V_alloc | apply Kd.V_drewN | apply Kd.V_drew)); exact (Kd.V_mono (Kd.V_far (p := ⟨gb130, 1, none⟩) (Kd.V_far (p := ⟨gb130, 0, none⟩) (Kd.V_mono HO_117000.out (fun k_ hk => (⟨hk, hk.2⟩ : _ ∧ k_ ≠ gb130))) (fun _ hk => hk.2) (.slice Ao50 t123.length co50)) (fun _ hk => hk.2) (.slice Ao54 t126.length co54)) (fun _ h_ => h_.1))) (Kd.R_base ho0) hb); have n3_ := zA (Kd.V_elder' (by (with_reducible repeat (first | apply Kd.V_alloc | apply Kd.V_drewN | apply Kd.V_drew)); exact (Kd.V_mono (Kd.V_far (p := ⟨gb130, 1, none⟩) (Kd.V_far (p := ⟨gb130, 0, none⟩) (Kd.V_mono HO_117001.out (fun k_ hk => (⟨hk, hk.2⟩ : _ ∧ k_ ≠ gb130))) (fun _ hk => hk.2) (.slice Ao50 t123.length co50)) (fun _ hk => hk.2) (.slice Ao54 t126.length co54)) (fun _ h_ => h_.1))) (Kd.R_base ho0) hb); have n4_ := zA (Kd.V_elder' (by (with_reducible repeat (first | apply Kd.V_alloc | apply Kd.V_drewN | apply Kd.V_drew)); exact (Kd.V_mono (Kd.V_far (p := ⟨gb130, 1, none⟩) (Kd.V_far (p := ⟨gb130, 0, none⟩) (Kd.V_mono HO125.out (fun k_ hk => (⟨hk, hk.2⟩ : _ ∧ k_ ≠ gb130))) (fun _ hk => hk.2) (.slice Ao50 t123.length co50)) (fun _ hk => hk.2) (.slice Ao54 t126.length co54)) (fun _ h_ => h_.1))) (Kd.R_base ho0) hb); have n5_ := zA (Kd.V_elder' (by (with_reducible repeat (first | apply Kd.V_alloc | apply Kd.V_drewN | apply Kd.V_drew)); exact (Kd.V_mono (Kd.V_far (p := ⟨gb130, 1, none⟩) (Kd.V_far (p := ⟨gb130, 0, none⟩) (Kd.V_mono HO128.out (fun k_ hk => (⟨hk, hk.2⟩ : _ ∧ k_ ≠ gb130))) (fun _ hk => hk.2) (.slice Ao50 t123.length co50)) (fun _ hk => hk.2) (.slice Ao54 t126.length co54)) (fun _ h_ => h_.1))) (Kd.R_base ho0) hb); have n6_ := zA (Kd.R_lower (Kd.R_new' ho0 (Kd.R_lt (by (with_reducible repeat (first | apply Kd.R_alloc | apply Kd.R_drewN | apply Kd.R_drew)); exact (Kd.R_mono (Kd.R_far (p := ⟨gb130, 1, none⟩) (Kd.R_far (p := ⟨gb130, 0, none⟩) (Kd.R_types HO_7.out BK130.out (by decide)) (fun _ hk => hk.2) (.slice Ao50 t123.length co50)) (fun _ hk => hk.2) (.slice Ao54 t126.length co54)) (fun _ h_ => h_.1))))) (zW qB)); have n7_ := zA (qX BK101.out hb); have n8_ := zA (qX BK116.out hb); have n9_ := zA (zX (g := gb130) (o := .cells #[.slice Ao50 t123.length co50, .slice Ao54 t126.length co54] 51 (0, 0)) (qV BK130.out) hb); have n10_ := zA (zV qB hb); clear HO_7 HO_11 HO_117000 HO_117001 HO125 HO128 BK101 BK116 BK130 HB; have HO_7 := n0_; have HO_11 := n1_; have HO_117000 := n2_; have HO_117001 := n3_; have HO125 := n4_; have HO128 := n5_; have HO134 := n6_; have BK101 := n7_; have BK116 := n8_; have BK130 := n9_; have HB := n10_; clear n0_ n1_ n2_ n3_ n4_ n5_ n6_ n7_ n8_ n9_ n10_; (try clear hb); (try clear ho0)))
            (try simp only [Act.put, zH, zI, zJ])
            go_cut [102] (fun v102 wc => ∃ (kq : Nat) (x102_43 : Bool), v102 = .bool x102_43 ∧ Aside0 (backhaullaw14_IndexTurns.j2 kq a1 l2 t105 x102_43 l0_0 l0_1 t109 t112 = some true) ∧ Aside0 (kq ≤ k2) ∧ Aside0 (Kd.R k146 146 wc w.heap.size (fun _ => True) v107 t105) ∧ Aside0 (Kd.V Kd.string 9 wc w.heap.size (fun k_ => some k_ ≠ (v107 : Value).ownBlock ∧ k_ ≠ gb101 ∧ k_ ≠ gb116 ∧ k_ ≠ gb130) (.slice Ao33 t109.length co33) t109) ∧ Aside0 (Kd.V (Kd.slice 3 (Kd.int .i64)) 44 wc w.heap.size (fun k_ => some k_ ≠ (v107 : Value).ownBlock ∧ k_ ≠ gb101 ∧ k_ ≠ gb116 ∧ k_ ≠ gb130) (.slice Ao36 t112.length co36) t112) ∧ Aside0 (Kd.V Kd.string 9 wc w.heap.size (fun k_ => some k_ ≠ (v107 : Value).ownBlock ∧ k_ ≠ gb101 ∧ k_ ≠ gb116 ∧ k_ ≠ gb130) (.slice Ao50 t123.length co50) t123) ∧ Aside0 (Kd.V (Kd.slice 3 (Kd.int .i64)) 44 wc w.heap.size (fun k_ => some k_ ≠ (v107 : Value).ownBlock ∧ k_ ≠ gb101 ∧ k_ ≠ gb116 ∧ k_ ≠ gb130) (.slice Ao54 t126.length co54) t126) ∧ Aside0 (wc.heap[gb101]? = some (.cells #[(.slice A0_0 l0_0.length c0_0), (.slice A0_1 l0_1.length c0_1)] 51 (0, 0))) ∧ Aside0 (wc.heap[gb116]? = some (.cells #[(.slice Ao33 t109.length co33), (.slice Ao36 t112.length co36)] 51 (0, 0))) ∧ Aside0 (wc.heap[gb130]? = some (.cells #[(.slice Ao50 t123.length co50), (.slice Ao54 t126.length co54)] 51 (0, 0))) ∧ Aside0 (Below w.heap.size w wc))
            case first =>
              have H := HC44.out; clear HC44; by_cases c57 : t129 = 0
              · rw [if_pos c57] at H
                have c57b0 : (t129 == 0) = true := beq_iff_eq.mpr c57; have c57b1 : (t129 != 0) = false := bne_eq_false_iff_eq.mpr c57; clear c57; (first | rw [c57b0] | (simp only [i64_w, i32_w]; rw [c57b0]) | skip)
                by_cases c58 : t132 = true
                · subst c58
                  have H1 : ((backhaullaw14_same.f k2 t123 t126 t131).bind fun t135 => (backhaullaw14_IndexTurns.j2 k2 a1 l2 t105 (!t135) l0_0 l0_1 t109 t112)) = some true := by first | (rw [if_pos rfl] at H; exact H) | rfl
                  clear H; have H := H1; clear H1; replace H := Option.bind_eq_some_iff.mp H; obtain ⟨t135, A590, H⟩ := H; try dsimp only at H
                  have A59 := zA A590; clear A590; have H' := zA H; clear H; have hnb60 := NB130_101.out; have hnc60 := NB101_130.out; have hnb61 := NB130_116.out; have hnc61 := NB116_130.out; obtain ⟨_, _, _, _⟩ := qc2f BK130.out; obtain ⟨Ao63, co63, eo63⟩ := Kd.R_slice HO134.out; subst eo63; go_wp2_with (first | (go_at_call 39; (with_reducible refine (backhaullaw14_same.calls k2 _ _ t123 _ _ t126 _ _ t131 t135 _ ?side1 ?side2 ?side3 ?side4 ?side5 ?side6 A59.out).mono ?_); (case side1 => repeat (first | exact (Kd.V_reads' HO125.out).2.2 | (with_reducible refine Kd.C_alloc ?_ _) | (with_reducible refine Kd.C_drewN ?_ _) | (with_reducible refine Kd.C_drew ?_))); (case side2 => exact (Kd.V_reads' HO125.out).2.1); (case side3 => repeat (first | exact (Kd.V_reads' HO128.out).2.2 | (with_reducible refine Kd.C_alloc ?_ _) | (with_reducible refine Kd.C_drewN ?_ _) | (with_reducible refine Kd.C_drew ?_))); (case side4 => exact (Kd.V_reads' HO128.out).2.1); (case side5 => repeat (first | exact (Kd.R_reads' HO134.out).2.2 | (with_reducible refine Kd.C_alloc ?_ _) | (with_reducible refine Kd.C_drewN ?_ _) | (with_reducible refine Kd.C_drew ?_))); (case side6 => exact (Kd.R_reads' HO134.out).2.1); rintro e w64 ⟨rfl, hb⟩; have n0_ := zA (Kd.R_below (by (with_reducible repeat (first | apply Kd.R_alloc | apply Kd.R_drewN | apply Kd.R_drew)); exact HO_7.out) hb); have n1_ := zA (Kd.R_below (by (with_reducible repeat (first | apply Kd.R_alloc | apply Kd.R_drewN | apply Kd.R_drew)); exact HO_11.out) hb); have n2_ := zA (Kd.V_below (by (with_reducible repeat (first | apply Kd.V_alloc | apply Kd.V_drewN | apply Kd.V_drew)); exact HO_117000.out) hb); have n3_ := zA (Kd.V_below (by (with_reducible repeat (first | apply Kd.V_alloc | apply Kd.V_drewN | apply Kd.V_drew)); exact HO_117001.out) hb); have n4_ := zA (Kd.V_below (by (with_reducible repeat (first | apply Kd.V_alloc | apply Kd.V_drewN | apply Kd.V_drew)); exact HO125.out) hb); have n5_ := zA (Kd.V_below (by (with_reducible repeat (first | apply Kd.V_alloc | apply Kd.V_drewN | apply Kd.V_drew)); exact HO128.out) hb); have n6_ := zA (Kd.R_below (by (with_reducible repeat (first | apply Kd.R_alloc | apply Kd.R_drewN | apply Kd.R_drew)); exact HO134.out) hb); have n7_ := zA (qX BK101.out hb); have n8_ := zA (qX BK116.out hb); have n9_ := zA (qX BK130.out hb); have n10_ := zA (zV qB hb); clear HO_7 HO_11 HO_117000 HO_117001 HO125 HO128 HO134 BK101 BK116 BK130 HB; have HO_7 := n0_; have HO_11 := n1_; have HO_117000 := n2_; have HO_117001 := n3_; have HO125 := n4_; have HO128 := n5_; have HO134 := n6_; have BK101 := n7_; have BK116 := n8_; have BK130 := n9_; have HB := n10_; clear n0_ n1_ n2_ n3_ n4_ n5_ n6_ n7_ n8_ n9_ n10_; (try clear hb))); go_meet
                  case rel => exact ⟨_, (!t135), (by first | rfl | (simp; done) | (simp [*]; done)), H', ⟨by have := HJ3.out; have := HK2.out; first | omega | exact Nat.le_refl _⟩, ⟨by (with_reducible repeat (first | apply Kd.R_alloc | apply Kd.R_drewN | apply Kd.R_drew)); exact Kd.R_mono HO_7.out (fun _ hk => trivial)⟩, ⟨by (with_reducible repeat (first | apply Kd.V_alloc | apply Kd.V_drewN | apply Kd.V_drew)); exact Kd.V_mono HO_117000.out (fun _ hk => ⟨hk.1.1.1, ⟨hk.1.1.2.2.1, ⟨hk.1.1.2.2.2, hk.1.2⟩⟩⟩)⟩, ⟨by (with_reducible repeat (first | apply Kd.V_alloc | apply Kd.V_drewN | apply Kd.V_drew)); exact Kd.V_mono HO_117001.out (fun _ hk => ⟨hk.1.1.1, ⟨hk.1.1.2.2.1, ⟨hk.1.1.2.2.2, hk.1.2⟩⟩⟩)⟩, ⟨by (with_reducible repeat (first | apply Kd.V_alloc | apply Kd.V_drewN | apply Kd.V_drew)); exact Kd.V_mono HO125.out (fun _ hk => ⟨hk.1.1.1, ⟨hk.1.1.2.2.1, ⟨hk.1.1.2.2.2, hk.1.2⟩⟩⟩)⟩, ⟨by (with_reducible repeat (first | apply Kd.V_alloc | apply Kd.V_drewN | apply Kd.V_drew)); exact Kd.V_mono HO128.out (fun _ hk => ⟨hk.1.1.1, ⟨hk.1.1.2.2.1, ⟨hk.1.1.2.2.2, hk.1.2⟩⟩⟩)⟩, ⟨by exact BK101.out⟩, ⟨by exact BK116.out⟩, ⟨by exact BK130.out⟩, ⟨qB⟩⟩
                replace c58 := Bool.eq_false_iff.mpr c58; subst c58; have H1 : (backhaullaw14_IndexTurns.j2 k2 a1 l2 t105 true l0_0 l0_1 t109 t112) = some true := by first | (rw [if_neg (show ¬ (false = true) by decide)] at H; exact H) | rfl
                clear H; have H := H1; clear H1; have H' := zA H; clear H; go_wp2; go_meet
                case rel => exact ⟨_, (true), (by first | rfl | (simp; done) | (simp [*]; done)), H', ⟨by have := HJ3.out; have := HK2.out; first | omega | exact Nat.le_refl _⟩, ⟨by (with_reducible repeat (first | apply Kd.R_alloc | apply Kd.R_drewN | apply Kd.R_drew)); exact Kd.R_mono HO_7.out (fun _ hk => trivial)⟩, ⟨by (with_reducible repeat (first | apply Kd.V_alloc | apply Kd.V_drewN | apply Kd.V_drew)); exact Kd.V_mono HO_117000.out (fun _ hk => ⟨hk.1.1.1, ⟨hk.1.1.2.2.1, ⟨hk.1.1.2.2.2, hk.1.2⟩⟩⟩)⟩, ⟨by (with_reducible repeat (first | apply Kd.V_alloc | apply Kd.V_drewN | apply Kd.V_drew)); exact Kd.V_mono HO_117001.out (fun _ hk => ⟨hk.1.1.1, ⟨hk.1.1.2.2.1, ⟨hk.1.1.2.2.2, hk.1.2⟩⟩⟩)⟩, ⟨by (with_reducible repeat (first | apply Kd.V_alloc | apply Kd.V_drewN | apply Kd.V_drew)); exact Kd.V_mono HO125.out (fun _ hk => ⟨hk.1.1.1, ⟨hk.1.1.2.2.1, ⟨hk.1.1.2.2.2, hk.1.2⟩⟩⟩)⟩, ⟨by (with_reducible repeat (first | apply Kd.V_alloc | apply Kd.V_drewN | apply Kd.V_drew)); exact Kd.V_mono HO128.out (fun _ hk => ⟨hk.1.1.1, ⟨hk.1.1.2.2.1, ⟨hk.1.1.2.2.2, hk.1.2⟩⟩⟩)⟩, ⟨by exact BK101.out⟩, ⟨by exact BK116.out⟩, ⟨by exact BK130.out⟩, ⟨qB⟩⟩
              rw [if_neg c57] at H; have c57b0 : (t129 == 0) = false := beq_eq_false_iff_ne.mpr c57; have c57b1 : (t129 != 0) = true := bne_iff_ne.mpr c57; (first | rw [c57b0] | (simp only [i64_w, i32_w]; rw [c57b0]) | skip)
              have H' := zA H; clear H; go_wp2; go_meet
              case rel => exact ⟨_, (true), (by first | rfl | (simp; done) | (simp [*]; done)), H', ⟨by have := HJ3.out; have := HK2.out; first | omega | exact Nat.le_refl _⟩, ⟨by (with_reducible repeat (first | apply Kd.R_alloc | apply Kd.R_drewN | apply Kd.R_drew)); exact Kd.R_mono HO_7.out (fun _ hk => trivial)⟩, ⟨by (with_reducible repeat (first | apply Kd.V_alloc | apply Kd.V_drewN | apply Kd.V_drew)); exact Kd.V_mono HO_117000.out (fun _ hk => ⟨hk.1.1.1, ⟨hk.1.1.2.2.1, ⟨hk.1.1.2.2.2, hk.1.2⟩⟩⟩)⟩, ⟨by (with_reducible repeat (first | apply Kd.V_alloc | apply Kd.V_drewN | apply Kd.V_drew)); exact Kd.V_mono HO_117001.out (fun _ hk => ⟨hk.1.1.1, ⟨hk.1.1.2.2.1, ⟨hk.1.1.2.2.2, hk.1.2⟩⟩⟩)⟩, ⟨by (with_reducible repeat (first | apply Kd.V_alloc | apply Kd.V_drewN | apply Kd.V_drew)); exact Kd.V_mono HO125.out (fun _ hk => ⟨hk.1.1.1, ⟨hk.1.1.2.2.1, ⟨hk.1.1.2.2.2, hk.1.2⟩⟩⟩)⟩, ⟨by (with_reducible repeat (first | apply Kd.V_alloc | apply Kd.V_drewN | apply Kd.V_drew)); exact Kd.V_mono HO128.out (fun _ hk => ⟨hk.1.1.1, ⟨hk.1.1.2.2.1, ⟨hk.1.1.2.2.2, hk.1.2⟩⟩⟩)⟩, ⟨by exact BK101.out⟩, ⟨by exact BK116.out⟩, ⟨by exact BK130.out⟩, ⟨qB⟩⟩
            case rest =>
              clear HC44; try clear c1
              try clear p1
              try clear q1
              try clear hx1
              try clear c2
              try clear p2
              try clear c3
              try clear c4
              try clear c5
              try clear c6
              try clear p6
              try clear c7
              try clear c8
              try clear c8b0
              try clear c8b1
              try clear c11
              try clear c11b0
              try clear c11b1
              try clear p11
              try clear q11
              try clear hx11
              try clear c21
              try clear c23
              try clear c25
              try clear c26
              try clear c27
              try clear c27b0
              try clear c27b1
              try clear c34
              try clear c36
              try clear c37
              try clear c37b0
              try clear c38
              try clear c38b0
              try clear c39
              try clear c39b0
              try clear c40
              try clear c45
              try clear c51
              try clear c52
              try clear c57
              try clear c57b0
              try clear c57b1
              try clear c58
              try clear c60
              try clear c61
              try clear p64
              try clear hx119_0
              try clear p119
              try clear p2
              try clear p6
              try clear q119
              obtain ⟨kq, x102_43, rfl, HA, HJ43, HO_7, HO_117000, HO_117001, HO_131000, HO_131001, BK101, BK116, BK130, HB⟩ := hcut; cases kq with
              | zero => exact absurd HA.out (by simp [backhaullaw14_IndexTurns.j2])
              | succ kj43 =>
                have H := HA.out; clear HA; simp only [backhaullaw14_IndexTurns.j2] at H; by_cases c65 : x102_43 = true
                · subst c65
                  have H1 : (some false) = some true := by first | (rw [if_pos rfl] at H; exact H) | rfl
                  clear H; have H := H1; clear H1; exact absurd H (by simp)
                replace c65 := Bool.eq_false_iff.mpr c65; subst c65; have H1 : (backhaullaw14_IndexTurns.l1 kj43 a1 l2 t105 0 l0_0 l0_1 t109 t112) = some true := by first | (rw [if_neg (show ¬ (false = true) by decide)] at H; exact H) | rfl
                clear H; have H := H1; clear H1; have H' := zA H; clear H; go_wp2; go_loopg [17] kj43 (fun kq v17 w' => ∃ (x17_4 : Int) (x117000_4 : List ByteArray) (x117001_4 : List (List Int)) (u117000 : Value) (u117001 : Value), v17 = .int .i64 x17_4 ∧ Aside0 (backhaullaw14_IndexTurns.l1 kq a1 l2 t105 x17_4 l0_0 l0_1 x117000_4 x117001_4 = some true) ∧ Aside0 (kq ≤ kj43) ∧ Aside0 (Kd.R k146 146 w' w.heap.size (fun _ => True) v107 t105) ∧ Aside0 (Kd.V Kd.string 9 w' w.heap.size (fun k_ => some k_ ≠ (v107 : Value).ownBlock ∧ k_ ≠ gb101 ∧ k_ ≠ gb116 ∧ k_ ≠ gb130) u117000 x117000_4) ∧ Aside0 (Kd.V (Kd.slice 3 (Kd.int .i64)) 44 w' w.heap.size (fun k_ => some k_ ≠ (v107 : Value).ownBlock ∧ k_ ≠ gb101 ∧ k_ ≠ gb116 ∧ k_ ≠ gb130) u117001 x117001_4) ∧ Aside0 (Kd.V Kd.string 9 w' w.heap.size (fun k_ => some k_ ≠ (v107 : Value).ownBlock ∧ k_ ≠ gb101 ∧ k_ ≠ gb116 ∧ k_ ≠ gb130) (.slice Ao50 t123.length co50) t123) ∧ Aside0 (Kd.V (Kd.slice 3 (Kd.int .i64)) 44 w' w.heap.size (fun k_ => some k_ ≠ (v107 : Value).ownBlock ∧ k_ ≠ gb101 ∧ k_ ≠ gb116 ∧ k_ ≠ gb130) (.slice Ao54 t126.length co54) t126) ∧ Aside0 (w'.heap[gb101]? = some (.cells #[(.slice A0_0 l0_0.length c0_0), (.slice A0_1 l0_1.length c0_1)] 51 (0, 0))) ∧ Aside0 (w'.heap[gb116]? = some (.cells #[u117000, u117001] 51 (0, 0))) ∧ Aside0 (w'.heap[gb130]? = some (.cells #[(.slice Ao50 t123.length co50), (.slice Ao54 t126.length co54)] 51 (0, 0))) ∧ Aside0 (Below w.heap.size w w'))
                case atStart => exact ⟨(0), (t109), (t112), (.slice Ao33 t109.length co33), (.slice Ao36 t112.length co36), (by first | rfl | (simp; done) | (simp [*]; done)), H', ⟨Nat.le_refl _⟩, ⟨by (with_reducible repeat (first | apply Kd.R_alloc | apply Kd.R_drewN | apply Kd.R_drew)); exact HO_7.out⟩, ⟨by (with_reducible repeat (first | apply Kd.V_alloc | apply Kd.V_drewN | apply Kd.V_drew)); exact HO_117000.out⟩, ⟨by (with_reducible repeat (first | apply Kd.V_alloc | apply Kd.V_drewN | apply Kd.V_drew)); exact HO_117001.out⟩, ⟨by (with_reducible repeat (first | apply Kd.V_alloc | apply Kd.V_drewN | apply Kd.V_drew)); exact HO_131000.out⟩, ⟨by (with_reducible repeat (first | apply Kd.V_alloc | apply Kd.V_drewN | apply Kd.V_drew)); exact HO_131001.out⟩, ⟨by exact BK101.out⟩, ⟨by exact BK116.out⟩, ⟨by exact BK130.out⟩, ⟨qB⟩⟩
                case round =>
                  clear H'; try clear c1
                  try clear p1
                  try clear q1
                  try clear hx1
                  try clear c2
                  try clear p2
                  try clear c3
                  try clear c4
                  try clear c5
                  try clear c6
                  try clear p6
                  try clear c7
                  try clear c8
                  try clear c8b0
                  try clear c8b1
                  try clear c11
                  try clear c11b0
                  try clear c11b1
                  try clear p11
                  try clear q11
                  try clear hx11
                  try clear c21
                  try clear c23
                  try clear c25
                  try clear c26
                  try clear c27
                  try clear c27b0
                  try clear c27b1
                  try clear c34
                  try clear c36
                  try clear c37
                  try clear c37b0
                  try clear c38
                  try clear c38b0
                  try clear c39
                  try clear c39b0
                  try clear c40
                  try clear c45
                  try clear c51
                  try clear c52
                  try clear c57
                  try clear c57b0
                  try clear c57b1
                  try clear c58
                  try clear c60
                  try clear c61
                  try clear p64
                  try clear c65
                  try clear hx119_0
                  try clear p1
                  try clear p11
                  try clear p119
                  try clear p2
                  try clear p6
                  try clear p64
                  try clear q1
                  try clear q11
                  try clear q119
                  obtain ⟨x17_4, x117000_4, x117001_4, u117000, u117001, rfl, HA, HK4, HO_7, HO_117000, HO_117001, HO_131000, HO_131001, BK101, BK116, BK130, HB⟩ := hrel; cases gk with
                  | zero => exact absurd HA.out (by simp [backhaullaw14_IndexTurns.l1])
                  | succ k4 =>
                    have H := HA.out; clear HA; simp only [backhaullaw14_IndexTurns.l1] at H; by_cases c66 : x17_4 < (l2.length : Int)
                    · rw [if_pos c66] at H
                      have c66b0 : decide (x17_4 < (l2.length : Int)) = true := zFq c66; clear c66; by_cases c67 : 0 ≤ x17_4
                      · rw [if_pos c67] at H
                        have c67b0 : decide (0 ≤ x17_4) = true := zFq c67; clear c67; replace H := Option.bind_eq_some_iff.mp H; obtain ⟨⟨t137, t140, t143⟩, A680, H⟩ := H; try dsimp only at H
                        have A68 := zA A680; clear A680; by_cases c69 : t143 = 0
                        · rw [if_pos c69] at H
                          have c69b0 : (t143 == 0) = true := beq_iff_eq.mpr c69; have c69b1 : (t143 != 0) = false := bne_eq_false_iff_eq.mpr c69; clear c69; have H' := zA H; clear H; obtain ⟨Ao70, co70, eo70⟩ := Kd.V_slice HO_117000.out; subst eo70; obtain ⟨Ao71, co71, eo71⟩ := Kd.V_slice HO_117001.out; subst eo71; try go_wp2
                          have n0_ := zA (Kd.R_drew HO_7.out); have n1_ := zA (Kd.V_drew HO_117000.out); have n2_ := zA (Kd.V_drew HO_117001.out); have n3_ := zA (Kd.V_drew HO_131000.out); have n4_ := zA (Kd.V_drew HO_131001.out); have n5_ := zA (zAq BK101.out); have n6_ := zA (zAq BK116.out); have n7_ := zA (zAq BK130.out); have n8_ := zA (zC HB.out); clear HO_7; clear HO_117000; clear HO_117001; clear HO_131000; clear HO_131001; clear BK101; clear BK116; clear BK130; clear HB; have HO_7 := n0_; have HO_117000 := n1_; have HO_117001 := n2_; have HO_131000 := n3_; have HO_131001 := n4_; have BK101 := n5_; have BK116 := n6_; have BK130 := n7_; have HB := n8_; clear n0_ n1_ n2_ n3_ n4_ n5_ n6_ n7_ n8_; have p136 : 0 ≤ (x17_4 : Int) := of_decide_eq_true qA; have q136 : x17_4 < (l2.length : Int) := of_decide_eq_true qA; obtain ⟨ad136, e136, hx136_0⟩ := Kd.at_int HR2.out x17_4 p136 q136; have hw136_0 := hx136_0; cases e136
                          replace hx136_0 := (HB.out.cell (zCq w _ hx136_0)).trans hx136_0; replace p136 := eq_true p136; replace q136 := eq_true q136; refine start_ (n := 13) (S := fun w' => w'.cell? ⟨gb116, 0, none⟩ = some (.slice Ao70 x117000_4.length co70) ∧ w'.cell? ⟨gb116, 1, none⟩ = some (.slice Ao71 x117001_4.length co71) ∧ w'.cell? (ad136.add (x17_4).toNat) = some (.int .i64 (rd l2 x17_4))) (ds := []) #[o0, o0, o0, o0, o0, o0, o0, o0, o0, o0, o0, o0, o0] (by kernel_rfl) rfl rfl ⟨(zF BK116.out 0).trans rfl, (zF BK116.out 1).trans rfl, ((HB.out.cell (zCq w _ hw136_0)).trans hw136_0)⟩ (fun hHeld => ?_); refine with_tabW backhaullaw14_IndexTurns.tab19 backhaullaw14_IndexTurns.bits19 (fun HT_ HW_ => ?_); generalize wr.drew = w72 at HO_7 HO_117000 HO_117001 HO_131000 HO_131001 BK101 BK116 BK130 HB hx136_0 hHeld ⊢; refine pure_ (i := 1) (N := some 111) #[o0, o1, o0, o0, o0, o0, o0, o0, o0, o0, o0, o0, o0] rfl rfl (any_of HT_.out (by kernel_rfl)) (fun _ _ _ h => h) (Or.inl ⟨by rfl, qy⟩) qz ?_; refine pure_ (i := 2) (N := some 112) #[o0, o1, o1, o0, o0, o0, o0, o0, o0, o0, o0, o0, o0] rfl rfl (any_of HT_.out (by kernel_rfl)) (fun _ _ _ h => h) (Or.inl ⟨by rfl, qy⟩) qz ?_; refine pure_ (i := 3) (N := some 113) #[o0, o1, o1, o1, o0, o0, o0, o0, o0, o0, o0, o0, o0] rfl rfl (any_of HT_.out (by kernel_rfl)) (fun _ _ _ h => h) (Or.inl ⟨by rfl, qy⟩) qz ?_; refine pure_ (i := 4) (N := some 114) #[o0, o1, o1, o1, o1, o0, o0, o0, o0, o0, o0, o0, o0] rfl rfl (any_of HT_.out (by kernel_rfl)) (fun _ _ _ h => h) (Or.inl ⟨by rfl, qy⟩) qz ?_; refine take_ (i := 0) (N := some 110) (v := ?_) (a' := ?_) #[o1, o1, o1, o1, o1, o0, o0, o0, o0, o0, o0, o0, o0] rfl rfl (take_ofW HT_.out HW_.out (by kernel_rfl)) (fun _ _ _ h => h) (Or.inl ⟨by rfl, ?_⟩) hHeld ?_ ?_; rotate_left
                          · rintro w' ⟨s0, s1, s2⟩
                            go_simp; with_reducible rfl
                          rotate_left
                          · simp only [Act.put, zH, zI, zJ, i64_w, i32_w]
                            rfl
                          refine take_ (i := 5) (N := some 115) (v := ?_) (a' := ?_) #[o1, o1, o1, o1, o1, o1, o0, o0, o0, o0, o0, o0, o0] rfl rfl (take_ofW HT_.out HW_.out (by kernel_rfl)) (fun _ _ _ h => h) (Or.inl ⟨by rfl, ?_⟩) hHeld ?_ ?_; rotate_left
                          · rintro w' ⟨s0, s1, s2⟩
                            go_simp; with_reducible rfl
                          rotate_left
                          · simp only [Act.put, zH, zI, zJ, i64_w, i32_w]
                            rfl
                          refine join_ (σ := Value × Value × Nat) 2 #[o1, o1, o1, o1, o1, o1, o1, o1, o1, o1, o1, o0, o0] (fun s_ => [(116, .tuple #[.agg #[s_.1, s_.2.1], .int .i64 t143]), (18, .pointer (some ⟨s_.2.2, 0, none⟩)), (109, .tuple #[.agg #[s_.1, s_.2.1], .int .i64 t143]), (117, .agg #[s_.1, s_.2.1]), (118, .int .i64 t143)]) (fun s_ w' => (w'.cell? ⟨gb116, 0, none⟩ = some (.slice Ao70 x117000_4.length co70) ∧ w'.cell? ⟨gb116, 1, none⟩ = some (.slice Ao71 x117001_4.length co71) ∧ w'.cell? (ad136.add (x17_4).toNat) = some (.int .i64 (rd l2 x17_4))) ∧ (Kd.R Kd.string 9 w' w.heap.size (fun _ => True) s_.1 t137) ∧ (Kd.N (Kd.slice 3 (Kd.int .i64)) 44 w' w.heap.size (fun k_ => some k_ ≠ (s_.1 : Value).ownBlock ∧ some k_ ≠ (v107 : Value).ownBlock ∧ k_ ≠ gb101 ∧ k_ ≠ gb116 ∧ k_ ≠ gb130 ∧ k_ ≠ s_.2.2) s_.2.1 t140) ∧ (Kd.V Kd.string 9 w' w.heap.size (fun k_ => some k_ ≠ (s_.1 : Value).ownBlock ∧ some k_ ≠ (s_.2.1 : Value).ownBlock ∧ some k_ ≠ (v107 : Value).ownBlock ∧ k_ ≠ gb101 ∧ k_ ≠ gb116 ∧ k_ ≠ gb130 ∧ k_ ≠ s_.2.2) (.slice Ao70 x117000_4.length co70) x117000_4) ∧ (Kd.V (Kd.slice 3 (Kd.int .i64)) 44 w' w.heap.size (fun k_ => some k_ ≠ (s_.1 : Value).ownBlock ∧ some k_ ≠ (s_.2.1 : Value).ownBlock ∧ some k_ ≠ (v107 : Value).ownBlock ∧ k_ ≠ gb101 ∧ k_ ≠ gb116 ∧ k_ ≠ gb130 ∧ k_ ≠ s_.2.2) (.slice Ao71 x117001_4.length co71) x117001_4) ∧ (Kd.V Kd.string 9 w' w.heap.size (fun k_ => some k_ ≠ (s_.1 : Value).ownBlock ∧ some k_ ≠ (s_.2.1 : Value).ownBlock ∧ some k_ ≠ (v107 : Value).ownBlock ∧ k_ ≠ gb101 ∧ k_ ≠ gb116 ∧ k_ ≠ gb130 ∧ k_ ≠ s_.2.2) (.slice Ao50 t123.length co50) t123) ∧ (Kd.V (Kd.slice 3 (Kd.int .i64)) 44 w' w.heap.size (fun k_ => some k_ ≠ (s_.1 : Value).ownBlock ∧ some k_ ≠ (s_.2.1 : Value).ownBlock ∧ some k_ ≠ (v107 : Value).ownBlock ∧ k_ ≠ gb101 ∧ k_ ≠ gb116 ∧ k_ ≠ gb130 ∧ k_ ≠ s_.2.2) (.slice Ao54 t126.length co54) t126) ∧ (Kd.R k146 146 w' w.heap.size (fun _ => True) v107 t105) ∧ (w'.heap[gb101]? = some (.cells #[.slice A0_0 l0_0.length c0_0, .slice A0_1 l0_1.length c0_1] 51 (0, 0))) ∧ (w'.heap[gb116]? = some (.cells #[.slice Ao70 x117000_4.length co70, .slice Ao71 x117001_4.length co71] 51 (0, 0))) ∧ (w'.heap[gb130]? = some (.cells #[.slice Ao50 t123.length co50, .slice Ao54 t126.length co54] 51 (0, 0))) ∧ (w'.heap[s_.2.2]? = some (.cells #[.slice none 0 0, .slice none 0 0] 51 (0, 0))) ∧ (w.heap.size ≤ s_.2.2) ∧ (w.heap.size ≤ s_.2.2) ∧ (gb101 ≠ s_.2.2) ∧ (s_.2.2 ≠ gb101) ∧ (gb116 ≠ s_.2.2) ∧ (s_.2.2 ≠ gb116) ∧ (gb130 ≠ s_.2.2) ∧ (s_.2.2 ≠ gb130) ∧ (Below w.heap.size w w')) ?_ ?_; rotate_left
                          · intro hCont
                            refine two_ (i := 6) (j := 10) (Ni := some 116) (Nj := some 18) #[o1, o1, o1, o1, o1, o1, o1, o0, o0, o0, o0, o0, o0] #[o1, o1, o1, o1, o1, o1, o0, o0, o0, o0, o1, o0, o0] rfl rfl rfl rfl (two_of HT_.out (by kernel_rfl)) (by decide) (by decide) (fun K hK => ?_) (fun K hK => ?_)
                            · skip
                              refine goes_ Try.func37 (by kernel_rfl) rfl #[.agg #[.slice Ao70 x117000_4.length co70, .slice Ao71 x117001_4.length co71], .string a1, .int .i64 (rd l2 x17_4)] (by rfl) rfl rfl qG ?_; with_reducible refine (index_Drop.calls k4 _ _ x117000_4 (fun k_ => (some k_ ≠ (v107 : Value).ownBlock ∧ (k_ ≠ gb101 ∧ (k_ ≠ gb116 ∧ k_ ≠ gb130)))) _ _ x117001_4 a1 (rd l2 x17_4) t137 t140 t143 _ ?side1 ?side2 ?side3 A68.out).mono ?_
                              (case side1 => repeat (first | exact (Kd.V_reads' HO_117000.out).2.2 | (with_reducible refine Kd.C_alloc ?_ _) | (with_reducible refine Kd.C_drewN ?_ _) | (with_reducible refine Kd.C_drew ?_)))
                              (case side2 => exact (Kd.V_reads' HO_117000.out).2.1)
                              (case side3 => exact HO_117001.out)
                              rintro e w73 ⟨v138, v141, rfl, ho0, ho1, hb⟩; refine ⟨_, rfl, ?_⟩; have n0_ := zA (Kd.R_below (by (with_reducible repeat (first | apply Kd.R_alloc | apply Kd.R_drewN | apply Kd.R_drew)); exact HO_7.out) hb); have n1_ := zA (Kd.V_mono (Kd.V_told (Kd.V_told (Kd.V_old (by (with_reducible repeat (first | apply Kd.V_alloc | apply Kd.V_drewN | apply Kd.V_drew)); exact HO_117000.out) hb) (Kd.R_base ho0)) (Kd.N_base ho1)) (fun _ h_ => h_.1)); have n2_ := zA (Kd.V_mono (Kd.V_told (Kd.V_told (Kd.V_old (by (with_reducible repeat (first | apply Kd.V_alloc | apply Kd.V_drewN | apply Kd.V_drew)); exact HO_117001.out) hb) (Kd.R_base ho0)) (Kd.N_base ho1)) (fun _ h_ => h_.1)); have n3_ := zA (Kd.V_mono (Kd.V_told (Kd.V_told (Kd.V_old (by (with_reducible repeat (first | apply Kd.V_alloc | apply Kd.V_drewN | apply Kd.V_drew)); exact HO_131000.out) hb) (Kd.R_base ho0)) (Kd.N_base ho1)) (fun _ h_ => h_.1)); have n4_ := zA (Kd.V_mono (Kd.V_told (Kd.V_told (Kd.V_old (by (with_reducible repeat (first | apply Kd.V_alloc | apply Kd.V_drewN | apply Kd.V_drew)); exact HO_131001.out) hb) (Kd.R_base ho0)) (Kd.N_base ho1)) (fun _ h_ => h_.1)); have n5_ := zA (Kd.R_lower (Kd.R_mono (ok' := fun k_ => True) ho0 (fun _ hk_ => trivial)) (zW qB)); have n6_ := zA (Kd.N_lower (Kd.N_mono (ok' := fun k_ => some k_ ≠ (v138 : Value).ownBlock ∧ some k_ ≠ (v107 : Value).ownBlock ∧ k_ ≠ gb101 ∧ k_ ≠ gb116 ∧ k_ ≠ gb130) ho1 (fun k_ hk_ => ⟨hk_.2, Or.elim hk_.1 (fun hs_ => hs_.1) (fun hn_ => (Kd.fresh' (Kd.R_lt (by (with_reducible repeat (first | apply Kd.R_alloc | apply Kd.R_drewN | apply Kd.R_drew)); exact HO_7.out)) k_ hn_)), Or.elim hk_.1 (fun hs_ => hs_.2.1) (fun hn_ => (Kd.freshB (g := gb101) (o := .cells #[.slice A0_0 l0_0.length c0_0, .slice A0_1 l0_1.length c0_1] 51 (0, 0)) (qW BK101.out) k_ hn_)), Or.elim hk_.1 (fun hs_ => hs_.2.2.1) (fun hn_ => (Kd.freshB (g := gb116) (o := .cells #[.slice Ao70 x117000_4.length co70, .slice Ao71 x117001_4.length co71] 51 (0, 0)) (qW BK116.out) k_ hn_)), Or.elim hk_.1 (fun hs_ => hs_.2.2.2) (fun hn_ => (Kd.freshB (g := gb130) (o := .cells #[.slice Ao50 t123.length co50, .slice Ao54 t126.length co54] 51 (0, 0)) (qW BK130.out) k_ hn_))⟩)) (zW qB)); have n7_ := zA (qX BK101.out hb); have n8_ := zA (qX BK116.out hb); have n9_ := zA (qX BK130.out hb); have n10_ := zA (zV qB hb); clear HO_7; clear HO_117000; clear HO_117001; clear HO_131000; clear HO_131001; clear BK101; clear BK116; clear BK130; clear HB; have HO_7 := n0_; have HO_117000 := n1_; have HO_117001 := n2_; have HO_131000 := n3_; have HO_131001 := n4_; have HO139 := n5_; have HO142 := n6_; have BK101 := n7_; have BK116 := n8_; have BK130 := n9_; have HB := n10_; clear n0_ n1_ n2_ n3_ n4_ n5_ n6_ n7_ n8_ n9_ n10_; (try clear hb); (try clear hb2); (try clear hk); (try clear hi); (try clear ho0); (try clear ho1)
                              refine hK.out _ _ ⟨(zF BK116.out 0).trans rfl, (zF BK116.out 1).trans rfl, ((HB.out.cell (zCq w _ hw136_0)).trans hw136_0)⟩ (fun hHeld => ?_); clear hK K; refine norm_ (a' := ?_) ?_ ?_; rotate_left
                              · show Act.put _ (some 116) _ = _
                                simp only [Act.put, zH, zI, zJ, i64_w, i32_w]; rfl
                              refine pure_ (i := 7) (N := some 109) #[o1, o1, o1, o1, o1, o1, o1, o1, o0, o0, o0, o0, o0] rfl rfl (any_of HT_.out (by kernel_rfl)) (fun _ _ _ h => h) (Or.inl ⟨by rfl, qy⟩) qz ?_; refine pure_ (i := 8) (N := some 117) #[o1, o1, o1, o1, o1, o1, o1, o1, o1, o0, o0, o0, o0] rfl rfl (any_of HT_.out (by kernel_rfl)) (fun _ _ _ h => h) (Or.inl ⟨by rfl, qy⟩) qz ?_; refine pure_ (i := 9) (N := some 118) #[o1, o1, o1, o1, o1, o1, o1, o1, o1, o1, o0, o0, o0] rfl rfl (any_of HT_.out (by kernel_rfl)) (fun _ _ _ h => h) (Or.inl ⟨by rfl, qy⟩) qz ?_; refine one_ (i := 10) (N := some 18) #[o1, o1, o1, o1, o1, o1, o1, o1, o1, o1, o1, o0, o0] rfl rfl (one_of HT_.out (by kernel_rfl)) (by decide) (fun K hK => ?_); refine box_step ?hg (N := 18) ?hd (cs := #[.slice none 0 0, .slice none 0 0]) (t := 51) ?hr ?_; (case hd => rfl); (case hg => rfl); (case hr => first | (go_simp; done) | (go_simp; rfl)); intro gb144 hg w74 hbox hb; have n0_ := zA (Kd.R_below (by (with_reducible repeat (first | apply Kd.R_alloc | apply Kd.R_drewN | apply Kd.R_drew)); exact HO_7.out) hb); have n1_ := zA (Kd.V_below (Kd.V_elderB (by (with_reducible repeat (first | apply Kd.V_alloc | apply Kd.V_drewN | apply Kd.V_drew)); exact HO_117000.out) gb144 (Nat.le_of_eq hg.symm)) hb); have n2_ := zA (Kd.V_below (Kd.V_elderB (by (with_reducible repeat (first | apply Kd.V_alloc | apply Kd.V_drewN | apply Kd.V_drew)); exact HO_117001.out) gb144 (Nat.le_of_eq hg.symm)) hb); have n3_ := zA (Kd.V_below (Kd.V_elderB (by (with_reducible repeat (first | apply Kd.V_alloc | apply Kd.V_drewN | apply Kd.V_drew)); exact HO_131000.out) gb144 (Nat.le_of_eq hg.symm)) hb); have n4_ := zA (Kd.V_below (Kd.V_elderB (by (with_reducible repeat (first | apply Kd.V_alloc | apply Kd.V_drewN | apply Kd.V_drew)); exact HO_131001.out) gb144 (Nat.le_of_eq hg.symm)) hb); have n5_ := zA (Kd.R_below (by (with_reducible repeat (first | apply Kd.R_alloc | apply Kd.R_drewN | apply Kd.R_drew)); exact HO139.out) hb); have n6_ := zA (Kd.N_below (Kd.N_elderB (by (with_reducible repeat (first | apply Kd.N_alloc | apply Kd.N_drewN | apply Kd.N_drew)); exact HO142.out) gb144 (Nat.le_of_eq hg.symm)) hb); have n7_ := zA (qX BK101.out hb); have n8_ := zA (qX BK116.out hb); have n9_ := zA (qX BK130.out hb); have n10_ := zA (zV qB hb); have n11_ := zA (hbox); have n12_ := zA ((qS : w.heap.size ≤ gb144)); have n13_ := zA ((qS : w.heap.size ≤ gb144)); have n14_ := zA ((by rw [hg]; exact zLq (qL BK101.out) : gb101 ≠ gb144)); have n15_ := zA ((by rw [hg]; exact zMq (qL BK101.out) : gb144 ≠ gb101)); have n16_ := zA ((by rw [hg]; exact zLq (qL BK116.out) : gb116 ≠ gb144)); have n17_ := zA ((by rw [hg]; exact zMq (qL BK116.out) : gb144 ≠ gb116)); have n18_ := zA ((by rw [hg]; exact zLq (qL BK130.out) : gb130 ≠ gb144)); have n19_ := zA ((by rw [hg]; exact zMq (qL BK130.out) : gb144 ≠ gb130)); clear HO_7; clear HO_117000; clear HO_117001; clear HO_131000; clear HO_131001; clear HO139; clear HO142; clear BK101; clear BK116; clear BK130; clear HB; have HO_7 := n0_; have HO_117000 := n1_; have HO_117001 := n2_; have HO_131000 := n3_; have HO_131001 := n4_; have HO139 := n5_; have HO142 := n6_; have BK101 := n7_; have BK116 := n8_; have BK130 := n9_; have HB := n10_; have BK144 := n11_; have GW144 := n12_; have GE144 := n13_; have NB101_144 := n14_; have NB144_101 := n15_; have NB116_144 := n16_; have NB144_116 := n17_; have NB130_144 := n18_; have NB144_130 := n19_; clear n0_ n1_ n2_ n3_ n4_ n5_ n6_ n7_ n8_ n9_ n10_ n11_ n12_ n13_ n14_ n15_ n16_ n17_ n18_ n19_; clear hb hbox hg
                              refine hK.out _ _ ⟨(zF BK116.out 0).trans rfl, (zF BK116.out 1).trans rfl, ((HB.out.cell (zCq w _ hw136_0)).trans hw136_0)⟩ (fun hHeld => ?_); clear hK K; refine norm_ (a' := ?_) ?_ ?_; rotate_left
                              · show Act.put _ (some 18) _ = _
                                simp only [Act.put, zH, zI, zJ, i64_w, i32_w]; rfl
                              exact norm_ (by simp only [putAll, Act.put, zH, zI, zJ]) (hCont (v138, v141, gb144) _ ⟨hHeld, (by (with_reducible repeat (first | apply Kd.R_alloc | apply Kd.R_drewN | apply Kd.R_drew)); exact HO139.out), (by (with_reducible repeat (first | apply Kd.N_alloc | apply Kd.N_drewN | apply Kd.N_drew)); exact Kd.N_mono HO142.out (fun _ hk => ⟨hk.1.1, ⟨hk.1.2.1, ⟨hk.1.2.2.1, ⟨hk.1.2.2.2.1, ⟨hk.1.2.2.2.2, hk.2⟩⟩⟩⟩⟩)), (by (with_reducible repeat (first | apply Kd.V_alloc | apply Kd.V_drewN | apply Kd.V_drew)); exact Kd.V_mono HO_117000.out (fun _ hk => ⟨hk.1.1.2, ⟨hk.1.2, ⟨hk.1.1.1.1, ⟨hk.1.1.1.2.1, ⟨hk.1.1.1.2.2.1, ⟨hk.1.1.1.2.2.2, hk.2⟩⟩⟩⟩⟩⟩)), (by (with_reducible repeat (first | apply Kd.V_alloc | apply Kd.V_drewN | apply Kd.V_drew)); exact Kd.V_mono HO_117001.out (fun _ hk => ⟨hk.1.1.2, ⟨hk.1.2, ⟨hk.1.1.1.1, ⟨hk.1.1.1.2.1, ⟨hk.1.1.1.2.2.1, ⟨hk.1.1.1.2.2.2, hk.2⟩⟩⟩⟩⟩⟩)), (by (with_reducible repeat (first | apply Kd.V_alloc | apply Kd.V_drewN | apply Kd.V_drew)); exact Kd.V_mono HO_131000.out (fun _ hk => ⟨hk.1.1.2, ⟨hk.1.2, ⟨hk.1.1.1.1, ⟨hk.1.1.1.2.1, ⟨hk.1.1.1.2.2.1, ⟨hk.1.1.1.2.2.2, hk.2⟩⟩⟩⟩⟩⟩)), (by (with_reducible repeat (first | apply Kd.V_alloc | apply Kd.V_drewN | apply Kd.V_drew)); exact Kd.V_mono HO_131001.out (fun _ hk => ⟨hk.1.1.2, ⟨hk.1.2, ⟨hk.1.1.1.1, ⟨hk.1.1.1.2.1, ⟨hk.1.1.1.2.2.1, ⟨hk.1.1.1.2.2.2, hk.2⟩⟩⟩⟩⟩⟩)), (by (with_reducible repeat (first | apply Kd.R_alloc | apply Kd.R_drewN | apply Kd.R_drew)); exact HO_7.out), (qW BK101.out), (qW BK116.out), (qW BK130.out), (qW BK144.out), GW144.out, GE144.out, NB101_144.out, NB144_101.out, NB116_144.out, NB144_116.out, NB130_144.out, NB144_130.out, qB⟩)
                            skip; refine box_step ?hg (N := 18) ?hd (cs := #[.slice none 0 0, .slice none 0 0]) (t := 51) ?hr ?_; (case hd => rfl); (case hg => rfl); (case hr => first | (go_simp; done) | (go_simp; rfl)); intro gb144 hg w73 hbox hb; have n0_ := zA (Kd.R_below (by (with_reducible repeat (first | apply Kd.R_alloc | apply Kd.R_drewN | apply Kd.R_drew)); exact HO_7.out) hb); have n1_ := zA (Kd.V_below (Kd.V_elderB (by (with_reducible repeat (first | apply Kd.V_alloc | apply Kd.V_drewN | apply Kd.V_drew)); exact HO_117000.out) gb144 (Nat.le_of_eq hg.symm)) hb); have n2_ := zA (Kd.V_below (Kd.V_elderB (by (with_reducible repeat (first | apply Kd.V_alloc | apply Kd.V_drewN | apply Kd.V_drew)); exact HO_117001.out) gb144 (Nat.le_of_eq hg.symm)) hb); have n3_ := zA (Kd.V_below (Kd.V_elderB (by (with_reducible repeat (first | apply Kd.V_alloc | apply Kd.V_drewN | apply Kd.V_drew)); exact HO_131000.out) gb144 (Nat.le_of_eq hg.symm)) hb); have n4_ := zA (Kd.V_below (Kd.V_elderB (by (with_reducible repeat (first | apply Kd.V_alloc | apply Kd.V_drewN | apply Kd.V_drew)); exact HO_131001.out) gb144 (Nat.le_of_eq hg.symm)) hb); have n5_ := zA (qX BK101.out hb); have n6_ := zA (qX BK116.out hb); have n7_ := zA (qX BK130.out hb); have n8_ := zA (zV qB hb); have n9_ := zA (hbox); have n10_ := zA ((qS : w.heap.size ≤ gb144)); have n11_ := zA ((qS : w.heap.size ≤ gb144)); have n12_ := zA ((by rw [hg]; exact zLq (qL BK101.out) : gb101 ≠ gb144)); have n13_ := zA ((by rw [hg]; exact zMq (qL BK101.out) : gb144 ≠ gb101)); have n14_ := zA ((by rw [hg]; exact zLq (qL BK116.out) : gb116 ≠ gb144)); have n15_ := zA ((by rw [hg]; exact zMq (qL BK116.out) : gb144 ≠ gb116)); have n16_ := zA ((by rw [hg]; exact zLq (qL BK130.out) : gb130 ≠ gb144)); have n17_ := zA ((by rw [hg]; exact zMq (qL BK130.out) : gb144 ≠ gb130)); clear HO_7; clear HO_117000; clear HO_117001; clear HO_131000; clear HO_131001; clear BK101; clear BK116; clear BK130; clear HB; have HO_7 := n0_; have HO_117000 := n1_; have HO_117001 := n2_; have HO_131000 := n3_; have HO_131001 := n4_; have BK101 := n5_; have BK116 := n6_; have BK130 := n7_; have HB := n8_; have BK144 := n9_; have GW144 := n10_; have GE144 := n11_; have NB101_144 := n12_; have NB144_101 := n13_; have NB116_144 := n14_; have NB144_116 := n15_; have NB130_144 := n16_; have NB144_130 := n17_; clear n0_ n1_ n2_ n3_ n4_ n5_ n6_ n7_ n8_ n9_ n10_ n11_ n12_ n13_ n14_ n15_ n16_ n17_; clear hb hbox hg; refine hK.out _ _ ⟨(zF BK116.out 0).trans rfl, (zF BK116.out 1).trans rfl, ((HB.out.cell (zCq w _ hw136_0)).trans hw136_0)⟩ (fun hHeld => ?_); clear hK K; refine norm_ (a' := ?_) ?_ ?_; rotate_left
                            · show Act.put _ (some 18) _ = _
                              simp only [Act.put, zH, zI, zJ, i64_w, i32_w]; rfl
                            refine one_ (i := 6) (N := some 116) #[o1, o1, o1, o1, o1, o1, o1, o0, o0, o0, o1, o0, o0] rfl rfl (one_of HT_.out (by kernel_rfl)) (by decide) (fun K hK => ?_); refine goes_ Try.func37 (by kernel_rfl) rfl #[.agg #[.slice Ao70 x117000_4.length co70, .slice Ao71 x117001_4.length co71], .string a1, .int .i64 (rd l2 x17_4)] (by rfl) rfl rfl qG ?_; with_reducible refine (index_Drop.calls k4 _ _ x117000_4 (fun k_ => ((some k_ ≠ (v107 : Value).ownBlock ∧ (k_ ≠ gb101 ∧ (k_ ≠ gb116 ∧ k_ ≠ gb130))) ∧ k_ ≠ gb144)) _ _ x117001_4 a1 (rd l2 x17_4) t137 t140 t143 _ ?side1 ?side2 ?side3 A68.out).mono ?_
                            (case side1 => repeat (first | exact (Kd.V_reads' HO_117000.out).2.2 | (with_reducible refine Kd.C_alloc ?_ _) | (with_reducible refine Kd.C_drewN ?_ _) | (with_reducible refine Kd.C_drew ?_)))
                            (case side2 => exact (Kd.V_reads' HO_117000.out).2.1)
                            (case side3 => exact HO_117001.out)
                            rintro e w74 ⟨v138, v141, rfl, ho0, ho1, hb⟩; refine ⟨_, rfl, ?_⟩; have n0_ := zA (Kd.R_below (by (with_reducible repeat (first | apply Kd.R_alloc | apply Kd.R_drewN | apply Kd.R_drew)); exact HO_7.out) hb); have n1_ := zA (Kd.V_mono (Kd.V_told (Kd.V_told (Kd.V_old (by (with_reducible repeat (first | apply Kd.V_alloc | apply Kd.V_drewN | apply Kd.V_drew)); exact HO_117000.out) hb) (Kd.R_base ho0)) (Kd.N_base ho1)) (fun _ h_ => h_.1)); have n2_ := zA (Kd.V_mono (Kd.V_told (Kd.V_told (Kd.V_old (by (with_reducible repeat (first | apply Kd.V_alloc | apply Kd.V_drewN | apply Kd.V_drew)); exact HO_117001.out) hb) (Kd.R_base ho0)) (Kd.N_base ho1)) (fun _ h_ => h_.1)); have n3_ := zA (Kd.V_mono (Kd.V_told (Kd.V_told (Kd.V_old (by (with_reducible repeat (first | apply Kd.V_alloc | apply Kd.V_drewN | apply Kd.V_drew)); exact HO_131000.out) hb) (Kd.R_base ho0)) (Kd.N_base ho1)) (fun _ h_ => h_.1)); have n4_ := zA (Kd.V_mono (Kd.V_told (Kd.V_told (Kd.V_old (by (with_reducible repeat (first | apply Kd.V_alloc | apply Kd.V_drewN | apply Kd.V_drew)); exact HO_131001.out) hb) (Kd.R_base ho0)) (Kd.N_base ho1)) (fun _ h_ => h_.1)); have n5_ := zA (Kd.R_lower (Kd.R_mono (ok' := fun k_ => True) ho0 (fun _ hk_ => trivial)) (zW qB)); have n6_ := zA (Kd.N_lower (Kd.N_mono (ok' := fun k_ => some k_ ≠ (v138 : Value).ownBlock ∧ some k_ ≠ (v107 : Value).ownBlock ∧ k_ ≠ gb101 ∧ k_ ≠ gb116 ∧ k_ ≠ gb130 ∧ k_ ≠ gb144) ho1 (fun k_ hk_ => ⟨hk_.2, Or.elim hk_.1 (fun hs_ => hs_.1.1) (fun hn_ => (Kd.fresh' (Kd.R_lt (by (with_reducible repeat (first | apply Kd.R_alloc | apply Kd.R_drewN | apply Kd.R_drew)); exact HO_7.out)) k_ hn_)), Or.elim hk_.1 (fun hs_ => hs_.1.2.1) (fun hn_ => (Kd.freshB (g := gb101) (o := .cells #[.slice A0_0 l0_0.length c0_0, .slice A0_1 l0_1.length c0_1] 51 (0, 0)) (qW BK101.out) k_ hn_)), Or.elim hk_.1 (fun hs_ => hs_.1.2.2.1) (fun hn_ => (Kd.freshB (g := gb116) (o := .cells #[.slice Ao70 x117000_4.length co70, .slice Ao71 x117001_4.length co71] 51 (0, 0)) (qW BK116.out) k_ hn_)), Or.elim hk_.1 (fun hs_ => hs_.1.2.2.2) (fun hn_ => (Kd.freshB (g := gb130) (o := .cells #[.slice Ao50 t123.length co50, .slice Ao54 t126.length co54] 51 (0, 0)) (qW BK130.out) k_ hn_)), Or.elim hk_.1 (fun hs_ => hs_.2) (fun hn_ => (Kd.freshB (g := gb144) (o := .cells #[.slice none 0 0, .slice none 0 0] 51 (0, 0)) (qW BK144.out) k_ hn_))⟩)) (zW qB)); have n7_ := zA (qX BK101.out hb); have n8_ := zA (qX BK116.out hb); have n9_ := zA (qX BK130.out hb); have n10_ := zA (qX BK144.out hb); have n11_ := zA (zV qB hb); clear HO_7; clear HO_117000; clear HO_117001; clear HO_131000; clear HO_131001; clear BK101; clear BK116; clear BK130; clear BK144; clear HB; have HO_7 := n0_; have HO_117000 := n1_; have HO_117001 := n2_; have HO_131000 := n3_; have HO_131001 := n4_; have HO139 := n5_; have HO142 := n6_; have BK101 := n7_; have BK116 := n8_; have BK130 := n9_; have BK144 := n10_; have HB := n11_; clear n0_ n1_ n2_ n3_ n4_ n5_ n6_ n7_ n8_ n9_ n10_ n11_; (try clear hb); (try clear hb2); (try clear hk); (try clear hi); (try clear ho0); (try clear ho1)
                            refine hK.out _ _ ⟨(zF BK116.out 0).trans rfl, (zF BK116.out 1).trans rfl, ((HB.out.cell (zCq w _ hw136_0)).trans hw136_0)⟩ (fun hHeld => ?_); clear hK K; refine norm_ (a' := ?_) ?_ ?_; rotate_left
                            · show Act.put _ (some 116) _ = _
                              simp only [Act.put, zH, zI, zJ, i64_w, i32_w]; rfl
                            refine pure_ (i := 7) (N := some 109) #[o1, o1, o1, o1, o1, o1, o1, o1, o0, o0, o1, o0, o0] rfl rfl (any_of HT_.out (by kernel_rfl)) (fun _ _ _ h => h) (Or.inl ⟨by rfl, qy⟩) qz ?_; refine pure_ (i := 8) (N := some 117) #[o1, o1, o1, o1, o1, o1, o1, o1, o1, o0, o1, o0, o0] rfl rfl (any_of HT_.out (by kernel_rfl)) (fun _ _ _ h => h) (Or.inl ⟨by rfl, qy⟩) qz ?_; refine pure_ (i := 9) (N := some 118) #[o1, o1, o1, o1, o1, o1, o1, o1, o1, o1, o1, o0, o0] rfl rfl (any_of HT_.out (by kernel_rfl)) (fun _ _ _ h => h) (Or.inl ⟨by rfl, qy⟩) qz ?_; exact norm_ (by simp only [putAll, Act.put, zH, zI, zJ]) (hCont (v138, v141, gb144) _ ⟨hHeld, (by (with_reducible repeat (first | apply Kd.R_alloc | apply Kd.R_drewN | apply Kd.R_drew)); exact HO139.out), (by (with_reducible repeat (first | apply Kd.N_alloc | apply Kd.N_drewN | apply Kd.N_drew)); exact HO142.out), (by (with_reducible repeat (first | apply Kd.V_alloc | apply Kd.V_drewN | apply Kd.V_drew)); exact Kd.V_mono HO_117000.out (fun _ hk => ⟨hk.1.2, ⟨hk.2, ⟨hk.1.1.1.1, ⟨hk.1.1.1.2.1, ⟨hk.1.1.1.2.2.1, ⟨hk.1.1.1.2.2.2, hk.1.1.2⟩⟩⟩⟩⟩⟩)), (by (with_reducible repeat (first | apply Kd.V_alloc | apply Kd.V_drewN | apply Kd.V_drew)); exact Kd.V_mono HO_117001.out (fun _ hk => ⟨hk.1.2, ⟨hk.2, ⟨hk.1.1.1.1, ⟨hk.1.1.1.2.1, ⟨hk.1.1.1.2.2.1, ⟨hk.1.1.1.2.2.2, hk.1.1.2⟩⟩⟩⟩⟩⟩)), (by (with_reducible repeat (first | apply Kd.V_alloc | apply Kd.V_drewN | apply Kd.V_drew)); exact Kd.V_mono HO_131000.out (fun _ hk => ⟨hk.1.2, ⟨hk.2, ⟨hk.1.1.1.1, ⟨hk.1.1.1.2.1, ⟨hk.1.1.1.2.2.1, ⟨hk.1.1.1.2.2.2, hk.1.1.2⟩⟩⟩⟩⟩⟩)), (by (with_reducible repeat (first | apply Kd.V_alloc | apply Kd.V_drewN | apply Kd.V_drew)); exact Kd.V_mono HO_131001.out (fun _ hk => ⟨hk.1.2, ⟨hk.2, ⟨hk.1.1.1.1, ⟨hk.1.1.1.2.1, ⟨hk.1.1.1.2.2.1, ⟨hk.1.1.1.2.2.2, hk.1.1.2⟩⟩⟩⟩⟩⟩)), (by (with_reducible repeat (first | apply Kd.R_alloc | apply Kd.R_drewN | apply Kd.R_drew)); exact HO_7.out), (qW BK101.out), (qW BK116.out), (qW BK130.out), (qW BK144.out), GW144.out, GE144.out, NB101_144.out, NB144_101.out, NB116_144.out, NB144_116.out, NB130_144.out, NB144_130.out, qB⟩)
                          rintro ⟨v138, v141, gb144⟩ w75 ⟨hS_, h0_, h1_, h2_, h3_, h4_, h5_, h6_, h7_, h8_, h9_, h10_, h11_, h12_, h13_, h14_, h15_, h16_, h17_, h18_, h19_⟩; have n0_ : Aside0 (Kd.R Kd.string 9 w75 w.heap.size (fun _ => True) v138 t137) := ⟨h0_⟩
                          have n1_ : Aside0 (Kd.N (Kd.slice 3 (Kd.int .i64)) 44 w75 w.heap.size (fun k_ => some k_ ≠ (v138 : Value).ownBlock ∧ some k_ ≠ (v107 : Value).ownBlock ∧ k_ ≠ gb101 ∧ k_ ≠ gb116 ∧ k_ ≠ gb130 ∧ k_ ≠ gb144) v141 t140) := ⟨h1_⟩
                          have n2_ : Aside0 (Kd.V Kd.string 9 w75 w.heap.size (fun k_ => some k_ ≠ (v138 : Value).ownBlock ∧ some k_ ≠ (v141 : Value).ownBlock ∧ some k_ ≠ (v107 : Value).ownBlock ∧ k_ ≠ gb101 ∧ k_ ≠ gb116 ∧ k_ ≠ gb130 ∧ k_ ≠ gb144) (.slice Ao70 x117000_4.length co70) x117000_4) := ⟨h2_⟩
                          have n3_ : Aside0 (Kd.V (Kd.slice 3 (Kd.int .i64)) 44 w75 w.heap.size (fun k_ => some k_ ≠ (v138 : Value).ownBlock ∧ some k_ ≠ (v141 : Value).ownBlock ∧ some k_ ≠ (v107 : Value).ownBlock ∧ k_ ≠ gb101 ∧ k_ ≠ gb116 ∧ k_ ≠ gb130 ∧ k_ ≠ gb144) (.slice Ao71 x117001_4.length co71) x117001_4) := ⟨h3_⟩
                          have n4_ : Aside0 (Kd.V Kd.string 9 w75 w.heap.size (fun k_ => some k_ ≠ (v138 : Value).ownBlock ∧ some k_ ≠ (v141 : Value).ownBlock ∧ some k_ ≠ (v107 : Value).ownBlock ∧ k_ ≠ gb101 ∧ k_ ≠ gb116 ∧ k_ ≠ gb130 ∧ k_ ≠ gb144) (.slice Ao50 t123.length co50) t123) := ⟨h4_⟩
                          have n5_ : Aside0 (Kd.V (Kd.slice 3 (Kd.int .i64)) 44 w75 w.heap.size (fun k_ => some k_ ≠ (v138 : Value).ownBlock ∧ some k_ ≠ (v141 : Value).ownBlock ∧ some k_ ≠ (v107 : Value).ownBlock ∧ k_ ≠ gb101 ∧ k_ ≠ gb116 ∧ k_ ≠ gb130 ∧ k_ ≠ gb144) (.slice Ao54 t126.length co54) t126) := ⟨h5_⟩
                          have n6_ : Aside0 (Kd.R k146 146 w75 w.heap.size (fun _ => True) v107 t105) := ⟨h6_⟩
                          have n7_ : Aside0 (w75.heap[gb101]? = some (.cells #[.slice A0_0 l0_0.length c0_0, .slice A0_1 l0_1.length c0_1] 51 (0, 0))) := ⟨h7_⟩
                          have n8_ : Aside0 (w75.heap[gb116]? = some (.cells #[.slice Ao70 x117000_4.length co70, .slice Ao71 x117001_4.length co71] 51 (0, 0))) := ⟨h8_⟩
                          have n9_ : Aside0 (w75.heap[gb130]? = some (.cells #[.slice Ao50 t123.length co50, .slice Ao54 t126.length co54] 51 (0, 0))) := ⟨h9_⟩
                          have n10_ : Aside0 (w75.heap[gb144]? = some (.cells #[.slice none 0 0, .slice none 0 0] 51 (0, 0))) := ⟨h10_⟩
                          have n11_ : Aside0 (w.heap.size ≤ gb144) := ⟨h11_⟩
                          have n12_ : Aside0 (w.heap.size ≤ gb144) := ⟨h12_⟩
                          have n13_ : Aside0 (gb101 ≠ gb144) := ⟨h13_⟩
                          have n14_ : Aside0 (gb144 ≠ gb101) := ⟨h14_⟩
                          have n15_ : Aside0 (gb116 ≠ gb144) := ⟨h15_⟩
                          have n16_ : Aside0 (gb144 ≠ gb116) := ⟨h16_⟩
                          have n17_ : Aside0 (gb130 ≠ gb144) := ⟨h17_⟩
                          have n18_ : Aside0 (gb144 ≠ gb130) := ⟨h18_⟩
                          have n19_ : Aside0 (Below w.heap.size w w75) := ⟨h19_⟩
                          clear HO_7; clear HO_117000; clear HO_117001; clear HO_131000; clear HO_131001; clear BK101; clear BK116; clear BK130; clear HB; clear h0_ h1_ h2_ h3_ h4_ h5_ h6_ h7_ h8_ h9_ h10_ h11_ h12_ h13_ h14_ h15_ h16_ h17_ h18_ h19_; have HO139 := n0_; have HO142 := n1_; have HO_117000 := n2_; have HO_117001 := n3_; have HO_131000 := n4_; have HO_131001 := n5_; have HO_7 := n6_; have BK101 := n7_; have BK116 := n8_; have BK130 := n9_; have BK144 := n10_; have GW144 := n11_; have GE144 := n12_; have NB101_144 := n13_; have NB144_101 := n14_; have NB116_144 := n15_; have NB144_116 := n16_; have NB130_144 := n17_; have NB144_130 := n18_; have HB := n19_; clear n0_ n1_ n2_ n3_ n4_ n5_ n6_ n7_ n8_ n9_ n10_ n11_ n12_ n13_ n14_ n15_ n16_ n17_ n18_ n19_; have hHeld : w75.cell? ⟨gb116, 0, none⟩ = some (.slice Ao70 x117000_4.length co70) ∧ w75.cell? ⟨gb116, 1, none⟩ = some (.slice Ao71 x117001_4.length co71) ∧ w75.cell? (ad136.add (x17_4).toNat) = some (.int .i64 (rd l2 x17_4)) := hS_; obtain ⟨Ao76, co76, eo76⟩ := Kd.R_slice HO139.out; (first | subst eo76 | (injection eo76 with f1_ f2_ f3_; have f4_ := f1_.symm; have f5_ := f3_.symm; clear f1_ f2_ f3_; subst f4_; subst f5_))
                          obtain ⟨Ao78, co78, eo78⟩ := Kd.N_slice HO142.out; (first | subst eo78 | (injection eo78 with f1_ f2_ f3_; have f4_ := f1_.symm; have f5_ := f3_.symm; clear f1_ f2_ f3_; subst f4_; subst f5_))
                          refine norm_ (a' := ?_) ?_ ?_; rotate_left
                          · simp only [putAll, Act.put, zH, zI, zJ]
                            rfl
                          refine one_ (i := 11) (N := none) #[o1, o1, o1, o1, o1, o1, o1, o1, o1, o1, o1, o1, o0] rfl rfl (one_of HT_.out (by kernel_rfl)) (by decide) (fun K hK => ?_); have hs77 : w75.cell? ⟨gb144, 0, none⟩ = some (.slice none 0 0) := (zF BK144.out 0).trans rfl; have hfs77 := zG BK144.out 0; have hns77_0 := NB101_144.out; have hns77_1 := NB116_144.out; have hns77_2 := NB130_144.out; have hms77_0 := NB144_101.out; have hms77_1 := NB144_116.out; have hms77_2 := NB144_130.out; have hs79 : w75.cell? ⟨gb144, 1, none⟩ = some (.slice none 0 0) := (zF BK144.out 1).trans rfl; have hfs79 := zG BK144.out 1; have hns79_0 := NB101_144.out; have hns79_1 := NB116_144.out; have hns79_2 := NB130_144.out; have hms79_0 := NB144_101.out; have hms79_1 := NB144_116.out; have hms79_2 := NB144_130.out; refine skip_ (w1 := ?_) (by rfl) rfl ?_ ?_; rotate_left
                          · go_simp
                            rfl
                          refine hK.out _ _ ⟨((cell_far (p := ⟨gb144, _, none⟩) NB116_144.out _).trans (((cell_far (p := ⟨gb144, _, none⟩) NB116_144.out _).trans (hHeld.1)))), ((cell_far (p := ⟨gb144, _, none⟩) NB116_144.out _).trans (((cell_far (p := ⟨gb144, _, none⟩) NB116_144.out _).trans (hHeld.2.1)))), ((cell_far (p := ⟨gb144, _, none⟩) (by first | exact zLq (Nat.lt_of_lt_of_le (by have := zCq _ _ hw136_0; first | rwa [add_block] at this | exact this) GW144.out) | (rw [add_block]; exact zLq (Nat.lt_of_lt_of_le (by have := zCq _ _ hw136_0; first | rwa [add_block] at this | exact this) GW144.out)) | (show (Addr.add _ _).block ≠ _; rw [add_block]; exact zLq (Nat.lt_of_lt_of_le (by have := zCq _ _ hw136_0; first | rwa [add_block] at this | exact this) GW144.out)) | (dsimp only; exact zLq (Nat.lt_of_lt_of_le (by have := zCq _ _ hw136_0; first | rwa [add_block] at this | exact this) GW144.out))) _).trans (((cell_far (p := ⟨gb144, _, none⟩) (by first | exact zLq (Nat.lt_of_lt_of_le (by have := zCq _ _ hw136_0; first | rwa [add_block] at this | exact this) GW144.out) | (rw [add_block]; exact zLq (Nat.lt_of_lt_of_le (by have := zCq _ _ hw136_0; first | rwa [add_block] at this | exact this) GW144.out)) | (show (Addr.add _ _).block ≠ _; rw [add_block]; exact zLq (Nat.lt_of_lt_of_le (by have := zCq _ _ hw136_0; first | rwa [add_block] at this | exact this) GW144.out)) | (dsimp only; exact zLq (Nat.lt_of_lt_of_le (by have := zCq _ _ hw136_0; first | rwa [add_block] at this | exact this) GW144.out))) _).trans (hHeld.2.2))))⟩ (fun hHeld => ?_); clear hK K; refine pure_ (i := 12) (N := some 19) #[o1, o1, o1, o1, o1, o1, o1, o1, o1, o1, o1, o1, o1] rfl rfl (any_of HT_.out (by kernel_rfl)) (fun _ _ _ h => h) (Or.inl ⟨by rfl, qy⟩) qz ?_; refine done_ (done_of HT_.out (by kernel_rfl)) ?_; have hnb80 := NB144_101.out; have hnc80 := NB101_144.out; have hnb81 := NB144_116.out; have hnc81 := NB116_144.out; have hnb82 := NB144_130.out; have hnc82 := NB130_144.out; obtain ⟨_, _, _, _⟩ := qc2f BK144.out; have hnb84 := NB116_101.out; have hnc84 := NB101_116.out; have hnb85 := NB116_130.out; have hnc85 := NB130_116.out; obtain ⟨_, _, _, _⟩ := qc2f BK116.out; try go_wp2
                          go_roundg k4
                          case measure => have := HJ3.out; have := HK2.out; have := HJ43.out; have := HK4.out; omega
                          case rel => exact ⟨(wrap64 (x17_4 + 1)), (t137), (t140), (.slice Ao76 t137.length co76), (.slice Ao78 t140.length co78), (by first | rfl | (simp; done) | (simp [*]; done)), H', ⟨by have := HJ3.out; have := HK2.out; have := HJ43.out; have := HK4.out; omega⟩, ⟨by (with_reducible repeat (first | apply Kd.R_alloc | apply Kd.R_drewN | apply Kd.R_drew)); exact Kd.R_mono (Kd.R_far (p := ⟨gb116, 1, none⟩) (Kd.R_far (p := ⟨gb116, 0, none⟩) (Kd.R_far (p := ⟨gb144, 1, none⟩) (Kd.R_far (p := ⟨gb144, 0, none⟩) (Kd.R_types (Kd.R_types HO_7.out BK144.out (by decide)) BK116.out (by decide)) (fun _ hk => hk.1.2) (.slice Ao76 t137.length co76)) (fun _ hk => hk.1.2) (.slice Ao78 t140.length co78)) (fun _ hk => hk.2) (.slice Ao76 t137.length co76)) (fun _ hk => hk.2) (.slice Ao78 t140.length co78)) (fun _ hk => trivial)⟩, ⟨Kd.R_V (by (with_reducible repeat (first | apply Kd.R_alloc | apply Kd.R_drewN | apply Kd.R_drew)); exact Kd.R_mono (Kd.R_far (p := ⟨gb116, 1, none⟩) (Kd.R_far (p := ⟨gb116, 0, none⟩) (Kd.R_far (p := ⟨gb144, 1, none⟩) (Kd.R_far (p := ⟨gb144, 0, none⟩) (Kd.R_types (Kd.R_types (Kd.R_types (Kd.R_types (Kd.R_types (Kd.R_apart' HO139.out (Kd.R_typed HO_7.out) (by decide)) BK101.out (by decide)) BK116.out (by decide)) BK130.out (by decide)) BK144.out (by decide)) BK116.out (by decide)) (fun _ hk => hk.1.2) (.slice Ao76 t137.length co76)) (fun _ hk => hk.1.2) (.slice Ao78 t140.length co78)) (fun _ hk => hk.2) (.slice Ao76 t137.length co76)) (fun _ hk => hk.2) (.slice Ao78 t140.length co78)) (fun _ hk => ⟨hk.1.1.1.1.1.2, ⟨hk.1.1.1.1.2, ⟨hk.1.1.1.2, hk.1.1.2⟩⟩⟩))⟩, ⟨Kd.N_V (by (with_reducible repeat (first | apply Kd.N_alloc | apply Kd.N_drewN | apply Kd.N_drew)); exact Kd.N_mono (Kd.N_far (p := ⟨gb116, 1, none⟩) (Kd.N_far (p := ⟨gb116, 0, none⟩) (Kd.N_far (p := ⟨gb144, 1, none⟩) (Kd.N_far (p := ⟨gb144, 0, none⟩) (Kd.N_mono (Kd.N_mono HO142.out (fun k_ hk => (⟨hk, hk.2.2.2.2.2⟩ : _ ∧ k_ ≠ gb144))) (fun k_ hk => (⟨hk, hk.1.2.2.2.1⟩ : _ ∧ k_ ≠ gb116))) (fun _ hk => hk.1.2) (.slice Ao76 t137.length co76)) (fun _ hk => hk.1.2) (.slice Ao78 t140.length co78)) (fun _ hk => hk.2) (.slice Ao76 t137.length co76)) (fun _ hk => hk.2) (.slice Ao78 t140.length co78)) (fun _ hk => ⟨hk.1.1.2.1, ⟨hk.1.1.2.2.1, ⟨hk.1.1.2.2.2.1, hk.1.1.2.2.2.2.1⟩⟩⟩))⟩, ⟨by (with_reducible repeat (first | apply Kd.V_alloc | apply Kd.V_drewN | apply Kd.V_drew)); exact Kd.V_mono (Kd.V_far (p := ⟨gb116, 1, none⟩) (Kd.V_far (p := ⟨gb116, 0, none⟩) (Kd.V_far (p := ⟨gb144, 1, none⟩) (Kd.V_far (p := ⟨gb144, 0, none⟩) (Kd.V_mono (Kd.V_mono HO_131000.out (fun k_ hk => (⟨hk, hk.2.2.2.2.2.2⟩ : _ ∧ k_ ≠ gb144))) (fun k_ hk => (⟨hk, hk.1.2.2.2.2.1⟩ : _ ∧ k_ ≠ gb116))) (fun _ hk => hk.1.2) (.slice Ao76 t137.length co76)) (fun _ hk => hk.1.2) (.slice Ao78 t140.length co78)) (fun _ hk => hk.2) (.slice Ao76 t137.length co76)) (fun _ hk => hk.2) (.slice Ao78 t140.length co78)) (fun _ hk => ⟨hk.1.1.2.2.1, ⟨hk.1.1.2.2.2.1, ⟨hk.1.1.2.2.2.2.1, hk.1.1.2.2.2.2.2.1⟩⟩⟩)⟩, ⟨by (with_reducible repeat (first | apply Kd.V_alloc | apply Kd.V_drewN | apply Kd.V_drew)); exact Kd.V_mono (Kd.V_far (p := ⟨gb116, 1, none⟩) (Kd.V_far (p := ⟨gb116, 0, none⟩) (Kd.V_far (p := ⟨gb144, 1, none⟩) (Kd.V_far (p := ⟨gb144, 0, none⟩) (Kd.V_mono (Kd.V_mono HO_131001.out (fun k_ hk => (⟨hk, hk.2.2.2.2.2.2⟩ : _ ∧ k_ ≠ gb144))) (fun k_ hk => (⟨hk, hk.1.2.2.2.2.1⟩ : _ ∧ k_ ≠ gb116))) (fun _ hk => hk.1.2) (.slice Ao76 t137.length co76)) (fun _ hk => hk.1.2) (.slice Ao78 t140.length co78)) (fun _ hk => hk.2) (.slice Ao76 t137.length co76)) (fun _ hk => hk.2) (.slice Ao78 t140.length co78)) (fun _ hk => ⟨hk.1.1.2.2.1, ⟨hk.1.1.2.2.2.1, ⟨hk.1.1.2.2.2.2.1, hk.1.1.2.2.2.2.2.1⟩⟩⟩)⟩, ⟨by (with_reducible repeat (first | refine zY ?_ _ | refine zAq ?_ | refine zZ ?_ _)); refine blk_far ?_ NB101_116.out _; (with_reducible repeat (first | refine zY ?_ _ | refine zAq ?_ | refine zZ ?_ _)); refine blk_far ?_ NB101_116.out _; (with_reducible repeat (first | refine zY ?_ _ | refine zAq ?_ | refine zZ ?_ _)); refine blk_far ?_ NB101_144.out _; (with_reducible repeat (first | refine zY ?_ _ | refine zAq ?_ | refine zZ ?_ _)); refine blk_far ?_ NB101_144.out _; exact BK101.out⟩, ⟨by (with_reducible repeat (first | refine zY ?_ _ | refine zAq ?_ | refine zZ ?_ _)); apply qP2; (with_reducible repeat (first | refine zY ?_ _ | refine zAq ?_ | refine zZ ?_ _)); refine blk_far ?_ NB116_144.out _; (with_reducible repeat (first | refine zY ?_ _ | refine zAq ?_ | refine zZ ?_ _)); refine blk_far ?_ NB116_144.out _; exact BK116.out⟩, ⟨by (with_reducible repeat (first | refine zY ?_ _ | refine zAq ?_ | refine zZ ?_ _)); refine blk_far ?_ NB130_116.out _; (with_reducible repeat (first | refine zY ?_ _ | refine zAq ?_ | refine zZ ?_ _)); refine blk_far ?_ NB130_116.out _; (with_reducible repeat (first | refine zY ?_ _ | refine zAq ?_ | refine zZ ?_ _)); refine blk_far ?_ NB130_144.out _; (with_reducible repeat (first | refine zY ?_ _ | refine zAq ?_ | refine zZ ?_ _)); refine blk_far ?_ NB130_144.out _; exact BK130.out⟩, ⟨qB⟩⟩
                        rw [if_neg c69] at H; have c69b0 : (t143 == 0) = false := beq_eq_false_iff_ne.mpr c69; have c69b1 : (t143 != 0) = true := bne_iff_ne.mpr c69; exact absurd H (by simp)
                      rw [if_neg c67] at H; exact absurd H (by simp)
                    rw [if_neg c66] at H; have c66b0 : decide (x17_4 < (l2.length : Int)) = false := zGq c66; clear c66; replace H := Option.bind_eq_some_iff.mp H; obtain ⟨t145, A870, H⟩ := H; try dsimp only at H
                    have A87 := zA A870; clear A870; by_cases c88 : t145 = true
                    · subst c88
                      have H1 : ((backhaullaw14_same.f k4 l0_0 l0_1 t105).bind fun t146 => (if t146 = true then ((backhaullaw14_awake.f).bind fun t147 => (if t147 = true then (some true) else (some false))) else (some false))) = some true := by first | (rw [if_pos rfl] at H; exact H) | rfl
                      clear H; have H := H1; clear H1; replace H := Option.bind_eq_some_iff.mp H; obtain ⟨t146, A890, H⟩ := H; try dsimp only at H
                      have A89 := zA A890; clear A890; by_cases c90 : t146 = true
                      · subst c90
                        have H1 : ((backhaullaw14_awake.f).bind fun t147 => (if t147 = true then (some true) else (some false))) = some true := by first | (rw [if_pos rfl] at H; exact H) | rfl
                        clear H; have H := H1; clear H1; replace H := Option.bind_eq_some_iff.mp H; obtain ⟨t147, A910, H⟩ := H; try dsimp only at H
                        have A91 := zA A910; clear A910; by_cases c92 : t147 = true
                        · subst c92
                          have H1 : (some true) = some true := by first | (rw [if_pos rfl] at H; exact H) | rfl
                          clear H; have H := H1; clear H1; clear H; have hnb93 := NB116_101.out; have hnc93 := NB101_116.out; have hnb94 := NB116_130.out; have hnc94 := NB130_116.out; obtain ⟨_, _, _, _⟩ := qc2f BK116.out; obtain ⟨Ao96, co96, eo96⟩ := Kd.V_slice HO_117000.out; subst eo96; obtain ⟨Ao97, co97, eo97⟩ := Kd.V_slice HO_117001.out; subst eo97; obtain ⟨Ao98, co98, eo98⟩ := Kd.R_slice HO_7.out; subst eo98; go_wp2_with (first | ((with_reducible refine zJq (f := 39) rfl ?_); refine goesL_ (some 124) rfl rfl Try.func39 (by kernel_rfl) rfl #[.agg #[.slice Ao96 x117000_4.length co96, .slice Ao97 x117001_4.length co97], .slice Ao98 t105.length co98] rfl qG ?_; (with_reducible refine (backhaullaw14_same.calls k4 _ _ x117000_4 _ _ x117001_4 _ _ t105 true _ ?side1 ?side2 ?side3 ?side4 ?side5 ?side6 A87.out).mono ?_); (case side1 => repeat (first | exact (Kd.V_reads' HO_117000.out).2.2 | (with_reducible refine Kd.C_alloc ?_ _) | (with_reducible refine Kd.C_drewN ?_ _) | (with_reducible refine Kd.C_drew ?_))); (case side2 => exact (Kd.V_reads' HO_117000.out).2.1); (case side3 => repeat (first | exact (Kd.V_reads' HO_117001.out).2.2 | (with_reducible refine Kd.C_alloc ?_ _) | (with_reducible refine Kd.C_drewN ?_ _) | (with_reducible refine Kd.C_drew ?_))); (case side4 => exact (Kd.V_reads' HO_117001.out).2.1); (case side5 => repeat (first | exact (Kd.R_reads' HO_7.out).2.2 | (with_reducible refine Kd.C_alloc ?_ _) | (with_reducible refine Kd.C_drewN ?_ _) | (with_reducible refine Kd.C_drew ?_))); (case side6 => exact (Kd.R_reads' HO_7.out).2.1); rintro e w99 ⟨rfl, hb⟩; refine ⟨_, rfl, ?_⟩; have n0_ := zA (Kd.R_below (by (with_reducible repeat (first | apply Kd.R_alloc | apply Kd.R_drewN | apply Kd.R_drew)); exact HO_7.out) hb); have n1_ := zA (Kd.V_below (by (with_reducible repeat (first | apply Kd.V_alloc | apply Kd.V_drewN | apply Kd.V_drew)); exact HO_117000.out) hb); have n2_ := zA (Kd.V_below (by (with_reducible repeat (first | apply Kd.V_alloc | apply Kd.V_drewN | apply Kd.V_drew)); exact HO_117001.out) hb); have n3_ := zA (Kd.V_below (by (with_reducible repeat (first | apply Kd.V_alloc | apply Kd.V_drewN | apply Kd.V_drew)); exact HO_131000.out) hb); have n4_ := zA (Kd.V_below (by (with_reducible repeat (first | apply Kd.V_alloc | apply Kd.V_drewN | apply Kd.V_drew)); exact HO_131001.out) hb); have n5_ := zA (qX BK101.out hb); have n6_ := zA (qX BK116.out hb); have n7_ := zA (qX BK130.out hb); have n8_ := zA (zV qB hb); clear HO_7 HO_117000 HO_117001 HO_131000 HO_131001 BK101 BK116 BK130 HB; have HO_7 := n0_; have HO_117000 := n1_; have HO_117001 := n2_; have HO_131000 := n3_; have HO_131001 := n4_; have BK101 := n5_; have BK116 := n6_; have BK130 := n7_; have HB := n8_; clear n0_ n1_ n2_ n3_ n4_ n5_ n6_ n7_ n8_; (try clear hb); have hnb100 := NB101_130.out; have hnc100 := NB130_101.out; obtain ⟨_, _, _, _⟩ := qc2f BK101.out) | (go_at_call 39; (with_reducible refine (backhaullaw14_same.calls k4 _ _ l0_0 _ _ l0_1 _ _ t105 true _ ?side1 ?side2 ?side3 ?side4 ?side5 ?side6 A89.out).mono ?_); (case side1 => exact qC (Kd.C_below HR0_0.out HB.out)); (case side2 => exact HC0_0.out); (case side3 => exact qC (Kd.C_below HR0_1.out HB.out)); (case side4 => exact HC0_1.out); (case side5 => repeat (first | exact (Kd.R_reads' HO_7.out).2.2 | (with_reducible refine Kd.C_alloc ?_ _) | (with_reducible refine Kd.C_drewN ?_ _) | (with_reducible refine Kd.C_drew ?_))); (case side6 => exact (Kd.R_reads' HO_7.out).2.1); rintro e w102 ⟨rfl, hb⟩; have n0_ := zA (Kd.R_below (by (with_reducible repeat (first | apply Kd.R_alloc | apply Kd.R_drewN | apply Kd.R_drew)); exact HO_7.out) hb); have n1_ := zA (Kd.V_below (by (with_reducible repeat (first | apply Kd.V_alloc | apply Kd.V_drewN | apply Kd.V_drew)); exact HO_117000.out) hb); have n2_ := zA (Kd.V_below (by (with_reducible repeat (first | apply Kd.V_alloc | apply Kd.V_drewN | apply Kd.V_drew)); exact HO_117001.out) hb); have n3_ := zA (Kd.V_below (by (with_reducible repeat (first | apply Kd.V_alloc | apply Kd.V_drewN | apply Kd.V_drew)); exact HO_131000.out) hb); have n4_ := zA (Kd.V_below (by (with_reducible repeat (first | apply Kd.V_alloc | apply Kd.V_drewN | apply Kd.V_drew)); exact HO_131001.out) hb); have n5_ := zA (qX BK101.out hb); have n6_ := zA (qX BK116.out hb); have n7_ := zA (qX BK130.out hb); have n8_ := zA (zV qB hb); clear HO_7 HO_117000 HO_117001 HO_131000 HO_131001 BK101 BK116 BK130 HB; have HO_7 := n0_; have HO_117000 := n1_; have HO_117001 := n2_; have HO_131000 := n3_; have HO_131001 := n4_; have BK101 := n5_; have BK116 := n6_; have BK130 := n7_; have HB := n8_; clear n0_ n1_ n2_ n3_ n4_ n5_ n6_ n7_ n8_; (try clear hb)) | (go_at_call 26; (with_reducible refine (backhaullaw14_awake.calls  true _ A91.out).mono ?_); rintro e w103 ⟨rfl, hb⟩; have n0_ := zA (Kd.R_below (by (with_reducible repeat (first | apply Kd.R_alloc | apply Kd.R_drewN | apply Kd.R_drew)); exact HO_7.out) hb); have n1_ := zA (Kd.V_below (by (with_reducible repeat (first | apply Kd.V_alloc | apply Kd.V_drewN | apply Kd.V_drew)); exact HO_117000.out) hb); have n2_ := zA (Kd.V_below (by (with_reducible repeat (first | apply Kd.V_alloc | apply Kd.V_drewN | apply Kd.V_drew)); exact HO_117001.out) hb); have n3_ := zA (Kd.V_below (by (with_reducible repeat (first | apply Kd.V_alloc | apply Kd.V_drewN | apply Kd.V_drew)); exact HO_131000.out) hb); have n4_ := zA (Kd.V_below (by (with_reducible repeat (first | apply Kd.V_alloc | apply Kd.V_drewN | apply Kd.V_drew)); exact HO_131001.out) hb); have n5_ := zA (qX BK101.out hb); have n6_ := zA (qX BK116.out hb); have n7_ := zA (qX BK130.out hb); have n8_ := zA (zV qB hb); clear HO_7 HO_117000 HO_117001 HO_131000 HO_131001 BK101 BK116 BK130 HB; have HO_7 := n0_; have HO_117000 := n1_; have HO_117001 := n2_; have HO_131000 := n3_; have HO_131001 := n4_; have BK101 := n5_; have BK116 := n6_; have BK130 := n7_; have HB := n8_; clear n0_ n1_ n2_ n3_ n4_ n5_ n6_ n7_ n8_; (try clear hb)))
                          go_ret; exact ⟨qE, qB⟩
                        replace c92 := Bool.eq_false_iff.mpr c92; subst c92; have H1 : (some false) = some true := by first | (rw [if_neg (show ¬ (false = true) by decide)] at H; exact H) | rfl
                        clear H; have H := H1; clear H1; exact absurd H (by simp)
                      replace c90 := Bool.eq_false_iff.mpr c90; subst c90; have H1 : (some false) = some true := by first | (rw [if_neg (show ¬ (false = true) by decide)] at H; exact H) | rfl
                      clear H; have H := H1; clear H1; exact absurd H (by simp)
                    replace c88 := Bool.eq_false_iff.mpr c88; subst c88; have H1 : (some false) = some true := by first | (rw [if_neg (show ¬ (false = true) by decide)] at H; exact H) | rfl
                    clear H; have H := H1; clear H1; exact absurd H (by simp)
      rw [if_neg c27] at H; have c27b0 : (t115 == 0) = false := beq_eq_false_iff_ne.mpr c27; have c27b1 : (t115 != 0) = true := bne_iff_ne.mpr c27; replace H := Option.bind_eq_some_iff.mp H; obtain ⟨t117, A1040, H⟩ := H; try dsimp only at H
      have A104 := zA A1040; clear A1040; by_cases c105 : t117 = true
      · subst c105
        have H1 : ((backhaullaw14_awake.f).bind fun t118 => (if t118 = true then (some true) else (some false))) = some true := by first | (rw [if_pos rfl] at H; exact H) | rfl
        clear H; have H := H1; clear H1; replace H := Option.bind_eq_some_iff.mp H; obtain ⟨t118, A1060, H⟩ := H; try dsimp only at H
        have A106 := zA A1060; clear A1060; by_cases c107 : t118 = true
        · subst c107
          have H1 : (some true) = some true := by first | (rw [if_pos rfl] at H; exact H) | rfl
          clear H; have H := H1; clear H1; clear H; obtain ⟨_, _, _, _⟩ := qc2f BK101.out; go_wp2_with (first | ((with_reducible refine zJq (f := 27) rfl ?_); refine goesL_ (some 44) rfl rfl Try.func27 (by kernel_rfl) rfl #[.slice A0_0 l0_0.length c0_0, .slice A0_1 l0_1.length c0_1] rfl qG ?_; (with_reducible refine (backhaulref14_Pairs.calls kj3 _ _ l0_0 _ _ l0_1 t105 t106 _ ?side1 ?side2 ?side3 ?side4 A25.out).mono ?_); (case side1 => exact qC (Kd.C_below HR0_0.out HB.out)); (case side2 => exact HC0_0.out); (case side3 => exact qC (Kd.C_below HR0_1.out HB.out)); (case side4 => exact HC0_1.out); rintro e w109 ⟨v107, rfl, ho0, hb⟩; refine ⟨_, rfl, ?_⟩; have n0_ := zA (Kd.R_lower ho0 (zW qB)); have n1_ := zA (qX BK101.out hb); have n2_ := zA (zV qB hb); clear BK101 HB; have HO108 := n0_; have BK101 := n1_; have HB := n2_; clear n0_ n1_ n2_; (try clear hb); (try clear ho0); obtain ⟨_, _, _, _⟩ := qc2f BK101.out) | ((with_reducible refine zJq (f := 36) rfl ?_); refine goesL_ (some 51) rfl rfl Try.func36 (by kernel_rfl) rfl #[.agg #[.slice A0_0 l0_0.length c0_0, .slice A0_1 l0_1.length c0_1], .string a1, .slice A2 l2.length c2] rfl qG ?_; (with_reducible refine (index_Add.calls kj3 (fun k_ => k_ < w.heap.size) _ _ l0_0 (fun k_ => k_ < w.heap.size) _ _ l0_1 a1 _ _ l2 t109 t112 t115 _ ?side1 ?side2 ?side3 ?side4 A26.out).mono ?_); (case side1 => exact Kd.V_mk HC0_0.out (Kd.F_below (Kd.C_F Kd.heap_string HR0_0.out) qB)); (case side2 => exact Kd.V_mk HC0_1.out (Kd.F_below (Kd.C_F (Kd.heap_slice 3 (Kd.heap_int .i64)) HR0_1.out) qB)); (case side3 => exact qC (Kd.C_below HR2.out HB.out)); (case side4 => exact HC2.out); rintro e w111 ⟨v110, v113, rfl, ho0, ho1, hb⟩; refine ⟨_, rfl, ?_⟩; have n0_ := zA (Kd.R_below (by (with_reducible repeat (first | apply Kd.R_alloc | apply Kd.R_drewN | apply Kd.R_drew)); exact HO108.out) hb); have n1_ := zA (Kd.V_lower (Kd.V_mono (ok' := fun k_ => some k_ ≠ (v107 : Value).ownBlock ∧ k_ ≠ gb101) ho0 (fun k_ hk_ => ⟨Or.elim hk_ (fun hs_ => Or.elim hs_ (fun hs_ => fun e_ => Nat.not_le.2 hs_ (Kd.R_base HO108.out k_ e_.symm)) (fun hs_ => fun e_ => Nat.not_le.2 hs_ (Kd.R_base HO108.out k_ e_.symm))) (fun hn_ => (Kd.fresh' (Kd.R_lt (by (with_reducible repeat (first | apply Kd.R_alloc | apply Kd.R_drewN | apply Kd.R_drew)); exact HO108.out)) k_ hn_)), Or.elim hk_ (fun hs_ => Or.elim hs_ (fun hs_ => fun e_ => Nat.not_le.2 hs_ (by rw [e_]; exact GW101.out)) (fun hs_ => fun e_ => Nat.not_le.2 hs_ (by rw [e_]; exact GW101.out))) (fun hn_ => (Kd.freshB (g := gb101) (o := .cells #[.slice A0_0 l0_0.length c0_0, .slice A0_1 l0_1.length c0_1] 51 (0, 0)) (qW BK101.out) k_ hn_))⟩)) (zW qB)); have n2_ := zA (Kd.V_lower (Kd.V_mono (ok' := fun k_ => some k_ ≠ (v107 : Value).ownBlock ∧ k_ ≠ gb101) ho1 (fun k_ hk_ => ⟨Or.elim hk_ (fun hs_ => Or.elim hs_ (fun hs_ => fun e_ => Nat.not_le.2 hs_ (Kd.R_base HO108.out k_ e_.symm)) (fun hs_ => fun e_ => Nat.not_le.2 hs_ (Kd.R_base HO108.out k_ e_.symm))) (fun hn_ => (Kd.fresh' (Kd.R_lt (by (with_reducible repeat (first | apply Kd.R_alloc | apply Kd.R_drewN | apply Kd.R_drew)); exact HO108.out)) k_ hn_)), Or.elim hk_ (fun hs_ => Or.elim hs_ (fun hs_ => fun e_ => Nat.not_le.2 hs_ (by rw [e_]; exact GW101.out)) (fun hs_ => fun e_ => Nat.not_le.2 hs_ (by rw [e_]; exact GW101.out))) (fun hn_ => (Kd.freshB (g := gb101) (o := .cells #[.slice A0_0 l0_0.length c0_0, .slice A0_1 l0_1.length c0_1] 51 (0, 0)) (qW BK101.out) k_ hn_))⟩)) (zW qB)); have n3_ := zA (qX BK101.out hb); have n4_ := zA (zV qB hb); clear HO108 BK101 HB; have HO108 := n0_; have HO111 := n1_; have HO114 := n2_; have BK101 := n3_; have HB := n4_; clear n0_ n1_ n2_ n3_ n4_; (try clear hb); (try clear ho0); (try clear ho1)) | ((with_reducible refine gate_dst (N := 9) rfl ?_); (try (refine gate_guard (by rfl) ?_; dsimp only)); refine box_event qr (N := 9) qr (cs := #[.slice none 0 0, .slice none 0 0]) (t := 51) qg ?_; intro gb116 hg w112 hbox hb; have n0_ := zA (Kd.R_below (by (with_reducible repeat (first | apply Kd.R_alloc | apply Kd.R_drewN | apply Kd.R_drew)); exact HO108.out) hb); have n1_ := zA (Kd.V_below (Kd.V_elderB (by (with_reducible repeat (first | apply Kd.V_alloc | apply Kd.V_drewN | apply Kd.V_drew)); exact HO111.out) gb116 (Nat.le_of_eq hg.symm)) hb); have n2_ := zA (Kd.V_below (Kd.V_elderB (by (with_reducible repeat (first | apply Kd.V_alloc | apply Kd.V_drewN | apply Kd.V_drew)); exact HO114.out) gb116 (Nat.le_of_eq hg.symm)) hb); have n3_ := zA (qX BK101.out hb); have n4_ := zA (zV qB hb); have n5_ := zA (hbox); have n6_ := zA ((qS : w.heap.size ≤ gb116)); have n7_ := zA ((qS : w.heap.size ≤ gb116)); have n8_ := zA ((by rw [hg]; exact zLq (qL BK101.out) : gb101 ≠ gb116)); have n9_ := zA ((by rw [hg]; exact zMq (qL BK101.out) : gb116 ≠ gb101)); clear HO108 HO111 HO114 BK101 HB; have HO108 := n0_; have HO111 := n1_; have HO114 := n2_; have BK101 := n3_; have HB := n4_; have BK116 := n5_; have GW116 := n6_; have GE116 := n7_; have NB101_116 := n8_; have NB116_101 := n9_; clear n0_ n1_ n2_ n3_ n4_ n5_ n6_ n7_ n8_ n9_ hb hbox hg; obtain ⟨Ao113, co113, eo113⟩ := Kd.V_slice HO111.out; subst eo113; have hnb114 := NB116_101.out; have hnc114 := NB101_116.out; obtain ⟨_, _, _, _⟩ := qc2f BK116.out; obtain ⟨Ao116, co116, eo116⟩ := Kd.V_slice HO114.out; subst eo116; obtain ⟨_, _, _, _⟩ := qc2f BK101.out; obtain ⟨Ao118, co118, eo118⟩ := Kd.R_slice HO108.out; subst eo118) | ((with_reducible refine zJq (f := 39) rfl ?_); refine goesL_ (some 58) rfl rfl Try.func39 (by kernel_rfl) rfl #[.agg #[.slice A0_0 l0_0.length c0_0, .slice A0_1 l0_1.length c0_1], .slice Ao118 t105.length co118] rfl qG ?_; (with_reducible refine (backhaullaw14_same.calls kj3 _ _ l0_0 _ _ l0_1 _ _ t105 true _ ?side1 ?side2 ?side3 ?side4 ?side5 ?side6 A104.out).mono ?_); (case side1 => exact Kd.C_below HR0_0.out qB); (case side2 => exact HC0_0.out); (case side3 => exact Kd.C_below HR0_1.out qB); (case side4 => exact HC0_1.out); (case side5 => refine (Kd.R_reads' (e := 146) (base := w.heap.size) (ok := fun k_ => True) (n := t105.length) (c := co118) ?_).2.2; exact (by (with_reducible repeat (first | apply Kd.R_alloc | apply Kd.R_drewN | apply Kd.R_drew)); exact (Kd.R_mono (Kd.R_far (p := ⟨gb116, 1, none⟩) (Kd.R_far (p := ⟨gb116, 0, none⟩) (Kd.R_types HO108.out BK116.out (by decide)) (fun _ hk => hk.2) (.slice Ao113 t109.length co113)) (fun _ hk => hk.2) (.slice Ao116 t112.length co116)) (fun _ h_ => h_.1)))); (case side6 => exact (Kd.R_reads' HO108.out).2.1); rintro e w119 ⟨rfl, hb⟩; refine ⟨_, rfl, ?_⟩; have n0_ := zA (Kd.R_below (by (with_reducible repeat (first | apply Kd.R_alloc | apply Kd.R_drewN | apply Kd.R_drew)); exact (Kd.R_mono (Kd.R_far (p := ⟨gb116, 1, none⟩) (Kd.R_far (p := ⟨gb116, 0, none⟩) (Kd.R_types HO108.out BK116.out (by decide)) (fun _ hk => hk.2) (.slice Ao113 t109.length co113)) (fun _ hk => hk.2) (.slice Ao116 t112.length co116)) (fun _ h_ => h_.1))) hb); have n1_ := zA (Kd.V_below (by (with_reducible repeat (first | apply Kd.V_alloc | apply Kd.V_drewN | apply Kd.V_drew)); exact (Kd.V_mono (Kd.V_far (p := ⟨gb116, 1, none⟩) (Kd.V_far (p := ⟨gb116, 0, none⟩) (Kd.V_mono HO111.out (fun k_ hk => (⟨hk, hk.2⟩ : _ ∧ k_ ≠ gb116))) (fun _ hk => hk.2) (.slice Ao113 t109.length co113)) (fun _ hk => hk.2) (.slice Ao116 t112.length co116)) (fun _ h_ => h_.1))) hb); have n2_ := zA (Kd.V_below (by (with_reducible repeat (first | apply Kd.V_alloc | apply Kd.V_drewN | apply Kd.V_drew)); exact (Kd.V_mono (Kd.V_far (p := ⟨gb116, 1, none⟩) (Kd.V_far (p := ⟨gb116, 0, none⟩) (Kd.V_mono HO114.out (fun k_ hk => (⟨hk, hk.2⟩ : _ ∧ k_ ≠ gb116))) (fun _ hk => hk.2) (.slice Ao113 t109.length co113)) (fun _ hk => hk.2) (.slice Ao116 t112.length co116)) (fun _ h_ => h_.1))) hb); have n3_ := zA (qX BK101.out hb); have n4_ := zA (zX (g := gb116) (o := .cells #[.slice Ao113 t109.length co113, .slice Ao116 t112.length co116] 51 (0, 0)) (qV BK116.out) hb); have n5_ := zA (zV qB hb); clear HO108 HO111 HO114 BK101 BK116 HB; have HO108 := n0_; have HO111 := n1_; have HO114 := n2_; have BK101 := n3_; have BK116 := n4_; have HB := n5_; clear n0_ n1_ n2_ n3_ n4_ n5_; (try clear hb)) | (go_at_call 26; (with_reducible refine (backhaullaw14_awake.calls  true _ A106.out).mono ?_); rintro e w120 ⟨rfl, hb⟩; have n0_ := zA (Kd.R_below (by (with_reducible repeat (first | apply Kd.R_alloc | apply Kd.R_drewN | apply Kd.R_drew)); exact HO108.out) hb); have n1_ := zA (Kd.V_below (by (with_reducible repeat (first | apply Kd.V_alloc | apply Kd.V_drewN | apply Kd.V_drew)); exact HO111.out) hb); have n2_ := zA (Kd.V_below (by (with_reducible repeat (first | apply Kd.V_alloc | apply Kd.V_drewN | apply Kd.V_drew)); exact HO114.out) hb); have n3_ := zA (qX BK101.out hb); have n4_ := zA (qX BK116.out hb); have n5_ := zA (zV qB hb); clear HO108 HO111 HO114 BK101 BK116 HB; have HO108 := n0_; have HO111 := n1_; have HO114 := n2_; have BK101 := n3_; have BK116 := n4_; have HB := n5_; clear n0_ n1_ n2_ n3_ n4_ n5_; (try clear hb)))
          go_ret; exact ⟨qE, qB⟩
        replace c107 := Bool.eq_false_iff.mpr c107; subst c107; have H1 : (some false) = some true := by first | (rw [if_neg (show ¬ (false = true) by decide)] at H; exact H) | rfl
        clear H; have H := H1; clear H1; exact absurd H (by simp)
      replace c105 := Bool.eq_false_iff.mpr c105; subst c105; have H1 : (some false) = some true := by first | (rw [if_neg (show ¬ (false = true) by decide)] at H; exact H) | rfl
      clear H; have H := H1; clear H1; exact absurd H (by simp)
def backhaullaw14_IndexTurns.Pure : Prop := ∀ (l0_0 : List ByteArray) (l0_1 : List (List Int)) (a1 : ByteArray) (l2 : List Int), (l0_0.length ≤ maxLen ∧ ∀ x ∈ l0_0, x.size ≤ maxLen) → (l0_1.length ≤ maxLen ∧ ∀ x ∈ l0_1, (x.length ≤ maxLen ∧ ∀ y ∈ x, (Lit.int .i64 y).wf = true)) → a1.size ≤ maxLen → (l2.length ≤ maxLen ∧ ∀ x ∈ l2, (Lit.int .i64 x).wf = true) → ∃ k, backhaullaw14_IndexTurns.f k l0_0 l0_1 a1 l2 = some true
end Go.Proofs.Ytdpcgigjlcpofaa.F
set_option linter.unusedVariables false
namespace Go.Proofs.Ytdpcgigjlcpofaa.Q
open Go.RowKit Go.Proofs.YtdpcgigjlcpofaaW.PrintWords Go.Proofs.YtdpcgigjlcpofaaW.PrintLast Go.Proofs.YtdpcgigjlcpofaaW.PrintMore
theorem Ev.ite {α : Type} {c : Prop} [Decidable c] {a b : Nat → Option α} {r : α} (h1 : c → Ev a r) (h2 : ¬ c → Ev b r) : Ev (fun k => if c then a k else b k) r := by
  by_cases h : c
  · simp only [if_pos h]; exact h1 h
  simp only [if_neg h]; exact h2 h
theorem Ev.pos {α : Type} {c : Prop} [Decidable c] {a b : Nat → Option α} {r : α} (h : c) (h1 : Ev a r) : Ev (fun k => if c then a k else b k) r := by
  simp only [if_pos h]; exact h1
theorem Ev.neg {α : Type} {c : Prop} [Decidable c] {a b : Nat → Option α} {r : α} (h : ¬ c) (h1 : Ev b r) : Ev (fun k => if c then a k else b k) r := by
  simp only [if_neg h]; exact h1
theorem Ev.ok {α : Type} {a b : α} (h : a = b) : Ev (fun _ => some a) b := ⟨0, fun _ _ => by rw [h]⟩
theorem Ev.const {α : Type} {o : Option α} {r : α} (h : o = some r) : Ev (fun _ => o) r := ⟨0, fun _ _ => h⟩
theorem Ev.bindc {α β : Type} {o : Option α} {f : Nat → α → Option β} {a : α} {r : β} (h : o = some a) (k : Ev (fun n => f n a) r) : Ev (fun n => o.bind (f n)) r := by
  subst h
  exact k
theorem Ev.eq {α : Type} {g : Nat → Option α} {a b : α} (h : Ev g a) (e : a = b) : Ev g b := e ▸ h
theorem wrap_eq {x : Int} (h0 : -9223372036854775808 ≤ x) (h1 : x ≤ 9223372036854775807) : wrap64 x = x := by
  unfold wrap64; omega
theorem u64_eq {x : Int} (h0 : 0 ≤ x) (h1 : x < 18446744073709551616) : IntKind.u64.wrap x = x := by
  simp [IntKind.wrap, IntKind.signed, IntKind.bits]; omega
theorem countP_split {α : Type} {p : α → Bool} {l : List α} {n : Nat} (hn : n ≤ l.length) (h1 : ∀ j (h : j < l.length), j < n → p l[j] = true) (h2 : ∀ j (h : j < l.length), n ≤ j → p l[j] = false) : l.countP p = n := by
  have e : l = l.take n ++ l.drop n := (List.take_append_drop n l).symm
  have a : (l.take n).countP p = (l.take n).length := by
    rw [List.countP_eq_length]
    intro x hx
    obtain ⟨j, hj, rfl⟩ := List.mem_iff_getElem.1 hx
    rw [List.length_take] at hj
    rw [List.getElem_take]
    exact h1 j (by omega) (by omega)
  have b : (l.drop n).countP p = 0 := by
    rw [List.countP_eq_zero]
    intro x hx
    obtain ⟨j, hj, rfl⟩ := List.mem_iff_getElem.1 hx
    rw [List.length_drop] at hj
    rw [List.getElem_drop, h2 (n + j) (by omega) (by omega)]
    simp
  rw [e, List.countP_append, a, b, List.length_take]
  omega
theorem idxOf_first {α : Type} [BEq α] [LawfulBEq α] {l : List α} {t : α} {i : Nat} (h : i < l.length) (he : l[i] = t) (h1 : ∀ j (h : j < l.length), j < i → l[j] ≠ t) : l.idxOf t = i := by
  unfold List.idxOf
  rw [List.findIdx_eq h]
  exact ⟨by simp [he], fun j hj => by simpa using h1 j (by omega) hj⟩
theorem rd_nat {l : List Int} {i : Nat} (h : i < l.length) : rd l (i : Int) = l[i] := by
  unfold rd; simp [List.getD_eq_getElem?_getD, h]
theorem rdOf_nat {α : Type} {d : α} {l : List α} {i : Nat} (h : i < l.length) : rdOf d l (i : Int) = l[i] := by
  unfold rdOf; simp [List.getD_eq_getElem?_getD, h]
theorem drop_cons {α : Type} {l : List α} {i : Nat} (h : i < l.length) : l.drop i = l[i] :: l.drop (i + 1) := List.drop_eq_getElem_cons h
theorem bytes_ext {a b : ByteArray} : a.toList = b.toList ↔ a = b := by
  constructor
  · intro h
    rw [ByteArray.toList_eq, ByteArray.toList_eq] at h
    cases a; cases b
    simpa [Array.toList_inj] using h
  rintro rfl; rfl
end Go.Proofs.Ytdpcgigjlcpofaa.Q
set_option linter.unusedVariables false
namespace Go.Proofs.Ytdpcgigjlcpofaa.Q
open Go.RowKit Go.Proofs.YtdpcgigjlcpofaaW.PrintWords Go.Proofs.YtdpcgigjlcpofaaW.PrintLast Go.Proofs.YtdpcgigjlcpofaaW.PrintMore
theorem less_irrefl (l : List UInt8) : Op.bytesLess l l = false := by
  induction l with
  | nil => rfl
  | cons a l ih => simp [Op.bytesLess, ih]
def bytesB (l : List UInt8) : ByteArray := ⟨l.toArray⟩
theorem data_append (a b : ByteArray) : (a ++ b).data.toList = a.data.toList ++ b.data.toList := by simp [ByteArray.data_append]
theorem size_data (a : ByteArray) : a.data.toList.length = a.size := by rw [Array.length_toList]; rfl
theorem bt_data (s : ByteArray) (i : Nat) (h : i < s.size) : bt s (i : Int) = ((s.data.toList[i]'(by rw [size_data]; exact h)).toNat : Int) := by
  unfold bt
  rw [dif_pos (by simpa using h)]
  simp [ByteArray.getElem_eq_getElem_data]
def wide (w : Int) : Prop := w = 1 ∨ w = 2 ∨ w = 4 ∨ w = 8
instance (w : Int) : Decidable (wide w) := by unfold wide; infer_instance
def natI (l : List UInt8) : List Int := l.map (fun b => (b.toNat : Int))
theorem strOfNums_nat (l : List UInt8) : strOfNums (natI l) = bytesB l := by
  unfold strOfNums natI bytesB
  rw [List.map_map]
  congr 2
  exact (List.map_congr_left fun b _ => by simp).trans (List.map_id l)
end Go.Proofs.Ytdpcgigjlcpofaa.Q
