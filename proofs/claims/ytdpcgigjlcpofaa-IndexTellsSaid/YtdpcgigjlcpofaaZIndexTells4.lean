-- merged and pruned by prune.py (the session's own program); its words go back to the kit's print
import Derived.Test.YtdpcgigjlcpofaaProg
import Derived.Below
import Derived.Deep.Draws
import Derived.Deep.AppendLies
import Derived.Maps.AppendAt
import Derived.OwnWalk
import Derived.Laws.BytesArg
import Derived.Laws.MakeOwn
import Derived.Laws.OwnMore
import Derived.Deep.OwnRows
import Derived.Tactics
import Derived.Lib.ConvBytes
import Derived.Laws.Slices
import Derived.WalkKit
import Derived.KernelRfl
import Derived.RowKit3
import Derived.Deep.LoopGhost
import Derived.Deep.QuietTactic
import Derived.BigQuiet
import Derived.WideLaws
import Derived.Deep.DeepCutAuto
import Derived.Deep.CutBlock
import Derived.Deep.RegionHeld3
import Derived.Laws.Rows
import Derived.Lib.AppendStr
import Derived.ArgAppend
import Derived.Laws.IdiomCopy
import Derived.OrdersHeld
import Derived.Laws.BitsLemmas
import Derived.RowKit
import Derived.Laws.StructEq
import Derived.Deep.RegionLawGrows
import Derived.Lib.SliceRun
import Derived.Lib.OthersKept
import Derived.Lib.RuneCount
import Derived.Laws.Cover4
import Derived.Outline
import Derived.Shelf.Strings.Builder1
import Derived.Shelf.Strings.BuilderF
import Derived.Shelf.Strings.BuilderK
import Derived.Shelf.Utf8.RuneCount
import Derived.Shelf.Strings.Prefix
import Derived.Ground.Names2Prog
import Derived.Shelf.Slices.ReverseS
import Derived.Shelf.Slices.Clone
import Derived.Shelf.Slices.SearchI
import Derived.Shelf.Slices.Delete
import Derived.Shelf.Slices.Cells
import Derived.Shelf.Slices.Empties
import Derived.Ground.SlgnProg
import Derived.Shelf.SlicesE.Clone
import Derived.Laws.CopyRow
import Derived.Laws.CopyOwn
import Derived.Shelf.Spec.SlicesInsertGrow
import Derived.Deep.Slices
import Derived.ChangeArms
import Derived.WideShapes
import Derived.OpenShut
import Derived.Test.YtdpcgigjlcpofaaRows
import Derived.ProofKit
import Derived.Test.YtdpcgigjlcpofaaZIndexTells3
namespace Go.Proofs.Ytdpcgigjlcpofaa.F
open Go.RowKit Go.Proofs.YtdpcgigjlcpofaaX Go.Proofs.YtdpcgigjlcpofaaW.PrintWords Go.Proofs.YtdpcgigjlcpofaaW.PrintLast Go.Proofs.YtdpcgigjlcpofaaW.PrintMore
attribute [local go_sem] max2_int min2_int max_two min_two max_three min_three max_four min_four   
attribute [local go_sem high] str_geq str_leq str_gtr
set_option linter.unusedVariables false
set_option linter.unusedSimpArgs false
mutual
def backhaulref01_Fold.j0 : Nat → ByteArray → Bool → Option (ByteArray × Int)
  | 0, _, _ => none
  | k + 1, x0, x27 => if x27 = true then (some ((⟨#[]⟩ : ByteArray), 9)) else (backhaulref01_Fold.l0 k x0 ([] : List Int) 0)
def backhaulref01_Fold.l0 : Nat → ByteArray → List Int → Int → Option (ByteArray × Int)
  | 0, _, _, _ => none
  | k + 1, x0, x4, x5 => if x5 < (x0.size : Int) then (if 0 ≤ x5 then ((backhaulref01_Class.f k (wrap32 (bt x0 x5))).bind fun t101 => (if t101 = 0 then (backhaulref01_Fold.j2 k x0 x4 x5 (bt x0 x5) true) else (if (bt x0 x5) = 45 then (if 0 ≤ (wrap64 (x5 - 1)) then (if (wrap64 (x5 - 1)) < (x0.size : Int) then (backhaulref01_Fold.j2 k x0 x4 x5 (bt x0 x5) ((bt x0 (wrap64 (x5 - 1))) == 45)) else (none)) else (none)) else (backhaulref01_Fold.j2 k x0 x4 x5 (bt x0 x5) false)))) else (none)) else (some (strOfNums x4, 0))
def backhaulref01_Fold.j2 : Nat → ByteArray → List Int → Int → Int → Bool → Option (ByteArray × Int)
  | 0, _, _, _, _, _ => none
  | k + 1, x0, x4, x5, x6, x51 => if x51 = true then (some ((⟨#[]⟩ : ByteArray), 9)) else (if x6 ≥ 97 then (if x6 ≤ 122 then (if x4.length < 140737488355328 then (backhaulref01_Fold.l0 k x0 (x4 ++ [(x6 - 32) % 256]) (wrap64 (x5 + 1))) else (none)) else (if x4.length < 140737488355328 then (backhaulref01_Fold.l0 k x0 (x4 ++ [x6]) (wrap64 (x5 + 1))) else (none))) else (if x4.length < 140737488355328 then (backhaulref01_Fold.l0 k x0 (x4 ++ [x6]) (wrap64 (x5 + 1))) else (none)))
end
def backhaulref01_Fold.f (k : Nat) (a0 : ByteArray) : Option (ByteArray × Int) := if (a0.size : Int) = 0 then (backhaulref01_Fold.j0 k a0 true) else (if (a0.size : Int) > 16 then (backhaulref01_Fold.j0 k a0 true) else (if 0 < (a0.size : Int) then (if (bt a0 0) = 45 then (backhaulref01_Fold.j0 k a0 true) else (if 0 ≤ (wrap64 ((a0.size : Int) - 1)) then (if (wrap64 ((a0.size : Int) - 1)) < (a0.size : Int) then (backhaulref01_Fold.j0 k a0 ((bt a0 (wrap64 ((a0.size : Int) - 1))) == 45)) else (none)) else (none))) else (none)))
theorem backhaulref01_Fold.mono_l : ∀ k, (∀ y0 y1, LeO (backhaulref01_Fold.j0 k y0 y1) (backhaulref01_Fold.j0 (k + 1) y0 y1)) ∧ (∀ y0 y1 y2, LeO (backhaulref01_Fold.l0 k y0 y1 y2) (backhaulref01_Fold.l0 (k + 1) y0 y1 y2)) ∧ (∀ y0 y1 y2 y3 y4, LeO (backhaulref01_Fold.j2 k y0 y1 y2 y3 y4) (backhaulref01_Fold.j2 (k + 1) y0 y1 y2 y3 y4))
  | 0 => ⟨fun _ _ r h => by simp [backhaulref01_Fold.j0] at h, fun _ _ _ r h => by simp [backhaulref01_Fold.l0] at h, fun _ _ _ _ _ r h => by simp [backhaulref01_Fold.j2] at h⟩
  | k + 1 => by
    obtain ⟨ih0, ih1, ih2⟩ := backhaulref01_Fold.mono_l k
    refine ⟨?_, ?_, ?_⟩
    · intro y0 y1
      unfold backhaulref01_Fold.j0
      repeat' (with_reducible first | exact ih0 _ _ | exact ih1 _ _ _ | exact ih2 _ _ _ _ _ | exact backhaulref01_Class.mono _ _ | exact LeO.refl _ | exact LeO.none _ | refine LeO.ite ?_ ?_ | refine LeO.bind ?_ (fun _ => ?_))
    · intro y0 y1 y2
      unfold backhaulref01_Fold.l0
      repeat' (with_reducible first | exact ih0 _ _ | exact ih1 _ _ _ | exact ih2 _ _ _ _ _ | exact backhaulref01_Class.mono _ _ | exact LeO.refl _ | exact LeO.none _ | refine LeO.ite ?_ ?_ | refine LeO.bind ?_ (fun _ => ?_))
    intro y0 y1 y2 y3 y4
    unfold backhaulref01_Fold.j2
    repeat' (with_reducible first | exact ih0 _ _ | exact ih1 _ _ _ | exact ih2 _ _ _ _ _ | exact backhaulref01_Class.mono _ _ | exact LeO.refl _ | exact LeO.none _ | refine LeO.ite ?_ ?_ | refine LeO.bind ?_ (fun _ => ?_))
theorem backhaulref01_Fold.mono : ∀ a0 k, LeO (backhaulref01_Fold.f k a0) (backhaulref01_Fold.f (k + 1) a0) := by
  intro a0 k
  obtain ⟨ih0, ih1, ih2⟩ := backhaulref01_Fold.mono_l k
  unfold backhaulref01_Fold.f
  repeat' (with_reducible first | exact ih0 _ _ | exact ih1 _ _ _ | exact ih2 _ _ _ _ _ | exact backhaulref01_Class.mono _ _ | exact LeO.refl _ | exact LeO.none _ | refine LeO.ite ?_ ?_ | refine LeO.bind ?_ (fun _ => ?_))
set_option maxHeartbeats 8000000 in
set_option maxRecDepth 100000 in
theorem backhaulref01_Fold.calls (k : Nat) (a0 : ByteArray) (r1 : ByteArray) (r2 : Int) (w : World) (h : backhaulref01_Fold.f k a0 = some (r1, r2)) :
    Calls Try.prog 142 #[.string a0] w fun e w' => e = .returned (.tuple #[.string r1, .int .i64 r2]) ∧ Below w.heap.size w w' := by
  have HB := zA (Below.refl w.heap.size w)
  have H : (if (a0.size : Int) = 0 then (backhaulref01_Fold.j0 k a0 true) else (if (a0.size : Int) > 16 then (backhaulref01_Fold.j0 k a0 true) else (if 0 < (a0.size : Int) then (if (bt a0 0) = 45 then (backhaulref01_Fold.j0 k a0 true) else (if 0 ≤ (wrap64 ((a0.size : Int) - 1)) then (if (wrap64 ((a0.size : Int) - 1)) < (a0.size : Int) then (backhaulref01_Fold.j0 k a0 ((bt a0 (wrap64 ((a0.size : Int) - 1))) == 45)) else (none)) else (none))) else (none)))) = some (r1, r2) := h
  clear h
  have HC2 := zA H
  clear H
  go_enter Try.func142, Try.ntmps142
  go_upto_region 1 with (fail)
  go_cut [27] (fun v27 wc => ∃ (kq : Nat) (x27_1 : Bool), v27 = .bool x27_1 ∧ Aside0 (backhaulref01_Fold.j0 kq a0 x27_1 = some (r1, r2)) ∧ Aside0 (kq ≤ k) ∧ Aside0 (Below w.heap.size w wc))
  case first =>
    have H := HC2.out; clear HC2; by_cases c3 : (a0.size : Int) = 0
    · rw [if_pos c3] at H
      have c3b0 : ((a0.size : Int) == 0) = true := beq_iff_eq.mpr c3; have c3b1 : ((a0.size : Int) != 0) = false := bne_eq_false_iff_eq.mpr c3; clear c3; (first | rw [c3b0] | (simp only [i64_w, i32_w]; rw [c3b0]) | skip)
      have H' := zA H; clear H; go_wp2; go_meet
      case rel => exact ⟨_, (true), (by first | rfl | (simp; done) | (simp [*]; done)), H', ⟨by first | omega | exact Nat.le_refl _⟩, ⟨qB⟩⟩
    rw [if_neg c3] at H; have c3b0 : ((a0.size : Int) == 0) = false := beq_eq_false_iff_ne.mpr c3; have c3b1 : ((a0.size : Int) != 0) = true := bne_iff_ne.mpr c3; (first | rw [c3b0] | (simp only [i64_w, i32_w]; rw [c3b0]) | skip)
    by_cases c4 : (a0.size : Int) > 16
    · rw [if_pos c4] at H
      have c4b0 : decide (16 < (a0.size : Int)) = true := zFq c4; have c4b1 : decide (16 < a0.size) = true := zFq (by omega); clear c4; have H' := zA H; clear H; go_wp2; go_meet
      case rel => exact ⟨_, (true), (by first | rfl | (simp; done) | (simp [*]; done)), H', ⟨by first | omega | exact Nat.le_refl _⟩, ⟨qB⟩⟩
    rw [if_neg c4] at H; have c4b0 : decide (16 < (a0.size : Int)) = false := zGq c4; have c4b1 : decide (16 < a0.size) = false := zGq (by omega); clear c4; by_cases c5 : 0 < (a0.size : Int)
    · rw [if_pos c5] at H
      have c5b0 : decide (0 < (a0.size : Int)) = true := zFq c5; have c5b1 : decide (0 < a0.size) = true := zFq (by omega); clear c5; by_cases c7 : (bt a0 0) = 45
      · rw [if_pos c7] at H
        have c7b0 : ((bt a0 0) == 45) = true := beq_iff_eq.mpr c7; have c7b1 : ((bt a0 0) != 45) = false := bne_eq_false_iff_eq.mpr c7; clear c7; have H' := zA H; clear H; have p6 : 0 ≤ (0 : Int) := (by omega)
        have q6 : 0 < a0.size := (by have : (0 : Int) < (a0.size : Int) := of_decide_eq_true qA; omega)
        have hx6 : ∀ h : 0 < a0.size, ((a0[0]'h).toNat : Int) = bt a0 0 := bt_at a0 0; clear p6; have qi6 : (0 < (a0.size : Int)) = True := eq_true (of_decide_eq_true qA); replace q6 := eq_true q6; go_wp2; go_meet
        case rel => exact ⟨_, (true), (by first | rfl | (simp; done) | (simp [*]; done)), H', ⟨by first | omega | exact Nat.le_refl _⟩, ⟨qB⟩⟩
      rw [if_neg c7] at H; have c7b0 : ((bt a0 0) == 45) = false := beq_eq_false_iff_ne.mpr c7; have c7b1 : ((bt a0 0) != 45) = true := bne_iff_ne.mpr c7; obtain ⟨ji8, hji8⟩ : ∃ j_ : Int, (wrap64 ((a0.size : Int) - 1)) = j_ := ⟨_, rfl⟩
      replace H : (if 0 ≤ (ji8) then (if (ji8) < (a0.size : Int) then (backhaulref01_Fold.j0 k a0 ((bt a0 (ji8)) == 45)) else (none)) else (none)) = some (r1, r2) := by first | (rw [hji8] at H; exact H) | (simp only [hji8] at H ⊢; exact H)
      have hji8w : (IntKind.i64.wrap ((a0.size : Int) - 1)) = ji8 := (i64_w _).trans hji8; by_cases c9 : 0 ≤ (ji8)
      · rw [if_pos c9] at H
        have c9b0 : decide (0 ≤ (ji8)) = true := zFq c9; clear c9; by_cases c10 : (ji8) < (a0.size : Int)
        · rw [if_pos c10] at H
          have c10b0 : decide ((ji8) < (a0.size : Int)) = true := zFq c10; clear c10; have H' := zA H; clear H; have p6 : 0 ≤ (0 : Int) := (by omega)
          have q6 : 0 < a0.size := (by have : (0 : Int) < (a0.size : Int) := of_decide_eq_true qA; omega)
          have hx6 : ∀ h : 0 < a0.size, ((a0[0]'h).toNat : Int) = bt a0 0 := bt_at a0 0; clear p6; have qi6 : (0 < (a0.size : Int)) = True := eq_true (of_decide_eq_true qA); replace q6 := eq_true q6; have p11 : 0 ≤ ((ji8) : Int) := of_decide_eq_true qA; have q11 : (ji8) < (a0.size : Int) := of_decide_eq_true qA; have hx11 := bt_at a0 (ji8); replace p11 := eq_true p11; replace q11 := eq_true q11; go_wp2; go_meet
          case rel => exact ⟨_, (((bt a0 (ji8)) == 45)), (by first | rfl | (simp; done) | (simp only [← hji8] <;> (first | rfl | simp)) | (simp [*]; done)), H', ⟨by first | omega | exact Nat.le_refl _⟩, ⟨qB⟩⟩
        rw [if_neg c10] at H; exact absurd H (by simp)
      rw [if_neg c9] at H; exact absurd H (by simp)
    rw [if_neg c5] at H; exact absurd H (by simp)
  case rest =>
    clear HC2; try clear c1
    try clear p1
    try clear q1
    try clear hx1
    try clear p2
    try clear c3
    try clear c3b0
    try clear c3b1
    try clear c4
    try clear c4b0
    try clear c4b1
    try clear c5
    try clear c5b0
    try clear c5b1
    try clear p6
    try clear q6
    try clear hx6
    try clear qi6
    try clear c7
    try clear c7b0
    try clear c7b1
    try clear c9
    try clear c9b0
    try clear c10
    try clear c10b0
    try clear p11
    try clear q11
    try clear hx11
    try clear p11
    try clear p6
    try clear q11
    try clear q6
    obtain ⟨kq, x27_1, rfl, HA, HJ1, HB⟩ := hcut; cases kq with
    | zero => exact absurd HA.out (by simp [backhaulref01_Fold.j0])
    | succ kj1 =>
      have H := HA.out; clear HA; simp only [backhaulref01_Fold.j0] at H; by_cases c12 : x27_1 = true
      · subst c12
        have H1 : (some ((⟨#[]⟩ : ByteArray), 9)) = some (r1, r2) := by first | (rw [if_pos rfl] at H; exact H) | rfl
        clear H; have H := H1; clear H1; simp only [zNq, zOq] at H; obtain ⟨rfl, rfl⟩ := H; go_wp2; go_ret2; exact ⟨qE, qB⟩
      replace c12 := Bool.eq_false_iff.mpr c12; subst c12; have H1 : (backhaulref01_Fold.l0 kj1 a0 ([] : List Int) 0) = some (r1, r2) := by first | (rw [if_neg (show ¬ (false = true) by decide)] at H; exact H) | rfl
      clear H; have H := H1; clear H1; have H' := zA H; clear H; go_wp2; go_loopg [4, 5] kj1 (fun kq v4 v5 w' => ∃ (x4_2 : List Int) (x5_2 : Int), v5 = .int .i64 x5_2 ∧ Aside0 (backhaulref01_Fold.l0 kq a0 x4_2 x5_2 = some (r1, r2)) ∧ Aside0 (kq ≤ kj1) ∧ Aside0 (Kd.R (Kd.int .u8) 5 w' w.heap.size (fun _ => True) v4 x4_2) ∧ Aside0 (Below w.heap.size w w'))
      case atStart => exact ⟨(([] : List Int)), (0), (by first | rfl | (simp; done) | (simp [*]; done)), H', ⟨Nat.le_refl _⟩, ⟨qN⟩, ⟨qB⟩⟩
      case round =>
        clear H'; try clear c1
        try clear p1
        try clear q1
        try clear hx1
        try clear p2
        try clear c3
        try clear c3b0
        try clear c3b1
        try clear c4
        try clear c4b0
        try clear c4b1
        try clear c5
        try clear c5b0
        try clear c5b1
        try clear p6
        try clear q6
        try clear hx6
        try clear qi6
        try clear c7
        try clear c7b0
        try clear c7b1
        try clear c9
        try clear c9b0
        try clear c10
        try clear c10b0
        try clear p11
        try clear q11
        try clear hx11
        try clear c12
        try clear p1
        try clear p11
        try clear p2
        try clear p6
        try clear q1
        try clear q11
        try clear q6
        obtain ⟨x4_2, x5_2, rfl, HA, HK2, HO_4, HB⟩ := hrel; cases gk with
        | zero => exact absurd HA.out (by simp [backhaulref01_Fold.l0])
        | succ k2 =>
          have H := HA.out; clear HA; simp only [backhaulref01_Fold.l0] at H; by_cases c13 : x5_2 < (a0.size : Int)
          · rw [if_pos c13] at H
            have c13b0 : decide (x5_2 < (a0.size : Int)) = true := zFq c13; clear c13; by_cases c14 : 0 ≤ x5_2
            · rw [if_pos c14] at H
              have c14b0 : decide (0 ≤ x5_2) = true := zFq c14; clear c14; have HC16 := zA H; clear H; have p15 : 0 ≤ (x5_2 : Int) := of_decide_eq_true qA; have q15 : x5_2 < (a0.size : Int) := of_decide_eq_true qA; have hx15 := bt_at a0 x5_2; replace p15 := eq_true p15; replace q15 := eq_true q15; go_upto_region 8 with (fail)
              go_cut [51] (fun v51 wc => ∃ (kq : Nat) (x51_15 : Bool), v51 = .bool x51_15 ∧ Aside0 (backhaulref01_Fold.j2 kq a0 x4_2 x5_2 (bt a0 x5_2) x51_15 = some (r1, r2)) ∧ Aside0 (kq ≤ k2) ∧ Aside0 (Kd.R (Kd.int .u8) 5 wc w.heap.size (fun _ => True) u4 x4_2) ∧ Aside0 (Below w.heap.size w wc))
              case first =>
                have H := HC16.out; clear HC16; replace H := Option.bind_eq_some_iff.mp H; obtain ⟨t101, A170, H⟩ := H; try dsimp only at H
                have A17 := zA A170; clear A170; by_cases c18 : t101 = 0
                · rw [if_pos c18] at H
                  have c18b0 : (t101 == 0) = true := beq_iff_eq.mpr c18; have c18b1 : (t101 != 0) = false := bne_eq_false_iff_eq.mpr c18; clear c18; (first | rw [c18b0] | (simp only [i64_w, i32_w]; rw [c18b0]) | skip)
                  have H' := zA H; clear H; go_wp2_with (first | ((with_reducible refine zJq (f := 164) rfl ?_); refine goesL_ (some 39) rfl rfl Try.func164 (by kernel_rfl) rfl #[.int .i32 (wrap32 (bt a0 x5_2))] rfl qG ?_; (with_reducible refine (backhaulref01_Class.calls k2 (wrap32 (bt a0 x5_2)) t101 _ A17.out).mono ?_); rintro e w' ⟨rfl, ⟨nd, rfl⟩⟩; refine ⟨_, rfl, ?_⟩)); go_meet
                  case rel => exact ⟨_, (true), (by first | rfl | (simp; done) | (simp [*]; done)), H', ⟨by have := HJ1.out; have := HK2.out; first | omega | exact Nat.le_refl _⟩, ⟨by (with_reducible repeat (first | apply Kd.R_alloc | apply Kd.R_drewN | apply Kd.R_drew)); exact HO_4.out⟩, ⟨qB⟩⟩
                rw [if_neg c18] at H; have c18b0 : (t101 == 0) = false := beq_eq_false_iff_ne.mpr c18; have c18b1 : (t101 != 0) = true := bne_iff_ne.mpr c18; (first | rw [c18b0] | (simp only [i64_w, i32_w]; rw [c18b0]) | skip)
                by_cases c19 : (bt a0 x5_2) = 45
                · rw [if_pos c19] at H
                  have c19b0 : ((bt a0 x5_2) == 45) = true := beq_iff_eq.mpr c19; have c19b1 : ((bt a0 x5_2) != 45) = false := bne_eq_false_iff_eq.mpr c19; clear c19; obtain ⟨ji20, hji20⟩ : ∃ j_ : Int, (wrap64 (x5_2 - 1)) = j_ := ⟨_, rfl⟩
                  replace H : (if 0 ≤ (ji20) then (if (ji20) < (a0.size : Int) then (backhaulref01_Fold.j2 k2 a0 x4_2 x5_2 (bt a0 x5_2) ((bt a0 (ji20)) == 45)) else (none)) else (none)) = some (r1, r2) := by first | (rw [hji20] at H; exact H) | (simp only [hji20] at H ⊢; exact H)
                  (try rw [hji20] at A17)
                  have hji20w : (IntKind.i64.wrap (x5_2 - 1)) = ji20 := (i64_w _).trans hji20; by_cases c21 : 0 ≤ (ji20)
                  · rw [if_pos c21] at H
                    have c21b0 : decide (0 ≤ (ji20)) = true := zFq c21; clear c21; by_cases c22 : (ji20) < (a0.size : Int)
                    · rw [if_pos c22] at H
                      have c22b0 : decide ((ji20) < (a0.size : Int)) = true := zFq c22; clear c22; have H' := zA H; clear H; go_wp2_with (first | ((with_reducible refine zJq (f := 164) rfl ?_); refine goesL_ (some 39) rfl rfl Try.func164 (by kernel_rfl) rfl #[.int .i32 (wrap32 (bt a0 x5_2))] rfl qG ?_; (with_reducible refine (backhaulref01_Class.calls k2 (wrap32 (bt a0 x5_2)) t101 _ A17.out).mono ?_); rintro e w' ⟨rfl, ⟨nd, rfl⟩⟩; refine ⟨_, rfl, ?_⟩; have p23 : 0 ≤ ((ji20) : Int) := of_decide_eq_true qA; have q23 : (ji20) < (a0.size : Int) := of_decide_eq_true qA; have hx23 := bt_at a0 (ji20); replace p23 := eq_true p23; replace q23 := eq_true q23)); go_meet
                      case rel => exact ⟨_, (((bt a0 (ji20)) == 45)), (by first | rfl | (simp; done) | (simp only [← hji20] <;> (first | rfl | simp)) | (simp [*]; done)), H', ⟨by have := HJ1.out; have := HK2.out; first | omega | exact Nat.le_refl _⟩, ⟨by (with_reducible repeat (first | apply Kd.R_alloc | apply Kd.R_drewN | apply Kd.R_drew)); exact HO_4.out⟩, ⟨qB⟩⟩
                    rw [if_neg c22] at H; exact absurd H (by simp)
                  rw [if_neg c21] at H; exact absurd H (by simp)
                rw [if_neg c19] at H; have c19b0 : ((bt a0 x5_2) == 45) = false := beq_eq_false_iff_ne.mpr c19; have c19b1 : ((bt a0 x5_2) != 45) = true := bne_iff_ne.mpr c19; have H' := zA H; clear H; go_wp2_with (first | ((with_reducible refine zJq (f := 164) rfl ?_); refine goesL_ (some 39) rfl rfl Try.func164 (by kernel_rfl) rfl #[.int .i32 (wrap32 (bt a0 x5_2))] rfl qG ?_; (with_reducible refine (backhaulref01_Class.calls k2 (wrap32 (bt a0 x5_2)) t101 _ A17.out).mono ?_); rintro e w' ⟨rfl, ⟨nd, rfl⟩⟩; refine ⟨_, rfl, ?_⟩)); go_meet
                case rel => exact ⟨_, (false), (by first | rfl | (simp; done) | (simp [*]; done)), H', ⟨by have := HJ1.out; have := HK2.out; first | omega | exact Nat.le_refl _⟩, ⟨by (with_reducible repeat (first | apply Kd.R_alloc | apply Kd.R_drewN | apply Kd.R_drew)); exact HO_4.out⟩, ⟨qB⟩⟩
              case rest =>
                clear HC16; try clear c1
                try clear p1
                try clear q1
                try clear hx1
                try clear c2
                try clear p2
                try clear q2
                try clear hx2
                try clear c3
                try clear c3b0
                try clear c3b1
                try clear p3
                try clear c4
                try clear c4b0
                try clear c4b1
                try clear c5
                try clear c5b0
                try clear c5b1
                try clear p6
                try clear q6
                try clear hx6
                try clear qi6
                try clear c7
                try clear c7b0
                try clear c7b1
                try clear c9
                try clear c9b0
                try clear c10
                try clear c10b0
                try clear p11
                try clear q11
                try clear hx11
                try clear c12
                try clear c13
                try clear c13b0
                try clear c14
                try clear c14b0
                try clear p15
                try clear q15
                try clear hx15
                try clear c16
                try clear c18
                try clear c18b0
                try clear c18b1
                try clear c19
                try clear c19b0
                try clear c19b1
                try clear c21
                try clear c21b0
                try clear c22
                try clear c22b0
                try clear p23
                try clear q23
                try clear hx23
                try clear p1
                try clear p11
                try clear p15
                try clear p2
                try clear p23
                try clear p6
                try clear q1
                try clear q11
                try clear q15
                try clear q23
                try clear q6
                obtain ⟨kq, x51_15, rfl, HA, HJ15, HO_4, HB⟩ := hcut; cases kq with
                | zero => exact absurd HA.out (by simp [backhaulref01_Fold.j2])
                | succ kj15 =>
                  have H := HA.out; clear HA; simp only [backhaulref01_Fold.j2] at H; by_cases c24 : x51_15 = true
                  · subst c24
                    have H1 : (some ((⟨#[]⟩ : ByteArray), 9)) = some (r1, r2) := by first | (rw [if_pos rfl] at H; exact H) | rfl
                    clear H; have H := H1; clear H1; simp only [zNq, zOq] at H; obtain ⟨rfl, rfl⟩ := H; go_wp2; go_ret2; exact ⟨qE, qB⟩
                  replace c24 := Bool.eq_false_iff.mpr c24; subst c24; have H1 : (if (bt a0 x5_2) ≥ 97 then (if (bt a0 x5_2) ≤ 122 then (if x4_2.length < 140737488355328 then (backhaulref01_Fold.l0 kj15 a0 (x4_2 ++ [((bt a0 x5_2) - 32) % 256]) (wrap64 (x5_2 + 1))) else (none)) else (if x4_2.length < 140737488355328 then (backhaulref01_Fold.l0 kj15 a0 (x4_2 ++ [(bt a0 x5_2)]) (wrap64 (x5_2 + 1))) else (none))) else (if x4_2.length < 140737488355328 then (backhaulref01_Fold.l0 kj15 a0 (x4_2 ++ [(bt a0 x5_2)]) (wrap64 (x5_2 + 1))) else (none))) = some (r1, r2) := by first | (rw [if_neg (show ¬ (false = true) by decide)] at H; exact H) | rfl
                  clear H; have H := H1; clear H1; by_cases c25 : (bt a0 x5_2) ≥ 97
                  · rw [if_pos c25] at H
                    have c25b0 : decide (97 ≤ (bt a0 x5_2)) = true := zFq c25; clear c25; by_cases c26 : (bt a0 x5_2) ≤ 122
                    · rw [if_pos c26] at H
                      have c26b0 : decide ((bt a0 x5_2) ≤ 122) = true := zFq c26; clear c26; by_cases c27 : x4_2.length < 140737488355328
                      · rw [if_pos c27] at H
                        have LMc27 := zA c27; clear c27; obtain ⟨y102, hy102⟩ : ∃ y_ : List Int, y_ = (x4_2 ++ [((bt a0 x5_2) - 32) % 256]) := ⟨_, rfl⟩
                        replace H : (backhaulref01_Fold.l0 kj15 a0 y102 (wrap64 (x5_2 + 1))) = some (r1, r2) := by first | (rw [hy102]; with_reducible exact H) | (have H2_ := (Option.bind_some _ _).symm.trans H; rw [hy102]; with_reducible exact H2_) | (have H2_ := (Option.bind_some _ _).symm.trans H; with_reducible exact H2_) | with_reducible exact H | (rw [hy102]; exact H) | exact H
                        have Ny102 := zA hy102; clear hy102; have H' := zA H; clear H; go_wp2_with (first | ((with_reducible refine gate_builtin (b := .append) (xs := #[.tmp 60, .tmp 62]) rfl ?_); (try (refine gate_guard (by rfl) ?_; dsimp only)); at_builtin; refine Kd.R_append (Kd.int .u8) (w0 := w) w.heap.size rfl (.tmp 60) (.tmp 62) 185 5 (.int .u8 0) 1 rfl Try.underlying185 info5 rfl (by decide) (by omega) u4 x4_2 (((bt a0 x5_2) - 32) % 256) [.int .u8 (((bt a0 x5_2) - 32) % 256)] (fun _ => True) (fun _ => False) rfl rfl ?aP (fun _ hk => hk.elim) ?aF ?aO ?aB ?aS ?aL ?_; (case aP => exact rfl); (case aB => exact qB); (case aF => exact (fun _ _ => trivial)); (case aO => exact (by (with_reducible repeat (first | apply Kd.R_alloc | apply Kd.R_drewN | apply Kd.R_drew)); exact HO_4.out)); (case aS => exact (zW qB)); (case aL => have := LMc27.out; omega); intro v103 w28 ho hb hg hat; rw [← Ny102.out] at ho; have n0_ := zA (hb); have n1_ := zA (ho); clear HB HO_4; have HB := n0_; have HO104 := n1_; clear n0_ n1_ ho hb hg hat)); go_roundg kj15
                        case measure => have := HJ1.out; have := HK2.out; have := HJ15.out; omega
                        case rel => exact ⟨(y102), (wrap64 (x5_2 + 1)), (by first | rfl | (simp; done) | (simp [*]; done)), H', ⟨by have := HJ1.out; have := HK2.out; have := HJ15.out; omega⟩, ⟨by (with_reducible repeat (first | apply Kd.R_alloc | apply Kd.R_drewN | apply Kd.R_drew)); exact HO104.out⟩, ⟨qB⟩⟩
                      rw [if_neg c27] at H; exact absurd H (by simp)
                    rw [if_neg c26] at H; have c26b0 : decide ((bt a0 x5_2) ≤ 122) = false := zGq c26; clear c26; by_cases c29 : x4_2.length < 140737488355328
                    · rw [if_pos c29] at H
                      have LMc29 := zA c29; clear c29; obtain ⟨y105, hy105⟩ : ∃ y_ : List Int, y_ = (x4_2 ++ [(bt a0 x5_2)]) := ⟨_, rfl⟩
                      replace H : (backhaulref01_Fold.l0 kj15 a0 y105 (wrap64 (x5_2 + 1))) = some (r1, r2) := by first | (rw [hy105]; with_reducible exact H) | (have H2_ := (Option.bind_some _ _).symm.trans H; rw [hy105]; with_reducible exact H2_) | (have H2_ := (Option.bind_some _ _).symm.trans H; with_reducible exact H2_) | with_reducible exact H | (rw [hy105]; exact H) | exact H
                      have Ny105 := zA hy105; clear hy105; have H' := zA H; clear H; go_wp2_with (first | ((with_reducible refine gate_builtin (b := .append) (xs := #[.tmp 60, .tmp 62]) rfl ?_); (try (refine gate_guard (by rfl) ?_; dsimp only)); at_builtin; refine Kd.R_append (Kd.int .u8) (w0 := w) w.heap.size rfl (.tmp 60) (.tmp 62) 185 5 (.int .u8 0) 1 rfl Try.underlying185 info5 rfl (by decide) (by omega) u4 x4_2 (bt a0 x5_2) [.int .u8 (bt a0 x5_2)] (fun _ => True) (fun _ => False) rfl rfl ?aP (fun _ hk => hk.elim) ?aF ?aO ?aB ?aS ?aL ?_; (case aP => exact rfl); (case aB => exact qB); (case aF => exact (fun _ _ => trivial)); (case aO => exact (by (with_reducible repeat (first | apply Kd.R_alloc | apply Kd.R_drewN | apply Kd.R_drew)); exact HO_4.out)); (case aS => exact (zW qB)); (case aL => have := LMc29.out; omega); intro v106 w30 ho hb hg hat; rw [← Ny105.out] at ho; have n0_ := zA (hb); have n1_ := zA (ho); clear HB HO_4; have HB := n0_; have HO107 := n1_; clear n0_ n1_ ho hb hg hat)); go_roundg kj15
                      case measure => have := HJ1.out; have := HK2.out; have := HJ15.out; omega
                      case rel => exact ⟨(y105), (wrap64 (x5_2 + 1)), (by first | rfl | (simp; done) | (simp [*]; done)), H', ⟨by have := HJ1.out; have := HK2.out; have := HJ15.out; omega⟩, ⟨by (with_reducible repeat (first | apply Kd.R_alloc | apply Kd.R_drewN | apply Kd.R_drew)); exact HO107.out⟩, ⟨qB⟩⟩
                    rw [if_neg c29] at H; exact absurd H (by simp)
                  rw [if_neg c25] at H; have c25b0 : decide (97 ≤ (bt a0 x5_2)) = false := zGq c25; clear c25; by_cases c31 : x4_2.length < 140737488355328
                  · rw [if_pos c31] at H
                    have LMc31 := zA c31; clear c31; obtain ⟨y108, hy108⟩ : ∃ y_ : List Int, y_ = (x4_2 ++ [(bt a0 x5_2)]) := ⟨_, rfl⟩
                    replace H : (backhaulref01_Fold.l0 kj15 a0 y108 (wrap64 (x5_2 + 1))) = some (r1, r2) := by first | (rw [hy108]; with_reducible exact H) | (have H2_ := (Option.bind_some _ _).symm.trans H; rw [hy108]; with_reducible exact H2_) | (have H2_ := (Option.bind_some _ _).symm.trans H; with_reducible exact H2_) | with_reducible exact H | (rw [hy108]; exact H) | exact H
                    have Ny108 := zA hy108; clear hy108; have H' := zA H; clear H; go_wp2_with (first | ((with_reducible refine gate_builtin (b := .append) (xs := #[.tmp 60, .tmp 62]) rfl ?_); (try (refine gate_guard (by rfl) ?_; dsimp only)); at_builtin; refine Kd.R_append (Kd.int .u8) (w0 := w) w.heap.size rfl (.tmp 60) (.tmp 62) 185 5 (.int .u8 0) 1 rfl Try.underlying185 info5 rfl (by decide) (by omega) u4 x4_2 (bt a0 x5_2) [.int .u8 (bt a0 x5_2)] (fun _ => True) (fun _ => False) rfl rfl ?aP (fun _ hk => hk.elim) ?aF ?aO ?aB ?aS ?aL ?_; (case aP => exact rfl); (case aB => exact qB); (case aF => exact (fun _ _ => trivial)); (case aO => exact (by (with_reducible repeat (first | apply Kd.R_alloc | apply Kd.R_drewN | apply Kd.R_drew)); exact HO_4.out)); (case aS => exact (zW qB)); (case aL => have := LMc31.out; omega); intro v109 w32 ho hb hg hat; rw [← Ny108.out] at ho; have n0_ := zA (hb); have n1_ := zA (ho); clear HB HO_4; have HB := n0_; have HO110 := n1_; clear n0_ n1_ ho hb hg hat)); go_roundg kj15
                    case measure => have := HJ1.out; have := HK2.out; have := HJ15.out; omega
                    case rel => exact ⟨(y108), (wrap64 (x5_2 + 1)), (by first | rfl | (simp; done) | (simp [*]; done)), H', ⟨by have := HJ1.out; have := HK2.out; have := HJ15.out; omega⟩, ⟨by (with_reducible repeat (first | apply Kd.R_alloc | apply Kd.R_drewN | apply Kd.R_drew)); exact HO110.out⟩, ⟨qB⟩⟩
                  rw [if_neg c31] at H; exact absurd H (by simp)
            rw [if_neg c14] at H; exact absurd H (by simp)
          rw [if_neg c13] at H; have c13b0 : decide (x5_2 < (a0.size : Int)) = false := zGq c13; clear c13; simp only [zNq, zOq] at H; obtain ⟨rfl, rfl⟩ := H; have hcv33 := own_string (P := Try.prog) Try.underlying185 Try.underlying5 Try.underlying9 (Kd.own_of_R HO_4.out); go_wp2; go_ret2; exact ⟨qE, qB⟩
def backhaulref01_Check.f (k : Nat) (a0 : ByteArray) : Option (Int) := (backhaulref01_Fold.f k a0).bind fun bt101 => (if bt101.2 = 0 then (if bt101.1.toList = a0.toList then (some 0) else (some 9)) else (some 9))
theorem backhaulref01_Check.mono : ∀ a0 k, LeO (backhaulref01_Check.f k a0) (backhaulref01_Check.f (k + 1) a0) := by
  intro a0 k
  unfold backhaulref01_Check.f
  repeat' (with_reducible first | exact backhaulref01_Fold.mono _ _ | exact LeO.refl _ | exact LeO.none _ | refine LeO.ite ?_ ?_ | refine LeO.bind ?_ (fun _ => ?_))
set_option maxHeartbeats 8000000 in
set_option maxRecDepth 100000 in
theorem backhaulref01_Check.calls (k : Nat) (a0 : ByteArray) (r : Int) (w : World) (h : backhaulref01_Check.f k a0 = some r) :
    Calls Try.prog 91 #[.string a0] w fun e w' => e = .returned (.int .i64 r) ∧ Below w.heap.size w w' := by
  have HB := zA (Below.refl w.heap.size w)
  have H : ((backhaulref01_Fold.f k a0).bind fun bt101 => (if bt101.2 = 0 then (if bt101.1.toList = a0.toList then (some 0) else (some 9)) else (some 9))) = some r := h
  clear h
  replace H := Option.bind_eq_some_iff.mp H
  obtain ⟨⟨t101, t102⟩, A20, H⟩ := H
  try dsimp only at H
  have A2 := zA A20
  clear A20
  by_cases c3 : t102 = 0
  · rw [if_pos c3] at H
    have c3b0 : (t102 == 0) = true := beq_iff_eq.mpr c3; have c3b1 : (t102 != 0) = false := bne_eq_false_iff_eq.mpr c3; clear c3; by_cases c4 : t101.toList = a0.toList
    · rw [if_pos c4] at H
      have c4b0 : (t101.toList == a0.toList) = true := beq_iff_eq.mpr c4; have c4b1 : (t101.toList != a0.toList) = false := bne_eq_false_iff_eq.mpr c4; clear c4; obtain rfl := zKq H; go_enter Try.func91, Try.ntmps91; go_wp2_with (first | ((with_reducible refine zJq (f := 142) rfl ?_); refine goesL_ (some 7) rfl rfl Try.func142 (by kernel_rfl) rfl #[.string a0] rfl qG ?_; (with_reducible refine (backhaulref01_Fold.calls k a0 t101 t102 _ A2.out).mono ?_); rintro e w5 ⟨rfl, hb⟩; refine ⟨_, rfl, ?_⟩; have n0_ := zA (zV qB hb); clear HB; have HB := n0_; clear n0_; (try clear hb))); go_ret; exact ⟨qE, qB⟩
    rw [if_neg c4] at H; have c4b0 : (t101.toList == a0.toList) = false := beq_eq_false_iff_ne.mpr c4; have c4b1 : (t101.toList != a0.toList) = true := bne_iff_ne.mpr c4; obtain rfl := zKq H; go_enter Try.func91, Try.ntmps91; go_wp2_with (first | ((with_reducible refine zJq (f := 142) rfl ?_); refine goesL_ (some 7) rfl rfl Try.func142 (by kernel_rfl) rfl #[.string a0] rfl qG ?_; (with_reducible refine (backhaulref01_Fold.calls k a0 t101 t102 _ A2.out).mono ?_); rintro e w6 ⟨rfl, hb⟩; refine ⟨_, rfl, ?_⟩; have n0_ := zA (zV qB hb); clear HB; have HB := n0_; clear n0_; (try clear hb))); go_ret; exact ⟨qE, qB⟩
  rw [if_neg c3] at H
  have c3b0 : (t102 == 0) = false := beq_eq_false_iff_ne.mpr c3
  have c3b1 : (t102 != 0) = true := bne_iff_ne.mpr c3
  obtain rfl := zKq H
  go_enter Try.func91, Try.ntmps91
  go_wp2_with (first | ((with_reducible refine zJq (f := 142) rfl ?_); refine goesL_ (some 7) rfl rfl Try.func142 (by kernel_rfl) rfl #[.string a0] rfl qG ?_; (with_reducible refine (backhaulref01_Fold.calls k a0 t101 t102 _ A2.out).mono ?_); rintro e w7 ⟨rfl, hb⟩; refine ⟨_, rfl, ?_⟩; have n0_ := zA (zV qB hb); clear HB; have HB := n0_; clear n0_; (try clear hb)))
  go_ret
  exact ⟨qE, qB⟩
def backhaulref01_Row.l0 : Nat → List ByteArray → Int → Option (Int)
  | 0, _, _ => none
  | k + 1, x0, x3 => if x3 < (x0.length : Int) then (if 0 ≤ x3 then ((backhaulref01_Check.f k (rdOf ByteArray.empty x0 x3)).bind fun t102 => (if t102 = 0 then (if x3 > 0 then (if 0 ≤ (wrap64 (x3 - 1)) then (if (wrap64 (x3 - 1)) < (x0.length : Int) then (if ((Op.bytesLess ((rdOf ByteArray.empty x0 (wrap64 (x3 - 1))).toList) ((rdOf ByteArray.empty x0 x3).toList)) = true) then (backhaulref01_Row.l0 k x0 (wrap64 (x3 + 1))) else (some 32)) else (none)) else (none)) else (backhaulref01_Row.l0 k x0 (wrap64 (x3 + 1)))) else (some 9))) else (none)) else (some 0)
def backhaulref01_Row.f (k : Nat) (l0 : List ByteArray) : Option (Int) := backhaulref01_Row.l0 k l0 0
theorem backhaulref01_Row.mono_l : ∀ k, (∀ y0 y1, LeO (backhaulref01_Row.l0 k y0 y1) (backhaulref01_Row.l0 (k + 1) y0 y1))
  | 0 => fun _ _ r h => by simp [backhaulref01_Row.l0] at h
  | k + 1 => by
    have ih0 := backhaulref01_Row.mono_l k
    intro y0 y1
    unfold backhaulref01_Row.l0
    repeat' (with_reducible first | exact ih0 _ _ | exact backhaulref01_Check.mono _ _ | exact LeO.refl _ | exact LeO.none _ | refine LeO.ite ?_ ?_ | refine LeO.bind ?_ (fun _ => ?_))
theorem backhaulref01_Row.mono : ∀ a0 k, LeO (backhaulref01_Row.f k a0) (backhaulref01_Row.f (k + 1) a0) := by
  intro a0 k
  have ih0 := backhaulref01_Row.mono_l k
  unfold backhaulref01_Row.f
  repeat' (with_reducible first | exact ih0 _ _ | exact backhaulref01_Check.mono _ _ | exact LeO.refl _ | exact LeO.none _ | refine LeO.ite ?_ ?_ | refine LeO.bind ?_ (fun _ => ?_))
set_option maxHeartbeats 8000000 in
set_option maxRecDepth 100000 in
theorem backhaulref01_Row.calls (k : Nat) (A0 : Option Addr) (c0 : Nat) (l0 : List ByteArray) (r : Int) (w : World) (hr0 : Kd.C Kd.string w A0 l0.length l0) (hc0 : l0.length ≤ c0) (h : backhaulref01_Row.f k l0 = some r) :
    Calls Try.prog 78 #[.slice A0 l0.length c0] w fun e w' => e = .returned (.int .i64 r) ∧ Below w.heap.size w w' := by
  have HR0 := zA hr0
  have HC0 := zA hc0
  clear hr0 hc0
  have HB := zA (Below.refl w.heap.size w)
  have H : (backhaulref01_Row.l0 k l0 0) = some r := h
  clear h
  have H' := zA H
  clear H
  go_enter Try.func78, Try.ntmps78
  go_wp2
  repeat (go_quiet (fail); try go_wp2)
  go_loopg [3] k (fun kq v3 w' => ∃ (x3_1 : Int), v3 = .int .i64 x3_1 ∧ Aside0 (backhaulref01_Row.l0 kq l0 x3_1 = some r) ∧ Aside0 (kq ≤ k) ∧ Aside0 (Below w.heap.size w w'))
  case atStart => exact ⟨(0), (by first | rfl | (simp; done) | (simp [*]; done)), H', ⟨Nat.le_refl _⟩, ⟨qB⟩⟩
  case round =>
    clear H'; obtain ⟨x3_1, rfl, HA, HK1, HB⟩ := hrel; cases gk with
    | zero => exact absurd HA.out (by simp [backhaulref01_Row.l0])
    | succ k1 =>
      have H := HA.out; clear HA; simp only [backhaulref01_Row.l0] at H; by_cases c2 : x3_1 < (l0.length : Int)
      · rw [if_pos c2] at H
        have c2b0 : decide (x3_1 < (l0.length : Int)) = true := zFq c2; clear c2; by_cases c3 : 0 ≤ x3_1
        · rw [if_pos c3] at H
          have c3b0 : decide (0 ≤ x3_1) = true := zFq c3; clear c3; replace H := Option.bind_eq_some_iff.mp H; obtain ⟨t102, A40, H⟩ := H; try dsimp only at H
          have A4 := zA A40; clear A40; by_cases c5 : t102 = 0
          · rw [if_pos c5] at H
            have c5b0 : (t102 == 0) = true := beq_iff_eq.mpr c5; have c5b1 : (t102 != 0) = false := bne_eq_false_iff_eq.mpr c5; clear c5; by_cases c6 : x3_1 > 0
            · rw [if_pos c6] at H
              have c6b0 : decide (0 < x3_1) = true := zFq c6; clear c6; obtain ⟨ji7, hji7⟩ : ∃ j_ : Int, (wrap64 (x3_1 - 1)) = j_ := ⟨_, rfl⟩
              replace H : (if 0 ≤ (ji7) then (if (ji7) < (l0.length : Int) then (if ((Op.bytesLess ((rdOf ByteArray.empty l0 (ji7)).toList) ((rdOf ByteArray.empty l0 x3_1).toList)) = true) then (backhaulref01_Row.l0 k1 l0 (wrap64 (x3_1 + 1))) else (some 32)) else (none)) else (none)) = some r := by first | (rw [hji7] at H; exact H) | (simp only [hji7] at H ⊢; exact H)
              (try rw [hji7] at A4)
              have hji7w : (IntKind.i64.wrap (x3_1 - 1)) = ji7 := (i64_w _).trans hji7; by_cases c8 : 0 ≤ (ji7)
              · rw [if_pos c8] at H
                have c8b0 : decide (0 ≤ (ji7)) = true := zFq c8; clear c8; by_cases c9 : (ji7) < (l0.length : Int)
                · rw [if_pos c9] at H
                  have c9b0 : decide ((ji7) < (l0.length : Int)) = true := zFq c9; clear c9; by_cases c10 : ((Op.bytesLess ((rdOf ByteArray.empty l0 (ji7)).toList) ((rdOf ByteArray.empty l0 x3_1).toList)) = true)
                  · rw [if_pos c10] at H
                    have c10b0 : (Op.bytesLess ((rdOf ByteArray.empty l0 (ji7)).toList) ((rdOf ByteArray.empty l0 x3_1).toList)) = true := c10; clear c10; have H' := zA H; clear H; have p101 : 0 ≤ (x3_1 : Int) := of_decide_eq_true qA; have q101 : x3_1 < (l0.length : Int) := of_decide_eq_true qA; obtain ⟨ad101, e101, hx101_0⟩ := Kd.at_string HR0.out x3_1 p101 q101; cases e101
                    replace hx101_0 := (HB.out.cell (zCq w _ hx101_0)).trans hx101_0; replace p101 := eq_true p101; replace q101 := eq_true q101; go_wp2_with (first | (go_at_call 91; (with_reducible refine (backhaulref01_Check.calls k1 (rdOf ByteArray.empty l0 x3_1) t102 _ A4.out).mono ?_); rintro e w11 ⟨rfl, hb⟩; have n0_ := zA (zV qB hb); clear HB; have HB := n0_; clear n0_; (try clear hb); have p103 : 0 ≤ (x3_1 : Int) := of_decide_eq_true qA; have q103 : x3_1 < (l0.length : Int) := of_decide_eq_true qA; obtain ⟨ad103, e103, hx103_0⟩ := Kd.at_string HR0.out x3_1 p103 q103; obtain rfl : ad101 = ad103 := (by injection e103); replace hx103_0 := (HB.out.cell (zCq w _ hx103_0)).trans hx103_0; replace p103 := eq_true p103; replace q103 := eq_true q103; have p104 : 0 ≤ ((ji7) : Int) := of_decide_eq_true qA; have q104 : (ji7) < (l0.length : Int) := of_decide_eq_true qA; obtain ⟨ad104, e104, hx104_0⟩ := Kd.at_string HR0.out (ji7) p104 q104; obtain rfl : ad101 = ad104 := (by injection e104); replace hx104_0 := (HB.out.cell (zCq w _ hx104_0)).trans hx104_0; replace p104 := eq_true p104; replace q104 := eq_true q104)); repeat (go_quiet (first | (go_at_call 91; (with_reducible refine (backhaulref01_Check.calls k1 (rdOf ByteArray.empty l0 x3_1) t102 _ A4.out).mono ?_); rintro e w11 ⟨rfl, hb⟩; have n0_ := zA (zV qB hb); clear HB; have HB := n0_; clear n0_; (try clear hb); have p103 : 0 ≤ (x3_1 : Int) := of_decide_eq_true qA; have q103 : x3_1 < (l0.length : Int) := of_decide_eq_true qA; obtain ⟨ad103, e103, hx103_0⟩ := Kd.at_string HR0.out x3_1 p103 q103; obtain rfl : ad101 = ad103 := (by injection e103); replace hx103_0 := (HB.out.cell (zCq w _ hx103_0)).trans hx103_0; replace p103 := eq_true p103; replace q103 := eq_true q103; have p104 : 0 ≤ ((ji7) : Int) := of_decide_eq_true qA; have q104 : (ji7) < (l0.length : Int) := of_decide_eq_true qA; obtain ⟨ad104, e104, hx104_0⟩ := Kd.at_string HR0.out (ji7) p104 q104; obtain rfl : ad101 = ad104 := (by injection e104); replace hx104_0 := (HB.out.cell (zCq w _ hx104_0)).trans hx104_0; replace p104 := eq_true p104; replace q104 := eq_true q104)); try go_wp2_with (first | (go_at_call 91; (with_reducible refine (backhaulref01_Check.calls k1 (rdOf ByteArray.empty l0 x3_1) t102 _ A4.out).mono ?_); rintro e w11 ⟨rfl, hb⟩; have n0_ := zA (zV qB hb); clear HB; have HB := n0_; clear n0_; (try clear hb); have p103 : 0 ≤ (x3_1 : Int) := of_decide_eq_true qA; have q103 : x3_1 < (l0.length : Int) := of_decide_eq_true qA; obtain ⟨ad103, e103, hx103_0⟩ := Kd.at_string HR0.out x3_1 p103 q103; obtain rfl : ad101 = ad103 := (by injection e103); replace hx103_0 := (HB.out.cell (zCq w _ hx103_0)).trans hx103_0; replace p103 := eq_true p103; replace q103 := eq_true q103; have p104 : 0 ≤ ((ji7) : Int) := of_decide_eq_true qA; have q104 : (ji7) < (l0.length : Int) := of_decide_eq_true qA; obtain ⟨ad104, e104, hx104_0⟩ := Kd.at_string HR0.out (ji7) p104 q104; obtain rfl : ad101 = ad104 := (by injection e104); replace hx104_0 := (HB.out.cell (zCq w _ hx104_0)).trans hx104_0; replace p104 := eq_true p104; replace q104 := eq_true q104)))
                    go_roundg k1
                    case measure => have := HK1.out; omega
                    case rel => exact ⟨(wrap64 (x3_1 + 1)), (by first | rfl | (simp; done) | (simp [*]; done)), H', ⟨by have := HK1.out; omega⟩, ⟨qB⟩⟩
                  rw [if_neg c10] at H; have c10b0 : (Op.bytesLess ((rdOf ByteArray.empty l0 (ji7)).toList) ((rdOf ByteArray.empty l0 x3_1).toList)) = false := by simpa using c10
                  clear c10; obtain rfl := zKq H; have p101 : 0 ≤ (x3_1 : Int) := of_decide_eq_true qA; have q101 : x3_1 < (l0.length : Int) := of_decide_eq_true qA; obtain ⟨ad101, e101, hx101_0⟩ := Kd.at_string HR0.out x3_1 p101 q101; cases e101
                  replace hx101_0 := (HB.out.cell (zCq w _ hx101_0)).trans hx101_0; replace p101 := eq_true p101; replace q101 := eq_true q101; go_wp2_with (first | (go_at_call 91; (with_reducible refine (backhaulref01_Check.calls k1 (rdOf ByteArray.empty l0 x3_1) t102 _ A4.out).mono ?_); rintro e w12 ⟨rfl, hb⟩; have n0_ := zA (zV qB hb); clear HB; have HB := n0_; clear n0_; (try clear hb); have p103 : 0 ≤ (x3_1 : Int) := of_decide_eq_true qA; have q103 : x3_1 < (l0.length : Int) := of_decide_eq_true qA; obtain ⟨ad103, e103, hx103_0⟩ := Kd.at_string HR0.out x3_1 p103 q103; obtain rfl : ad101 = ad103 := (by injection e103); replace hx103_0 := (HB.out.cell (zCq w _ hx103_0)).trans hx103_0; replace p103 := eq_true p103; replace q103 := eq_true q103; have p104 : 0 ≤ ((ji7) : Int) := of_decide_eq_true qA; have q104 : (ji7) < (l0.length : Int) := of_decide_eq_true qA; obtain ⟨ad104, e104, hx104_0⟩ := Kd.at_string HR0.out (ji7) p104 q104; obtain rfl : ad101 = ad104 := (by injection e104); replace hx104_0 := (HB.out.cell (zCq w _ hx104_0)).trans hx104_0; replace p104 := eq_true p104; replace q104 := eq_true q104)); repeat (go_quiet (first | (go_at_call 91; (with_reducible refine (backhaulref01_Check.calls k1 (rdOf ByteArray.empty l0 x3_1) t102 _ A4.out).mono ?_); rintro e w12 ⟨rfl, hb⟩; have n0_ := zA (zV qB hb); clear HB; have HB := n0_; clear n0_; (try clear hb); have p103 : 0 ≤ (x3_1 : Int) := of_decide_eq_true qA; have q103 : x3_1 < (l0.length : Int) := of_decide_eq_true qA; obtain ⟨ad103, e103, hx103_0⟩ := Kd.at_string HR0.out x3_1 p103 q103; obtain rfl : ad101 = ad103 := (by injection e103); replace hx103_0 := (HB.out.cell (zCq w _ hx103_0)).trans hx103_0; replace p103 := eq_true p103; replace q103 := eq_true q103; have p104 : 0 ≤ ((ji7) : Int) := of_decide_eq_true qA; have q104 : (ji7) < (l0.length : Int) := of_decide_eq_true qA; obtain ⟨ad104, e104, hx104_0⟩ := Kd.at_string HR0.out (ji7) p104 q104; obtain rfl : ad101 = ad104 := (by injection e104); replace hx104_0 := (HB.out.cell (zCq w _ hx104_0)).trans hx104_0; replace p104 := eq_true p104; replace q104 := eq_true q104)); try go_wp2_with (first | (go_at_call 91; (with_reducible refine (backhaulref01_Check.calls k1 (rdOf ByteArray.empty l0 x3_1) t102 _ A4.out).mono ?_); rintro e w12 ⟨rfl, hb⟩; have n0_ := zA (zV qB hb); clear HB; have HB := n0_; clear n0_; (try clear hb); have p103 : 0 ≤ (x3_1 : Int) := of_decide_eq_true qA; have q103 : x3_1 < (l0.length : Int) := of_decide_eq_true qA; obtain ⟨ad103, e103, hx103_0⟩ := Kd.at_string HR0.out x3_1 p103 q103; obtain rfl : ad101 = ad103 := (by injection e103); replace hx103_0 := (HB.out.cell (zCq w _ hx103_0)).trans hx103_0; replace p103 := eq_true p103; replace q103 := eq_true q103; have p104 : 0 ≤ ((ji7) : Int) := of_decide_eq_true qA; have q104 : (ji7) < (l0.length : Int) := of_decide_eq_true qA; obtain ⟨ad104, e104, hx104_0⟩ := Kd.at_string HR0.out (ji7) p104 q104; obtain rfl : ad101 = ad104 := (by injection e104); replace hx104_0 := (HB.out.cell (zCq w _ hx104_0)).trans hx104_0; replace p104 := eq_true p104; replace q104 := eq_true q104)))
                  go_ret; exact ⟨by first | rfl | (simp [errW_none, errW_some] <;> rfl) | (simp only [← hji7]; first | rfl | (simp [errW_none, errW_some] <;> rfl)) | (simp [*, errW_none, errW_some] <;> rfl), qB⟩
                rw [if_neg c9] at H; exact absurd H (by simp)
              rw [if_neg c8] at H; exact absurd H (by simp)
            rw [if_neg c6] at H; have c6b0 : decide (0 < x3_1) = false := zGq c6; clear c6; have H' := zA H; clear H; have p101 : 0 ≤ (x3_1 : Int) := of_decide_eq_true qA; have q101 : x3_1 < (l0.length : Int) := of_decide_eq_true qA; obtain ⟨ad101, e101, hx101_0⟩ := Kd.at_string HR0.out x3_1 p101 q101; cases e101
            replace hx101_0 := (HB.out.cell (zCq w _ hx101_0)).trans hx101_0; replace p101 := eq_true p101; replace q101 := eq_true q101; go_wp2_with (first | (go_at_call 91; (with_reducible refine (backhaulref01_Check.calls k1 (rdOf ByteArray.empty l0 x3_1) t102 _ A4.out).mono ?_); rintro e w13 ⟨rfl, hb⟩; have n0_ := zA (zV qB hb); clear HB; have HB := n0_; clear n0_; (try clear hb))); repeat (go_quiet (first | (go_at_call 91; (with_reducible refine (backhaulref01_Check.calls k1 (rdOf ByteArray.empty l0 x3_1) t102 _ A4.out).mono ?_); rintro e w13 ⟨rfl, hb⟩; have n0_ := zA (zV qB hb); clear HB; have HB := n0_; clear n0_; (try clear hb))); try go_wp2_with (first | (go_at_call 91; (with_reducible refine (backhaulref01_Check.calls k1 (rdOf ByteArray.empty l0 x3_1) t102 _ A4.out).mono ?_); rintro e w13 ⟨rfl, hb⟩; have n0_ := zA (zV qB hb); clear HB; have HB := n0_; clear n0_; (try clear hb))))
            go_roundg k1
            case measure => have := HK1.out; omega
            case rel => exact ⟨(wrap64 (x3_1 + 1)), (by first | rfl | (simp; done) | (simp [*]; done)), H', ⟨by have := HK1.out; omega⟩, ⟨qB⟩⟩
          rw [if_neg c5] at H; have c5b0 : (t102 == 0) = false := beq_eq_false_iff_ne.mpr c5; have c5b1 : (t102 != 0) = true := bne_iff_ne.mpr c5; obtain rfl := zKq H; have p101 : 0 ≤ (x3_1 : Int) := of_decide_eq_true qA; have q101 : x3_1 < (l0.length : Int) := of_decide_eq_true qA; obtain ⟨ad101, e101, hx101_0⟩ := Kd.at_string HR0.out x3_1 p101 q101; cases e101
          replace hx101_0 := (HB.out.cell (zCq w _ hx101_0)).trans hx101_0; replace p101 := eq_true p101; replace q101 := eq_true q101; go_wp2_with (first | (go_at_call 91; (with_reducible refine (backhaulref01_Check.calls k1 (rdOf ByteArray.empty l0 x3_1) t102 _ A4.out).mono ?_); rintro e w14 ⟨rfl, hb⟩; have n0_ := zA (zV qB hb); clear HB; have HB := n0_; clear n0_; (try clear hb))); repeat (go_quiet (first | (go_at_call 91; (with_reducible refine (backhaulref01_Check.calls k1 (rdOf ByteArray.empty l0 x3_1) t102 _ A4.out).mono ?_); rintro e w14 ⟨rfl, hb⟩; have n0_ := zA (zV qB hb); clear HB; have HB := n0_; clear n0_; (try clear hb))); try go_wp2_with (first | (go_at_call 91; (with_reducible refine (backhaulref01_Check.calls k1 (rdOf ByteArray.empty l0 x3_1) t102 _ A4.out).mono ?_); rintro e w14 ⟨rfl, hb⟩; have n0_ := zA (zV qB hb); clear HB; have HB := n0_; clear n0_; (try clear hb))))
          go_ret; exact ⟨qE, qB⟩
        rw [if_neg c3] at H; exact absurd H (by simp)
      rw [if_neg c2] at H; have c2b0 : decide (x3_1 < (l0.length : Int)) = false := zGq c2; clear c2; obtain rfl := zKq H; go_wp2; repeat (go_quiet (fail); try go_wp2)
      go_ret; exact ⟨qE, qB⟩
mutual
def backhaulref13_Rising.l0 : Nat → List Int → Int → Option (Int)
  | 0, _, _ => none
  | k + 1, x0, x3 => if x3 < (x0.length : Int) then (if 0 ≤ x3 then (if (rd x0 x3) < 1 then (backhaulref13_Rising.j1 k x0 x3 true) else (backhaulref13_Rising.j1 k x0 x3 (decide ((rd x0 x3) > 999999)))) else (none)) else (some 0)
def backhaulref13_Rising.j1 : Nat → List Int → Int → Bool → Option (Int)
  | 0, _, _, _ => none
  | k + 1, x0, x3, x21 => if x21 = true then (some 31) else (if x3 > 0 then (if 0 ≤ x3 then (if x3 < (x0.length : Int) then (if 0 ≤ (wrap64 (x3 - 1)) then (if (wrap64 (x3 - 1)) < (x0.length : Int) then (if (rd x0 x3) ≤ (rd x0 (wrap64 (x3 - 1))) then (some 32) else (backhaulref13_Rising.l0 k x0 (wrap64 (x3 + 1)))) else (none)) else (none)) else (none)) else (none)) else (backhaulref13_Rising.l0 k x0 (wrap64 (x3 + 1))))
end
def backhaulref13_Rising.f (k : Nat) (l0 : List Int) : Option (Int) := backhaulref13_Rising.l0 k l0 0
theorem backhaulref13_Rising.mono_l : ∀ k, (∀ y0 y1, LeO (backhaulref13_Rising.l0 k y0 y1) (backhaulref13_Rising.l0 (k + 1) y0 y1)) ∧ (∀ y0 y1 y2, LeO (backhaulref13_Rising.j1 k y0 y1 y2) (backhaulref13_Rising.j1 (k + 1) y0 y1 y2))
  | 0 => ⟨fun _ _ r h => by simp [backhaulref13_Rising.l0] at h, fun _ _ _ r h => by simp [backhaulref13_Rising.j1] at h⟩
  | k + 1 => by
    obtain ⟨ih0, ih1⟩ := backhaulref13_Rising.mono_l k
    refine ⟨?_, ?_⟩
    · intro y0 y1
      unfold backhaulref13_Rising.l0
      repeat' (with_reducible first | exact ih0 _ _ | exact ih1 _ _ _ | exact LeO.refl _ | exact LeO.none _ | refine LeO.ite ?_ ?_ | refine LeO.bind ?_ (fun _ => ?_))
    intro y0 y1 y2
    unfold backhaulref13_Rising.j1
    repeat' (with_reducible first | exact ih0 _ _ | exact ih1 _ _ _ | exact LeO.refl _ | exact LeO.none _ | refine LeO.ite ?_ ?_ | refine LeO.bind ?_ (fun _ => ?_))
theorem backhaulref13_Rising.mono : ∀ a0 k, LeO (backhaulref13_Rising.f k a0) (backhaulref13_Rising.f (k + 1) a0) := by
  intro a0 k
  obtain ⟨ih0, ih1⟩ := backhaulref13_Rising.mono_l k
  unfold backhaulref13_Rising.f
  repeat' (with_reducible first | exact ih0 _ _ | exact ih1 _ _ _ | exact LeO.refl _ | exact LeO.none _ | refine LeO.ite ?_ ?_ | refine LeO.bind ?_ (fun _ => ?_))
set_option maxHeartbeats 8000000 in
set_option maxRecDepth 100000 in
theorem backhaulref13_Rising.calls (k : Nat) (A0 : Option Addr) (c0 : Nat) (l0 : List Int) (r : Int) (w : World) (hr0 : Kd.C (Kd.int .i64) w A0 l0.length l0) (hc0 : l0.length ≤ c0) (h : backhaulref13_Rising.f k l0 = some r) :
    Calls Try.prog 79 #[.slice A0 l0.length c0] w fun e w' => e = .returned (.int .i64 r) ∧ Drawn0 w w' := by
  have HR0 := zA hr0
  have HC0 := zA hc0
  clear hr0 hc0
  have H : (backhaulref13_Rising.l0 k l0 0) = some r := h
  clear h
  have H' := zA H
  clear H
  go_enter Try.func79, Try.ntmps79
  go_wp2
  repeat (go_quiet (fail); try go_wp2)
  go_loopg [3] k (fun kq v3 w' => ∃ (x3_1 : Int), v3 = .int .i64 x3_1 ∧ Aside0 (backhaulref13_Rising.l0 kq l0 x3_1 = some r) ∧ Aside0 (kq ≤ k) ∧ Drawn0 w w')
  case atStart => exact ⟨(0), (by first | rfl | (simp; done) | (simp [*]; done)), H', ⟨Nat.le_refl _⟩, by repeat (first | exact Drawn0.refl _ | apply Drawn0.step)⟩
  case round =>
    clear H'; obtain ⟨x3_1, rfl, HA, HK1, ⟨m1, rfl⟩⟩ := hrel; cases gk with
    | zero => exact absurd HA.out (by simp [backhaulref13_Rising.l0])
    | succ k1 =>
      have H := HA.out; clear HA; simp only [backhaulref13_Rising.l0] at H; by_cases c2 : x3_1 < (l0.length : Int)
      · rw [if_pos c2] at H
        have c2b0 : decide (x3_1 < (l0.length : Int)) = true := zFq c2; clear c2; have HC3 := zA H; clear H; go_upto_region 4 with (fail)
        repeat (go_quiet (fail); go_upto_region 4 with (fail))
        go_cut [21] (fun v21 wc => ∃ (kq : Nat) (x21_2 : Bool), v21 = .bool x21_2 ∧ Aside0 (backhaulref13_Rising.j1 kq l0 x3_1 x21_2 = some r) ∧ Aside0 (kq ≤ k1) ∧ Drawn0 w wc)
        case first =>
          have H := HC3.out; clear HC3; by_cases c4 : 0 ≤ x3_1
          · rw [if_pos c4] at H
            have c4b0 : decide (0 ≤ x3_1) = true := zFq c4; clear c4; (first | rw [c4b0] | (simp only [i64_w, i32_w]; rw [c4b0]) | skip)
            by_cases c5 : (rd l0 x3_1) < 1
            · rw [if_pos c5] at H
              have c5b0 : decide ((rd l0 x3_1) < 1) = true := zFq c5; clear c5; have H' := zA H; clear H; have p101 : 0 ≤ (x3_1 : Int) := of_decide_eq_true qA; have q101 : x3_1 < (l0.length : Int) := of_decide_eq_true qA; obtain ⟨ad101, e101, hx101_0⟩ := Kd.at_int HR0.out x3_1 p101 q101; cases e101
              replace p101 := eq_true p101; replace q101 := eq_true q101; go_wp2; repeat (go_quiet (fail); try go_wp2)
              go_meet
              case rel => exact ⟨_, (true), (by first | rfl | (simp; done) | (simp [*]; done)), H', ⟨by have := HK1.out; first | omega | exact Nat.le_refl _⟩, by repeat (first | exact Drawn0.refl _ | apply Drawn0.step)⟩
            rw [if_neg c5] at H; have c5b0 : decide ((rd l0 x3_1) < 1) = false := zGq c5; clear c5; have H' := zA H; clear H; have p101 : 0 ≤ (x3_1 : Int) := of_decide_eq_true qA; have q101 : x3_1 < (l0.length : Int) := of_decide_eq_true qA; obtain ⟨ad101, e101, hx101_0⟩ := Kd.at_int HR0.out x3_1 p101 q101; cases e101
            replace p101 := eq_true p101; replace q101 := eq_true q101; have p102 : 0 ≤ (x3_1 : Int) := of_decide_eq_true qA; have q102 : x3_1 < (l0.length : Int) := of_decide_eq_true qA; obtain ⟨ad102, e102, hx102_0⟩ := Kd.at_int HR0.out x3_1 p102 q102; obtain rfl : ad101 = ad102 := (by injection e102)
            replace p102 := eq_true p102; replace q102 := eq_true q102; go_wp2; repeat (go_quiet (fail); try go_wp2)
            go_meet
            case rel => exact ⟨_, (decide ((rd l0 x3_1) > 999999)), (by first | rfl | (simp; done) | (simp [*]; done)), H', ⟨by have := HK1.out; first | omega | exact Nat.le_refl _⟩, by repeat (first | exact Drawn0.refl _ | apply Drawn0.step)⟩
          rw [if_neg c4] at H; exact absurd H (by simp)
        case rest =>
          clear HC3; try clear p1
          try clear q1
          try clear hx1
          try clear c2
          try clear c2b0
          try clear p2
          try clear c4
          try clear c4b0
          try clear c5
          try clear c5b0
          try clear hx101_0
          try clear hx102_0
          try clear p101
          try clear p102
          try clear q101
          try clear q102
          obtain ⟨kq, x21_2, rfl, HA, HJ2, ⟨mc2, rfl⟩⟩ := hcut; cases kq with
          | zero => exact absurd HA.out (by simp [backhaulref13_Rising.j1])
          | succ kj2 =>
            have H := HA.out; clear HA; simp only [backhaulref13_Rising.j1] at H; by_cases c6 : x21_2 = true
            · subst c6
              have H1 : (some 31) = some r := by first | (rw [if_pos rfl] at H; exact H) | rfl
              clear H; have H := H1; clear H1; obtain rfl := zKq H; go_wp2; repeat (go_quiet (fail); try go_wp2)
              go_ret; exact ⟨by first | rfl | (simp; done) | (simp [*]; done), by repeat (first | exact Drawn0.refl _ | apply Drawn0.step)⟩
            replace c6 := Bool.eq_false_iff.mpr c6; subst c6; have H1 : (if x3_1 > 0 then (if 0 ≤ x3_1 then (if x3_1 < (l0.length : Int) then (if 0 ≤ (wrap64 (x3_1 - 1)) then (if (wrap64 (x3_1 - 1)) < (l0.length : Int) then (if (rd l0 x3_1) ≤ (rd l0 (wrap64 (x3_1 - 1))) then (some 32) else (backhaulref13_Rising.l0 kj2 l0 (wrap64 (x3_1 + 1)))) else (none)) else (none)) else (none)) else (none)) else (backhaulref13_Rising.l0 kj2 l0 (wrap64 (x3_1 + 1)))) = some r := by first | (rw [if_neg (show ¬ (false = true) by decide)] at H; exact H) | rfl
            clear H; have H := H1; clear H1; by_cases c7 : x3_1 > 0
            · rw [if_pos c7] at H
              have c7b0 : decide (0 < x3_1) = true := zFq c7; clear c7; by_cases c8 : 0 ≤ x3_1
              · rw [if_pos c8] at H
                have c8b0 : decide (0 ≤ x3_1) = true := zFq c8; clear c8; by_cases c9 : x3_1 < (l0.length : Int)
                · rw [if_pos c9] at H
                  have c9b0 : decide (x3_1 < (l0.length : Int)) = true := zFq c9; clear c9; obtain ⟨ji10, hji10⟩ : ∃ j_ : Int, (wrap64 (x3_1 - 1)) = j_ := ⟨_, rfl⟩
                  replace H : (if 0 ≤ (ji10) then (if (ji10) < (l0.length : Int) then (if (rd l0 x3_1) ≤ (rd l0 (ji10)) then (some 32) else (backhaulref13_Rising.l0 kj2 l0 (wrap64 (x3_1 + 1)))) else (none)) else (none)) = some r := by first | (rw [hji10] at H; exact H) | (simp only [hji10] at H ⊢; exact H)
                  have hji10w : (IntKind.i64.wrap (x3_1 - 1)) = ji10 := (i64_w _).trans hji10; by_cases c11 : 0 ≤ (ji10)
                  · rw [if_pos c11] at H
                    have c11b0 : decide (0 ≤ (ji10)) = true := zFq c11; clear c11; by_cases c12 : (ji10) < (l0.length : Int)
                    · rw [if_pos c12] at H
                      have c12b0 : decide ((ji10) < (l0.length : Int)) = true := zFq c12; clear c12; by_cases c13 : (rd l0 x3_1) ≤ (rd l0 (ji10))
                      · rw [if_pos c13] at H
                        have c13b0 : decide ((rd l0 x3_1) ≤ (rd l0 (ji10))) = true := zFq c13; clear c13; obtain rfl := zKq H; have p103 : 0 ≤ (x3_1 : Int) := of_decide_eq_true qA; have q103 : x3_1 < (l0.length : Int) := of_decide_eq_true qA; obtain ⟨ad103, e103, hx103_0⟩ := Kd.at_int HR0.out x3_1 p103 q103; cases e103
                        replace p103 := eq_true p103; replace q103 := eq_true q103; have p104 : 0 ≤ ((ji10) : Int) := of_decide_eq_true qA; have q104 : (ji10) < (l0.length : Int) := of_decide_eq_true qA; obtain ⟨ad104, e104, hx104_0⟩ := Kd.at_int HR0.out (ji10) p104 q104; obtain rfl : ad103 = ad104 := (by injection e104)
                        replace p104 := eq_true p104; replace q104 := eq_true q104; go_wp2; repeat (go_quiet (fail); try go_wp2)
                        go_ret; exact ⟨by first | rfl | (simp; done) | (simp only [← hji10] <;> (first | rfl | simp)) | (simp [*]; done), by repeat (first | exact Drawn0.refl _ | apply Drawn0.step)⟩
                      rw [if_neg c13] at H; have c13b0 : decide ((rd l0 x3_1) ≤ (rd l0 (ji10))) = false := zGq c13; clear c13; have H' := zA H; clear H; have p103 : 0 ≤ (x3_1 : Int) := of_decide_eq_true qA; have q103 : x3_1 < (l0.length : Int) := of_decide_eq_true qA; obtain ⟨ad103, e103, hx103_0⟩ := Kd.at_int HR0.out x3_1 p103 q103; cases e103
                      replace p103 := eq_true p103; replace q103 := eq_true q103; have p104 : 0 ≤ ((ji10) : Int) := of_decide_eq_true qA; have q104 : (ji10) < (l0.length : Int) := of_decide_eq_true qA; obtain ⟨ad104, e104, hx104_0⟩ := Kd.at_int HR0.out (ji10) p104 q104; obtain rfl : ad103 = ad104 := (by injection e104)
                      replace p104 := eq_true p104; replace q104 := eq_true q104; go_wp2; repeat (go_quiet (fail); try go_wp2)
                      go_roundg kj2
                      case measure => have := HK1.out; have := HJ2.out; omega
                      case rel => exact ⟨(wrap64 (x3_1 + 1)), (by first | rfl | (simp; done) | (simp [*]; done)), H', ⟨by have := HK1.out; have := HJ2.out; omega⟩, by repeat (first | exact Drawn0.refl _ | apply Drawn0.step)⟩
                    rw [if_neg c12] at H; exact absurd H (by simp)
                  rw [if_neg c11] at H; exact absurd H (by simp)
                rw [if_neg c9] at H; exact absurd H (by simp)
              rw [if_neg c8] at H; exact absurd H (by simp)
            rw [if_neg c7] at H; have c7b0 : decide (0 < x3_1) = false := zGq c7; clear c7; have H' := zA H; clear H; go_wp2; repeat (go_quiet (fail); try go_wp2)
            go_roundg kj2
            case measure => have := HK1.out; have := HJ2.out; omega
            case rel => exact ⟨(wrap64 (x3_1 + 1)), (by first | rfl | (simp; done) | (simp [*]; done)), H', ⟨by have := HK1.out; have := HJ2.out; omega⟩, by repeat (first | exact Drawn0.refl _ | apply Drawn0.step)⟩
      rw [if_neg c2] at H; have c2b0 : decide (x3_1 < (l0.length : Int)) = false := zGq c2; clear c2; obtain rfl := zKq H; go_wp2; repeat (go_quiet (fail); try go_wp2)
      go_ret; exact ⟨by first | rfl | (simp; done) | (simp [*]; done), by repeat (first | exact Drawn0.refl _ | apply Drawn0.step)⟩
mutual
def backhaulref14_Pairs.j0 : Nat → List ByteArray → List (List Int) → Bool → Option ((List (S146)) × Bool)
  | 0, _, _, _ => none
  | k + 1, x0, x1, x18 => if x18 = true then (some (([] : List (S146)), false)) else (backhaulref14_Pairs.l0 k x0 x1 ([] : List (S146)) 0)
def backhaulref14_Pairs.l0 : Nat → List ByteArray → List (List Int) → List (S146) → Int → Option ((List (S146)) × Bool)
  | 0, _, _, _, _ => none
  | k + 1, x0, x1, x6, x7 => if x7 < (x0.length : Int) then (if 0 ≤ x7 then (if x7 < (x1.length : Int) then (if ((rd_L14 x1 x7).length : Int) = 0 then (backhaulref14_Pairs.j2 k x0 x1 x6 x7 true) else ((backhaulref13_Rising.f k (rd_L14 x1 x7)).bind fun t104 => (backhaulref14_Pairs.j2 k x0 x1 x6 x7 (t104 != 0)))) else (none)) else (none)) else (some (x6, decide ((x6.length : Int) ≤ 2000)))
def backhaulref14_Pairs.j2 : Nat → List ByteArray → List (List Int) → List (S146) → Int → Bool → Option ((List (S146)) × Bool)
  | 0, _, _, _, _, _ => none
  | k + 1, x0, x1, x6, x7, x38 => if x38 = true then (some (([] : List (S146)), false)) else (backhaulref14_Pairs.l1 k x0 x1 x6 x7 0)
def backhaulref14_Pairs.l1 : Nat → List ByteArray → List (List Int) → List (S146) → Int → Int → Option ((List (S146)) × Bool)
  | 0, _, _, _, _, _ => none
  | k + 1, x0, x1, x6, x7, x8 => if 0 ≤ x7 then (if x7 < (x1.length : Int) then (if x8 < ((rd_L14 x1 x7).length : Int) then (if x7 < (x0.length : Int) then (if 0 ≤ x8 then (if x6.length < 5864062014805 then (backhaulref14_Pairs.l1 k x0 x1 (x6 ++ [(⟨rdOf ByteArray.empty x0 x7, rd (rd_L14 x1 x7) x8⟩ : S146)]) x7 (wrap64 (x8 + 1))) else (none)) else (none)) else (none)) else (backhaulref14_Pairs.l0 k x0 x1 x6 (wrap64 (x7 + 1)))) else (none)) else (none)
end
def backhaulref14_Pairs.f (k : Nat) (l0 : List ByteArray) (l1 : List (List Int)) : Option ((List (S146)) × Bool) := (backhaulref01_Row.f k l0).bind fun t101 => (if t101 = 0 then (backhaulref14_Pairs.j0 k l0 l1 ((l0.length : Int) != (l1.length : Int))) else (backhaulref14_Pairs.j0 k l0 l1 true))
theorem backhaulref14_Pairs.mono_l : ∀ k, (∀ y0 y1 y2, LeO (backhaulref14_Pairs.j0 k y0 y1 y2) (backhaulref14_Pairs.j0 (k + 1) y0 y1 y2)) ∧ (∀ y0 y1 y2 y3, LeO (backhaulref14_Pairs.l0 k y0 y1 y2 y3) (backhaulref14_Pairs.l0 (k + 1) y0 y1 y2 y3)) ∧ (∀ y0 y1 y2 y3 y4, LeO (backhaulref14_Pairs.j2 k y0 y1 y2 y3 y4) (backhaulref14_Pairs.j2 (k + 1) y0 y1 y2 y3 y4)) ∧ (∀ y0 y1 y2 y3 y4, LeO (backhaulref14_Pairs.l1 k y0 y1 y2 y3 y4) (backhaulref14_Pairs.l1 (k + 1) y0 y1 y2 y3 y4))
  | 0 => ⟨fun _ _ _ r h => by simp [backhaulref14_Pairs.j0] at h, fun _ _ _ _ r h => by simp [backhaulref14_Pairs.l0] at h, fun _ _ _ _ _ r h => by simp [backhaulref14_Pairs.j2] at h, fun _ _ _ _ _ r h => by simp [backhaulref14_Pairs.l1] at h⟩
  | k + 1 => by
    obtain ⟨ih0, ih1, ih2, ih3⟩ := backhaulref14_Pairs.mono_l k
    refine ⟨?_, ?_, ?_, ?_⟩
    · intro y0 y1 y2
      unfold backhaulref14_Pairs.j0
      repeat' (with_reducible first | exact ih0 _ _ _ | exact ih1 _ _ _ _ | exact ih2 _ _ _ _ _ | exact ih3 _ _ _ _ _ | exact backhaulref01_Row.mono _ _ | exact backhaulref13_Rising.mono _ _ | exact LeO.refl _ | exact LeO.none _ | refine LeO.ite ?_ ?_ | refine LeO.bind ?_ (fun _ => ?_))
    · intro y0 y1 y2 y3
      unfold backhaulref14_Pairs.l0
      repeat' (with_reducible first | exact ih0 _ _ _ | exact ih1 _ _ _ _ | exact ih2 _ _ _ _ _ | exact ih3 _ _ _ _ _ | exact backhaulref01_Row.mono _ _ | exact backhaulref13_Rising.mono _ _ | exact LeO.refl _ | exact LeO.none _ | refine LeO.ite ?_ ?_ | refine LeO.bind ?_ (fun _ => ?_))
    · intro y0 y1 y2 y3 y4
      unfold backhaulref14_Pairs.j2
      repeat' (with_reducible first | exact ih0 _ _ _ | exact ih1 _ _ _ _ | exact ih2 _ _ _ _ _ | exact ih3 _ _ _ _ _ | exact backhaulref01_Row.mono _ _ | exact backhaulref13_Rising.mono _ _ | exact LeO.refl _ | exact LeO.none _ | refine LeO.ite ?_ ?_ | refine LeO.bind ?_ (fun _ => ?_))
    intro y0 y1 y2 y3 y4
    unfold backhaulref14_Pairs.l1
    repeat' (with_reducible first | exact ih0 _ _ _ | exact ih1 _ _ _ _ | exact ih2 _ _ _ _ _ | exact ih3 _ _ _ _ _ | exact backhaulref01_Row.mono _ _ | exact backhaulref13_Rising.mono _ _ | exact LeO.refl _ | exact LeO.none _ | refine LeO.ite ?_ ?_ | refine LeO.bind ?_ (fun _ => ?_))
theorem backhaulref14_Pairs.mono : ∀ a0 a1 k, LeO (backhaulref14_Pairs.f k a0 a1) (backhaulref14_Pairs.f (k + 1) a0 a1) := by
  intro a0 a1 k
  obtain ⟨ih0, ih1, ih2, ih3⟩ := backhaulref14_Pairs.mono_l k
  unfold backhaulref14_Pairs.f
  repeat' (with_reducible first | exact ih0 _ _ _ | exact ih1 _ _ _ _ | exact ih2 _ _ _ _ _ | exact ih3 _ _ _ _ _ | exact backhaulref01_Row.mono _ _ | exact backhaulref13_Rising.mono _ _ | exact LeO.refl _ | exact LeO.none _ | refine LeO.ite ?_ ?_ | refine LeO.bind ?_ (fun _ => ?_))
def backhaulref14_Pairs.T12 : Bool × List (List Nat × List Nat) := (true, [([], []), ([], []), ([], []), ([1, 2], [1, 2]), ([3], [3]), ([], []), ([], []), ([5, 6], [5, 6]), ([7], [7]), ([], []), ([8, 9], [8, 9]), ([10], [10]), ([4, 11], [4, 11]), ([12], [12]), ([0, 13], [0, 13]), ([14, 14, 0, 1, 2, 3, 4, 5, 6, 7, 8, 9, 10, 11, 12, 13, 14], [0, 14])])
def backhaulref14_Pairs.B12 : List Nat := [0, 0, 0, 6, 14, 0, 0, 96, 224, 0, 992, 2016, 4094, 8190, 16383, 32767]
theorem backhaulref14_Pairs.tab12 : rtab .any (opsOf Try.f27 12) = backhaulref14_Pairs.T12 := by kernel_rfl
theorem backhaulref14_Pairs.bits12 : waitsOk backhaulref14_Pairs.T12.2 backhaulref14_Pairs.B12 = true := by kernel_rfl
set_option maxHeartbeats 8000000 in
set_option maxRecDepth 100000 in
theorem backhaulref14_Pairs.calls (k : Nat) (A0 : Option Addr) (c0 : Nat) (l0 : List ByteArray) (A1 : Option Addr) (c1 : Nat) (l1 : List (List Int)) (r1 : List (S146)) (r2 : Bool) (w : World) (hr0 : Kd.C Kd.string w A0 l0.length l0) (hc0 : l0.length ≤ c0) (hr1 : Kd.C (Kd.slice 3 (Kd.int .i64)) w A1 l1.length l1) (hc1 : l1.length ≤ c1) (h : backhaulref14_Pairs.f k l0 l1 = some (r1, r2)) :
    Calls Try.prog 27 #[.slice A0 l0.length c0, .slice A1 l1.length c1] w fun e w' => ∃ v0_ : Value, e = .returned (.tuple #[v0_, .bool r2]) ∧ Kd.R k146 146 w' w.heap.size (fun _ => True) v0_ r1 ∧ Below w.heap.size w w' := by
  have hu146 := Try.underlying146
  have HR0 := zA hr0
  have HC0 := zA hc0
  clear hr0 hc0
  have HR1 := zA hr1
  have HC1 := zA hc1
  clear hr1 hc1
  have HB := zA (Below.refl w.heap.size w)
  have H : ((backhaulref01_Row.f k l0).bind fun t101 => (if t101 = 0 then (backhaulref14_Pairs.j0 k l0 l1 ((l0.length : Int) != (l1.length : Int))) else (backhaulref14_Pairs.j0 k l0 l1 true))) = some (r1, r2) := h
  clear h
  have HC3 := zA H
  clear H
  go_enter Try.func27, Try.ntmps27
  go_upto_region 1 with (fail)
  go_cut [18] (fun v18 wc => ∃ (kq : Nat) (x18_2 : Bool), v18 = .bool x18_2 ∧ Aside0 (backhaulref14_Pairs.j0 kq l0 l1 x18_2 = some (r1, r2)) ∧ Aside0 (kq ≤ k) ∧ Aside0 (Below w.heap.size w wc))
  case first =>
    have H := HC3.out; clear HC3; replace H := Option.bind_eq_some_iff.mp H; obtain ⟨t101, A40, H⟩ := H; try dsimp only at H
    have A4 := zA A40; clear A40; by_cases c5 : t101 = 0
    · rw [if_pos c5] at H
      have c5b0 : (t101 == 0) = true := beq_iff_eq.mpr c5; have c5b1 : (t101 != 0) = false := bne_eq_false_iff_eq.mpr c5; clear c5; (first | rw [c5b0] | (simp only [i64_w, i32_w]; rw [c5b0]) | skip)
      have H' := zA H; clear H; go_wp2_with (first | ((with_reducible refine zJq (f := 78) rfl ?_); refine goesL_ (some 10) rfl rfl Try.func78 (by kernel_rfl) rfl #[.slice A0 l0.length c0] rfl qG ?_; (with_reducible refine (backhaulref01_Row.calls k _ _ l0 t101 _ ?side1 ?side2 A4.out).mono ?_); (case side1 => exact qC (Kd.C_below HR0.out HB.out)); (case side2 => exact HC0.out); rintro e w6 ⟨rfl, hb⟩; refine ⟨_, rfl, ?_⟩; have n0_ := zA (zV qB hb); clear HB; have HB := n0_; clear n0_; (try clear hb))); go_meet
      case rel => exact ⟨_, (((l0.length : Int) != (l1.length : Int))), (by first | rfl | (simp; done) | (simp [*]; done)), H', ⟨by first | omega | exact Nat.le_refl _⟩, ⟨qB⟩⟩
    rw [if_neg c5] at H; have c5b0 : (t101 == 0) = false := beq_eq_false_iff_ne.mpr c5; have c5b1 : (t101 != 0) = true := bne_iff_ne.mpr c5; (first | rw [c5b0] | (simp only [i64_w, i32_w]; rw [c5b0]) | skip)
    have H' := zA H; clear H; go_wp2_with (first | ((with_reducible refine zJq (f := 78) rfl ?_); refine goesL_ (some 10) rfl rfl Try.func78 (by kernel_rfl) rfl #[.slice A0 l0.length c0] rfl qG ?_; (with_reducible refine (backhaulref01_Row.calls k _ _ l0 t101 _ ?side1 ?side2 A4.out).mono ?_); (case side1 => exact qC (Kd.C_below HR0.out HB.out)); (case side2 => exact HC0.out); rintro e w7 ⟨rfl, hb⟩; refine ⟨_, rfl, ?_⟩; have n0_ := zA (zV qB hb); clear HB; have HB := n0_; clear n0_; (try clear hb))); go_meet
    case rel => exact ⟨_, (true), (by first | rfl | (simp; done) | (simp [*]; done)), H', ⟨by first | omega | exact Nat.le_refl _⟩, ⟨qB⟩⟩
  case rest =>
    clear HC3; try clear c1
    try clear c2
    try clear p2
    try clear c5
    try clear c5b0
    try clear c5b1
    try clear c7
    obtain ⟨kq, x18_2, rfl, HA, HJ2, HB⟩ := hcut; cases kq with
    | zero => exact absurd HA.out (by simp [backhaulref14_Pairs.j0])
    | succ kj2 =>
      have H := HA.out; clear HA; simp only [backhaulref14_Pairs.j0] at H; by_cases c8 : x18_2 = true
      · subst c8
        have H1 : (some (([] : List (S146)), false)) = some (r1, r2) := by first | (rw [if_pos rfl] at H; exact H) | rfl
        clear H; have H := H1; clear H1; simp only [zNq, zOq] at H; obtain ⟨rfl, rfl⟩ := H; go_wp2; go_ret2; exact ⟨_, qE, qN, qB⟩
      replace c8 := Bool.eq_false_iff.mpr c8; subst c8; have H1 : (backhaulref14_Pairs.l0 kj2 l0 l1 ([] : List (S146)) 0) = some (r1, r2) := by first | (rw [if_neg (show ¬ (false = true) by decide)] at H; exact H) | rfl
      clear H; have H := H1; clear H1; have H' := zA H; clear H; go_wp2; go_loopg [6, 7] kj2 (fun kq v6 v7 w' => ∃ (x6_2 : List (S146)) (x7_2 : Int), v7 = .int .i64 x7_2 ∧ Aside0 (backhaulref14_Pairs.l0 kq l0 l1 x6_2 x7_2 = some (r1, r2)) ∧ Aside0 (kq ≤ kj2) ∧ Aside0 (Kd.R k146 146 w' w.heap.size (fun _ => True) v6 x6_2) ∧ Aside0 (Below w.heap.size w w'))
      case atStart => exact ⟨(([] : List (S146))), (0), (by first | rfl | (simp; done) | (simp [*]; done)), H', ⟨Nat.le_refl _⟩, ⟨qN⟩, ⟨qB⟩⟩
      case round =>
        clear H'; try clear c1
        try clear c2
        try clear p2
        try clear c5
        try clear c5b0
        try clear c5b1
        try clear c7
        try clear c8
        try clear p2
        obtain ⟨x6_2, x7_2, rfl, HA, HK2, HO_6, HB⟩ := hrel; cases gk with
        | zero => exact absurd HA.out (by simp [backhaulref14_Pairs.l0])
        | succ k2 =>
          have H := HA.out; clear HA; simp only [backhaulref14_Pairs.l0] at H; by_cases c9 : x7_2 < (l0.length : Int)
          · rw [if_pos c9] at H
            have c9b0 : decide (x7_2 < (l0.length : Int)) = true := zFq c9; clear c9; have HC10 := zA H; clear H; go_upto_region 7 with (fail)
            go_cut [38] (fun v38 wc => ∃ (kq : Nat) (x38_9 : Bool), v38 = .bool x38_9 ∧ Aside0 (backhaulref14_Pairs.j2 kq l0 l1 x6_2 x7_2 x38_9 = some (r1, r2)) ∧ Aside0 (kq ≤ k2) ∧ Aside0 (Kd.R k146 146 wc w.heap.size (fun _ => True) u6 x6_2) ∧ Aside0 (Below w.heap.size w wc))
            case first =>
              have H := HC10.out; clear HC10; by_cases c11 : 0 ≤ x7_2
              · rw [if_pos c11] at H
                have c11b0 : decide (0 ≤ x7_2) = true := zFq c11; clear c11; (first | rw [c11b0] | (simp only [i64_w, i32_w]; rw [c11b0]) | skip)
                by_cases c12 : x7_2 < (l1.length : Int)
                · rw [if_pos c12] at H
                  have c12b0 : decide (x7_2 < (l1.length : Int)) = true := zFq c12; clear c12; by_cases c13 : ((rd_L14 l1 x7_2).length : Int) = 0
                  · rw [if_pos c13] at H
                    have c13b0 : (((rd_L14 l1 x7_2).length : Int) == 0) = true := beq_iff_eq.mpr c13; have c13b1 : (((rd_L14 l1 x7_2).length : Int) != 0) = false := bne_eq_false_iff_eq.mpr c13; clear c13; have H' := zA H; clear H; have p102 : 0 ≤ (x7_2 : Int) := of_decide_eq_true qA; have q102 : x7_2 < (l1.length : Int) := of_decide_eq_true qA; obtain ⟨ad102, A102_0, c102_0, e102, hx102_0, hl102_0, hi102_0⟩ := at_L14 HR1.out x7_2 p102 q102; cases e102
                    replace hx102_0 := (HB.out.cell (zCq w _ hx102_0)).trans hx102_0; have HR102_0 := zA hi102_0; have HC102_0 := zA hl102_0; clear hi102_0 hl102_0; replace p102 := eq_true p102; replace q102 := eq_true q102; go_wp2; go_meet
                    case rel => exact ⟨_, (true), (by first | rfl | (simp; done) | (simp [*]; done)), H', ⟨by have := HJ2.out; have := HK2.out; first | omega | exact Nat.le_refl _⟩, ⟨by (with_reducible repeat (first | apply Kd.R_alloc | apply Kd.R_drewN | apply Kd.R_drew)); exact HO_6.out⟩, ⟨qB⟩⟩
                  rw [if_neg c13] at H; have c13b0 : (((rd_L14 l1 x7_2).length : Int) == 0) = false := beq_eq_false_iff_ne.mpr c13; have c13b1 : (((rd_L14 l1 x7_2).length : Int) != 0) = true := bne_iff_ne.mpr c13; have c13b2 : ¬ ((rd_L14 l1 x7_2) = []) := fun h_ => c13 (by rw [h_]; rfl)
                  replace H := Option.bind_eq_some_iff.mp H; obtain ⟨t104, A140, H⟩ := H; try dsimp only at H
                  have A14 := zA A140; clear A140; have H' := zA H; clear H; have p102 : 0 ≤ (x7_2 : Int) := of_decide_eq_true qA; have q102 : x7_2 < (l1.length : Int) := of_decide_eq_true qA; obtain ⟨ad102, A102_0, c102_0, e102, hx102_0, hl102_0, hi102_0⟩ := at_L14 HR1.out x7_2 p102 q102; cases e102
                  replace hx102_0 := (HB.out.cell (zCq w _ hx102_0)).trans hx102_0; have HR102_0 := zA hi102_0; have HC102_0 := zA hl102_0; clear hi102_0 hl102_0; replace p102 := eq_true p102; replace q102 := eq_true q102; have p103 : 0 ≤ (x7_2 : Int) := of_decide_eq_true qA; have q103 : x7_2 < (l1.length : Int) := of_decide_eq_true qA; obtain ⟨ad103, A103_0, c103_0, e103, hx103_0, hl103_0, hi103_0⟩ := at_L14 HR1.out x7_2 p103 q103; obtain rfl : ad102 = ad103 := (by injection e103)
                  replace hx103_0 := (HB.out.cell (zCq w _ hx103_0)).trans hx103_0; have HR103_0 := zA hi103_0; have HC103_0 := zA hl103_0; clear hi103_0 hl103_0; replace p103 := eq_true p103; replace q103 := eq_true q103; have ea_ := zKq (hx102_0.symm.trans hx103_0); injection ea_ with ea_ en_ ec_
                  subst ea_; subst ec_; clear en_; go_wp2_with (first | (go_at_call 79; (with_reducible refine (backhaulref13_Rising.calls k2 _ _ (rd_L14 l1 x7_2) t104 _ ?side1 ?side2 A14.out).mono ?_); (case side1 => exact qC (Kd.C_below HR103_0.out HB.out)); (case side2 => exact HC103_0.out); rintro e w' ⟨rfl, ⟨nd, rfl⟩⟩)); go_meet
                  case rel => exact ⟨_, ((t104 != 0)), (by first | rfl | (simp; done) | (simp [*]; done)), H', ⟨by have := HJ2.out; have := HK2.out; first | omega | exact Nat.le_refl _⟩, ⟨by (with_reducible repeat (first | apply Kd.R_alloc | apply Kd.R_drewN | apply Kd.R_drew)); exact HO_6.out⟩, ⟨qB⟩⟩
                rw [if_neg c12] at H; exact absurd H (by simp)
              rw [if_neg c11] at H; exact absurd H (by simp)
            case rest =>
              clear HC10; try clear c1
              try clear p1
              try clear q1
              try clear hx1
              try clear c2
              try clear p2
              try clear c5
              try clear c5b0
              try clear c5b1
              try clear c7
              try clear c8
              try clear c9
              try clear c9b0
              try clear c10
              try clear p10
              try clear q10
              try clear hx10
              try clear c11
              try clear c11b0
              try clear c12
              try clear c12b0
              try clear c13
              try clear c13b0
              try clear c13b1
              try clear c13b2
              try clear hx102_0
              try clear hx103_0
              try clear p102
              try clear p103
              try clear p2
              try clear q102
              try clear q103
              obtain ⟨kq, x38_9, rfl, HA, HJ9, HO_6, HB⟩ := hcut; cases kq with
              | zero => exact absurd HA.out (by simp [backhaulref14_Pairs.j2])
              | succ kj9 =>
                have H := HA.out; clear HA; simp only [backhaulref14_Pairs.j2] at H; by_cases c15 : x38_9 = true
                · subst c15
                  have H1 : (some (([] : List (S146)), false)) = some (r1, r2) := by first | (rw [if_pos rfl] at H; exact H) | rfl
                  clear H; have H := H1; clear H1; simp only [zNq, zOq] at H; obtain ⟨rfl, rfl⟩ := H; go_wp2; go_ret2; exact ⟨_, qE, qN, qB⟩
                replace c15 := Bool.eq_false_iff.mpr c15; subst c15; have H1 : (backhaulref14_Pairs.l1 kj9 l0 l1 x6_2 x7_2 0) = some (r1, r2) := by first | (rw [if_neg (show ¬ (false = true) by decide)] at H; exact H) | rfl
                clear H; have H := H1; clear H1; have H' := zA H; clear H; go_wp2; go_loopg [6, 8] kj9 (fun kq v6 v8 w' => ∃ (x6_4 : List (S146)) (x8_4 : Int), v8 = .int .i64 x8_4 ∧ Aside0 (backhaulref14_Pairs.l1 kq l0 l1 x6_4 x7_2 x8_4 = some (r1, r2)) ∧ Aside0 (kq ≤ kj9) ∧ Aside0 (Kd.R k146 146 w' w.heap.size (fun _ => True) v6 x6_4) ∧ Aside0 (Below w.heap.size w w'))
                case atStart => exact ⟨(x6_2), (0), (by first | rfl | (simp; done) | (simp [*]; done)), H', ⟨Nat.le_refl _⟩, ⟨by (with_reducible repeat (first | apply Kd.R_alloc | apply Kd.R_drewN | apply Kd.R_drew)); exact HO_6.out⟩, ⟨qB⟩⟩
                case round =>
                  clear H'; try clear c1
                  try clear p1
                  try clear q1
                  try clear hx1
                  try clear c2
                  try clear p2
                  try clear c5
                  try clear c5b0
                  try clear c5b1
                  try clear c7
                  try clear c8
                  try clear c9
                  try clear c9b0
                  try clear c10
                  try clear p10
                  try clear q10
                  try clear hx10
                  try clear c11
                  try clear c11b0
                  try clear c12
                  try clear c12b0
                  try clear c13
                  try clear c13b0
                  try clear c13b1
                  try clear c13b2
                  try clear c15
                  try clear hx102_0
                  try clear hx103_0
                  try clear p1
                  try clear p10
                  try clear p102
                  try clear p103
                  try clear p2
                  try clear q1
                  try clear q10
                  try clear q102
                  try clear q103
                  obtain ⟨x6_4, x8_4, rfl, HA, HK4, HO_6, HB⟩ := hrel; cases gk with
                  | zero => exact absurd HA.out (by simp [backhaulref14_Pairs.l1])
                  | succ k4 =>
                    have H := HA.out; clear HA; simp only [backhaulref14_Pairs.l1] at H; by_cases c16 : 0 ≤ x7_2
                    · rw [if_pos c16] at H
                      have c16b0 : decide (0 ≤ x7_2) = true := zFq c16; clear c16; by_cases c17 : x7_2 < (l1.length : Int)
                      · rw [if_pos c17] at H
                        have c17b0 : decide (x7_2 < (l1.length : Int)) = true := zFq c17; clear c17; by_cases c18 : x8_4 < ((rd_L14 l1 x7_2).length : Int)
                        · rw [if_pos c18] at H
                          have c18b0 : decide (x8_4 < ((rd_L14 l1 x7_2).length : Int)) = true := zFq c18; clear c18; by_cases c19 : x7_2 < (l0.length : Int)
                          · rw [if_pos c19] at H
                            have c19b0 : decide (x7_2 < (l0.length : Int)) = true := zFq c19; clear c19; by_cases c20 : 0 ≤ x8_4
                            · rw [if_pos c20] at H
                              have c20b0 : decide (0 ≤ x8_4) = true := zFq c20; clear c20; by_cases c21 : x6_4.length < 5864062014805
                              · rw [if_pos c21] at H
                                have LMc21 := zA c21; clear c21; obtain ⟨y109, hy109⟩ : ∃ y_ : List (S146), y_ = (x6_4 ++ [(⟨rdOf ByteArray.empty l0 x7_2, rd (rd_L14 l1 x7_2) x8_4⟩ : S146)]) := ⟨_, rfl⟩
                                replace H : (backhaulref14_Pairs.l1 k4 l0 l1 y109 x7_2 (wrap64 (x8_4 + 1))) = some (r1, r2) := by first | (rw [hy109]; with_reducible exact H) | (have H2_ := (Option.bind_some _ _).symm.trans H; rw [hy109]; with_reducible exact H2_) | (have H2_ := (Option.bind_some _ _).symm.trans H; with_reducible exact H2_) | with_reducible exact H | (rw [hy109]; exact H) | exact H
                                have Ny109 := zA hy109; clear hy109; have H' := zA H; clear H; have p105 : 0 ≤ (x7_2 : Int) := of_decide_eq_true qA; have q105 : x7_2 < (l1.length : Int) := of_decide_eq_true qA; obtain ⟨ad105, A105_0, c105_0, e105, hx105_0, hl105_0, hi105_0⟩ := at_L14 HR1.out x7_2 p105 q105; cases e105
                                replace hx105_0 := (HB.out.cell (zCq w _ hx105_0)).trans hx105_0; have HR105_0 := zA hi105_0; have HC105_0 := zA hl105_0; clear hi105_0 hl105_0; replace p105 := eq_true p105; replace q105 := eq_true q105; try go_wp2
                                have n0_ := zA (Kd.R_drew HO_6.out); have n1_ := zA (zC HB.out); clear HO_6; clear HB; have HO_6 := n0_; have HB := n1_; clear n0_ n1_; have p106 : 0 ≤ (x7_2 : Int) := of_decide_eq_true qA; have q106 : x7_2 < (l0.length : Int) := of_decide_eq_true qA; obtain ⟨ad106, e106, hx106_0⟩ := Kd.at_string HR0.out x7_2 p106 q106; have hw106_0 := hx106_0; cases e106
                                replace hx106_0 := (HB.out.cell (zCq w _ hx106_0)).trans hx106_0; replace p106 := eq_true p106; replace q106 := eq_true q106; have p107 : 0 ≤ (x7_2 : Int) := of_decide_eq_true qA; have q107 : x7_2 < (l1.length : Int) := of_decide_eq_true qA; obtain ⟨ad107, A107_0, c107_0, e107, hx107_0, hl107_0, hi107_0⟩ := at_L14 HR1.out x7_2 p107 q107; have hw107_0 := hx107_0; obtain rfl : ad105 = ad107 := (by injection e107)
                                replace hx107_0 := (HB.out.cell (zCq w _ hx107_0)).trans hx107_0; have HR107_0 := zA hi107_0; have HC107_0 := zA hl107_0; clear hi107_0 hl107_0; replace p107 := eq_true p107; replace q107 := eq_true q107; have p108 : 0 ≤ (x8_4 : Int) := of_decide_eq_true qA; have q108 : x8_4 < ((rd_L14 l1 x7_2).length : Int) := of_decide_eq_true qA; obtain ⟨ad108, e108, hx108_0⟩ := Kd.at_int HR107_0.out x8_4 p108 q108; have hw108_0 := hx108_0; cases e108
                                replace hx108_0 := (HB.out.cell (zCq w _ hx108_0)).trans hx108_0; replace p108 := eq_true p108; replace q108 := eq_true q108; refine start_ (n := 16) (S := fun w' => w'.cell? (ad106.add (x7_2).toNat) = some (.string (rdOf ByteArray.empty l0 x7_2)) ∧ w'.cell? (ad105.add (x7_2).toNat) = some (.slice (some ad108) (rd_L14 l1 x7_2).length c107_0) ∧ w'.cell? (ad108.add (x8_4).toNat) = some (.int .i64 (rd (rd_L14 l1 x7_2) x8_4))) (ds := []) #[o0, o0, o0, o0, o0, o0, o0, o0, o0, o0, o0, o0, o0, o0, o0, o0] (by kernel_rfl) rfl rfl ⟨((HB.out.cell (zCq w _ hw106_0)).trans hw106_0), ((HB.out.cell (zCq w _ hw107_0)).trans hw107_0), ((HB.out.cell (zCq w _ hw108_0)).trans hw108_0)⟩ (fun hHeld => ?_); refine with_tabW backhaulref14_Pairs.tab12 backhaulref14_Pairs.bits12 (fun HT_ HW_ => ?_); generalize wr.drew = w22 at HO_6 HB HR107_0 hx106_0 hx107_0 hx108_0 hHeld ⊢; refine pure_ (i := 0) (N := some 48) #[o1, o0, o0, o0, o0, o0, o0, o0, o0, o0, o0, o0, o0, o0, o0, o0] rfl rfl (any_of HT_.out (by kernel_rfl)) (fun _ _ _ h => h) (Or.inl ⟨by rfl, qy⟩) qz ?_; refine pure_ (i := 1) (N := some 49) #[o1, o1, o0, o0, o0, o0, o0, o0, o0, o0, o0, o0, o0, o0, o0, o0] rfl rfl (any_of HT_.out (by kernel_rfl)) (fun _ _ _ h => h) (Or.inl ⟨by rfl, qy⟩) qz ?_; refine pure_ (i := 2) (N := some 50) #[o1, o1, o1, o0, o0, o0, o0, o0, o0, o0, o0, o0, o0, o0, o0, o0] rfl rfl (any_of HT_.out (by kernel_rfl)) (fun _ _ _ h => h) (Or.inl ⟨by rfl, qy⟩) qz ?_; refine pure_ (i := 3) (N := some 51) #[o1, o1, o1, o1, o0, o0, o0, o0, o0, o0, o0, o0, o0, o0, o0, o0] rfl rfl (any_of HT_.out (by kernel_rfl)) (fun _ _ _ h => h) (Or.inl ⟨by rfl, qy⟩) qz ?_; refine pure_ (i := 5) (N := some 53) #[o1, o1, o1, o1, o0, o1, o0, o0, o0, o0, o0, o0, o0, o0, o0, o0] rfl rfl (any_of HT_.out (by kernel_rfl)) (fun _ _ _ h => h) (Or.inl ⟨by rfl, qy⟩) qz ?_; refine pure_ (i := 6) (N := some 54) #[o1, o1, o1, o1, o0, o1, o1, o0, o0, o0, o0, o0, o0, o0, o0, o0] rfl rfl (any_of HT_.out (by kernel_rfl)) (fun _ _ _ h => h) (Or.inl ⟨by rfl, qy⟩) qz ?_; refine pure_ (i := 7) (N := some 55) #[o1, o1, o1, o1, o0, o1, o1, o1, o0, o0, o0, o0, o0, o0, o0, o0] rfl rfl (any_of HT_.out (by kernel_rfl)) (fun _ _ _ h => h) (Or.inl ⟨by rfl, qy⟩) qz ?_; refine pure_ (i := 9) (N := some 57) #[o1, o1, o1, o1, o0, o1, o1, o1, o0, o1, o0, o0, o0, o0, o0, o0] rfl rfl (any_of HT_.out (by kernel_rfl)) (fun _ _ _ h => h) (Or.inl ⟨by rfl, qy⟩) qz ?_; refine take_ (i := 4) (N := some 52) (v := ?_) (a' := ?_) #[o1, o1, o1, o1, o1, o1, o1, o1, o0, o1, o0, o0, o0, o0, o0, o0] rfl rfl (take_ofW HT_.out HW_.out (by kernel_rfl)) (fun _ _ _ h => h) (Or.inl ⟨by rfl, ?_⟩) hHeld ?_ ?_
                                rotate_left
                                · rintro w' ⟨s0, s1, s2⟩
                                  go_simp; with_reducible rfl
                                rotate_left
                                · simp only [Act.put, zH, zI, zJ, i64_w, i32_w]
                                  rfl
                                refine take_ (i := 8) (N := some 56) (v := ?_) (a' := ?_) #[o1, o1, o1, o1, o1, o1, o1, o1, o1, o1, o0, o0, o0, o0, o0, o0] rfl rfl (take_ofW HT_.out HW_.out (by kernel_rfl)) (fun _ _ _ h => h) (Or.inl ⟨by rfl, ?_⟩) hHeld ?_ ?_; rotate_left
                                · rintro w' ⟨s0, s1, s2⟩
                                  go_simp; with_reducible rfl
                                rotate_left
                                · simp only [Act.put, zH, zI, zJ, i64_w, i32_w]
                                  rfl
                                refine pure_ (i := 10) (N := some 58) #[o1, o1, o1, o1, o1, o1, o1, o1, o1, o1, o1, o0, o0, o0, o0, o0] rfl rfl (any_of HT_.out (by kernel_rfl)) (fun _ _ _ h => h) (Or.inl ⟨by rfl, qy⟩) qz ?_; refine take_ (i := 11) (N := some 59) (v := ?_) (a' := ?_) #[o1, o1, o1, o1, o1, o1, o1, o1, o1, o1, o1, o1, o0, o0, o0, o0] rfl rfl (take_ofW HT_.out HW_.out (by kernel_rfl)) (fun _ _ _ h => h) (Or.inl ⟨by rfl, ?_⟩) hHeld ?_ ?_; rotate_left
                                · rintro w' ⟨s0, s1, s2⟩
                                  go_simp; with_reducible rfl
                                rotate_left
                                · simp only [Act.put, zH, zI, zJ, i64_w, i32_w]
                                  rfl
                                refine pure_ (i := 12) (N := some 60) #[o1, o1, o1, o1, o1, o1, o1, o1, o1, o1, o1, o1, o1, o0, o0, o0] rfl rfl (any_of HT_.out (by kernel_rfl)) (fun _ _ _ h => h) (Or.inl ⟨by rfl, qy⟩) qz ?_; refine one_ (i := 13) (N := some 61) #[o1, o1, o1, o1, o1, o1, o1, o1, o1, o1, o1, o1, o1, o1, o0, o0] rfl rfl (one_of HT_.out (by kernel_rfl)) (by decide) (fun K hK => ?_); refine value_ (w1 := ?_) (v := ?_) (by rfl) rfl ?_ ?_; rotate_left 2
                                · go_simp
                                  constructor
                                  · rfl
                                  rfl
                                refine hK.out _ _ ⟨(World.cell?_alloc_lt _ _ _ (zCq _ _ (((HB.out.cell (zCq w _ hw106_0)).trans hw106_0)))).trans (((HB.out.cell (zCq w _ hw106_0)).trans hw106_0)), (World.cell?_alloc_lt _ _ _ (zCq _ _ (((HB.out.cell (zCq w _ hw107_0)).trans hw107_0)))).trans (((HB.out.cell (zCq w _ hw107_0)).trans hw107_0)), (World.cell?_alloc_lt _ _ _ (zCq _ _ (((HB.out.cell (zCq w _ hw108_0)).trans hw108_0)))).trans (((HB.out.cell (zCq w _ hw108_0)).trans hw108_0))⟩ (fun hHeld => ?_); clear hK K; refine norm_ (a' := ?_) ?_ ?_; rotate_left
                                · show Act.put _ (some 61) _ = _
                                  simp only [Act.put, zH, zI, zJ, i64_w, i32_w]; rfl
                                refine one_ (i := 14) (N := some 62) #[o1, o1, o1, o1, o1, o1, o1, o1, o1, o1, o1, o1, o1, o1, o1, o0] rfl rfl (one_of HT_.out (by kernel_rfl)) (by decide) (fun K hK => ?_); refine Kd.R_append_step k146 (w0 := w) w.heap.size (by rfl) (.tmp 48) (.tmp 61) 53 146 (.agg #[(.string ⟨#[]⟩), (.int .i64 0)]) 24 rfl Try.underlying53 info146 rfl (by decide) (by omega) u6 x6_4 (⟨rdOf ByteArray.empty l0 x7_2, rd (rd_L14 l1 x7_2) x8_4⟩ : S146) [.string (rdOf ByteArray.empty l0 x7_2), .int .i64 (rd (rd_L14 l1 x7_2) x8_4)] (fun _ => True) (fun _ => False) rfl rfl ?aP (fun _ hk => hk.elim) ?aF ?aO ?aB ?aS ?aL ?_; (case aP => exact k146_mkM _ _ _ (⟨rdOf ByteArray.empty l0 x7_2, rd (rd_L14 l1 x7_2) x8_4⟩ : S146))
                                (case aB => exact qB)
                                (case aF => exact (fun _ _ => trivial))
                                (case aO => exact (by (with_reducible repeat (first | apply Kd.R_alloc | apply Kd.R_drewN | apply Kd.R_drew)); exact HO_6.out))
                                (case aS => exact (zW qB))
                                (case aL => have := LMc21.out; omega)
                                intro v110 w23 ho hb hg hat; rw [← Ny109.out] at ho; have n0_ := zA (hb); have n1_ := zA (ho); clear HB; clear HO_6; have HB := n0_; have HO111 := n1_; clear n0_ n1_; clear ho hb hg hat; refine hK.out _ _ ⟨((HB.out.cell (zCq w _ hw106_0)).trans hw106_0), ((HB.out.cell (zCq w _ hw107_0)).trans hw107_0), ((HB.out.cell (zCq w _ hw108_0)).trans hw108_0)⟩ (fun hHeld => ?_); clear hK K; refine norm_ (a' := ?_) ?_ ?_; rotate_left
                                · show Act.put _ (some 62) _ = _
                                  simp only [Act.put, zH, zI, zJ, i64_w, i32_w]; rfl
                                refine pure_ (i := 15) (N := some 6) #[o1, o1, o1, o1, o1, o1, o1, o1, o1, o1, o1, o1, o1, o1, o1, o1] rfl rfl (any_of HT_.out (by kernel_rfl)) (fun _ _ _ h => h) (Or.inl ⟨by rfl, qy⟩) qz ?_; refine done_ (done_of HT_.out (by kernel_rfl)) ?_; try go_wp2
                                go_roundg k4
                                case measure => have := HJ2.out; have := HK2.out; have := HJ9.out; have := HK4.out; omega
                                case rel => exact ⟨(y109), (wrap64 (x8_4 + 1)), (by first | rfl | (simp; done) | (simp [*]; done)), H', ⟨by have := HJ2.out; have := HK2.out; have := HJ9.out; have := HK4.out; omega⟩, ⟨by (with_reducible repeat (first | apply Kd.R_alloc | apply Kd.R_drewN | apply Kd.R_drew)); exact HO111.out⟩, ⟨qB⟩⟩
                              rw [if_neg c21] at H; exact absurd H (by simp)
                            rw [if_neg c20] at H; exact absurd H (by simp)
                          rw [if_neg c19] at H; exact absurd H (by simp)
                        rw [if_neg c18] at H; have c18b0 : decide (x8_4 < ((rd_L14 l1 x7_2).length : Int)) = false := zGq c18; clear c18; have H' := zA H; clear H; have p105 : 0 ≤ (x7_2 : Int) := of_decide_eq_true qA; have q105 : x7_2 < (l1.length : Int) := of_decide_eq_true qA; obtain ⟨ad105, A105_0, c105_0, e105, hx105_0, hl105_0, hi105_0⟩ := at_L14 HR1.out x7_2 p105 q105; cases e105
                        replace hx105_0 := (HB.out.cell (zCq w _ hx105_0)).trans hx105_0; have HR105_0 := zA hi105_0; have HC105_0 := zA hl105_0; clear hi105_0 hl105_0; replace p105 := eq_true p105; replace q105 := eq_true q105; go_wp2; go_roundg k4
                        case measure => have := HJ2.out; have := HK2.out; have := HJ9.out; have := HK4.out; omega
                        case rel => exact ⟨(x6_4), (wrap64 (x7_2 + 1)), (by first | rfl | (simp; done) | (simp [*]; done)), H', ⟨by have := HJ2.out; have := HK2.out; have := HJ9.out; have := HK4.out; omega⟩, ⟨by (with_reducible repeat (first | apply Kd.R_alloc | apply Kd.R_drewN | apply Kd.R_drew)); exact HO_6.out⟩, ⟨qB⟩⟩
                      rw [if_neg c17] at H; exact absurd H (by simp)
                    rw [if_neg c16] at H; exact absurd H (by simp)
          rw [if_neg c9] at H; have c9b0 : decide (x7_2 < (l0.length : Int)) = false := zGq c9; clear c9; simp only [zNq, zOq] at H; obtain ⟨rfl, rfl⟩ := H; obtain ⟨Ao24, co24, eo24⟩ := Kd.R_slice HO_6.out; subst eo24; go_wp2; go_ret2; exact ⟨_, qE, by (with_reducible repeat (first | apply Kd.R_alloc | apply Kd.R_drewN | apply Kd.R_drew)); exact HO_6.out, qB⟩
def backhaulref14_Of.l0 : Nat → List (S146) → ByteArray → List Int → Int → Option (List Int)
  | 0, _, _, _, _ => none
  | k + 1, x0, x1, x5, x6 => if x6 < (x0.length : Int) then (if 0 ≤ x6 then (if ((rd_T146 x0 x6).f0).toList = x1.toList then (if x5.length < 17592186044416 then (backhaulref14_Of.l0 k x0 x1 (x5 ++ [(rd_T146 x0 x6).f1]) (wrap64 (x6 + 1))) else (none)) else (backhaulref14_Of.l0 k x0 x1 x5 (wrap64 (x6 + 1)))) else (none)) else (some x5)
def backhaulref14_Of.f (k : Nat) (l0 : List (S146)) (a1 : ByteArray) : Option (List Int) := backhaulref14_Of.l0 k l0 a1 ([] : List Int) 0
theorem backhaulref14_Of.mono_l : ∀ k, (∀ y0 y1 y2 y3, LeO (backhaulref14_Of.l0 k y0 y1 y2 y3) (backhaulref14_Of.l0 (k + 1) y0 y1 y2 y3))
  | 0 => fun _ _ _ _ r h => by simp [backhaulref14_Of.l0] at h
  | k + 1 => by
    have ih0 := backhaulref14_Of.mono_l k
    intro y0 y1 y2 y3
    unfold backhaulref14_Of.l0
    repeat' (with_reducible first | exact ih0 _ _ _ _ | exact LeO.refl _ | exact LeO.none _ | refine LeO.ite ?_ ?_ | refine LeO.bind ?_ (fun _ => ?_))
theorem backhaulref14_Of.mono : ∀ a0 a1 k, LeO (backhaulref14_Of.f k a0 a1) (backhaulref14_Of.f (k + 1) a0 a1) := by
  intro a0 a1 k
  have ih0 := backhaulref14_Of.mono_l k
  unfold backhaulref14_Of.f
  repeat' (with_reducible first | exact ih0 _ _ _ _ | exact LeO.refl _ | exact LeO.none _ | refine LeO.ite ?_ ?_ | refine LeO.bind ?_ (fun _ => ?_))
set_option maxHeartbeats 8000000 in
set_option maxRecDepth 100000 in
theorem backhaulref14_Of.calls (k : Nat) (A0 : Option Addr) (c0 : Nat) (l0 : List (S146)) (a1 : ByteArray) (r : List Int) (w : World) (hr0 : Kd.C k146 w A0 l0.length l0) (hc0 : l0.length ≤ c0) (h : backhaulref14_Of.f k l0 a1 = some r) :
    Calls Try.prog 33 #[.slice A0 l0.length c0, .string a1] w fun e w' => ∃ v0_ : Value, e = .returned (v0_) ∧ Kd.R (Kd.int .i64) 3 w' w.heap.size (fun _ => True) v0_ r ∧ Below w.heap.size w w' := by
  have HR0 := zA hr0
  have HC0 := zA hc0
  clear hr0 hc0
  have HB := zA (Below.refl w.heap.size w)
  have H : (backhaulref14_Of.l0 k l0 a1 ([] : List Int) 0) = some r := h
  clear h
  have H' := zA H
  clear H
  go_enter Try.func33, Try.ntmps33
  go_wp2
  go_loopg [5, 6] k (fun kq v5 v6 w' => ∃ (x5_1 : List Int) (x6_1 : Int), v6 = .int .i64 x6_1 ∧ Aside0 (backhaulref14_Of.l0 kq l0 a1 x5_1 x6_1 = some r) ∧ Aside0 (kq ≤ k) ∧ Aside0 (Kd.R (Kd.int .i64) 3 w' w.heap.size (fun _ => True) v5 x5_1) ∧ Aside0 (Below w.heap.size w w'))
  case atStart => exact ⟨(([] : List Int)), (0), (by first | rfl | (simp; done) | (simp [*]; done)), H', ⟨Nat.le_refl _⟩, ⟨qN⟩, ⟨qB⟩⟩
  case round =>
    clear H'; try clear p2
    obtain ⟨x5_1, x6_1, rfl, HA, HK1, HO_5, HB⟩ := hrel; cases gk with
    | zero => exact absurd HA.out (by simp [backhaulref14_Of.l0])
    | succ k1 =>
      have H := HA.out; clear HA; simp only [backhaulref14_Of.l0] at H; by_cases c3 : x6_1 < (l0.length : Int)
      · rw [if_pos c3] at H
        have c3b0 : decide (x6_1 < (l0.length : Int)) = true := zFq c3; clear c3; by_cases c4 : 0 ≤ x6_1
        · rw [if_pos c4] at H
          have c4b0 : decide (0 ≤ x6_1) = true := zFq c4; clear c4; by_cases c5 : ((rd_T146 l0 x6_1).f0).toList = a1.toList
          · rw [if_pos c5] at H
            have c5b0 : (((rd_T146 l0 x6_1).f0).toList == a1.toList) = true := beq_iff_eq.mpr c5; have c5b1 : (((rd_T146 l0 x6_1).f0).toList != a1.toList) = false := bne_eq_false_iff_eq.mpr c5; clear c5; by_cases c6 : x5_1.length < 17592186044416
            · rw [if_pos c6] at H
              have LMc6 := zA c6; clear c6; obtain ⟨y103, hy103⟩ : ∃ y_ : List Int, y_ = (x5_1 ++ [(rd_T146 l0 x6_1).f1]) := ⟨_, rfl⟩
              replace H : (backhaulref14_Of.l0 k1 l0 a1 y103 (wrap64 (x6_1 + 1))) = some r := by first | (rw [hy103]; with_reducible exact H) | (have H2_ := (Option.bind_some _ _).symm.trans H; rw [hy103]; with_reducible exact H2_) | (have H2_ := (Option.bind_some _ _).symm.trans H; with_reducible exact H2_) | with_reducible exact H | (rw [hy103]; exact H) | exact H
              have Ny103 := zA hy103; clear hy103; have H' := zA H; clear H; have p101 : 0 ≤ (x6_1 : Int) := of_decide_eq_true qA; have q101 : x6_1 < (l0.length : Int) := of_decide_eq_true qA; obtain ⟨ad101, e101, hx101_0, hx101_1⟩ := at_T146 HR0.out x6_1 p101 q101; cases e101
              replace hx101_0 := (HB.out.cell (zCq w _ hx101_0)).trans hx101_0; replace hx101_1 := (HB.out.cell (zCq w _ hx101_1)).trans hx101_1; replace p101 := eq_true p101; replace q101 := eq_true q101; have p102 : 0 ≤ (x6_1 : Int) := of_decide_eq_true qA; have q102 : x6_1 < (l0.length : Int) := of_decide_eq_true qA; obtain ⟨ad102, e102, hx102_0, hx102_1⟩ := at_T146 HR0.out x6_1 p102 q102; obtain rfl : ad101 = ad102 := (by injection e102)
              replace hx102_0 := (HB.out.cell (zCq w _ hx102_0)).trans hx102_0; replace hx102_1 := (HB.out.cell (zCq w _ hx102_1)).trans hx102_1; replace p102 := eq_true p102; replace q102 := eq_true q102; go_wp2_with (first | ((with_reducible refine gate_builtin (b := .append) (xs := #[.tmp 20, .tmp 26]) rfl ?_); at_builtin; refine Kd.R_append (Kd.int .i64) (w0 := w) w.heap.size rfl (.tmp 20) (.tmp 26) 44 3 (.int .i64 0) 8 rfl Try.underlying44 info3 rfl (by decide) (by omega) u5 x5_1 ((rd_T146 l0 x6_1).f1) [.int .i64 ((rd_T146 l0 x6_1).f1)] (fun _ => True) (fun _ => False) rfl rfl ?aP (fun _ hk => hk.elim) ?aF ?aO ?aB ?aS ?aL ?_; (case aP => exact rfl); (case aB => exact qB); (case aF => exact (fun _ _ => trivial)); (case aO => exact (by (with_reducible repeat (first | apply Kd.R_alloc | apply Kd.R_drewN | apply Kd.R_drew)); exact HO_5.out)); (case aS => exact (zW qB)); (case aL => have := LMc6.out; omega); intro v104 w7 ho hb hg hat; rw [← Ny103.out] at ho; have n0_ := zA (hb); have n1_ := zA (ho); clear HB HO_5; have HB := n0_; have HO105 := n1_; clear n0_ n1_ ho hb hg hat)); go_roundg k1
              case measure => have := HK1.out; omega
              case rel => exact ⟨(y103), (wrap64 (x6_1 + 1)), (by first | rfl | (simp; done) | (simp [*]; done)), H', ⟨by have := HK1.out; omega⟩, ⟨by (with_reducible repeat (first | apply Kd.R_alloc | apply Kd.R_drewN | apply Kd.R_drew)); exact HO105.out⟩, ⟨qB⟩⟩
            rw [if_neg c6] at H; exact absurd H (by simp)
          rw [if_neg c5] at H; have c5b0 : (((rd_T146 l0 x6_1).f0).toList == a1.toList) = false := beq_eq_false_iff_ne.mpr c5; have c5b1 : (((rd_T146 l0 x6_1).f0).toList != a1.toList) = true := bne_iff_ne.mpr c5; have H' := zA H; clear H; have p101 : 0 ≤ (x6_1 : Int) := of_decide_eq_true qA; have q101 : x6_1 < (l0.length : Int) := of_decide_eq_true qA; obtain ⟨ad101, e101, hx101_0, hx101_1⟩ := at_T146 HR0.out x6_1 p101 q101; cases e101
          replace hx101_0 := (HB.out.cell (zCq w _ hx101_0)).trans hx101_0; replace hx101_1 := (HB.out.cell (zCq w _ hx101_1)).trans hx101_1; replace p101 := eq_true p101; replace q101 := eq_true q101; go_wp2; go_roundg k1
          case measure => have := HK1.out; omega
          case rel => exact ⟨(x5_1), (wrap64 (x6_1 + 1)), (by first | rfl | (simp; done) | (simp [*]; done)), H', ⟨by have := HK1.out; omega⟩, ⟨by (with_reducible repeat (first | apply Kd.R_alloc | apply Kd.R_drewN | apply Kd.R_drew)); exact HO_5.out⟩, ⟨qB⟩⟩
        rw [if_neg c4] at H; exact absurd H (by simp)
      rw [if_neg c3] at H; have c3b0 : decide (x6_1 < (l0.length : Int)) = false := zGq c3; clear c3; obtain rfl := zKq H; go_wp2; go_ret; exact ⟨_, qE, by (with_reducible repeat (first | apply Kd.R_alloc | apply Kd.R_drewN | apply Kd.R_drew)); exact HO_5.out, qB⟩
def backhaulref14_Under.l0 : Nat → List (S146) → Int → List ByteArray → Int → Option (List ByteArray)
  | 0, _, _, _, _ => none
  | k + 1, x0, x1, x5, x6 => if x6 < (x0.length : Int) then (if 0 ≤ x6 then (if ((rd_T146 x0 x6).f1) = x1 then (if x5.length < 8796093022208 then (backhaulref14_Under.l0 k x0 x1 (x5 ++ [(rd_T146 x0 x6).f0]) (wrap64 (x6 + 1))) else (none)) else (backhaulref14_Under.l0 k x0 x1 x5 (wrap64 (x6 + 1)))) else (none)) else (some x5)
def backhaulref14_Under.f (k : Nat) (l0 : List (S146)) (a1 : Int) : Option (List ByteArray) := backhaulref14_Under.l0 k l0 a1 ([] : List ByteArray) 0
theorem backhaulref14_Under.mono_l : ∀ k, (∀ y0 y1 y2 y3, LeO (backhaulref14_Under.l0 k y0 y1 y2 y3) (backhaulref14_Under.l0 (k + 1) y0 y1 y2 y3))
  | 0 => fun _ _ _ _ r h => by simp [backhaulref14_Under.l0] at h
  | k + 1 => by
    have ih0 := backhaulref14_Under.mono_l k
    intro y0 y1 y2 y3
    unfold backhaulref14_Under.l0
    repeat' (with_reducible first | exact ih0 _ _ _ _ | exact LeO.refl _ | exact LeO.none _ | refine LeO.ite ?_ ?_ | refine LeO.bind ?_ (fun _ => ?_))
theorem backhaulref14_Under.mono : ∀ a0 a1 k, LeO (backhaulref14_Under.f k a0 a1) (backhaulref14_Under.f (k + 1) a0 a1) := by
  intro a0 a1 k
  have ih0 := backhaulref14_Under.mono_l k
  unfold backhaulref14_Under.f
  repeat' (with_reducible first | exact ih0 _ _ _ _ | exact LeO.refl _ | exact LeO.none _ | refine LeO.ite ?_ ?_ | refine LeO.bind ?_ (fun _ => ?_))
set_option maxHeartbeats 8000000 in
set_option maxRecDepth 100000 in
theorem backhaulref14_Under.calls (k : Nat) (A0 : Option Addr) (c0 : Nat) (l0 : List (S146)) (a1 : Int) (r : List ByteArray) (w : World) (hr0 : Kd.C k146 w A0 l0.length l0) (hc0 : l0.length ≤ c0) (h : backhaulref14_Under.f k l0 a1 = some r) :
    Calls Try.prog 35 #[.slice A0 l0.length c0, .int .i64 a1] w fun e w' => ∃ v0_ : Value, e = .returned (v0_) ∧ Kd.R Kd.string 9 w' w.heap.size (fun _ => True) v0_ r ∧ Below w.heap.size w w' := by
  have HR0 := zA hr0
  have HC0 := zA hc0
  clear hr0 hc0
  have HB := zA (Below.refl w.heap.size w)
  have H : (backhaulref14_Under.l0 k l0 a1 ([] : List ByteArray) 0) = some r := h
  clear h
  have H' := zA H
  clear H
  go_enter Try.func35, Try.ntmps35
  go_wp2
  go_loopg [5, 6] k (fun kq v5 v6 w' => ∃ (x5_1 : List ByteArray) (x6_1 : Int), v6 = .int .i64 x6_1 ∧ Aside0 (backhaulref14_Under.l0 kq l0 a1 x5_1 x6_1 = some r) ∧ Aside0 (kq ≤ k) ∧ Aside0 (Kd.R Kd.string 9 w' w.heap.size (fun _ => True) v5 x5_1) ∧ Aside0 (Below w.heap.size w w'))
  case atStart => exact ⟨(([] : List ByteArray)), (0), (by first | rfl | (simp; done) | (simp [*]; done)), H', ⟨Nat.le_refl _⟩, ⟨qN⟩, ⟨qB⟩⟩
  case round =>
    clear H'; try clear p2
    obtain ⟨x5_1, x6_1, rfl, HA, HK1, HO_5, HB⟩ := hrel; cases gk with
    | zero => exact absurd HA.out (by simp [backhaulref14_Under.l0])
    | succ k1 =>
      have H := HA.out; clear HA; simp only [backhaulref14_Under.l0] at H; by_cases c3 : x6_1 < (l0.length : Int)
      · rw [if_pos c3] at H
        have c3b0 : decide (x6_1 < (l0.length : Int)) = true := zFq c3; clear c3; by_cases c4 : 0 ≤ x6_1
        · rw [if_pos c4] at H
          have c4b0 : decide (0 ≤ x6_1) = true := zFq c4; clear c4; by_cases c5 : ((rd_T146 l0 x6_1).f1) = a1
          · rw [if_pos c5] at H
            have c5b0 : (((rd_T146 l0 x6_1).f1) == a1) = true := beq_iff_eq.mpr c5; have c5b1 : (((rd_T146 l0 x6_1).f1) != a1) = false := bne_eq_false_iff_eq.mpr c5; clear c5; by_cases c6 : x5_1.length < 8796093022208
            · rw [if_pos c6] at H
              have LMc6 := zA c6; clear c6; obtain ⟨y103, hy103⟩ : ∃ y_ : List ByteArray, y_ = (x5_1 ++ [(rd_T146 l0 x6_1).f0]) := ⟨_, rfl⟩
              replace H : (backhaulref14_Under.l0 k1 l0 a1 y103 (wrap64 (x6_1 + 1))) = some r := by first | (rw [hy103]; with_reducible exact H) | (have H2_ := (Option.bind_some _ _).symm.trans H; rw [hy103]; with_reducible exact H2_) | (have H2_ := (Option.bind_some _ _).symm.trans H; with_reducible exact H2_) | with_reducible exact H | (rw [hy103]; exact H) | exact H
              have Ny103 := zA hy103; clear hy103; have H' := zA H; clear H; have p101 : 0 ≤ (x6_1 : Int) := of_decide_eq_true qA; have q101 : x6_1 < (l0.length : Int) := of_decide_eq_true qA; obtain ⟨ad101, e101, hx101_0, hx101_1⟩ := at_T146 HR0.out x6_1 p101 q101; cases e101
              replace hx101_0 := (HB.out.cell (zCq w _ hx101_0)).trans hx101_0; replace hx101_1 := (HB.out.cell (zCq w _ hx101_1)).trans hx101_1; replace p101 := eq_true p101; replace q101 := eq_true q101; have p102 : 0 ≤ (x6_1 : Int) := of_decide_eq_true qA; have q102 : x6_1 < (l0.length : Int) := of_decide_eq_true qA; obtain ⟨ad102, e102, hx102_0, hx102_1⟩ := at_T146 HR0.out x6_1 p102 q102; obtain rfl : ad101 = ad102 := (by injection e102)
              replace hx102_0 := (HB.out.cell (zCq w _ hx102_0)).trans hx102_0; replace hx102_1 := (HB.out.cell (zCq w _ hx102_1)).trans hx102_1; replace p102 := eq_true p102; replace q102 := eq_true q102; go_wp2_with (first | ((with_reducible refine gate_builtin (b := .append) (xs := #[.tmp 20, .tmp 26]) rfl ?_); at_builtin; refine Kd.R_append Kd.string (w0 := w) w.heap.size rfl (.tmp 20) (.tmp 26) 46 9 (.string ⟨#[]⟩) 16 rfl Try.underlying46 info9 rfl (by decide) (by omega) u5 x5_1 ((rd_T146 l0 x6_1).f0) [.string ((rd_T146 l0 x6_1).f0)] (fun _ => True) (fun _ => False) rfl rfl ?aP (fun _ hk => hk.elim) ?aF ?aO ?aB ?aS ?aL ?_; (case aP => exact rfl); (case aB => exact qB); (case aF => exact (fun _ _ => trivial)); (case aO => exact (by (with_reducible repeat (first | apply Kd.R_alloc | apply Kd.R_drewN | apply Kd.R_drew)); exact HO_5.out)); (case aS => exact (zW qB)); (case aL => have := LMc6.out; omega); intro v104 w7 ho hb hg hat; rw [← Ny103.out] at ho; have n0_ := zA (hb); have n1_ := zA (ho); clear HB HO_5; have HB := n0_; have HO105 := n1_; clear n0_ n1_ ho hb hg hat)); go_roundg k1
              case measure => have := HK1.out; omega
              case rel => exact ⟨(y103), (wrap64 (x6_1 + 1)), (by first | rfl | (simp; done) | (simp [*]; done)), H', ⟨by have := HK1.out; omega⟩, ⟨by (with_reducible repeat (first | apply Kd.R_alloc | apply Kd.R_drewN | apply Kd.R_drew)); exact HO105.out⟩, ⟨qB⟩⟩
            rw [if_neg c6] at H; exact absurd H (by simp)
          rw [if_neg c5] at H; have c5b0 : (((rd_T146 l0 x6_1).f1) == a1) = false := beq_eq_false_iff_ne.mpr c5; have c5b1 : (((rd_T146 l0 x6_1).f1) != a1) = true := bne_iff_ne.mpr c5; have H' := zA H; clear H; have p101 : 0 ≤ (x6_1 : Int) := of_decide_eq_true qA; have q101 : x6_1 < (l0.length : Int) := of_decide_eq_true qA; obtain ⟨ad101, e101, hx101_0, hx101_1⟩ := at_T146 HR0.out x6_1 p101 q101; cases e101
          replace hx101_0 := (HB.out.cell (zCq w _ hx101_0)).trans hx101_0; replace hx101_1 := (HB.out.cell (zCq w _ hx101_1)).trans hx101_1; replace p101 := eq_true p101; replace q101 := eq_true q101; go_wp2; go_roundg k1
          case measure => have := HK1.out; omega
          case rel => exact ⟨(x5_1), (wrap64 (x6_1 + 1)), (by first | rfl | (simp; done) | (simp [*]; done)), H', ⟨by have := HK1.out; omega⟩, ⟨by (with_reducible repeat (first | apply Kd.R_alloc | apply Kd.R_drewN | apply Kd.R_drew)); exact HO_5.out⟩, ⟨qB⟩⟩
        rw [if_neg c4] at H; exact absurd H (by simp)
      rw [if_neg c3] at H; have c3b0 : decide (x6_1 < (l0.length : Int)) = false := zGq c3; clear c3; obtain rfl := zKq H; go_wp2; go_ret; exact ⟨_, qE, by (with_reducible repeat (first | apply Kd.R_alloc | apply Kd.R_drewN | apply Kd.R_drew)); exact HO_5.out, qB⟩
def backhaullaw14_IndexTells.j0 : Nat → ByteArray → Int → Bool → List ByteArray → List (List Int) → Option (Bool)
  | 0, _, _, _, _, _ => none
  | k + 1, x1, x2, x16, x102000, x102001 => if x16 = true then ((backhaullaw14_awake.f).bind fun t103 => (if t103 = true then (some true) else (some false))) else ((backhaulref14_Pairs.f k x102000 x102001).bind fun bt104 => (if bt104.2 = true then ((index_Check.f k x102000 x102001).bind fun t117 => (if t117 = 0 then ((index_Of.f k x102000 x102001 x1).bind fun t118 => ((backhaulref14_Of.f k bt104.1 x1).bind fun t121 => ((backhaulref02_SameInts.f k t118 t121).bind fun t124 => (if t124 = true then ((index_Under.f k x102000 x102001 x2).bind fun t125 => ((backhaulref14_Under.f k bt104.1 x2).bind fun t128 => ((backhaulref01_SameTexts.f k t125 t128).bind fun t131 => (if t131 = true then ((index_Count.f k x102000 x102001).bind fun t132 => (if t132 = (bt104.1.length : Int) then ((backhaullaw14_awake.f).bind fun t133 => (if t133 = true then (some true) else (some false))) else (some false))) else (some false))))) else (some false))))) else (some false))) else ((index_Check.f k x102000 x102001).bind fun t108 => (if t108 = 40 then ((index_Of.f k x102000 x102001 x1).bind fun t109 => (if (t109.length : Int) = 0 then ((index_Under.f k x102000 x102001 x2).bind fun t112 => (if (t112.length : Int) = 0 then ((index_Count.f k x102000 x102001).bind fun t115 => (if t115 = 0 then ((backhaullaw14_awake.f).bind fun t116 => (if t116 = true then (some true) else (some false))) else (some false))) else (some false))) else (some false))) else (some false)))))
def backhaullaw14_IndexTells.f (k : Nat) (l0_0 : List ByteArray) (l0_1 : List (List Int)) (a1 : ByteArray) (a2 : Int) : Option (Bool) := (backhaullaw14_Few.f k l0_0 l0_1).bind fun t102 => (if t102 = true then (backhaullaw14_IndexTells.j0 k a1 a2 (decide ((a1.size : Int) > 100)) l0_0 l0_1) else (backhaullaw14_IndexTells.j0 k a1 a2 true l0_0 l0_1))
theorem backhaullaw14_IndexTells.mono_l : ∀ k, (∀ y0 y1 y2 y3 y4, LeO (backhaullaw14_IndexTells.j0 k y0 y1 y2 y3 y4) (backhaullaw14_IndexTells.j0 (k + 1) y0 y1 y2 y3 y4))
  | 0 => fun _ _ _ _ _ r h => by simp [backhaullaw14_IndexTells.j0] at h
  | k + 1 => by
    have ih0 := backhaullaw14_IndexTells.mono_l k
    intro y0 y1 y2 y3 y4
    unfold backhaullaw14_IndexTells.j0
    repeat' (with_reducible first | exact ih0 _ _ _ _ _ | exact backhaullaw14_Few.mono _ _ _ | exact backhaulref01_SameTexts.mono _ _ _ | exact backhaulref02_SameInts.mono _ _ _ | exact backhaulref14_Of.mono _ _ _ | exact backhaulref14_Pairs.mono _ _ _ | exact backhaulref14_Under.mono _ _ _ | exact index_Check.mono _ _ _ | exact index_Count.mono _ _ _ | exact index_Of.mono _ _ _ _ | exact index_Under.mono _ _ _ _ | exact LeO.refl _ | exact LeO.none _ | refine LeO.ite ?_ ?_ | refine LeO.bind ?_ (fun _ => ?_))
theorem backhaullaw14_IndexTells.mono : ∀ a0 a1 a2 a3 k, LeO (backhaullaw14_IndexTells.f k a0 a1 a2 a3) (backhaullaw14_IndexTells.f (k + 1) a0 a1 a2 a3) := by
  intro a0 a1 a2 a3 k
  have ih0 := backhaullaw14_IndexTells.mono_l k
  unfold backhaullaw14_IndexTells.f
  repeat' (with_reducible first | exact ih0 _ _ _ _ _ | exact backhaullaw14_Few.mono _ _ _ | exact backhaulref01_SameTexts.mono _ _ _ | exact backhaulref02_SameInts.mono _ _ _ | exact backhaulref14_Of.mono _ _ _ | exact backhaulref14_Pairs.mono _ _ _ | exact backhaulref14_Under.mono _ _ _ | exact index_Check.mono _ _ _ | exact index_Count.mono _ _ _ | exact index_Of.mono _ _ _ _ | exact index_Under.mono _ _ _ _ | exact LeO.refl _ | exact LeO.none _ | refine LeO.ite ?_ ?_ | refine LeO.bind ?_ (fun _ => ?_))
set_option maxHeartbeats 8000000 in
set_option maxRecDepth 100000 in
theorem backhaullaw14_IndexTells.calls (k : Nat) (A0_0 : Option Addr) (c0_0 : Nat) (l0_0 : List ByteArray) (A0_1 : Option Addr) (c0_1 : Nat) (l0_1 : List (List Int)) (a1 : ByteArray) (a2 : Int) (w : World) (hr0_0 : Kd.C Kd.string w A0_0 l0_0.length l0_0) (hc0_0 : l0_0.length ≤ c0_0) (hr0_1 : Kd.C (Kd.slice 3 (Kd.int .i64)) w A0_1 l0_1.length l0_1) (hc0_1 : l0_1.length ≤ c0_1) (h : backhaullaw14_IndexTells.f k l0_0 l0_1 a1 a2 = some true) :
    Calls Try.prog 4 #[.agg #[.slice A0_0 l0_0.length c0_0, .slice A0_1 l0_1.length c0_1], .string a1, .int .i64 a2] w fun e w' => e = .returned (.bool true) ∧ Below w.heap.size w w' := by
  have hu51 := Try.underlying51
  have HR0_0 := zA hr0_0
  have HC0_0 := zA hc0_0
  clear hr0_0 hc0_0
  have HR0_1 := zA hr0_1
  have HC0_1 := zA hc0_1
  clear hr0_1 hc0_1
  have HB := zA (Below.refl w.heap.size w)
  have H : ((backhaullaw14_Few.f k l0_0 l0_1).bind fun t102 => (if t102 = true then (backhaullaw14_IndexTells.j0 k a1 a2 (decide ((a1.size : Int) > 100)) l0_0 l0_1) else (backhaullaw14_IndexTells.j0 k a1 a2 true l0_0 l0_1))) = some true := h
  clear h
  have HC4 := zA H
  clear H
  go_enter Try.func4, Try.ntmps4
  go_upto_region 1 with (first | ((with_reducible refine gate_dst (N := 3) rfl ?_); (try (refine gate_guard (by rfl) ?_; dsimp only)); refine box_event qr (N := 3) qr (cs := #[.slice A0_0 l0_0.length c0_0, .slice A0_1 l0_1.length c0_1]) (t := 51) qg ?_; intro gb101 hg w5 hbox hb; have n0_ := zA (zV qB hb); have n1_ := zA (hbox); have n2_ := zA ((qS : w.heap.size ≤ gb101)); have n3_ := zA ((qS : w.heap.size ≤ gb101)); clear HB; have HB := n0_; have BK101 := n1_; have GW101 := n2_; have GE101 := n3_; clear n0_ n1_ n2_ n3_ hb hbox hg))
  (try simp only [Act.put, zH, zI, zJ])
  go_cut [16] (fun v16 wc => ∃ (kq : Nat) (x16_3 : Bool), v16 = .bool x16_3 ∧ Aside0 (backhaullaw14_IndexTells.j0 kq a1 a2 x16_3 l0_0 l0_1 = some true) ∧ Aside0 (kq ≤ k) ∧ Aside0 (wc.heap[gb101]? = some (.cells #[(.slice A0_0 l0_0.length c0_0), (.slice A0_1 l0_1.length c0_1)] 51 (0, 0))) ∧ Aside0 (Below w.heap.size w wc))
  case first =>
    have H := HC4.out; clear HC4; replace H := Option.bind_eq_some_iff.mp H; obtain ⟨t102, A60, H⟩ := H; try dsimp only at H
    have A6 := zA A60; clear A60; by_cases c7 : t102 = true
    · subst c7
      have H1 : (backhaullaw14_IndexTells.j0 k a1 a2 (decide ((a1.size : Int) > 100)) l0_0 l0_1) = some true := by first | (rw [if_pos rfl] at H; exact H) | rfl
      clear H; have H := H1; clear H1; have H' := zA H; clear H; obtain ⟨_, _, _, _⟩ := qc2f BK101.out; go_wp2_with (first | ((with_reducible refine zJq (f := 25) rfl ?_); refine goesL_ (some 10) rfl rfl Try.func25 (by kernel_rfl) rfl #[.agg #[.slice A0_0 l0_0.length c0_0, .slice A0_1 l0_1.length c0_1]] rfl qG ?_; (with_reducible refine (backhaullaw14_Few.calls k _ _ l0_0 _ _ l0_1 true _ ?side1 ?side2 ?side3 ?side4 A6.out).mono ?_); (case side1 => exact qC (Kd.C_below HR0_0.out HB.out)); (case side2 => exact HC0_0.out); (case side3 => exact qC (Kd.C_below HR0_1.out HB.out)); (case side4 => exact HC0_1.out); rintro e w9 ⟨rfl, hb⟩; refine ⟨_, rfl, ?_⟩; have n0_ := zA (qX BK101.out hb); have n1_ := zA (zV qB hb); clear BK101 HB; have BK101 := n0_; have HB := n1_; clear n0_ n1_; (try clear hb))); go_meet
      case rel => exact ⟨_, (decide ((a1.size : Int) > 100)), (by first | rfl | (simp; done) | (simp [*]; done)), H', ⟨by first | omega | exact Nat.le_refl _⟩, ⟨by exact BK101.out⟩, ⟨qB⟩⟩
    replace c7 := Bool.eq_false_iff.mpr c7; subst c7; have H1 : (backhaullaw14_IndexTells.j0 k a1 a2 true l0_0 l0_1) = some true := by first | (rw [if_neg (show ¬ (false = true) by decide)] at H; exact H) | rfl
    clear H; have H := H1; clear H1; have H' := zA H; clear H; obtain ⟨_, _, _, _⟩ := qc2f BK101.out; go_wp2_with (first | ((with_reducible refine zJq (f := 25) rfl ?_); refine goesL_ (some 10) rfl rfl Try.func25 (by kernel_rfl) rfl #[.agg #[.slice A0_0 l0_0.length c0_0, .slice A0_1 l0_1.length c0_1]] rfl qG ?_; (with_reducible refine (backhaullaw14_Few.calls k _ _ l0_0 _ _ l0_1 false _ ?side1 ?side2 ?side3 ?side4 A6.out).mono ?_); (case side1 => exact qC (Kd.C_below HR0_0.out HB.out)); (case side2 => exact HC0_0.out); (case side3 => exact qC (Kd.C_below HR0_1.out HB.out)); (case side4 => exact HC0_1.out); rintro e w11 ⟨rfl, hb⟩; refine ⟨_, rfl, ?_⟩; have n0_ := zA (qX BK101.out hb); have n1_ := zA (zV qB hb); clear BK101 HB; have BK101 := n0_; have HB := n1_; clear n0_ n1_; (try clear hb))); go_meet
    case rel => exact ⟨_, (true), (by first | rfl | (simp; done) | (simp [*]; done)), H', ⟨by first | omega | exact Nat.le_refl _⟩, ⟨by exact BK101.out⟩, ⟨qB⟩⟩
  case rest =>
    clear HC4; try clear c2
    try clear p2
    try clear c4
    try clear c7
    obtain ⟨kq, x16_3, rfl, HA, HJ3, BK101, HB⟩ := hcut; cases kq with
    | zero => exact absurd HA.out (by simp [backhaullaw14_IndexTells.j0])
    | succ kj3 =>
      have H := HA.out; clear HA; simp only [backhaullaw14_IndexTells.j0] at H; by_cases c12 : x16_3 = true
      · subst c12
        have H1 : ((backhaullaw14_awake.f).bind fun t103 => (if t103 = true then (some true) else (some false))) = some true := by first | (rw [if_pos rfl] at H; exact H) | rfl
        clear H; have H := H1; clear H1; replace H := Option.bind_eq_some_iff.mp H; obtain ⟨t103, A130, H⟩ := H; try dsimp only at H
        have A13 := zA A130; clear A130; by_cases c14 : t103 = true
        · subst c14
          have H1 : (some true) = some true := by first | (rw [if_pos rfl] at H; exact H) | rfl
          clear H; have H := H1; clear H1; clear H; go_wp2_with (first | ((with_reducible refine zJq (f := 26) rfl ?_); refine goesL_ (some 17) rfl rfl Try.func26 (by kernel_rfl) rfl #[] rfl qG ?_; (with_reducible refine (backhaullaw14_awake.calls  true _ A13.out).mono ?_); rintro e w15 ⟨rfl, hb⟩; refine ⟨_, rfl, ?_⟩; have n0_ := zA (qX BK101.out hb); have n1_ := zA (zV qB hb); clear BK101 HB; have BK101 := n0_; have HB := n1_; clear n0_ n1_; (try clear hb))); go_ret; exact ⟨qE, qB⟩
        replace c14 := Bool.eq_false_iff.mpr c14; subst c14; have H1 : (some false) = some true := by first | (rw [if_neg (show ¬ (false = true) by decide)] at H; exact H) | rfl
        clear H; have H := H1; clear H1; exact absurd H (by simp)
      replace c12 := Bool.eq_false_iff.mpr c12; subst c12; have H1 : ((backhaulref14_Pairs.f kj3 l0_0 l0_1).bind fun bt104 => (if bt104.2 = true then ((index_Check.f kj3 l0_0 l0_1).bind fun t117 => (if t117 = 0 then ((index_Of.f kj3 l0_0 l0_1 a1).bind fun t118 => ((backhaulref14_Of.f kj3 bt104.1 a1).bind fun t121 => ((backhaulref02_SameInts.f kj3 t118 t121).bind fun t124 => (if t124 = true then ((index_Under.f kj3 l0_0 l0_1 a2).bind fun t125 => ((backhaulref14_Under.f kj3 bt104.1 a2).bind fun t128 => ((backhaulref01_SameTexts.f kj3 t125 t128).bind fun t131 => (if t131 = true then ((index_Count.f kj3 l0_0 l0_1).bind fun t132 => (if t132 = (bt104.1.length : Int) then ((backhaullaw14_awake.f).bind fun t133 => (if t133 = true then (some true) else (some false))) else (some false))) else (some false))))) else (some false))))) else (some false))) else ((index_Check.f kj3 l0_0 l0_1).bind fun t108 => (if t108 = 40 then ((index_Of.f kj3 l0_0 l0_1 a1).bind fun t109 => (if (t109.length : Int) = 0 then ((index_Under.f kj3 l0_0 l0_1 a2).bind fun t112 => (if (t112.length : Int) = 0 then ((index_Count.f kj3 l0_0 l0_1).bind fun t115 => (if t115 = 0 then ((backhaullaw14_awake.f).bind fun t116 => (if t116 = true then (some true) else (some false))) else (some false))) else (some false))) else (some false))) else (some false))))) = some true := by first | (rw [if_neg (show ¬ (false = true) by decide)] at H; exact H) | rfl
      clear H; have H := H1; clear H1; replace H := Option.bind_eq_some_iff.mp H; obtain ⟨⟨t104, t105⟩, A160, H⟩ := H; try dsimp only at H
      have A16 := zA A160; clear A160; by_cases c17 : t105 = true
      · subst c17
        have H1 : ((index_Check.f kj3 l0_0 l0_1).bind fun t117 => (if t117 = 0 then ((index_Of.f kj3 l0_0 l0_1 a1).bind fun t118 => ((backhaulref14_Of.f kj3 t104 a1).bind fun t121 => ((backhaulref02_SameInts.f kj3 t118 t121).bind fun t124 => (if t124 = true then ((index_Under.f kj3 l0_0 l0_1 a2).bind fun t125 => ((backhaulref14_Under.f kj3 t104 a2).bind fun t128 => ((backhaulref01_SameTexts.f kj3 t125 t128).bind fun t131 => (if t131 = true then ((index_Count.f kj3 l0_0 l0_1).bind fun t132 => (if t132 = (t104.length : Int) then ((backhaullaw14_awake.f).bind fun t133 => (if t133 = true then (some true) else (some false))) else (some false))) else (some false))))) else (some false))))) else (some false))) = some true := by first | (rw [if_pos rfl] at H; exact H) | rfl
        clear H; have H := H1; clear H1; replace H := Option.bind_eq_some_iff.mp H; obtain ⟨t117, A180, H⟩ := H; try dsimp only at H
        have A18 := zA A180; clear A180; by_cases c19 : t117 = 0
        · rw [if_pos c19] at H
          have c19b0 : (t117 == 0) = true := beq_iff_eq.mpr c19; have c19b1 : (t117 != 0) = false := bne_eq_false_iff_eq.mpr c19; clear c19; replace H := Option.bind_eq_some_iff.mp H; obtain ⟨t118, A200, H⟩ := H; try dsimp only at H
          have A20 := zA A200; clear A200; replace H := Option.bind_eq_some_iff.mp H; obtain ⟨t121, A210, H⟩ := H; try dsimp only at H
          have A21 := zA A210; clear A210; replace H := Option.bind_eq_some_iff.mp H; obtain ⟨t124, A220, H⟩ := H; try dsimp only at H
          have A22 := zA A220; clear A220; by_cases c23 : t124 = true
          · subst c23
            have H1 : ((index_Under.f kj3 l0_0 l0_1 a2).bind fun t125 => ((backhaulref14_Under.f kj3 t104 a2).bind fun t128 => ((backhaulref01_SameTexts.f kj3 t125 t128).bind fun t131 => (if t131 = true then ((index_Count.f kj3 l0_0 l0_1).bind fun t132 => (if t132 = (t104.length : Int) then ((backhaullaw14_awake.f).bind fun t133 => (if t133 = true then (some true) else (some false))) else (some false))) else (some false))))) = some true := by first | (rw [if_pos rfl] at H; exact H) | rfl
            clear H; have H := H1; clear H1; replace H := Option.bind_eq_some_iff.mp H; obtain ⟨t125, A240, H⟩ := H; try dsimp only at H
            have A24 := zA A240; clear A240; replace H := Option.bind_eq_some_iff.mp H; obtain ⟨t128, A250, H⟩ := H; try dsimp only at H
            have A25 := zA A250; clear A250; replace H := Option.bind_eq_some_iff.mp H; obtain ⟨t131, A260, H⟩ := H; try dsimp only at H
            have A26 := zA A260; clear A260; by_cases c27 : t131 = true
            · subst c27
              have H1 : ((index_Count.f kj3 l0_0 l0_1).bind fun t132 => (if t132 = (t104.length : Int) then ((backhaullaw14_awake.f).bind fun t133 => (if t133 = true then (some true) else (some false))) else (some false))) = some true := by first | (rw [if_pos rfl] at H; exact H) | rfl
              clear H; have H := H1; clear H1; replace H := Option.bind_eq_some_iff.mp H; obtain ⟨t132, A280, H⟩ := H; try dsimp only at H
              have A28 := zA A280; clear A280; by_cases c29 : t132 = (t104.length : Int)
              · rw [if_pos c29] at H
                have c29b0 : (t132 == (t104.length : Int)) = true := beq_iff_eq.mpr c29; have c29b1 : (t132 != (t104.length : Int)) = false := bne_eq_false_iff_eq.mpr c29; clear c29; replace H := Option.bind_eq_some_iff.mp H; obtain ⟨t133, A300, H⟩ := H; try dsimp only at H
                have A30 := zA A300; clear A300; by_cases c31 : t133 = true
                · subst c31
                  have H1 : (some true) = some true := by first | (rw [if_pos rfl] at H; exact H) | rfl
                  clear H; have H := H1; clear H1; clear H; obtain ⟨_, _, _, _⟩ := qc2f BK101.out; go_wp2_with (first | ((with_reducible refine zJq (f := 27) rfl ?_); refine goesL_ (some 23) rfl rfl Try.func27 (by kernel_rfl) rfl #[.slice A0_0 l0_0.length c0_0, .slice A0_1 l0_1.length c0_1] rfl qG ?_; (with_reducible refine (backhaulref14_Pairs.calls kj3 _ _ l0_0 _ _ l0_1 t104 true _ ?side1 ?side2 ?side3 ?side4 A16.out).mono ?_); (case side1 => exact qC (Kd.C_below HR0_0.out HB.out)); (case side2 => exact HC0_0.out); (case side3 => exact qC (Kd.C_below HR0_1.out HB.out)); (case side4 => exact HC0_1.out); rintro e w33 ⟨v106, rfl, ho0, hb⟩; refine ⟨_, rfl, ?_⟩; have n0_ := zA (Kd.R_lower ho0 (zW qB)); have n1_ := zA (qX BK101.out hb); have n2_ := zA (zV qB hb); clear BK101 HB; have HO107 := n0_; have BK101 := n1_; have HB := n2_; clear n0_ n1_ n2_; (try clear hb); (try clear ho0); obtain ⟨_, _, _, _⟩ := qc2f BK101.out) | ((with_reducible refine zJq (f := 28) rfl ?_); refine goesL_ (some 54) rfl rfl Try.func28 (by kernel_rfl) rfl #[.agg #[.slice A0_0 l0_0.length c0_0, .slice A0_1 l0_1.length c0_1]] rfl qG ?_; (with_reducible refine (index_Check.calls kj3 _ _ l0_0 _ _ l0_1 t117 _ ?side1 ?side2 ?side3 ?side4 A18.out).mono ?_); (case side1 => exact qC (Kd.C_below HR0_0.out HB.out)); (case side2 => exact HC0_0.out); (case side3 => exact qC (Kd.C_below HR0_1.out HB.out)); (case side4 => exact HC0_1.out); rintro e w35 ⟨rfl, hb⟩; refine ⟨_, rfl, ?_⟩; have n0_ := zA (Kd.R_below (by (with_reducible repeat (first | apply Kd.R_alloc | apply Kd.R_drewN | apply Kd.R_drew)); exact HO107.out) hb); have n1_ := zA (qX BK101.out hb); have n2_ := zA (zV qB hb); clear HO107 BK101 HB; have HO107 := n0_; have BK101 := n1_; have HB := n2_; clear n0_ n1_ n2_; (try clear hb); obtain ⟨_, _, _, _⟩ := qc2f BK101.out) | (go_at_call 29; (with_reducible refine (index_Of.calls kj3 _ _ l0_0 _ _ l0_1 a1 t118 _ ?side1 ?side2 ?side3 ?side4 A20.out).mono ?_); (case side1 => exact qC (Kd.C_below HR0_0.out HB.out)); (case side2 => exact HC0_0.out); (case side3 => exact qC (Kd.C_below HR0_1.out HB.out)); (case side4 => exact HC0_1.out); rintro e w37 ⟨v119, rfl, ho0, hb⟩; have n0_ := zA (Kd.R_below (by (with_reducible repeat (first | apply Kd.R_alloc | apply Kd.R_drewN | apply Kd.R_drew)); exact HO107.out) hb); have n1_ := zA (Kd.R_lower ho0 (zW qB)); have n2_ := zA (qX BK101.out hb); have n3_ := zA (zV qB hb); clear HO107 BK101 HB; have HO107 := n0_; have HO120 := n1_; have BK101 := n2_; have HB := n3_; clear n0_ n1_ n2_ n3_; (try clear hb); (try clear ho0); obtain ⟨Ao38, co38, eo38⟩ := Kd.R_slice HO107.out; subst eo38) | (go_at_call 33; (with_reducible refine (backhaulref14_Of.calls kj3 _ _ t104 a1 t121 _ ?side1 ?side2 A21.out).mono ?_); (case side1 => repeat (first | exact (Kd.R_reads' HO107.out).2.2 | (with_reducible refine Kd.C_alloc ?_ _) | (with_reducible refine Kd.C_drewN ?_ _) | (with_reducible refine Kd.C_drew ?_))); (case side2 => exact (Kd.R_reads' HO107.out).2.1); rintro e w39 ⟨v122, rfl, ho0, hb⟩; have n0_ := zA (Kd.R_below (by (with_reducible repeat (first | apply Kd.R_alloc | apply Kd.R_drewN | apply Kd.R_drew)); exact HO107.out) hb); have n1_ := zA (Kd.R_elder' (by (with_reducible repeat (first | apply Kd.R_alloc | apply Kd.R_drewN | apply Kd.R_drew)); exact HO120.out) (Kd.R_base ho0) hb); have n2_ := zA (Kd.R_lower (Kd.R_new' ho0 (Kd.R_lt (by (with_reducible repeat (first | apply Kd.R_alloc | apply Kd.R_drewN | apply Kd.R_drew)); exact HO120.out))) (zW qB)); have n3_ := zA (qX BK101.out hb); have n4_ := zA (zV qB hb); clear HO107 HO120 BK101 HB; have HO107 := n0_; have HO120 := n1_; have HO123 := n2_; have BK101 := n3_; have HB := n4_; clear n0_ n1_ n2_ n3_ n4_; (try clear hb); (try clear ho0); obtain ⟨Ao40, co40, eo40⟩ := Kd.R_slice HO120.out; subst eo40; obtain ⟨Ao41, co41, eo41⟩ := Kd.R_slice HO123.out; subst eo41) | (go_at_call 32; (with_reducible refine (backhaulref02_SameInts.calls kj3 _ _ t118 _ _ t121 true _ ?side1 ?side2 ?side3 ?side4 A22.out).mono ?_); (case side1 => repeat (first | exact (Kd.R_reads' HO120.out).2.2 | (with_reducible refine Kd.C_alloc ?_ _) | (with_reducible refine Kd.C_drewN ?_ _) | (with_reducible refine Kd.C_drew ?_))); (case side2 => exact (Kd.R_reads' HO120.out).2.1); (case side3 => repeat (first | exact (Kd.R_reads' HO123.out).2.2 | (with_reducible refine Kd.C_alloc ?_ _) | (with_reducible refine Kd.C_drewN ?_ _) | (with_reducible refine Kd.C_drew ?_))); (case side4 => exact (Kd.R_reads' HO123.out).2.1); rintro e w' ⟨rfl, ⟨nd, rfl⟩⟩; obtain ⟨_, _, _, _⟩ := qc2f BK101.out) | (go_at_call 30; (with_reducible refine (index_Under.calls kj3 _ _ l0_0 _ _ l0_1 a2 t125 _ ?side1 ?side2 ?side3 ?side4 A24.out).mono ?_); (case side1 => exact qC (Kd.C_below HR0_0.out qB)); (case side2 => exact HC0_0.out); (case side3 => exact qC (Kd.C_below HR0_1.out qB)); (case side4 => exact HC0_1.out); rintro e w43 ⟨v126, rfl, ho0, hb⟩; have n0_ := zA (Kd.R_below (by (with_reducible repeat (first | apply Kd.R_alloc | apply Kd.R_drewN | apply Kd.R_drew)); exact HO107.out) hb); have n1_ := zA (Kd.R_below (by (with_reducible repeat (first | apply Kd.R_alloc | apply Kd.R_drewN | apply Kd.R_drew)); exact HO120.out) hb); have n2_ := zA (Kd.R_below (by (with_reducible repeat (first | apply Kd.R_alloc | apply Kd.R_drewN | apply Kd.R_drew)); exact HO123.out) hb); have n3_ := zA (Kd.R_lower ho0 (zW qB)); have n4_ := zA (qX BK101.out hb); have n5_ := zA (zV qB hb); clear HO107 HO120 HO123 BK101 HB; have HO107 := n0_; have HO120 := n1_; have HO123 := n2_; have HO127 := n3_; have BK101 := n4_; have HB := n5_; clear n0_ n1_ n2_ n3_ n4_ n5_; (try clear hb); (try clear ho0)) | (go_at_call 35; (with_reducible refine (backhaulref14_Under.calls kj3 _ _ t104 a2 t128 _ ?side1 ?side2 A25.out).mono ?_); (case side1 => repeat (first | exact (Kd.R_reads' HO107.out).2.2 | (with_reducible refine Kd.C_alloc ?_ _) | (with_reducible refine Kd.C_drewN ?_ _) | (with_reducible refine Kd.C_drew ?_))); (case side2 => exact (Kd.R_reads' HO107.out).2.1); rintro e w44 ⟨v129, rfl, ho0, hb⟩; have n0_ := zA (Kd.R_below (by (with_reducible repeat (first | apply Kd.R_alloc | apply Kd.R_drewN | apply Kd.R_drew)); exact HO107.out) hb); have n1_ := zA (Kd.R_below (by (with_reducible repeat (first | apply Kd.R_alloc | apply Kd.R_drewN | apply Kd.R_drew)); exact HO120.out) hb); have n2_ := zA (Kd.R_below (by (with_reducible repeat (first | apply Kd.R_alloc | apply Kd.R_drewN | apply Kd.R_drew)); exact HO123.out) hb); have n3_ := zA (Kd.R_elder' (by (with_reducible repeat (first | apply Kd.R_alloc | apply Kd.R_drewN | apply Kd.R_drew)); exact HO127.out) (Kd.R_base ho0) hb); have n4_ := zA (Kd.R_lower (Kd.R_new' ho0 (Kd.R_lt (by (with_reducible repeat (first | apply Kd.R_alloc | apply Kd.R_drewN | apply Kd.R_drew)); exact HO127.out))) (zW qB)); have n5_ := zA (qX BK101.out hb); have n6_ := zA (zV qB hb); clear HO107 HO120 HO123 HO127 BK101 HB; have HO107 := n0_; have HO120 := n1_; have HO123 := n2_; have HO127 := n3_; have HO130 := n4_; have BK101 := n5_; have HB := n6_; clear n0_ n1_ n2_ n3_ n4_ n5_ n6_; (try clear hb); (try clear ho0); obtain ⟨Ao45, co45, eo45⟩ := Kd.R_slice HO127.out; subst eo45; obtain ⟨Ao46, co46, eo46⟩ := Kd.R_slice HO130.out; subst eo46) | (go_at_call 34; (with_reducible refine (backhaulref01_SameTexts.calls kj3 _ _ t125 _ _ t128 true _ ?side1 ?side2 ?side3 ?side4 A26.out).mono ?_); (case side1 => repeat (first | exact (Kd.R_reads' HO127.out).2.2 | (with_reducible refine Kd.C_alloc ?_ _) | (with_reducible refine Kd.C_drewN ?_ _) | (with_reducible refine Kd.C_drew ?_))); (case side2 => exact (Kd.R_reads' HO127.out).2.1); (case side3 => repeat (first | exact (Kd.R_reads' HO130.out).2.2 | (with_reducible refine Kd.C_alloc ?_ _) | (with_reducible refine Kd.C_drewN ?_ _) | (with_reducible refine Kd.C_drew ?_))); (case side4 => exact (Kd.R_reads' HO130.out).2.1); rintro e w' ⟨rfl, ⟨nd, rfl⟩⟩; obtain ⟨_, _, _, _⟩ := qc2f BK101.out) | (go_at_call 31; (with_reducible refine (index_Count.calls kj3 _ _ l0_0 _ _ l0_1 t132 _ ?side1 ?side2 ?side3 ?side4 A28.out).mono ?_); (case side1 => exact qC (Kd.C_below HR0_0.out qB)); (case side2 => exact HC0_0.out); (case side3 => exact qC (Kd.C_below HR0_1.out qB)); (case side4 => exact HC0_1.out); rintro e w48 ⟨rfl, hb⟩; have n0_ := zA (Kd.R_below (by (with_reducible repeat (first | apply Kd.R_alloc | apply Kd.R_drewN | apply Kd.R_drew)); exact HO107.out) hb); have n1_ := zA (Kd.R_below (by (with_reducible repeat (first | apply Kd.R_alloc | apply Kd.R_drewN | apply Kd.R_drew)); exact HO120.out) hb); have n2_ := zA (Kd.R_below (by (with_reducible repeat (first | apply Kd.R_alloc | apply Kd.R_drewN | apply Kd.R_drew)); exact HO123.out) hb); have n3_ := zA (Kd.R_below (by (with_reducible repeat (first | apply Kd.R_alloc | apply Kd.R_drewN | apply Kd.R_drew)); exact HO127.out) hb); have n4_ := zA (Kd.R_below (by (with_reducible repeat (first | apply Kd.R_alloc | apply Kd.R_drewN | apply Kd.R_drew)); exact HO130.out) hb); have n5_ := zA (qX BK101.out hb); have n6_ := zA (zV qB hb); clear HO107 HO120 HO123 HO127 HO130 BK101 HB; have HO107 := n0_; have HO120 := n1_; have HO123 := n2_; have HO127 := n3_; have HO130 := n4_; have BK101 := n5_; have HB := n6_; clear n0_ n1_ n2_ n3_ n4_ n5_ n6_; (try clear hb)) | (go_at_call 26; (with_reducible refine (backhaullaw14_awake.calls  true _ A30.out).mono ?_); rintro e w49 ⟨rfl, hb⟩; have n0_ := zA (Kd.R_below (by (with_reducible repeat (first | apply Kd.R_alloc | apply Kd.R_drewN | apply Kd.R_drew)); exact HO107.out) hb); have n1_ := zA (Kd.R_below (by (with_reducible repeat (first | apply Kd.R_alloc | apply Kd.R_drewN | apply Kd.R_drew)); exact HO120.out) hb); have n2_ := zA (Kd.R_below (by (with_reducible repeat (first | apply Kd.R_alloc | apply Kd.R_drewN | apply Kd.R_drew)); exact HO123.out) hb); have n3_ := zA (Kd.R_below (by (with_reducible repeat (first | apply Kd.R_alloc | apply Kd.R_drewN | apply Kd.R_drew)); exact HO127.out) hb); have n4_ := zA (Kd.R_below (by (with_reducible repeat (first | apply Kd.R_alloc | apply Kd.R_drewN | apply Kd.R_drew)); exact HO130.out) hb); have n5_ := zA (qX BK101.out hb); have n6_ := zA (zV qB hb); clear HO107 HO120 HO123 HO127 HO130 BK101 HB; have HO107 := n0_; have HO120 := n1_; have HO123 := n2_; have HO127 := n3_; have HO130 := n4_; have BK101 := n5_; have HB := n6_; clear n0_ n1_ n2_ n3_ n4_ n5_ n6_; (try clear hb)))
                  go_ret; exact ⟨qE, qB⟩
                replace c31 := Bool.eq_false_iff.mpr c31; subst c31; have H1 : (some false) = some true := by first | (rw [if_neg (show ¬ (false = true) by decide)] at H; exact H) | rfl
                clear H; have H := H1; clear H1; exact absurd H (by simp)
              rw [if_neg c29] at H; have c29b0 : (t132 == (t104.length : Int)) = false := beq_eq_false_iff_ne.mpr c29; have c29b1 : (t132 != (t104.length : Int)) = true := bne_iff_ne.mpr c29; exact absurd H (by simp)
            replace c27 := Bool.eq_false_iff.mpr c27; subst c27; have H1 : (some false) = some true := by first | (rw [if_neg (show ¬ (false = true) by decide)] at H; exact H) | rfl
            clear H; have H := H1; clear H1; exact absurd H (by simp)
          replace c23 := Bool.eq_false_iff.mpr c23; subst c23; have H1 : (some false) = some true := by first | (rw [if_neg (show ¬ (false = true) by decide)] at H; exact H) | rfl
          clear H; have H := H1; clear H1; exact absurd H (by simp)
        rw [if_neg c19] at H; have c19b0 : (t117 == 0) = false := beq_eq_false_iff_ne.mpr c19; have c19b1 : (t117 != 0) = true := bne_iff_ne.mpr c19; exact absurd H (by simp)
      replace c17 := Bool.eq_false_iff.mpr c17; subst c17; have H1 : ((index_Check.f kj3 l0_0 l0_1).bind fun t108 => (if t108 = 40 then ((index_Of.f kj3 l0_0 l0_1 a1).bind fun t109 => (if (t109.length : Int) = 0 then ((index_Under.f kj3 l0_0 l0_1 a2).bind fun t112 => (if (t112.length : Int) = 0 then ((index_Count.f kj3 l0_0 l0_1).bind fun t115 => (if t115 = 0 then ((backhaullaw14_awake.f).bind fun t116 => (if t116 = true then (some true) else (some false))) else (some false))) else (some false))) else (some false))) else (some false))) = some true := by first | (rw [if_neg (show ¬ (false = true) by decide)] at H; exact H) | rfl
      clear H; have H := H1; clear H1; replace H := Option.bind_eq_some_iff.mp H; obtain ⟨t108, A500, H⟩ := H; try dsimp only at H
      have A50 := zA A500; clear A500; by_cases c51 : t108 = 40
      · rw [if_pos c51] at H
        have c51b0 : (t108 == 40) = true := beq_iff_eq.mpr c51; have c51b1 : (t108 != 40) = false := bne_eq_false_iff_eq.mpr c51; clear c51; replace H := Option.bind_eq_some_iff.mp H; obtain ⟨t109, A520, H⟩ := H; try dsimp only at H
        have A52 := zA A520; clear A520; by_cases c53 : (t109.length : Int) = 0
        · rw [if_pos c53] at H
          have c53b0 : ((t109.length : Int) == 0) = true := beq_iff_eq.mpr c53; have c53b1 : ((t109.length : Int) != 0) = false := bne_eq_false_iff_eq.mpr c53; clear c53; replace H := Option.bind_eq_some_iff.mp H; obtain ⟨t112, A540, H⟩ := H; try dsimp only at H
          have A54 := zA A540; clear A540; by_cases c55 : (t112.length : Int) = 0
          · rw [if_pos c55] at H
            have c55b0 : ((t112.length : Int) == 0) = true := beq_iff_eq.mpr c55; have c55b1 : ((t112.length : Int) != 0) = false := bne_eq_false_iff_eq.mpr c55; clear c55; replace H := Option.bind_eq_some_iff.mp H; obtain ⟨t115, A560, H⟩ := H; try dsimp only at H
            have A56 := zA A560; clear A560; by_cases c57 : t115 = 0
            · rw [if_pos c57] at H
              have c57b0 : (t115 == 0) = true := beq_iff_eq.mpr c57; have c57b1 : (t115 != 0) = false := bne_eq_false_iff_eq.mpr c57; clear c57; replace H := Option.bind_eq_some_iff.mp H; obtain ⟨t116, A580, H⟩ := H; try dsimp only at H
              have A58 := zA A580; clear A580; by_cases c59 : t116 = true
              · subst c59
                have H1 : (some true) = some true := by first | (rw [if_pos rfl] at H; exact H) | rfl
                clear H; have H := H1; clear H1; clear H; obtain ⟨_, _, _, _⟩ := qc2f BK101.out; go_wp2_with (first | ((with_reducible refine zJq (f := 27) rfl ?_); refine goesL_ (some 23) rfl rfl Try.func27 (by kernel_rfl) rfl #[.slice A0_0 l0_0.length c0_0, .slice A0_1 l0_1.length c0_1] rfl qG ?_; (with_reducible refine (backhaulref14_Pairs.calls kj3 _ _ l0_0 _ _ l0_1 t104 false _ ?side1 ?side2 ?side3 ?side4 A16.out).mono ?_); (case side1 => exact qC (Kd.C_below HR0_0.out HB.out)); (case side2 => exact HC0_0.out); (case side3 => exact qC (Kd.C_below HR0_1.out HB.out)); (case side4 => exact HC0_1.out); rintro e w61 ⟨v106, rfl, ho0, hb⟩; refine ⟨_, rfl, ?_⟩; have n0_ := zA (Kd.R_lower ho0 (zW qB)); have n1_ := zA (qX BK101.out hb); have n2_ := zA (zV qB hb); clear BK101 HB; have HO107 := n0_; have BK101 := n1_; have HB := n2_; clear n0_ n1_ n2_; (try clear hb); (try clear ho0); obtain ⟨_, _, _, _⟩ := qc2f BK101.out) | ((with_reducible refine zJq (f := 28) rfl ?_); refine goesL_ (some 29) rfl rfl Try.func28 (by kernel_rfl) rfl #[.agg #[.slice A0_0 l0_0.length c0_0, .slice A0_1 l0_1.length c0_1]] rfl qG ?_; (with_reducible refine (index_Check.calls kj3 _ _ l0_0 _ _ l0_1 t108 _ ?side1 ?side2 ?side3 ?side4 A50.out).mono ?_); (case side1 => exact qC (Kd.C_below HR0_0.out HB.out)); (case side2 => exact HC0_0.out); (case side3 => exact qC (Kd.C_below HR0_1.out HB.out)); (case side4 => exact HC0_1.out); rintro e w63 ⟨rfl, hb⟩; refine ⟨_, rfl, ?_⟩; have n0_ := zA (Kd.R_below (by (with_reducible repeat (first | apply Kd.R_alloc | apply Kd.R_drewN | apply Kd.R_drew)); exact HO107.out) hb); have n1_ := zA (qX BK101.out hb); have n2_ := zA (zV qB hb); clear HO107 BK101 HB; have HO107 := n0_; have BK101 := n1_; have HB := n2_; clear n0_ n1_ n2_; (try clear hb); obtain ⟨_, _, _, _⟩ := qc2f BK101.out) | (go_at_call 29; (with_reducible refine (index_Of.calls kj3 _ _ l0_0 _ _ l0_1 a1 t109 _ ?side1 ?side2 ?side3 ?side4 A52.out).mono ?_); (case side1 => exact qC (Kd.C_below HR0_0.out HB.out)); (case side2 => exact HC0_0.out); (case side3 => exact qC (Kd.C_below HR0_1.out HB.out)); (case side4 => exact HC0_1.out); rintro e w65 ⟨v110, rfl, ho0, hb⟩; have n0_ := zA (Kd.R_below (by (with_reducible repeat (first | apply Kd.R_alloc | apply Kd.R_drewN | apply Kd.R_drew)); exact HO107.out) hb); have n1_ := zA (Kd.R_lower ho0 (zW qB)); have n2_ := zA (qX BK101.out hb); have n3_ := zA (zV qB hb); clear HO107 BK101 HB; have HO107 := n0_; have HO111 := n1_; have BK101 := n2_; have HB := n3_; clear n0_ n1_ n2_ n3_; (try clear hb); (try clear ho0); obtain ⟨Ao66, co66, eo66⟩ := Kd.R_slice HO111.out; subst eo66; obtain ⟨_, _, _, _⟩ := qc2f BK101.out) | (go_at_call 30; (with_reducible refine (index_Under.calls kj3 _ _ l0_0 _ _ l0_1 a2 t112 _ ?side1 ?side2 ?side3 ?side4 A54.out).mono ?_); (case side1 => exact qC (Kd.C_below HR0_0.out HB.out)); (case side2 => exact HC0_0.out); (case side3 => exact qC (Kd.C_below HR0_1.out HB.out)); (case side4 => exact HC0_1.out); rintro e w68 ⟨v113, rfl, ho0, hb⟩; have n0_ := zA (Kd.R_below (by (with_reducible repeat (first | apply Kd.R_alloc | apply Kd.R_drewN | apply Kd.R_drew)); exact HO107.out) hb); have n1_ := zA (Kd.R_below (by (with_reducible repeat (first | apply Kd.R_alloc | apply Kd.R_drewN | apply Kd.R_drew)); exact HO111.out) hb); have n2_ := zA (Kd.R_lower ho0 (zW qB)); have n3_ := zA (qX BK101.out hb); have n4_ := zA (zV qB hb); clear HO107 HO111 BK101 HB; have HO107 := n0_; have HO111 := n1_; have HO114 := n2_; have BK101 := n3_; have HB := n4_; clear n0_ n1_ n2_ n3_ n4_; (try clear hb); (try clear ho0); obtain ⟨Ao69, co69, eo69⟩ := Kd.R_slice HO114.out; subst eo69; obtain ⟨_, _, _, _⟩ := qc2f BK101.out) | (go_at_call 31; (with_reducible refine (index_Count.calls kj3 _ _ l0_0 _ _ l0_1 t115 _ ?side1 ?side2 ?side3 ?side4 A56.out).mono ?_); (case side1 => exact qC (Kd.C_below HR0_0.out HB.out)); (case side2 => exact HC0_0.out); (case side3 => exact qC (Kd.C_below HR0_1.out HB.out)); (case side4 => exact HC0_1.out); rintro e w71 ⟨rfl, hb⟩; have n0_ := zA (Kd.R_below (by (with_reducible repeat (first | apply Kd.R_alloc | apply Kd.R_drewN | apply Kd.R_drew)); exact HO107.out) hb); have n1_ := zA (Kd.R_below (by (with_reducible repeat (first | apply Kd.R_alloc | apply Kd.R_drewN | apply Kd.R_drew)); exact HO111.out) hb); have n2_ := zA (Kd.R_below (by (with_reducible repeat (first | apply Kd.R_alloc | apply Kd.R_drewN | apply Kd.R_drew)); exact HO114.out) hb); have n3_ := zA (qX BK101.out hb); have n4_ := zA (zV qB hb); clear HO107 HO111 HO114 BK101 HB; have HO107 := n0_; have HO111 := n1_; have HO114 := n2_; have BK101 := n3_; have HB := n4_; clear n0_ n1_ n2_ n3_ n4_; (try clear hb)) | (go_at_call 26; (with_reducible refine (backhaullaw14_awake.calls  true _ A58.out).mono ?_); rintro e w72 ⟨rfl, hb⟩; have n0_ := zA (Kd.R_below (by (with_reducible repeat (first | apply Kd.R_alloc | apply Kd.R_drewN | apply Kd.R_drew)); exact HO107.out) hb); have n1_ := zA (Kd.R_below (by (with_reducible repeat (first | apply Kd.R_alloc | apply Kd.R_drewN | apply Kd.R_drew)); exact HO111.out) hb); have n2_ := zA (Kd.R_below (by (with_reducible repeat (first | apply Kd.R_alloc | apply Kd.R_drewN | apply Kd.R_drew)); exact HO114.out) hb); have n3_ := zA (qX BK101.out hb); have n4_ := zA (zV qB hb); clear HO107 HO111 HO114 BK101 HB; have HO107 := n0_; have HO111 := n1_; have HO114 := n2_; have BK101 := n3_; have HB := n4_; clear n0_ n1_ n2_ n3_ n4_; (try clear hb)))
                go_ret; exact ⟨qE, qB⟩
              replace c59 := Bool.eq_false_iff.mpr c59; subst c59; have H1 : (some false) = some true := by first | (rw [if_neg (show ¬ (false = true) by decide)] at H; exact H) | rfl
              clear H; have H := H1; clear H1; exact absurd H (by simp)
            rw [if_neg c57] at H; have c57b0 : (t115 == 0) = false := beq_eq_false_iff_ne.mpr c57; have c57b1 : (t115 != 0) = true := bne_iff_ne.mpr c57; exact absurd H (by simp)
          rw [if_neg c55] at H; have c55b0 : ((t112.length : Int) == 0) = false := beq_eq_false_iff_ne.mpr c55; have c55b1 : ((t112.length : Int) != 0) = true := bne_iff_ne.mpr c55; have c55b2 : ¬ (t112 = []) := fun h_ => c55 (by rw [h_]; rfl)
          exact absurd H (by simp)
        rw [if_neg c53] at H; have c53b0 : ((t109.length : Int) == 0) = false := beq_eq_false_iff_ne.mpr c53; have c53b1 : ((t109.length : Int) != 0) = true := bne_iff_ne.mpr c53; have c53b2 : ¬ (t109 = []) := fun h_ => c53 (by rw [h_]; rfl)
        exact absurd H (by simp)
      rw [if_neg c51] at H; have c51b0 : (t108 == 40) = false := beq_eq_false_iff_ne.mpr c51; have c51b1 : (t108 != 40) = true := bne_iff_ne.mpr c51; exact absurd H (by simp)
def backhaullaw14_IndexTells.Pure : Prop := ∀ (l0_0 : List ByteArray) (l0_1 : List (List Int)) (a1 : ByteArray) (a2 : Int), (l0_0.length ≤ maxLen ∧ ∀ x ∈ l0_0, x.size ≤ maxLen) → (l0_1.length ≤ maxLen ∧ ∀ x ∈ l0_1, (x.length ≤ maxLen ∧ ∀ y ∈ x, (Lit.int .i64 y).wf = true)) → a1.size ≤ maxLen → (Lit.int .i64 a2).wf = true → ∃ k, backhaullaw14_IndexTells.f k l0_0 l0_1 a1 a2 = some true
end Go.Proofs.Ytdpcgigjlcpofaa.F
set_option linter.unusedVariables false
namespace Go.Proofs.Ytdpcgigjlcpofaa.Q
open Go.RowKit Go.Proofs.YtdpcgigjlcpofaaW.PrintWords Go.Proofs.YtdpcgigjlcpofaaW.PrintLast Go.Proofs.YtdpcgigjlcpofaaW.PrintMore
theorem Ev.ite {α : Type} {c : Prop} [Decidable c] {a b : Nat → Option α} {r : α} (h1 : c → Ev a r) (h2 : ¬ c → Ev b r) : Ev (fun k => if c then a k else b k) r := by
  by_cases h : c
  · simp only [if_pos h]; exact h1 h
  simp only [if_neg h]; exact h2 h
theorem Ev.pos {α : Type} {c : Prop} [Decidable c] {a b : Nat → Option α} {r : α} (h : c) (h1 : Ev a r) : Ev (fun k => if c then a k else b k) r := by
  simp only [if_pos h]; exact h1
theorem Ev.neg {α : Type} {c : Prop} [Decidable c] {a b : Nat → Option α} {r : α} (h : ¬ c) (h1 : Ev b r) : Ev (fun k => if c then a k else b k) r := by
  simp only [if_neg h]; exact h1
theorem Ev.ok {α : Type} {a b : α} (h : a = b) : Ev (fun _ => some a) b := ⟨0, fun _ _ => by rw [h]⟩
theorem Ev.const {α : Type} {o : Option α} {r : α} (h : o = some r) : Ev (fun _ => o) r := ⟨0, fun _ _ => h⟩
theorem Ev.bindc {α β : Type} {o : Option α} {f : Nat → α → Option β} {a : α} {r : β} (h : o = some a) (k : Ev (fun n => f n a) r) : Ev (fun n => o.bind (f n)) r := by
  subst h
  exact k
theorem Ev.eq {α : Type} {g : Nat → Option α} {a b : α} (h : Ev g a) (e : a = b) : Ev g b := e ▸ h
theorem wrap_eq {x : Int} (h0 : -9223372036854775808 ≤ x) (h1 : x ≤ 9223372036854775807) : wrap64 x = x := by
  unfold wrap64; omega
theorem u64_eq {x : Int} (h0 : 0 ≤ x) (h1 : x < 18446744073709551616) : IntKind.u64.wrap x = x := by
  simp [IntKind.wrap, IntKind.signed, IntKind.bits]; omega
theorem countP_split {α : Type} {p : α → Bool} {l : List α} {n : Nat} (hn : n ≤ l.length) (h1 : ∀ j (h : j < l.length), j < n → p l[j] = true) (h2 : ∀ j (h : j < l.length), n ≤ j → p l[j] = false) : l.countP p = n := by
  have e : l = l.take n ++ l.drop n := (List.take_append_drop n l).symm
  have a : (l.take n).countP p = (l.take n).length := by
    rw [List.countP_eq_length]
    intro x hx
    obtain ⟨j, hj, rfl⟩ := List.mem_iff_getElem.1 hx
    rw [List.length_take] at hj
    rw [List.getElem_take]
    exact h1 j (by omega) (by omega)
  have b : (l.drop n).countP p = 0 := by
    rw [List.countP_eq_zero]
    intro x hx
    obtain ⟨j, hj, rfl⟩ := List.mem_iff_getElem.1 hx
    rw [List.length_drop] at hj
    rw [List.getElem_drop, h2 (n + j) (by omega) (by omega)]
    simp
  rw [e, List.countP_append, a, b, List.length_take]
  omega
theorem idxOf_first {α : Type} [BEq α] [LawfulBEq α] {l : List α} {t : α} {i : Nat} (h : i < l.length) (he : l[i] = t) (h1 : ∀ j (h : j < l.length), j < i → l[j] ≠ t) : l.idxOf t = i := by
  unfold List.idxOf
  rw [List.findIdx_eq h]
  exact ⟨by simp [he], fun j hj => by simpa using h1 j (by omega) hj⟩
theorem rd_nat {l : List Int} {i : Nat} (h : i < l.length) : rd l (i : Int) = l[i] := by
  unfold rd; simp [List.getD_eq_getElem?_getD, h]
theorem rdOf_nat {α : Type} {d : α} {l : List α} {i : Nat} (h : i < l.length) : rdOf d l (i : Int) = l[i] := by
  unfold rdOf; simp [List.getD_eq_getElem?_getD, h]
theorem drop_cons {α : Type} {l : List α} {i : Nat} (h : i < l.length) : l.drop i = l[i] :: l.drop (i + 1) := List.drop_eq_getElem_cons h
theorem bytes_ext {a b : ByteArray} : a.toList = b.toList ↔ a = b := by
  constructor
  · intro h
    rw [ByteArray.toList_eq, ByteArray.toList_eq] at h
    cases a; cases b
    simpa [Array.toList_inj] using h
  rintro rfl; rfl
end Go.Proofs.Ytdpcgigjlcpofaa.Q
set_option linter.unusedVariables false
namespace Go.Proofs.Ytdpcgigjlcpofaa.Q
open Go.RowKit Go.Proofs.YtdpcgigjlcpofaaW.PrintWords Go.Proofs.YtdpcgigjlcpofaaW.PrintLast Go.Proofs.YtdpcgigjlcpofaaW.PrintMore
theorem less_irrefl (l : List UInt8) : Op.bytesLess l l = false := by
  induction l with
  | nil => rfl
  | cons a l ih => simp [Op.bytesLess, ih]
def bytesB (l : List UInt8) : ByteArray := ⟨l.toArray⟩
theorem data_append (a b : ByteArray) : (a ++ b).data.toList = a.data.toList ++ b.data.toList := by simp [ByteArray.data_append]
theorem size_data (a : ByteArray) : a.data.toList.length = a.size := by rw [Array.length_toList]; rfl
theorem bt_data (s : ByteArray) (i : Nat) (h : i < s.size) : bt s (i : Int) = ((s.data.toList[i]'(by rw [size_data]; exact h)).toNat : Int) := by
  unfold bt
  rw [dif_pos (by simpa using h)]
  simp [ByteArray.getElem_eq_getElem_data]
def wide (w : Int) : Prop := w = 1 ∨ w = 2 ∨ w = 4 ∨ w = 8
instance (w : Int) : Decidable (wide w) := by unfold wide; infer_instance
def natI (l : List UInt8) : List Int := l.map (fun b => (b.toNat : Int))
theorem strOfNums_nat (l : List UInt8) : strOfNums (natI l) = bytesB l := by
  unfold strOfNums natI bytesB
  rw [List.map_map]
  congr 2
  exact (List.map_congr_left fun b _ => by simp).trans (List.map_id l)
end Go.Proofs.Ytdpcgigjlcpofaa.Q
set_option linter.unusedVariables false
namespace Go.Proofs.Ytdpcgigjlcpofaa.Q
open Go.RowKit Go.Proofs.YtdpcgigjlcpofaaX Go.Proofs.YtdpcgigjlcpofaaW.PrintWords Go.Proofs.YtdpcgigjlcpofaaW.PrintLast Go.Proofs.YtdpcgigjlcpofaaW.PrintMore
theorem less_cons (a b : UInt8) (x y : List UInt8) : Op.bytesLess (a :: x) (b :: y) = true ↔ a.toNat < b.toNat ∨ (a = b ∧ Op.bytesLess x y = true) := by
  simp only [Op.bytesLess, Bool.or_eq_true, Bool.and_eq_true, decide_eq_true_eq, beq_iff_eq, UInt8.lt_iff_toNat_lt]
theorem less_nil (x : List UInt8) : Op.bytesLess x [] = false := by cases x <;> rfl
theorem less_trans : ∀ (a b c : List UInt8), Op.bytesLess a b = true → Op.bytesLess b c = true → Op.bytesLess a c = true
  | _, [], _, h, _ => by rw [less_nil] at h; cases h
  | _, _ :: _, [], _, h => by rw [less_nil] at h; cases h
  | [], _ :: _, _ :: _, _, _ => rfl
  | a :: x, b :: y, c :: z, h1, h2 => by
    rw [less_cons] at h1 h2 ⊢
    rcases h1 with h1 | ⟨rfl, h1⟩
    · rcases h2 with h2 | ⟨rfl, h2⟩
      · exact .inl (by omega)
      exact .inl h1
    rcases h2 with h2 | ⟨rfl, h2⟩
    · exact .inl h2
    exact .inr ⟨rfl, less_trans x y z h1 h2⟩
def up8 (b : UInt8) : UInt8 := if 97 ≤ b.toNat ∧ b.toNat ≤ 122 then UInt8.ofNat (b.toNat - 32) else b
theorem up8_toNat (b : UInt8) : ((up8 b).toNat : Int) = upI b.toNat := by
  unfold up8 upI
  by_cases h : 97 ≤ b.toNat ∧ b.toNat ≤ 122
  · rw [if_pos h, if_pos (by omega)]
    have : (UInt8.ofNat (b.toNat - 32)).toNat = b.toNat - 32 := by simp; omega
    rw [this]; omega
  rw [if_neg h, if_neg (by omega)]
theorem up8_of (b : UInt8) : UInt8.ofNat (upI b.toNat).toNat = up8 b := by
  apply UInt8.toNat_inj.1
  have h := up8_toNat b
  have h2 := (up8 b).toNat_lt
  have : (upI b.toNat).toNat = (up8 b).toNat := by omega
  rw [this]; simp
theorem up_runes (l : List UInt8) : ((runes l).map fun r => UInt8.ofNat (upI r).toNat) = l.map up8 := by
  simp only [runes, List.map_map]
  exact List.map_congr_left fun b _ => up8_of b
def serB (l : List UInt8) : Prop := 1 ≤ l.length ∧ l.length ≤ 16 ∧ l.getLast? ≠ some 45 ∧ okL 3 (runes l) = true
instance (l : List UInt8) : Decidable (serB l) := by unfold serB; infer_instance
theorem foldS_eq (s : ByteArray) : foldS s = if serB s.data.toList then (⟨(s.data.toList.map up8).toArray⟩, 0) else (⟨#[]⟩, 9) := by
  unfold foldS
  rw [up_runes]
  by_cases h : s.size < 1 ∨ s.size > 16 ∨ s.data.toList.getLast? = some 45 ∨ okL 3 (runes s.data.toList) = false
  · rw [if_pos h, if_neg]
    rintro ⟨h1, h2, h3, h4⟩
    rw [size_data] at h1 h2
    rcases h with h | h | h | h
    · omega
    · omega
    · exact h3 h
    rw [h] at h4; cases h4
  rw [if_neg h, if_pos]
  refine ⟨by rw [size_data]; omega, by rw [size_data]; omega, fun x => h (.inr (.inr (.inl x))), ?_⟩
  cases e : okL 3 (runes s.data.toList)
  · exact absurd (.inr (.inr (.inr e))) h
  rfl
theorem checkS_or (s : ByteArray) : checkS s = 0 ∨ checkS s = 9 := by unfold checkS; split <;> simp
def lt8 (a b : ByteArray) : Prop := Op.bytesLess a.toList b.toList = true
instance (a b : ByteArray) : Decidable (lt8 a b) := by unfold lt8; infer_instance
theorem lt8_irrefl (a : ByteArray) : ¬ lt8 a a := by unfold lt8; rw [less_irrefl]; decide
theorem lt8_trans {a b c : ByteArray} (h : lt8 a b) (g : lt8 b c) : lt8 a c := less_trans _ _ _ h g
def notUp : Option ByteArray → ByteArray → Bool
  | none, _ => false
  | some q, s => !(Op.bytesLess q.toList s.toList)
def rowG : Option ByteArray → List ByteArray → Int
  | _, [] => 0
  | p, s :: l => if checkS s = 0 then (if notUp p s = true then 32 else rowG (some s) l) else 9
theorem notUp_some {q s : ByteArray} : notUp (some q) s = false ↔ lt8 q s := by simp [notUp, lt8]
theorem rowG_zero {l : List ByteArray} : ∀ {p : Option ByteArray}, rowG p l = 0 → (∀ s ∈ l, checkS s = 0) ∧ l.Pairwise lt8 ∧ ∀ q, p = some q → ∀ s ∈ l, lt8 q s := by
  induction l with
  | nil => intro p _; simp
  | cons a l ih =>
    intro p h
    simp only [rowG] at h
    by_cases h1 : checkS a = 0
    · rw [if_pos h1] at h
      by_cases h2 : notUp p a = true
      · rw [if_pos h2] at h; cases h
      rw [if_neg h2] at h
      obtain ⟨i1, i2, i3⟩ := ih h
      have hq : ∀ q, p = some q → lt8 q a := fun q e => by
        subst e
        exact notUp_some.1 (by simpa using h2)
      refine ⟨fun s hs => ?_, List.pairwise_cons.2 ⟨fun s hs => i3 a rfl s hs, i2⟩, fun q e s hs => ?_⟩
      · rcases List.mem_cons.1 hs with rfl | hs
        · exact h1
        exact i1 s hs
      rcases List.mem_cons.1 hs with rfl | hs
      · exact hq q e
      exact lt8_trans (hq q e) (i3 a rfl s hs)
    rw [if_neg h1] at h; cases h
theorem pair_get {l : List ByteArray} (h : l.Pairwise lt8) {i j : Nat} (hj : j < l.length) (hij : i < j) : lt8 (l[i]'(by omega)) l[j] := List.pairwise_iff_getElem.1 h i j _ hj hij
def idxT (l : List ByteArray) (s : ByteArray) : Option Nat := l.findIdx? (fun x => decide (x = s))
theorem idxT_some {l : List ByteArray} {s : ByteArray} {i : Nat} (h : i < l.length) (he : l[i] = s) (hn : ∀ j (h : j < l.length), j < i → l[j] ≠ s) : idxT l s = some i := by
  unfold idxT
  rw [List.findIdx?_eq_some_iff_getElem]
  exact ⟨h, by simp [he], fun j hj => by simpa using hn j (by omega) hj⟩
theorem idxT_none {l : List ByteArray} {s : ByteArray} (hn : ∀ j (h : j < l.length), l[j] ≠ s) : idxT l s = none := by
  unfold idxT
  rw [List.findIdx?_eq_none_iff]
  intro x hx
  obtain ⟨j, hj, rfl⟩ := List.mem_iff_getElem.1 hx
  simpa using hn j hj
theorem idxT_get {l : List ByteArray} {s : ByteArray} {i : Nat} (h : idxT l s = some i) : ∃ h : i < l.length, l[i] = s ∧ ∀ j (h : j < l.length), j < i → l[j] ≠ s := by
  unfold idxT at h
  rw [List.findIdx?_eq_some_iff_getElem] at h
  obtain ⟨h1, h2, h3⟩ := h
  exact ⟨h1, by simpa using h2, fun j hj hji => by simpa using h3 j hji⟩
def findT (l : List ByteArray) (s : ByteArray) : Int × Bool := match idxT l s with
  | some i => ((i : Int), true)
  | none => (if rowG none l = 0 then (l.countP (fun x => decide (lt8 x s)) : Int) else 0, false)
theorem findT_sorted {l : List ByteArray} {s : ByteArray} {n : Nat} (hs : l.Pairwise lt8) (hn : n ≤ l.length) (h1 : ∀ j (h : j < l.length), j < n → lt8 l[j] s) (h2 : ∀ j (h : j < l.length), n ≤ j → ¬ lt8 l[j] s) (h0 : rowG none l = 0) : findT l s = ((n : Int), decide (∃ h : n < l.length, l[n] = s)) := by
  have hlt : ∀ j (h : j < l.length), j < n → l[j] ≠ s := fun j hj hjn e => lt8_irrefl s (e ▸ h1 j hj hjn)
  unfold findT
  by_cases h : ∃ h : n < l.length, l[n] = s
  · obtain ⟨hn', he⟩ := h
    rw [idxT_some hn' he hlt]
    simp only [Prod.mk.injEq, true_and]
    exact (decide_eq_true ⟨hn', he⟩).symm
  rw [idxT_none (fun j hj e => ?_)]
  · simp only [if_pos h0]
    refine Prod.ext ?_ (decide_eq_false h).symm
    have : l.countP (fun x => decide (lt8 x s)) = n := by
      have e : l = l.take n ++ l.drop n := (List.take_append_drop n l).symm
      have a : (l.take n).countP (fun x => decide (lt8 x s)) = (l.take n).length := by
        rw [List.countP_eq_length]
        intro x hx
        obtain ⟨j, hj, rfl⟩ := List.mem_iff_getElem.1 hx
        rw [List.length_take] at hj
        rw [List.getElem_take]
        simpa using h1 j (by omega) (by omega)
      have b : (l.drop n).countP (fun x => decide (lt8 x s)) = 0 := by
        rw [List.countP_eq_zero]
        intro x hx
        obtain ⟨j, hj, rfl⟩ := List.mem_iff_getElem.1 hx
        rw [List.length_drop] at hj
        rw [List.getElem_drop]
        simpa using h2 (n + j) (by omega) (by omega)
      rw [e, List.countP_append, a, b, List.length_take]
      omega
    show (_ : Int) = _
    rw [this]
  rcases Nat.lt_or_ge j n with hjn | hjn
  · exact hlt j hj hjn e
  rcases Nat.lt_or_ge n j with hnj | hnj
  · have h3 := pair_get hs hj hnj
    rw [e] at h3
    exact h2 n (by omega) (Nat.le_refl _) h3
  have : j = n := by omega
  subst this
  exact h ⟨hj, e⟩
end Go.Proofs.Ytdpcgigjlcpofaa.Q
set_option linter.unusedVariables false
namespace Go.Proofs.Ytdpcgigjlcpofaa.Q
open Go.RowKit Go.Proofs.Ytdpcgigjlcpofaa.F Go.Proofs.YtdpcgigjlcpofaaW.PrintWords Go.Proofs.YtdpcgigjlcpofaaW.PrintLast Go.Proofs.YtdpcgigjlcpofaaW.PrintMore
def rising (last : Int) : List Int → Int
  | [] => 0
  | x :: xs => if x < 1 ∨ x > 999999 then 31 else if x ≤ last then 32 else rising x xs
theorem rows_Rising_l0 {l : List Int} (hl : l.length < 9223372036854775807) (d : Nat) : ∀ (i : Nat) (last : Int), l.length - i = d → i ≤ l.length →
    Ev (fun k => rows_Rising.l0 k last l (l.length : Int) (i : Int)) (rising last (l.drop i)) := by
  induction d with
  | zero =>
    intro i last hd hi
    refine Ev.step (fun k => by simp only [rows_Rising.l0]; rfl) ?_
    refine Ev.neg (by omega) (Ev.ok ?_)
    rw [List.drop_eq_nil_of_le (by omega)]; rfl
  | succ d ih =>
    intro i last hd hi
    have h : i < l.length := by omega
    refine Ev.step (fun k => by simp only [rows_Rising.l0]; rfl) ?_
    refine Ev.pos (by omega) (Ev.pos (by omega) (Ev.pos (by omega) ?_))
    rw [drop_cons h, rd_nat h]
    have hj : ∀ b : Bool, (b = true ↔ (l[i] < 1 ∨ l[i] > 999999)) → Ev (fun k => rows_Rising.j1 k last l[i] l (l.length : Int) (i : Int) b) (rising last (l[i] :: l.drop (i + 1))) := by
      intro b hb
      refine Ev.step (fun k => by simp only [rows_Rising.j1]; rfl) ?_
      simp only [rising]
      refine Ev.ite (fun h1 => ?_) (fun h1 => ?_)
      · rw [if_pos (hb.1 h1)]; exact Ev.ok rfl
      rw [if_neg (fun h2 => h1 (hb.2 h2))]
      refine Ev.ite (fun h2 => ?_) (fun h2 => ?_)
      · rw [if_pos h2]; exact Ev.ok rfl
      rw [if_neg h2, wrap_eq (by omega) (by omega)]
      exact ih (i + 1) l[i] (by omega) (by omega)
    refine Ev.ite (fun h1 => hj true (by simp [h1])) (fun h1 => hj _ (by simp; omega))
theorem rows_Rising_f {l : List Int} (hl : l.length < 9223372036854775807) : Ev (fun k => rows_Rising.f k l) (rising 0 l) := by
  unfold rows_Rising.f
  exact rows_Rising_l0 hl l.length 0 0 (by omega) (by omega)
theorem ref_Rising_l0 {l : List Int} (hl : l.length < 9223372036854775807) (d : Nat) : ∀ (i : Nat), l.length - i = d → i ≤ l.length →
    Ev (fun k => backhaulref13_Rising.l0 k l (i : Int)) (rising (if i = 0 then 0 else l.getD (i - 1) 0) (l.drop i)) := by
  induction d with
  | zero =>
    intro i hd hi
    refine Ev.step (fun k => by simp only [backhaulref13_Rising.l0]; rfl) ?_
    refine Ev.neg (by omega) (Ev.ok ?_)
    rw [List.drop_eq_nil_of_le (by omega)]; rfl
  | succ d ih =>
    intro i hd hi
    have h : i < l.length := by omega
    refine Ev.step (fun k => by simp only [backhaulref13_Rising.l0]; rfl) ?_
    refine Ev.pos (by omega) (Ev.pos (by omega) ?_)
    rw [drop_cons h, rd_nat h]
    have ih' := ih (i + 1) (by omega) (by omega)
    rw [if_neg (by omega), Nat.add_sub_cancel, List.getD_eq_getElem?_getD, List.getElem?_eq_getElem h, Option.getD_some] at ih'
    have hj : ∀ b : Bool, (b = true ↔ (l[i] < 1 ∨ l[i] > 999999)) → Ev (fun k => backhaulref13_Rising.j1 k l (i : Int) b) (rising (if i = 0 then 0 else l.getD (i - 1) 0) (l[i] :: l.drop (i + 1))) := by
      intro b hb
      refine Ev.step (fun k => by simp only [backhaulref13_Rising.j1]; rfl) ?_
      simp only [rising]
      refine Ev.ite (fun h1 => ?_) (fun h1 => ?_)
      · rw [if_pos (hb.1 h1)]; exact Ev.ok rfl
      have hn : ¬ (l[i] < 1 ∨ l[i] > 999999) := fun h2 => h1 (hb.2 h2)
      rw [if_neg hn]
      refine Ev.ite (fun h2 => ?_) (fun h2 => ?_)
      · rw [wrap_eq (by omega) (by omega)]
        have hi1 : ((i : Int) - 1) = ((i - 1 : Nat) : Int) := by omega
        have hg : l.getD (i - 1) 0 = l[i - 1] := by simp [List.getD_eq_getElem?_getD, show i - 1 < l.length by omega]
        rw [if_neg (show ¬ i = 0 by omega), hi1, rd_nat (show i - 1 < l.length by omega), rd_nat h, hg]
        refine Ev.pos (by omega) (Ev.pos (by omega) (Ev.pos (by omega) (Ev.pos (by omega) ?_)))
        refine Ev.ite (fun h3 => ?_) (fun h3 => ?_)
        · rw [if_pos h3]; exact Ev.ok rfl
        rw [if_neg h3, wrap_eq (by omega) (by omega)]; exact ih'
      rw [if_pos (show i = 0 by omega), if_neg (by omega), wrap_eq (by omega) (by omega)]; exact ih'
    refine Ev.ite (fun h1 => hj true (by simp [h1])) (fun h1 => hj _ (by simp; omega))
theorem ref_Rising_f {l : List Int} (hl : l.length < 9223372036854775807) : Ev (fun k => backhaulref13_Rising.f k l) (rising 0 l) := by
  unfold backhaulref13_Rising.f
  exact ref_Rising_l0 hl l.length 0 (by omega) (by omega)
def find (l : List Int) (id : Int) : Int × Bool := if id ∈ l then ((l.idxOf id : Int), true) else (if rising 0 l = 0 then (l.countP (fun x => decide (x < id)) : Int) else l.length, false)
theorem rising_zero {last : Int} {l : List Int} (h : rising last l = 0) : (∀ x ∈ l, last < x ∧ 1 ≤ x ∧ x ≤ 999999) ∧ l.Pairwise (· < ·) := by
  induction l generalizing last with
  | nil => simp
  | cons x xs ih =>
    simp only [rising] at h
    split at h
    · cases h
    split at h
    · cases h
    obtain ⟨a, b⟩ := ih h
    refine ⟨fun y hy => ?_, List.pairwise_cons.2 ⟨fun y hy => (a y hy).1, b⟩⟩
    rcases List.mem_cons.1 hy with rfl | hy
    · omega
    have := a y hy; omega
theorem sorted_get {l : List Int} (h : l.Pairwise (· < ·)) {i j : Nat} (hj : j < l.length) (hij : i < j) : l[i]'(by omega) < l[j] := List.pairwise_iff_getElem.1 h i j _ hj hij
theorem bs_l0 {l : List Int} {t : Int} (hl : l.length < 4611686018427387904) (hs : l.Pairwise (· < ·)) (d : Nat) : ∀ (lo hi : Nat), hi - lo = d → lo ≤ hi → hi ≤ l.length →
    (∀ j (h : j < l.length), j < lo → l[j] < t) → (∀ j (h : j < l.length), hi ≤ j → ¬ l[j] < t) →
    Ev (fun k => slices_BinarySearch_int_int.l0 k l t (l.length : Int) (lo : Int) (hi : Int)) ((l.countP (fun x => decide (x < t)) : Int), decide (t ∈ l)) := by
  induction d using Nat.strongRecOn with
  | _ d ih =>
    intro lo hi hd hlo hhi h1 h2
    refine Ev.step (fun k => by simp only [slices_BinarySearch_int_int.l0]; rfl) ?_
    by_cases hlt : lo < hi
    · have hw : wrap64 ((IntKind.u64.wrap (wrap64 ((lo : Int) + (hi : Int)))) / 2) = (((lo + hi) / 2 : Nat) : Int) := by
        rw [wrap_eq (x := (lo : Int) + (hi : Int)) (by omega) (by omega), u64_eq (x := (lo : Int) + (hi : Int)) (by omega) (by omega), wrap_eq (x := ((lo : Int) + (hi : Int)) / 2) (by omega) (by omega)]; omega
      have hm : (lo + hi) / 2 < l.length := by omega
      rw [hw]
      refine Ev.pos (by omega) (Ev.pos (by omega) (Ev.pos (by omega) ?_))
      rw [rd_nat hm]
      refine Ev.bindc (a := decide (l[(lo + hi) / 2] < t)) (by simp [cmp_Less_int.f, cmp_isNaN_int.f]) ?_
      refine Ev.ite (fun hc => ?_) (fun hc => ?_)
      · have hc' : l[(lo + hi) / 2] < t := by simpa using hc
        rw [wrap_eq (by omega) (by omega)]
        refine ih (hi - ((lo + hi) / 2 + 1)) (by omega) ((lo + hi) / 2 + 1) hi rfl (by omega) hhi (fun j hj hjl => ?_) h2
        rcases Nat.lt_or_ge j ((lo + hi) / 2) with hlt2 | hge
        · have := sorted_get hs hm hlt2; omega
        have : j = (lo + hi) / 2 := by omega
        subst this; exact hc'
      have hc' : ¬ l[(lo + hi) / 2] < t := by simpa using hc
      refine ih ((lo + hi) / 2 - lo) (by omega) lo ((lo + hi) / 2) rfl (by omega) (by omega) h1 (fun j hj hjl => ?_)
      rcases Nat.lt_or_ge ((lo + hi) / 2) j with hlt2 | hge
      · have := sorted_get hs hj hlt2; omega
      have : j = (lo + hi) / 2 := by omega
      subst this; exact hc'
    have he : lo = hi := by omega
    subst he
    have hcount : l.countP (fun x => decide (x < t)) = lo := countP_split hhi (fun j hj hjl => by simpa using h1 j hj hjl) (fun j hj hjl => by simpa using h2 j hj hjl)
    rw [hcount]
    refine Ev.neg (by omega) ?_
    refine Ev.ite (fun hc => ?_) (fun hc => ?_)
    · have hlo' : lo < l.length := by omega
      refine Ev.pos (by omega) (Ev.pos (by omega) ?_)
      rw [rd_nat hlo']
      refine Ev.ite (fun he => ?_) (fun he => ?_)
      · refine Ev.ok ?_
        have : t ∈ l := he ▸ List.getElem_mem hlo'
        simp [this]
      refine Ev.bindc (a := false) (by simp [slices_isNaN_int.f]) ?_
      refine Ev.neg (by simp) (Ev.ok ?_)
      have : ¬ t ∈ l := by
        intro hmem
        obtain ⟨j, hj, hjt⟩ := List.mem_iff_getElem.1 hmem
        rcases Nat.lt_trichotomy j lo with h | h | h
        · have := h1 j hj h; omega
        · subst h; exact he hjt
        have := sorted_get hs hj h; have := h2 lo hlo' (Nat.le_refl _); omega
      simp [this]
    refine Ev.ok ?_
    have : ¬ t ∈ l := by
      intro hmem
      obtain ⟨j, hj, hjt⟩ := List.mem_iff_getElem.1 hmem
      have := h1 j hj (by omega); omega
    simp [this]
theorem bs_f {l : List Int} {t : Int} (hl : l.length < 4611686018427387904) (hs : l.Pairwise (· < ·)) :
    Ev (fun k => slices_BinarySearch_int_int.f k l t) ((l.countP (fun x => decide (x < t)) : Int), decide (t ∈ l)) := by
  unfold slices_BinarySearch_int_int.f
  exact bs_l0 hl hs l.length 0 l.length (by omega) (by omega) (by omega) (fun j hj h => by omega) (fun j hj h => by omega)
theorem index_l0 {l : List Int} {t : Int} (hl : l.length < 9223372036854775807) (d : Nat) : ∀ (i : Nat), l.length - i = d → i ≤ l.length → (∀ j (h : j < l.length), j < i → l[j] ≠ t) →
    Ev (fun k => slices_Index_int_int.l0 k l t (l.length : Int) (i : Int)) (if t ∈ l then (l.idxOf t : Int) else -1) := by
  induction d with
  | zero =>
    intro i hd hi h1
    refine Ev.step (fun k => by simp only [slices_Index_int_int.l0]; rfl) ?_
    refine Ev.neg (by omega) (Ev.ok ?_)
    have : ¬ t ∈ l := by
      intro hmem
      obtain ⟨j, hj, hjt⟩ := List.mem_iff_getElem.1 hmem
      exact h1 j hj (by omega) hjt
    rw [if_neg this]
  | succ d ih =>
    intro i hd hi h1
    have h : i < l.length := by omega
    refine Ev.step (fun k => by simp only [slices_Index_int_int.l0]; rfl) ?_
    refine Ev.pos (by omega) (Ev.pos (by omega) (Ev.pos (by omega) ?_))
    rw [rd_nat h]
    refine Ev.ite (fun he => Ev.ok ?_) (fun he => ?_)
    · rw [if_pos (he ▸ List.getElem_mem h)]
      rw [idxOf_first h he.symm h1]
    rw [wrap_eq (by omega) (by omega)]
    exact ih (i + 1) (by omega) (by omega) (fun j hj hjl => by
      rcases Nat.lt_or_ge j i with h2 | h2
      · exact h1 j hj h2
      have : j = i := by omega
      subst this; exact fun e => he e.symm)
theorem index_f {l : List Int} {t : Int} (hl : l.length < 9223372036854775807) : Ev (fun k => slices_Index_int_int.f k l t) (if t ∈ l then (l.idxOf t : Int) else -1) := by
  unfold slices_Index_int_int.f
  exact index_l0 hl l.length 0 (by omega) (by omega) (fun j hj h => by omega)
theorem idxOf_sorted {l : List Int} {t : Int} (hs : l.Pairwise (· < ·)) (hm : t ∈ l) : l.idxOf t = l.countP (fun x => decide (x < t)) := by
  obtain ⟨i, hi, he⟩ := List.mem_iff_getElem.1 hm
  have h1 : ∀ j (h : j < l.length), j < i → l[j] < t := fun j hj h => he ▸ sorted_get hs hi h
  rw [idxOf_first hi he (fun j hj h => by have := h1 j hj h; omega)]
  refine (countP_split (by omega) (fun j hj h => by simpa using h1 j hj h) (fun j hj h => ?_)).symm
  have : t ≤ l[j] := by
    rcases Nat.lt_or_ge i j with h2 | h2
    · have := sorted_get hs hj h2; omega
    have : j = i := by omega
    subst this; omega
  simpa using this
theorem rows_Find_f {l : List Int} {id : Int} (hl : l.length < 4611686018427387904) : Ev (fun k => rows_Find.f k l id) (find l id) := by
  unfold rows_Find.f find
  refine Ev.bind (rows_Rising_f (by omega)) (Ev.ite (fun h => ?_) (fun h => ?_))
  · have hs := (rising_zero h).2
    refine Ev.bind (bs_f (by omega) hs) (Ev.ok ?_)
    by_cases hm : id ∈ l
    · simp [hm, idxOf_sorted hs hm]
    simp [hm, h]
  refine Ev.bind (index_f (by omega)) ?_
  by_cases hm : id ∈ l
  · rw [if_pos hm, if_pos hm]
    refine Ev.pos (by omega) (Ev.ok rfl)
  rw [if_neg hm, if_neg hm, if_neg h]
  exact Ev.neg (by omega) (Ev.ok rfl)
end Go.Proofs.Ytdpcgigjlcpofaa.Q
set_option linter.unusedVariables false
set_option linter.unusedSimpArgs false
namespace Go.Proofs.Ytdpcgigjlcpofaa.Q
open Go.RowKit Go.Proofs.Ytdpcgigjlcpofaa.F Go.Proofs.YtdpcgigjlcpofaaX Go.Proofs.YtdpcgigjlcpofaaW.PrintWords Go.Proofs.YtdpcgigjlcpofaaW.PrintLast Go.Proofs.YtdpcgigjlcpofaaW.PrintMore
abbrev PrT := S146
def pairsOf : List ByteArray → List (List Int) → List PrT
  | k :: ks, l :: is => l.map (fun i => (⟨k, i⟩ : PrT)) ++ pairsOf ks is
  | _, _ => []
def okI (ks : List ByteArray) (is : List (List Int)) : Prop := rowG none ks = 0 ∧ ks.length = is.length ∧ ∀ l ∈ is, l ≠ [] ∧ rising 0 l = 0
def sumL (is : List (List Int)) : Nat := (is.map List.length).sum
theorem pairs_append : ∀ (A : List ByteArray) (C : List (List Int)) {B : List ByteArray} {D : List (List Int)}, A.length = C.length → pairsOf (A ++ B) (C ++ D) = pairsOf A C ++ pairsOf B D
  | [], [], _, _, _ => rfl
  | [], _ :: _, _, _, h => by simp at h
  | _ :: _, [], _, _, h => by simp at h
  | a :: A, c :: C, B, D, h => by
    simp only [List.length_cons] at h
    simp only [List.cons_append, pairsOf, pairs_append A C (by omega), List.append_assoc]
theorem pairs_key {p : PrT} : ∀ (A : List ByteArray) (C : List (List Int)), p ∈ pairsOf A C → p.f0 ∈ A
  | [], _, h => by simp [pairsOf] at h
  | a :: A, [], h => by simp [pairsOf] at h
  | a :: A, c :: C, h => by
    simp only [pairsOf, List.mem_append, List.mem_map] at h
    rcases h with ⟨i, _, rfl⟩ | h
    · exact List.mem_cons_self
    exact List.mem_cons_of_mem _ (pairs_key A C h)
theorem pairs_len : ∀ (A : List ByteArray) (C : List (List Int)), A.length = C.length → (pairsOf A C).length = sumL C
  | [], [], _ => rfl
  | [], _ :: _, h => by simp at h
  | _ :: _, [], h => by simp at h
  | a :: A, c :: C, h => by
    simp only [List.length_cons] at h
    have := pairs_len A C (by omega)
    simp only [pairsOf, List.length_append, List.length_map, sumL, List.map_cons, List.sum_cons] at this ⊢
    omega
theorem ok_part {A B : List ByteArray} {C D : List (List Int)} {s : ByteArray} {l : List Int} (hl : A.length = C.length) (h : okI (A ++ s :: B) (C ++ l :: D)) :
    pairsOf (A ++ s :: B) (C ++ l :: D) = pairsOf A C ++ (l.map (fun i => (⟨s, i⟩ : PrT)) ++ pairsOf B D) ∧ s ∉ A ∧ s ∉ B := by
  refine ⟨pairs_append A C hl, fun g => ?_, fun g => ?_⟩
  · have := (rowG_zero h.1).2.1
    rw [List.pairwise_append] at this
    exact lt8_irrefl s (this.2.2 s g s List.mem_cons_self)
  have := (rowG_zero h.1).2.1
  rw [List.pairwise_append] at this
  exact lt8_irrefl s ((List.pairwise_cons.1 this.2.1).1 s g)
end Go.Proofs.Ytdpcgigjlcpofaa.Q
set_option linter.unusedVariables false
namespace Go.Proofs.Ytdpcgigjlcpofaa.Q
open Go.RowKit Go.Proofs.Ytdpcgigjlcpofaa.F Go.Proofs.YtdpcgigjlcpofaaX Go.Proofs.YtdpcgigjlcpofaaW.PrintWords Go.Proofs.YtdpcgigjlcpofaaW.PrintLast Go.Proofs.YtdpcgigjlcpofaaW.PrintMore
theorem ref01_class_f (r : Int) : backhaulref01_Class.f 20 r = some (clsI r) := by
  unfold backhaulref01_Class.f clsI
  simp only [backhaulref01_Class.j0, backhaulref01_Class.j1]
  (repeat' split) <;> simp_all <;> omega
theorem ref01_class_ev (r : Int) : Ev (fun k => backhaulref01_Class.f k r) (clsI r) := Ev.of (fun k => backhaulref01_Class.mono r k) (ref01_class_f r)
def foldRest (last : Int) (t l : List UInt8) : ByteArray × Int := if okL last (runes l) = true then (bytesB (t ++ l.map up8), 0) else (⟨#[]⟩, 9)
theorem cls_45 {b : UInt8} : clsI b.toNat = 3 ↔ b = 45 := by
  have h45 : (45 : UInt8).toNat = 45 := rfl
  have hn := b.toNat_lt
  constructor
  · intro h
    apply UInt8.toNat_inj.1
    unfold clsI at h
    (repeat' split at h) <;> omega
  rintro rfl; decide
theorem okL_iff {last : Int} {b : UInt8} {l : List UInt8} : okL last (runes (b :: l)) = true ↔ (clsI b.toNat ≠ 0 ∧ ¬ (b = 45 ∧ last = 3)) ∧ okL (clsI b.toNat) (runes l) = true := by
  show (mayB (clsI b.toNat) last && okL (clsI b.toNat) (runes l)) = true ↔ _
  rw [Bool.and_eq_true]
  have : mayB (clsI b.toNat) last = true ↔ clsI b.toNat ≠ 0 ∧ ¬ (b = 45 ∧ last = 3) := by
    unfold mayB
    rw [← cls_45]
    simp only [Bool.and_eq_true, Bool.or_eq_true, bne_iff_ne]
    omega
  rw [this]
theorem bt_nat {s : ByteArray} {i : Nat} (h : i < s.data.toList.length) : bt s (i : Int) = ((s.data.toList[i]).toNat : Int) := bt_data s i (by rw [← size_data]; exact h)
theorem bt_45 {s : ByteArray} {i : Nat} (h : i < s.data.toList.length) : bt s (i : Int) = 45 ↔ s.data.toList[i] = 45 := by
  rw [bt_nat h]
  constructor
  · intro x; apply UInt8.toNat_inj.1; show _ = 45; omega
  intro x; rw [x]; rfl
theorem ref01_fold_j2 {s : ByteArray} {i : Nat} {t : List UInt8} {b : UInt8} {r : ByteArray × Int} (ht : t.length < 100) (hi : i < 100) (h : Ev (fun k => backhaulref01_Fold.l0 k s (natI (t ++ [up8 b])) (((i + 1 : Nat)) : Int)) r) : Ev (fun k => backhaulref01_Fold.j2 k s (natI t) (i : Int) (b.toNat : Int) false) r := by
  have hl : (natI t).length = t.length := by simp [natI]
  have hn := b.toNat_lt
  have e : ∀ x : Int, x = ((up8 b).toNat : Int) → natI t ++ [x] = natI (t ++ [up8 b]) := by rintro x rfl; simp [natI]
  refine Ev.step (fun k => by simp only [backhaulref01_Fold.j2]; rfl) ?_
  rw [wrap_eq (by omega) (by omega)]
  refine Ev.neg (by decide) (Ev.ite (fun h1 => Ev.ite (fun h2 => Ev.pos (by omega) ?_) (fun h2 => Ev.pos (by omega) ?_)) (fun h1 => Ev.pos (by omega) ?_))
  · rw [e _ (by rw [up8_toNat]; unfold upI; rw [if_pos (by omega)]; omega)]; exact h
  · rw [e _ (by rw [up8_toNat]; unfold upI; rw [if_neg (by omega)])]; exact h
  rw [e _ (by rw [up8_toNat]; unfold upI; rw [if_neg (by omega)])]; exact h
theorem ref01_fold_bad {s : ByteArray} {i c : Int} {o : List Int} {last : Int} {t l : List UInt8} (h : ¬ okL last (runes l) = true) : Ev (fun k => backhaulref01_Fold.j2 k s o i c true) (foldRest last t l) := by
  refine Ev.step (fun k => by simp only [backhaulref01_Fold.j2]; rfl) ?_
  refine Ev.pos trivial (Ev.ok ?_)
  unfold foldRest
  rw [if_neg h]
theorem ref01_fold_l0 {s : ByteArray} (hs : s.size ≤ 16) (h0 : ∀ h : 0 < s.data.toList.length, s.data.toList[0] ≠ 45) (d : Nat) : ∀ (i : Nat) (t : List UInt8) (last : Int), s.size - i = d → i ≤ s.size → t.length = i → (i = 0 ∨ ∃ h : i - 1 < s.data.toList.length, last = clsI (s.data.toList[i - 1]).toNat) → Ev (fun k => backhaulref01_Fold.l0 k s (natI t) (i : Int)) (foldRest last t (s.data.toList.drop i)) := by
  have hsz := size_data s
  induction d with
  | zero =>
    intro i t last hd hi ht hla
    refine Ev.step (fun k => by simp only [backhaulref01_Fold.l0]; rfl) ?_
    refine Ev.neg (by omega) (Ev.ok ?_)
    rw [List.drop_eq_nil_of_le (by omega)]
    unfold foldRest
    rw [if_pos (show okL last (runes []) = true from rfl), strOfNums_nat, List.map_nil, List.append_nil]
  | succ d ih =>
    intro i t last hd hi ht hla
    have h : i < s.data.toList.length := by omega
    have hb : bt s (i : Int) = ((s.data.toList[i]).toNat : Int) := bt_nat h
    have hn := (s.data.toList[i]).toNat_lt
    have hw : wrap32 (((s.data.toList[i]).toNat : Int)) = ((s.data.toList[i]).toNat : Int) := by unfold wrap32; omega
    refine Ev.step (fun k => by simp only [backhaulref01_Fold.l0]; rfl) ?_
    refine Ev.pos (by omega) (Ev.pos (by omega) ?_)
    rw [drop_cons h, hb, hw]
    have hd1 : s.size - (i + 1) = d := by clear hb hw ih hla hn ht; omega
    have hd2 : i + 1 ≤ s.size := by clear hb hw ih hla hn ht; omega
    have good : okL last (runes (s.data.toList[i] :: s.data.toList.drop (i + 1))) = okL (clsI (s.data.toList[i]).toNat) (runes (s.data.toList.drop (i + 1))) → Ev (fun k => backhaulref01_Fold.j2 k s (natI t) (i : Int) ((s.data.toList[i]).toNat : Int) false) (foldRest last t (s.data.toList[i] :: s.data.toList.drop (i + 1))) := by
      intro e
      refine ref01_fold_j2 (by omega) (by omega) (Ev.eq (ih (i + 1) (t ++ [up8 s.data.toList[i]]) (clsI (s.data.toList[i]).toNat) hd1 hd2 (by simp [ht]) (.inr ⟨by simpa using h, by simp⟩)) ?_)
      unfold foldRest
      rw [e, List.map_cons, List.append_assoc]
      rfl
    have eq_of : (clsI (s.data.toList[i]).toNat ≠ 0 ∧ ¬ (s.data.toList[i] = 45 ∧ last = 3)) → okL last (runes (s.data.toList[i] :: s.data.toList.drop (i + 1))) = okL (clsI (s.data.toList[i]).toNat) (runes (s.data.toList.drop (i + 1))) := by
      intro hg
      rw [Bool.eq_iff_iff, okL_iff]
      exact ⟨fun x => x.2, fun x => ⟨hg, x⟩⟩
    refine Ev.bind (ref01_class_ev _) (Ev.ite (fun h1 => ?_) (fun h1 => ?_))
    · exact ref01_fold_bad (fun x => (okL_iff.1 x).1.1 h1)
    refine Ev.ite (fun h2 => ?_) (fun h2 => ?_)
    · have h45 : s.data.toList[i] = 45 := by apply UInt8.toNat_inj.1; show _ = 45; omega
      have hi1 : 1 ≤ i := by
        rcases Nat.eq_zero_or_pos i with h' | h'
        · subst h'; exact absurd h45 (h0 h)
        exact h'
      obtain ⟨hp, hl⟩ := hla.resolve_left (by omega)
      rw [wrap_eq (x := (i : Int) - 1) (by omega) (by omega), show (i : Int) - 1 = ((i - 1 : Nat) : Int) by omega]
      refine Ev.pos (by omega) (Ev.pos (by omega) ?_)
      by_cases h3 : s.data.toList[i - 1] = 45
      · rw [show (bt s ((i - 1 : Nat) : Int) == 45) = true from beq_iff_eq.2 ((bt_45 hp).2 h3)]
        exact ref01_fold_bad (fun x => (okL_iff.1 x).1.2 ⟨h45, by rw [hl]; exact cls_45.2 h3⟩)
      rw [show (bt s ((i - 1 : Nat) : Int) == 45) = false from beq_eq_false_iff_ne.2 (fun x => h3 ((bt_45 hp).1 x))]
      exact good (eq_of ⟨h1, fun x => h3 (cls_45.1 (by rw [← hl]; exact x.2))⟩)
    exact good (eq_of ⟨h1, fun x => h2 (by rw [x.1]; rfl)⟩)
theorem last_get {l : List UInt8} (h : l.length - 1 < l.length) : l.getLast? = some (l[l.length - 1]) := by
  rw [List.getLast?_eq_getElem?, List.getElem?_eq_getElem h]
theorem ref01_fold_f (s : ByteArray) (hs : s.size < 1099511627776) : Ev (fun k => backhaulref01_Fold.f k s) (foldS s) := by
  have hsz := size_data s
  have bad : ¬ serB s.data.toList → Ev (fun k => backhaulref01_Fold.j0 k s true) (foldS s) := by
    intro h
    refine Ev.step (fun k => by simp only [backhaulref01_Fold.j0]; rfl) ?_
    refine Ev.pos trivial (Ev.ok ?_)
    rw [foldS_eq, if_neg h]
  unfold backhaulref01_Fold.f
  refine Ev.ite (fun h => bad (fun x => by have := x.1; omega)) (fun h => Ev.ite (fun h1 => bad (fun x => by have := x.2.1; omega)) (fun h1 => Ev.pos (by omega) ?_))
  have hl0 : 0 < s.data.toList.length := by omega
  have e0 : bt s 0 = 45 ↔ s.data.toList[0] = 45 := bt_45 (i := 0) hl0
  refine Ev.ite (fun h2 => bad (fun x => ?_)) (fun h2 => ?_)
  · have h3 := x.2.2.2
    have h4 : s.data.toList = s.data.toList[0] :: s.data.toList.drop 1 := by
      have := drop_cons (l := s.data.toList) (i := 0) hl0
      simpa using this
    rw [h4] at h3
    exact (okL_iff.1 h3).1.2 ⟨e0.1 h2, rfl⟩
  have hlast : s.data.toList.length - 1 < s.data.toList.length := by omega
  rw [wrap_eq (by omega) (by omega), show (s.size : Int) - 1 = ((s.data.toList.length - 1 : Nat) : Int) by omega]
  refine Ev.pos (by omega) (Ev.pos (by omega) ?_)
  by_cases h3 : s.data.toList[s.data.toList.length - 1] = 45
  · rw [show (bt s ((s.data.toList.length - 1 : Nat) : Int) == 45) = true from beq_iff_eq.2 ((bt_45 hlast).2 h3)]
    exact bad (fun x => x.2.2.1 (by rw [last_get hlast, h3]))
  rw [show (bt s ((s.data.toList.length - 1 : Nat) : Int) == 45) = false from beq_eq_false_iff_ne.2 (fun x => h3 ((bt_45 hlast).1 x))]
  refine Ev.step (fun k => by simp only [backhaulref01_Fold.j0]; rfl) ?_
  refine Ev.neg (by decide) (Ev.eq (ref01_fold_l0 (by omega) (fun _ x => h2 (e0.2 x)) s.size 0 [] 3 (by omega) (by omega) rfl (.inl rfl)) ?_)
  rw [List.drop_zero, foldS_eq]
  unfold foldRest
  by_cases h4 : okL 3 (runes s.data.toList) = true
  · rw [if_pos h4, if_pos ⟨by omega, by omega, by rw [last_get hlast]; intro x; exact h3 (Option.some.inj x), h4⟩]; rfl
  rw [if_neg h4, if_neg (fun x => h4 x.2.2.2)]
theorem check_toList (s : ByteArray) : (if (foldS s).2 = 0 then (if (foldS s).1.toList = s.toList then some (0 : Int) else some 9) else some 9) = some (checkS s) := by
  unfold checkS
  by_cases h1 : (foldS s).2 = 0
  · rw [if_pos h1]
    by_cases h2 : (foldS s).1.toList = s.toList
    · rw [if_pos h2, if_pos ⟨h1, bytes_ext.1 h2⟩]
    rw [if_neg h2, if_neg (fun x => h2 (by rw [x.2]))]
  rw [if_neg h1, if_neg (fun x => h1 x.1)]
theorem ref01_check_f (s : ByteArray) (hs : s.size < 1099511627776) : Ev (fun k => backhaulref01_Check.f k s) (checkS s) := by
  unfold backhaulref01_Check.f
  exact Ev.bind (ref01_fold_f s hs) (Ev.const (check_toList s))
theorem serial_check_f (s : ByteArray) (hs : s.size < 9223372036854775807) : serial_Check.f s = some (checkS s) := by
  unfold serial_Check.f serial_Fold.f checkS
  rw [if_pos hs, Option.bind_some]
  have e : (foldS s).1.toList = s.toList ↔ (foldS s).1 = s := by
    constructor
    · intro h
      rw [ByteArray.toList_eq, ByteArray.toList_eq] at h
      generalize (foldS s).1 = a at *
      cases a; cases s
      simpa [Array.toList_inj] using h
    intro h; rw [h]
  by_cases h1 : (foldS s).2 = 0
  · rw [if_pos h1]
    by_cases h2 : (foldS s).1.toList = s.toList
    · rw [if_pos h2, if_pos ⟨h1, e.1 h2⟩]
    rw [if_neg h2, if_neg (fun x => h2 (e.2 x.2))]
  rw [if_neg h1, if_neg (fun x => h1 x.1)]
end Go.Proofs.Ytdpcgigjlcpofaa.Q
set_option linter.unusedVariables false
namespace Go.Proofs.Ytdpcgigjlcpofaa.Q
open Go.RowKit Go.Proofs.Ytdpcgigjlcpofaa.F Go.Proofs.YtdpcgigjlcpofaaX Go.Proofs.YtdpcgigjlcpofaaW.PrintWords Go.Proofs.YtdpcgigjlcpofaaW.PrintLast Go.Proofs.YtdpcgigjlcpofaaW.PrintMore
theorem serial_row_l0 {l : List ByteArray} (hl : l.length < 4611686018427387904) (hs : ∀ x ∈ l, x.size < 1099511627776) (d : Nat) : ∀ (i : Nat), l.length - i = d → i ≤ l.length → Ev (fun k => serial_Row.l0 k l l (l.length : Int) (i : Int)) (rowG (if i = 0 then none else l[i - 1]?) (l.drop i)) := by
  induction d with
  | zero =>
    intro i hd hi
    refine Ev.step (fun k => by simp only [serial_Row.l0]; rfl) ?_
    refine Ev.neg (by omega) (Ev.ok ?_)
    rw [List.drop_eq_nil_of_le (by omega)]; rfl
  | succ d ih =>
    intro i hd hi
    have h : i < l.length := by omega
    refine Ev.step (fun k => by simp only [serial_Row.l0]; rfl) ?_
    refine Ev.pos (by omega) (Ev.pos (by omega) (Ev.pos (by omega) ?_))
    rw [drop_cons h, rdOf_nat h, wrap_eq (x := (i : Int) + 1) (by omega) (by omega)]
    have ih' := ih (i + 1) (by omega) (by omega)
    rw [if_neg (by omega), Nat.add_sub_cancel, List.getElem?_eq_getElem h] at ih'
    refine Ev.bindc (serial_check_f _ (by have := hs _ (List.getElem_mem h); omega)) ?_
    simp only [rowG]
    refine Ev.ite (fun h1 => ?_) (fun h1 => ?_)
    · rw [if_pos h1]
      refine Ev.ite (fun h2 => ?_) (fun h2 => ?_)
      · have h' : i - 1 < l.length := by omega
        rw [wrap_eq (x := (i : Int) - 1) (by omega) (by omega), show (i : Int) - 1 = ((i - 1 : Nat) : Int) by omega, rdOf_nat h', if_neg (show ¬ i = 0 by omega), List.getElem?_eq_getElem h']
        refine Ev.pos (by omega) (Ev.pos (by omega) ?_)
        refine Ev.ite (fun h3 => ?_) (fun h3 => ?_)
        · rw [if_neg (by simp [notUp, h3])]; exact ih'
        rw [if_pos (by simp [notUp, h3])]; exact Ev.ok rfl
      rw [if_pos (show i = 0 by omega), if_neg (by simp [notUp])]; exact ih'
    rw [if_neg h1, (checkS_or _).resolve_left h1]; exact Ev.ok rfl
theorem serial_row_f {l : List ByteArray} (hl : l.length < 4611686018427387904) (hs : ∀ x ∈ l, x.size < 1099511627776) : Ev (fun k => serial_Row.f k l) (rowG none l) := by
  unfold serial_Row.f
  exact serial_row_l0 hl hs l.length 0 (by omega) (by omega)
theorem ref01_row_l0 {l : List ByteArray} (hl : l.length < 4611686018427387904) (hs : ∀ x ∈ l, x.size < 1099511627776) (d : Nat) : ∀ (i : Nat), l.length - i = d → i ≤ l.length → Ev (fun k => backhaulref01_Row.l0 k l (i : Int)) (rowG (if i = 0 then none else l[i - 1]?) (l.drop i)) := by
  induction d with
  | zero =>
    intro i hd hi
    refine Ev.step (fun k => by simp only [backhaulref01_Row.l0]; rfl) ?_
    refine Ev.neg (by omega) (Ev.ok ?_)
    rw [List.drop_eq_nil_of_le (by omega)]; rfl
  | succ d ih =>
    intro i hd hi
    have h : i < l.length := by omega
    refine Ev.step (fun k => by simp only [backhaulref01_Row.l0]; rfl) ?_
    refine Ev.pos (by omega) (Ev.pos (by omega) ?_)
    rw [drop_cons h, rdOf_nat h, wrap_eq (x := (i : Int) + 1) (by omega) (by omega)]
    have ih' := ih (i + 1) (by omega) (by omega)
    rw [if_neg (by omega), Nat.add_sub_cancel, List.getElem?_eq_getElem h] at ih'
    refine Ev.bind (ref01_check_f _ (hs _ (List.getElem_mem h))) ?_
    simp only [rowG]
    refine Ev.ite (fun h1 => ?_) (fun h1 => ?_)
    · rw [if_pos h1]
      refine Ev.ite (fun h2 => ?_) (fun h2 => ?_)
      · have h' : i - 1 < l.length := by omega
        rw [wrap_eq (x := (i : Int) - 1) (by omega) (by omega), show (i : Int) - 1 = ((i - 1 : Nat) : Int) by omega, rdOf_nat h', if_neg (show ¬ i = 0 by omega), List.getElem?_eq_getElem h']
        refine Ev.pos (by omega) (Ev.pos (by omega) ?_)
        refine Ev.ite (fun h3 => ?_) (fun h3 => ?_)
        · rw [if_neg (by simp [notUp, h3])]; exact ih'
        rw [if_pos (by simp [notUp, h3])]; exact Ev.ok rfl
      rw [if_pos (show i = 0 by omega), if_neg (by simp [notUp])]; exact ih'
    rw [if_neg h1]; exact Ev.ok rfl
theorem ref01_row_f {l : List ByteArray} (hl : l.length < 4611686018427387904) (hs : ∀ x ∈ l, x.size < 1099511627776) : Ev (fun k => backhaulref01_Row.f k l) (rowG none l) := by
  unfold backhaulref01_Row.f
  exact ref01_row_l0 hl hs l.length 0 (by omega) (by omega)
end Go.Proofs.Ytdpcgigjlcpofaa.Q
set_option linter.unusedVariables false
namespace Go.Proofs.Ytdpcgigjlcpofaa.Q
open Go.RowKit Go.Proofs.Ytdpcgigjlcpofaa.F Go.Proofs.YtdpcgigjlcpofaaX Go.Proofs.YtdpcgigjlcpofaaW.PrintWords Go.Proofs.YtdpcgigjlcpofaaW.PrintLast Go.Proofs.YtdpcgigjlcpofaaW.PrintMore
theorem cmp_less_text (a b : ByteArray) : cmp_Less_string.f a b = some (Op.bytesLess a.toList b.toList) := by
  simp [cmp_Less_string.f, cmp_isNaN_string.f]
theorem bst_l0 {l : List ByteArray} {t : ByteArray} (hl : l.length < 4611686018427387904) (h0 : rowG none l = 0) (hs : l.Pairwise lt8) (d : Nat) : ∀ (lo hi : Nat), hi - lo = d → lo ≤ hi → hi ≤ l.length →
    (∀ j (h : j < l.length), j < lo → lt8 l[j] t) → (∀ j (h : j < l.length), hi ≤ j → ¬ lt8 l[j] t) →
    Ev (fun k => slices_BinarySearch_string_string.l0 k l t (l.length : Int) (lo : Int) (hi : Int)) (findT l t) := by
  induction d using Nat.strongRecOn with
  | _ d ih =>
    intro lo hi hd hlo hhi h1 h2
    refine Ev.step (fun k => by simp only [slices_BinarySearch_string_string.l0]; rfl) ?_
    by_cases hlt : lo < hi
    · have hw : wrap64 ((IntKind.u64.wrap (wrap64 ((lo : Int) + (hi : Int)))) / 2) = (((lo + hi) / 2 : Nat) : Int) := by
        rw [wrap_eq (x := (lo : Int) + (hi : Int)) (by omega) (by omega), u64_eq (x := (lo : Int) + (hi : Int)) (by omega) (by omega), wrap_eq (x := ((lo : Int) + (hi : Int)) / 2) (by omega) (by omega)]; omega
      have hm : (lo + hi) / 2 < l.length := by omega
      rw [hw]
      refine Ev.pos (by omega) (Ev.pos (by omega) (Ev.pos (by omega) ?_))
      rw [rdOf_nat hm]
      refine Ev.bindc (cmp_less_text _ _) ?_
      refine Ev.ite (fun hc => ?_) (fun hc => ?_)
      · have hc' : lt8 l[(lo + hi) / 2] t := hc
        rw [wrap_eq (by omega) (by omega)]
        refine ih (hi - ((lo + hi) / 2 + 1)) (by omega) ((lo + hi) / 2 + 1) hi rfl (by omega) hhi (fun j hj hjl => ?_) h2
        rcases Nat.lt_or_ge j ((lo + hi) / 2) with hlt2 | hge
        · exact lt8_trans (pair_get hs hm hlt2) hc'
        have : j = (lo + hi) / 2 := by omega
        subst this; exact hc'
      have hc' : ¬ lt8 l[(lo + hi) / 2] t := hc
      refine ih ((lo + hi) / 2 - lo) (by omega) lo ((lo + hi) / 2) rfl (by omega) (by omega) h1 (fun j hj hjl => ?_)
      rcases Nat.lt_or_ge ((lo + hi) / 2) j with hlt2 | hge
      · exact fun x => hc' (lt8_trans (pair_get hs hj hlt2) x)
      have : j = (lo + hi) / 2 := by omega
      subst this; exact hc'
    have he : lo = hi := by omega
    subst he
    rw [findT_sorted hs hhi h1 h2 h0]
    refine Ev.neg (by omega) ?_
    refine Ev.ite (fun hc => ?_) (fun hc => ?_)
    · have hlo' : lo < l.length := by omega
      refine Ev.pos (by omega) (Ev.pos (by omega) ?_)
      rw [rdOf_nat hlo']
      refine Ev.ite (fun he => ?_) (fun he => ?_)
      · refine Ev.ok ?_
        rw [decide_eq_true (⟨hlo', bytes_ext.1 he⟩ : ∃ h : lo < l.length, l[lo] = t)]
      refine Ev.bindc (a := false) (by simp [slices_isNaN_string.f]) ?_
      refine Ev.neg (by simp) (Ev.ok ?_)
      rw [decide_eq_false (fun x : ∃ h : lo < l.length, l[lo] = t => he (by rw [x.2]))]
    refine Ev.ok ?_
    rw [decide_eq_false (fun x : ∃ h : lo < l.length, l[lo] = t => by have := x.1; omega)]
theorem bst_f {l : List ByteArray} {t : ByteArray} (hl : l.length < 4611686018427387904) (h0 : rowG none l = 0) : Ev (fun k => slices_BinarySearch_string_string.f k l t) (findT l t) := by
  unfold slices_BinarySearch_string_string.f
  exact bst_l0 hl h0 (rowG_zero h0).2.1 l.length 0 l.length (by omega) (by omega) (by omega) (fun j hj h => by omega) (fun j hj h => by omega)
def idxI (l : List ByteArray) (t : ByteArray) : Int := match idxT l t with
  | some i => (i : Int)
  | none => -1
theorem indext_l0 {l : List ByteArray} {t : ByteArray} (hl : l.length < 4611686018427387904) (d : Nat) : ∀ (i : Nat), l.length - i = d → i ≤ l.length → (∀ j (h : j < l.length), j < i → l[j] ≠ t) →
    Ev (fun k => slices_Index_string_string.l0 k l t (l.length : Int) (i : Int)) (idxI l t) := by
  induction d with
  | zero =>
    intro i hd hi h1
    refine Ev.step (fun k => by simp only [slices_Index_string_string.l0]; rfl) ?_
    refine Ev.neg (by omega) (Ev.ok ?_)
    unfold idxI
    rw [idxT_none (fun j hj => h1 j hj (by omega))]
  | succ d ih =>
    intro i hd hi h1
    have h : i < l.length := by omega
    refine Ev.step (fun k => by simp only [slices_Index_string_string.l0]; rfl) ?_
    refine Ev.pos (by omega) (Ev.pos (by omega) (Ev.pos (by omega) ?_))
    rw [rdOf_nat h]
    refine Ev.ite (fun he => Ev.ok ?_) (fun he => ?_)
    · unfold idxI
      rw [idxT_some h (bytes_ext.1 he).symm h1]
    rw [wrap_eq (by omega) (by omega)]
    exact ih (i + 1) (by omega) (by omega) (fun j hj hjl => by
      rcases Nat.lt_or_ge j i with h2 | h2
      · exact h1 j hj h2
      have : j = i := by omega
      subst this; exact fun e => he (by rw [e]))
theorem serial_find_f {l : List ByteArray} {t : ByteArray} (hl : l.length < 4611686018427387904) (hs : ∀ x ∈ l, x.size < 1099511627776) : Ev (fun k => serial_Find.f k l t) (findT l t) := by
  unfold serial_Find.f
  refine Ev.bind (serial_row_f hl hs) (Ev.ite (fun h => Ev.bind (bst_f hl h) (Ev.ok rfl)) (fun h => ?_))
  have hi : Ev (fun k => slices_Index_string_string.f k l t) (idxI l t) := by
    unfold slices_Index_string_string.f
    exact indext_l0 hl l.length 0 (by omega) (by omega) (fun j hj h => by omega)
  refine Ev.bind hi (Ev.ok ?_)
  unfold idxI findT
  cases e : idxT l t with
  | none => simp only [if_neg h]; rfl
  | some i =>
    have : mx (i : Int) 0 = i := by unfold mx; split <;> omega
    simp [this]
end Go.Proofs.Ytdpcgigjlcpofaa.Q
set_option linter.unusedVariables false
namespace Go.Proofs.Ytdpcgigjlcpofaa.Q
open Go.RowKit Go.Proofs.Ytdpcgigjlcpofaa.F Go.Proofs.YtdpcgigjlcpofaaW.PrintWords Go.Proofs.YtdpcgigjlcpofaaW.PrintLast Go.Proofs.YtdpcgigjlcpofaaW.PrintMore
theorem same_texts_l0 {a b : List ByteArray} (hl : a.length < 9223372036854775807) (hab : a.length = b.length) (d : Nat) : ∀ i : Nat, a.length - i = d → i ≤ a.length →
    Ev (fun k => backhaulref01_SameTexts.l0 k a b (i : Int)) (decide (a.drop i = b.drop i)) := by
  induction d with
  | zero =>
    intro i hd hi
    refine Ev.step (fun k => by simp only [backhaulref01_SameTexts.l0]; rfl) ?_
    refine Ev.neg (by omega) (Ev.ok ?_)
    rw [List.drop_eq_nil_of_le (by omega), List.drop_eq_nil_of_le (by omega)]; simp
  | succ d ih =>
    intro i hd hi
    have h : i < a.length := by omega
    have h' : i < b.length := by omega
    refine Ev.step (fun k => by simp only [backhaulref01_SameTexts.l0]; rfl) ?_
    refine Ev.pos (by omega) (Ev.pos (by omega) (Ev.pos (by omega) ?_))
    rw [rdOf_nat h, rdOf_nat h', drop_cons h, drop_cons h']
    refine Ev.ite (fun he => ?_) (fun he => Ev.ok ?_)
    · rw [wrap_eq (by omega) (by omega)]
      refine Ev.eq (ih (i + 1) (by omega) (by omega)) ?_
      rw [bytes_ext.1 he]
      exact decide_eq_decide.2 ⟨fun e => by rw [e], fun e => by injection e⟩
    exact (decide_eq_false (fun e => he (by injection e with e1; rw [e1]))).symm
theorem same_texts_f {a b : List ByteArray} (hl : a.length < 9223372036854775807) : Ev (fun k => backhaulref01_SameTexts.f k a b) (decide (a = b)) := by
  unfold backhaulref01_SameTexts.f
  refine Ev.ite (fun h => ?_) (fun h => Ev.ok ?_)
  · exact same_texts_l0 hl (by omega) a.length 0 (by omega) (by omega)
  have : ¬ a = b := fun e => h (by rw [e])
  simp [this]
end Go.Proofs.Ytdpcgigjlcpofaa.Q
set_option linter.unusedVariables false
set_option linter.unusedSimpArgs false
namespace Go.Proofs.Ytdpcgigjlcpofaa.Q
open Go.RowKit Go.Proofs.Ytdpcgigjlcpofaa.F Go.Proofs.YtdpcgigjlcpofaaX Go.Proofs.YtdpcgigjlcpofaaW.PrintWords Go.Proofs.YtdpcgigjlcpofaaW.PrintLast Go.Proofs.YtdpcgigjlcpofaaW.PrintMore
theorem rdI {is : List (List Int)} {i : Nat} (h : i < is.length) : rd_L14 is (i : Int) = is[i] := by
  unfold rd_L14; simp [List.getD_eq_getElem?_getD, h]
theorem rdP {l : List PrT} {i : Nat} (h : i < l.length) : rd_T146 l (i : Int) = l[i] := by
  unfold rd_T146; simp [h]
structure Small (ks : List ByteArray) (is : List (List Int)) : Prop where
  k1 : ks.length ≤ 5000
  k2 : is.length ≤ 5000
  k3 : ∀ x ∈ ks, x.size ≤ 1000
  k4 : ∀ l ∈ is, l.length ≤ 5000
theorem sumL_cons (l : List Int) (is : List (List Int)) : sumL (l :: is) = l.length + sumL is := by unfold sumL; simp
theorem sumL_le : ∀ (is : List (List Int)), (∀ l ∈ is, l.length ≤ 5000) → sumL is ≤ 5000 * is.length
  | [], _ => by simp [sumL]
  | l :: is, h => by
    have h1 := h l List.mem_cons_self
    have h2 := sumL_le is fun x hx => h x (List.mem_cons_of_mem _ hx)
    rw [sumL_cons, List.length_cons]
    omega
section
variable {ks : List ByteArray} {is : List (List Int)} (S : Small ks is)
include S
theorem pairs_l0 (d : Nat) : ∀ (i : Nat) (n : Nat), is.length - i = d → i ≤ is.length → n + sumL (is.drop i) ≤ 25000000 → Ev (fun k => index_pairs.l0 k (n : Int) is (is.length : Int) (i : Int)) ((n + sumL (is.drop i) : Nat) : Int) := by
  have h2 := S.k2
  induction d with
  | zero =>
    intro i n hd hi hn
    refine Ev.step (fun k => by simp only [index_pairs.l0]; rfl) (Ev.neg (by omega) (Ev.ok ?_))
    rw [List.drop_eq_nil_of_le (by omega)]
    simp [sumL]
  | succ d ih =>
    intro i n hd hi hn
    have h : i < is.length := by omega
    rw [drop_cons h, sumL_cons] at hn ⊢
    refine Ev.step (fun k => by simp only [index_pairs.l0]; rfl) (Ev.pos (by omega) (Ev.pos (by omega) (Ev.pos (by omega) ?_)))
    rw [rdI h, wrap_eq (x := (i : Int) + 1) (by omega) (by omega), wrap_eq (x := (n : Int) + (is[i].length : Int)) (by omega) (by omega)]
    have := ih (i + 1) (n + is[i].length) (by omega) (by omega) (by omega)
    rw [Nat.add_assoc] at this
    exact this
theorem pairs_f : Ev (fun k => index_pairs.f k ks is) (sumL is : Int) := by
  unfold index_pairs.f
  have h2 := S.k2
  have h3 := sumL_le is S.k4
  have := pairs_l0 S is.length 0 0 (by omega) (by omega) (by rw [List.drop_zero]; omega)
  rw [List.drop_zero, Nat.zero_add] at this
  exact this
end
def badB (l : List Int) : Bool := decide (l.length = 0) || (rising 0 l != 0)
theorem badB_iff {l : List Int} : badB l = false ↔ l ≠ [] ∧ rising 0 l = 0 := by
  unfold badB
  rw [Bool.or_eq_false_iff, decide_eq_false_iff_not, bne_eq_false_iff_eq, List.length_eq_zero_iff]
theorem wrong_f {l : List Int} (hl : l.length ≤ 5000) : Ev (fun k => index_Check_1.f k l) (badB l) := by
  unfold index_Check_1.f badB
  refine Q.Ev.ite (fun c => Ev.ok ?_) (fun c => ?_)
  · rw [decide_eq_true (by omega), Bool.true_or]
  rw [decide_eq_false (by omega), Bool.false_or]
  exact Ev.bind (rows_Rising_f (by omega)) (Ev.ok rfl)
def idxB : Nat → List (List Int) → Int
  | _, [] => -1
  | i, l :: r => if badB l = true then (i : Int) else idxB (i + 1) r
theorem idxB_any : ∀ (is : List (List Int)) (i : Nat), decide (idxB i is ≥ 0) = is.any badB
  | [], i => rfl
  | l :: r, i => by
    unfold idxB
    rw [List.any_cons]
    by_cases c : badB l = true
    · rw [if_pos c, c, Bool.true_or]
      exact decide_eq_true (by omega)
    rw [if_neg c, Bool.eq_false_iff.2 c, Bool.false_or]
    exact idxB_any r (i + 1)
theorem idxfunc_l0 {is : List (List Int)} (h2 : is.length ≤ 5000) (h4 : ∀ l ∈ is, l.length ≤ 5000) (d : Nat) : ∀ i : Nat, is.length - i = d → i ≤ is.length → Ev (fun k => slices_IndexFunc_index_Check_1.l0 k is (is.length : Int) (i : Int)) (idxB i (is.drop i)) := by
  induction d with
  | zero =>
    intro i hd hi
    refine Ev.step (fun k => by simp only [slices_IndexFunc_index_Check_1.l0]; rfl) (Ev.neg (by omega) (Ev.ok ?_))
    rw [List.drop_eq_nil_of_le (by omega)]
    rfl
  | succ d ih =>
    intro i hd hi
    have h : i < is.length := by omega
    refine Ev.step (fun k => by simp only [slices_IndexFunc_index_Check_1.l0]; rfl) (Ev.pos (by omega) (Ev.pos (by omega) (Ev.pos (by omega) ?_)))
    rw [rdI h, wrap_eq (x := (i : Int) + 1) (by omega) (by omega), drop_cons h]
    refine Ev.bind (wrong_f (h4 _ (List.getElem_mem h))) (Q.Ev.ite (fun c => Ev.ok ?_) (fun c => ?_))
    · unfold idxB
      rw [if_pos c]
    unfold idxB
    rw [if_neg c]
    exact ih (i + 1) (by omega) (by omega)
theorem contains_f {is : List (List Int)} (h2 : is.length ≤ 5000) (h4 : ∀ l ∈ is, l.length ≤ 5000) : Ev (fun k => slices_ContainsFunc_index_Check_1.f k is) (is.any badB) := by
  unfold slices_ContainsFunc_index_Check_1.f slices_IndexFunc_index_Check_1.f
  have := idxfunc_l0 h2 h4 is.length 0 (by omega) (by omega)
  rw [List.drop_zero] at this
  exact Ev.bind this (Ev.ok (idxB_any is 0))
def okB (ks : List ByteArray) (is : List (List Int)) : Bool := decide (rowG none ks = 0) && (decide (ks.length = is.length) && !is.any badB)
theorem okB_iff {ks : List ByteArray} {is : List (List Int)} : okB ks is = true ↔ okI ks is := by
  unfold okB okI
  rw [Bool.and_eq_true, Bool.and_eq_true, decide_eq_true_eq, decide_eq_true_eq, Bool.not_eq_true', List.any_eq_false]
  refine and_congr Iff.rfl (and_congr Iff.rfl ⟨fun h l hl => badB_iff.1 (Bool.eq_false_iff.2 (h l hl)), fun h l hl => by rw [badB_iff.2 (h l hl)]; decide⟩)
def chkI (ks : List ByteArray) (is : List (List Int)) : Int := if okB ks is = true ∧ sumL is ≤ 2000 then 0 else 40
section
variable {ks : List ByteArray} {is : List (List Int)} (S : Small ks is)
include S
theorem sizes_k : ks.length < 4611686018427387904 ∧ ∀ x ∈ ks, x.size < 1099511627776 := by
  have := S.k1
  exact ⟨by omega, fun x hx => by have := S.k3 x hx; omega⟩
theorem icheck_f : Ev (fun k => index_Check.f k ks is) (chkI ks is) := by
  have hz := sizes_k S
  have j0 : ∀ u : Bool, u = true → ¬ (okB ks is = true ∧ sumL is ≤ 2000) → Ev (fun k => index_Check.j0 k u ks is) (chkI ks is) := fun u hu hn =>
    Ev.step (fun k => by simp only [index_Check.j0]; rfl) (Q.Ev.pos hu (Ev.ok (by unfold chkI; rw [if_neg hn])))
  unfold index_Check.f
  refine Ev.bind (serial_row_f hz.1 hz.2) (Q.Ev.ite (fun c1 => Q.Ev.ite (fun c2 => ?_) (fun c2 => j0 true rfl ?_)) (fun c1 => j0 true rfl ?_))
  · refine Ev.bind (pairs_f S) ?_
    by_cases c3 : (sumL is : Int) > 2000
    · rw [decide_eq_true c3]
      exact j0 true rfl (fun h => by omega)
    rw [decide_eq_false c3]
    refine Ev.step (fun k => by simp only [index_Check.j0]; rfl) (Q.Ev.neg (by decide) (Ev.bind (contains_f S.k2 S.k4) (Q.Ev.ite (fun c4 => Ev.ok ?_) (fun c4 => Ev.ok ?_))))
    · unfold chkI okB
      rw [if_neg (by rw [c4]; simp)]
    have e : okB ks is = true := by
      unfold okB
      rw [decide_eq_true c1, decide_eq_true (show ks.length = is.length by omega), Bool.eq_false_iff.2 c4]
      rfl
    unfold chkI
    rw [if_pos ⟨e, by omega⟩]
  · intro h
    have := (okB_iff.1 h.1).2.1
    omega
  intro h
  exact c1 (okB_iff.1 h.1).1
theorem ipairs_l1 {i : Nat} (h : i < is.length) (hk : ks.length = is.length) {R : List PrT × Bool} (m : Nat) : ∀ (j : Nat) (out : List PrT), is[i].length - j = m → j ≤ is[i].length → out.length + (is[i].length - j) ≤ 50000000 →
    (Ev (fun k => backhaulref14_Pairs.l0 k ks is (out ++ (is[i].drop j).map (fun n => (⟨ks[i]'(by omega), n⟩ : PrT))) ((i + 1 : Nat) : Int)) R) → Ev (fun k => backhaulref14_Pairs.l1 k ks is out (i : Int) (j : Int)) R := by
  have h4 := S.k4 _ (List.getElem_mem h)
  have h2 := S.k2
  induction m with
  | zero =>
    intro j out hd hj ho hR
    refine Ev.step (fun k => by simp only [backhaulref14_Pairs.l1]; rfl) (Ev.pos (by omega) (Ev.pos (by omega) ?_))
    rw [rdI h, wrap_eq (x := (i : Int) + 1) (by omega) (by omega)]
    rw [List.drop_eq_nil_of_le (by omega), List.map_nil, List.append_nil] at hR
    exact Ev.neg (by omega) hR
  | succ m ih =>
    intro j out hd hj ho hR
    have hjl : j < is[i].length := by omega
    refine Ev.step (fun k => by simp only [backhaulref14_Pairs.l1]; rfl) (Ev.pos (by omega) (Ev.pos (by omega) ?_))
    rw [rdI h, rdOf_nat (show i < ks.length by omega), rd_nat hjl, wrap_eq (x := (j : Int) + 1) (by omega) (by omega)]
    refine Ev.pos (by omega) (Ev.pos (by omega) (Ev.pos (by omega) (Ev.pos (by omega) ?_)))
    refine ih (j + 1) _ (by omega) (by omega) (by simp; omega) ?_
    rw [drop_cons hjl, List.map_cons] at hR
    rw [List.append_assoc, List.singleton_append]
    exact hR
theorem ipairs_l0 (hk : ks.length = is.length) (m : Nat) : ∀ (i : Nat) (out : List PrT), is.length - i = m → i ≤ is.length → out.length ≤ 5000 * i → Ev (fun k => backhaulref14_Pairs.l0 k ks is out (i : Int)) (if (is.drop i).any badB = true then ([], false) else (out ++ pairsOf (ks.drop i) (is.drop i), decide ((out ++ pairsOf (ks.drop i) (is.drop i)).length ≤ 2000))) := by
  have h2 := S.k2
  induction m with
  | zero =>
    intro i out hd hi ho
    refine Ev.step (fun k => by simp only [backhaulref14_Pairs.l0]; rfl) (Ev.neg (by omega) (Ev.ok ?_))
    rw [List.drop_eq_nil_of_le (by omega : is.length ≤ i), List.drop_eq_nil_of_le (by omega : ks.length ≤ i)]
    simp [pairsOf]
    omega
  | succ m ih =>
    intro i out hd hi ho
    have h : i < is.length := by omega
    have hk' : i < ks.length := by omega
    have h4 := S.k4 _ (List.getElem_mem h)
    rw [drop_cons h, drop_cons hk', List.any_cons]
    have bad : ∀ u : Bool, u = true → badB is[i] = true → Ev (fun k => backhaulref14_Pairs.j2 k ks is out (i : Int) u) (if (badB is[i] || (is.drop (i + 1)).any badB) = true then ([], false) else (out ++ pairsOf (ks[i] :: ks.drop (i + 1)) (is[i] :: is.drop (i + 1)), decide ((out ++ pairsOf (ks[i] :: ks.drop (i + 1)) (is[i] :: is.drop (i + 1))).length ≤ 2000))) := fun u hu hb =>
      Ev.step (fun k => by simp only [backhaulref14_Pairs.j2]; rfl) (Q.Ev.pos hu (Ev.ok (by rw [hb, Bool.true_or, if_pos rfl])))
    refine Ev.step (fun k => by simp only [backhaulref14_Pairs.l0]; rfl) (Ev.pos (by omega) (Ev.pos (by omega) (Ev.pos (by omega) ?_)))
    rw [rdI h]
    refine Q.Ev.ite (fun c => bad true rfl ?_) (fun c => Ev.bind (ref_Rising_f (by omega)) ?_)
    · unfold badB
      rw [decide_eq_true (by omega), Bool.true_or]
    by_cases c2 : rising 0 is[i] = 0
    · rw [c2]
      have hb : badB is[i] = false := badB_iff.2 ⟨fun e => c (by rw [e]; rfl), c2⟩
      rw [hb, Bool.false_or]
      refine Ev.step (fun k => by simp only [backhaulref14_Pairs.j2]; rfl) (Q.Ev.neg (by decide) ?_)
      refine ipairs_l1 S h hk is[i].length 0 out (by omega) (by omega) (by omega) ?_
      have := ih (i + 1) (out ++ is[i].map (fun n => (⟨ks[i], n⟩ : PrT))) (by omega) (by omega) (by simp; omega)
      rw [List.drop_zero]
      simp only [pairsOf, ← List.append_assoc]
      exact this
    refine bad _ (by simpa using c2) ?_
    unfold badB
    rw [Bool.or_eq_true]
    exact .inr (by simpa using c2)
theorem ref_pairs_f : Ev (fun k => backhaulref14_Pairs.f k ks is) (if okB ks is = true then (pairsOf ks is, decide (sumL is ≤ 2000)) else ([], false)) := by
  have hz := sizes_k S
  have j0 : ∀ u : Bool, u = true → ¬ okB ks is = true → Ev (fun k => backhaulref14_Pairs.j0 k ks is u) (if okB ks is = true then (pairsOf ks is, decide (sumL is ≤ 2000)) else ([], false)) := fun u hu hn =>
    Ev.step (fun k => by simp only [backhaulref14_Pairs.j0]; rfl) (Q.Ev.pos hu (Ev.ok (by rw [if_neg hn])))
  unfold backhaulref14_Pairs.f
  refine Ev.bind (ref01_row_f hz.1 hz.2) (Q.Ev.ite (fun c1 => ?_) (fun c1 => j0 true rfl (fun h => c1 (okB_iff.1 h).1)))
  by_cases c2 : ks.length = is.length
  · have e : ((ks.length : Int) != (is.length : Int)) = false := by simp [c2]
    rw [e]
    refine Ev.step (fun k => by simp only [backhaulref14_Pairs.j0]; rfl) (Q.Ev.neg (by decide) (Ev.eq (ipairs_l0 S c2 is.length 0 [] (by omega) (by omega) (by simp)) ?_))
    rw [List.drop_zero, List.drop_zero, List.nil_append, pairs_len ks is c2]
    have ho : okB ks is = !is.any badB := by unfold okB; rw [decide_eq_true c1, decide_eq_true c2]; rfl
    rw [ho]
    cases is.any badB <;> rfl
  have e : ((ks.length : Int) != (is.length : Int)) = true := by
    simp only [bne_iff_ne, ne_eq]
    omega
  exact j0 _ e (fun h => c2 (okB_iff.1 h).2.1)
end
end Go.Proofs.Ytdpcgigjlcpofaa.Q
set_option linter.unusedVariables false
set_option linter.unusedSimpArgs false
namespace Go.Proofs.Ytdpcgigjlcpofaa.Q
open Go.RowKit Go.Proofs.Ytdpcgigjlcpofaa.F Go.Proofs.YtdpcgigjlcpofaaX Go.Proofs.YtdpcgigjlcpofaaW.PrintWords Go.Proofs.YtdpcgigjlcpofaaW.PrintLast Go.Proofs.YtdpcgigjlcpofaaW.PrintMore
theorem chk_or (ks : List ByteArray) (is : List (List Int)) : chkI ks is = 0 ∨ chkI ks is = 40 := by
  unfold chkI
  split
  · exact .inl rfl
  exact .inr rfl
theorem chk_zero {ks : List ByteArray} {is : List (List Int)} : chkI ks is = 0 ↔ okI ks is ∧ sumL is ≤ 2000 := by
  unfold chkI
  split
  · rename_i h
    exact ⟨fun _ => ⟨okB_iff.1 h.1, h.2⟩, fun _ => rfl⟩
  rename_i h
  exact ⟨fun g => (by cases g), fun g => (h ⟨okB_iff.2 g.1, g.2⟩).elim⟩
def ofP (l : List PrT) (s : ByteArray) : List Int := (l.filter fun p => decide (p.f0 = s)).map fun p => p.f1
def underP (l : List PrT) (id : Int) : List ByteArray := (l.filter fun p => decide (p.f1 = id)).map fun p => p.f0
theorem of_l0 {l : List PrT} {s : ByteArray} (hl : l.length ≤ 30000000) (m : Nat) : ∀ (i : Nat) (out : List Int), l.length - i = m → i ≤ l.length → out.length ≤ i → Ev (fun k => backhaulref14_Of.l0 k l s out (i : Int)) (out ++ ofP (l.drop i) s) := by
  induction m with
  | zero =>
    intro i out hd hi ho
    refine Ev.step (fun k => by simp only [backhaulref14_Of.l0]; rfl) (Ev.neg (by omega) (Ev.ok ?_))
    rw [List.drop_eq_nil_of_le (by omega)]
    simp [ofP]
  | succ m ih =>
    intro i out hd hi ho
    have h : i < l.length := by omega
    refine Ev.step (fun k => by simp only [backhaulref14_Of.l0]; rfl) (Ev.pos (by omega) (Ev.pos (by omega) ?_))
    rw [rdP h, wrap_eq (x := (i : Int) + 1) (by omega) (by omega), drop_cons h]
    refine Q.Ev.ite (fun c => ?_) (fun c => ?_)
    · have e : l[i].f0 = s := bytes_ext.1 c
      refine Ev.pos (by omega) (Ev.eq (ih (i + 1) _ (by omega) (by omega) (by simp; omega)) ?_)
      unfold ofP
      rw [List.filter_cons_of_pos (by simp [e]), List.map_cons, List.append_assoc, List.singleton_append]
    have e : ¬ l[i].f0 = s := fun q => c (by rw [q])
    refine Ev.eq (ih (i + 1) _ (by omega) (by omega) (by omega)) ?_
    unfold ofP
    rw [List.filter_cons_of_neg (by simp [e])]
theorem ref_of_f {l : List PrT} {s : ByteArray} (hl : l.length ≤ 30000000) : Ev (fun k => backhaulref14_Of.f k l s) (ofP l s) := by
  unfold backhaulref14_Of.f
  have := of_l0 (s := s) hl l.length 0 [] (by omega) (by omega) (by simp)
  rw [List.drop_zero, List.nil_append] at this
  exact this
theorem under_l0 {l : List PrT} {id : Int} (hl : l.length ≤ 30000000) (m : Nat) : ∀ (i : Nat) (out : List ByteArray), l.length - i = m → i ≤ l.length → out.length ≤ i → Ev (fun k => backhaulref14_Under.l0 k l id out (i : Int)) (out ++ underP (l.drop i) id) := by
  induction m with
  | zero =>
    intro i out hd hi ho
    refine Ev.step (fun k => by simp only [backhaulref14_Under.l0]; rfl) (Ev.neg (by omega) (Ev.ok ?_))
    rw [List.drop_eq_nil_of_le (by omega)]
    simp [underP]
  | succ m ih =>
    intro i out hd hi ho
    have h : i < l.length := by omega
    refine Ev.step (fun k => by simp only [backhaulref14_Under.l0]; rfl) (Ev.pos (by omega) (Ev.pos (by omega) ?_))
    rw [rdP h, wrap_eq (x := (i : Int) + 1) (by omega) (by omega), drop_cons h]
    refine Q.Ev.ite (fun c => ?_) (fun c => ?_)
    · refine Ev.pos (by omega) (Ev.eq (ih (i + 1) _ (by omega) (by omega) (by simp; omega)) ?_)
      unfold underP
      rw [List.filter_cons_of_pos (by simp [c]), List.map_cons, List.append_assoc, List.singleton_append]
    refine Ev.eq (ih (i + 1) _ (by omega) (by omega) (by omega)) ?_
    unfold underP
    rw [List.filter_cons_of_neg (by simp [c])]
theorem ref_under_f {l : List PrT} {id : Int} (hl : l.length ≤ 30000000) : Ev (fun k => backhaulref14_Under.f k l id) (underP l id) := by
  unfold backhaulref14_Under.f
  have := under_l0 (id := id) hl l.length 0 [] (by omega) (by omega) (by simp)
  rw [List.drop_zero, List.nil_append] at this
  exact this
theorem find_split {ks : List ByteArray} {is : List (List Int)} {s : ByteArray} {j : Nat} (hk : ks.length = is.length) (h : ks[j]? = some s) : ∃ hj : j < is.length, ks = ks.take j ++ s :: ks.drop (j + 1) ∧ is = is.take j ++ is[j] :: is.drop (j + 1) ∧ (ks.take j).length = (is.take j).length := by
  obtain ⟨h1, rfl⟩ := List.getElem?_eq_some_iff.1 h
  refine ⟨by omega, ?_, ?_, by simp; omega⟩
  · rw [← List.drop_eq_getElem_cons h1, List.take_append_drop]
  rw [← List.drop_eq_getElem_cons (by omega), List.take_append_drop]
theorem ofP_append (l m : List PrT) (s : ByteArray) : ofP (l ++ m) s = ofP l s ++ ofP m s := by unfold ofP; rw [List.filter_append, List.map_append]
theorem ofP_none {l : List PrT} {s : ByteArray} (h : ∀ p ∈ l, p.f0 ≠ s) : ofP l s = [] := by
  unfold ofP
  rw [List.filter_eq_nil_iff.2 (fun p hp => by simpa using h p hp)]
  rfl
theorem ofP_all (l : List Int) (s : ByteArray) : ofP (l.map fun i => (⟨s, i⟩ : PrT)) s = l := by
  unfold ofP
  rw [List.filter_eq_self.2 (fun p hp => by
    obtain ⟨i, _, rfl⟩ := List.mem_map.1 hp
    simp), List.map_map]
  exact List.map_id _
theorem of_at {ks : List ByteArray} {is : List (List Int)} {s : ByteArray} {j : Nat} (h : okI ks is) (hj : ks[j]? = some s) : ∃ hj : j < is.length, ofP (pairsOf ks is) s = is[j] := by
  obtain ⟨h1, e1, e2, e3⟩ := find_split h.2.1 hj
  refine ⟨h1, ?_⟩
  have h' := h
  rw [e1, e2] at h'
  obtain ⟨q, hA, hB⟩ := ok_part e3 h'
  have q' : pairsOf ks is = pairsOf (ks.take j ++ s :: ks.drop (j + 1)) (is.take j ++ is[j] :: is.drop (j + 1)) := by rw [← e1, ← e2]
  have n1 : ofP (pairsOf (ks.take j) (is.take j)) s = [] := ofP_none fun p hp e => hA (by rw [← e]; exact pairs_key _ _ hp)
  have n2 : ofP (pairsOf (ks.drop (j + 1)) (is.drop (j + 1))) s = [] := ofP_none fun p hp e => hB (by rw [← e]; exact pairs_key _ _ hp)
  rw [q', q, ofP_append, ofP_append, n1, ofP_all, n2]
  rw [List.nil_append, List.append_nil]
theorem of_absent {ks : List ByteArray} {is : List (List Int)} {s : ByteArray} (hs : s ∉ ks) : ofP (pairsOf ks is) s = [] := ofP_none fun p hp e => hs (by rw [← e]; exact pairs_key _ _ hp)
section
variable {ks : List ByteArray} {is : List (List Int)} (S : Small ks is)
include S
theorem index_of_f (s : ByteArray) : Ev (fun k => index_Of.f k ks is s) (if chkI ks is = 0 then ofP (pairsOf ks is) s else []) := by
  have hz := sizes_k S
  unfold index_Of.f
  refine Ev.bind (icheck_f S) (Q.Ev.ite (fun c => ?_) (fun c => Ev.ok (by rw [if_neg c])))
  rw [if_pos c]
  obtain ⟨ho, _⟩ := chk_zero.1 c
  refine Ev.bind (serial_find_f hz.1 hz.2) ?_
  cases e : idxT ks s with
  | none =>
    have e2 : (findT ks s).2 = false := by unfold findT; rw [e]
    have hs : s ∉ ks := fun hm => by
      unfold idxT at e
      rw [List.findIdx?_eq_none_iff] at e
      have := e s hm
      simp at this
    rw [of_absent hs]
    exact Q.Ev.neg (by rw [e2]; decide) (Ev.ok rfl)
  | some j =>
    obtain ⟨hj, hjs, _⟩ := idxT_get e
    have e2 : findT ks s = ((j : Int), true) := by unfold findT; rw [e]
    obtain ⟨hji, hof⟩ := of_at (s := s) ho (by rw [List.getElem?_eq_getElem hj, hjs])
    have h4 := S.k4 _ (List.getElem_mem hji)
    rw [e2, hof]
    refine Q.Ev.pos rfl (Ev.pos (by omega) (Ev.pos (by omega) ?_))
    rw [rdI hji]
    refine Q.Ev.bindc (a := is[j]) (by unfold slices_Clone_int_int_86.f; rw [if_pos (by omega)]) (Ev.ok rfl)
theorem index_count_f : Ev (fun k => index_Count.f k ks is) (if chkI ks is = 0 then (sumL is : Int) else 0) := by
  unfold index_Count.f
  refine Ev.bind (icheck_f S) (Q.Ev.ite (fun c => Ev.bind (pairs_f S) (Ev.ok (by rw [if_pos c]))) (fun c => Ev.ok (by rw [if_neg c])))
def under1 (id : Int) : List ByteArray → List (List Int) → List ByteArray
  | k :: ks, l :: is => if id ∈ l then k :: under1 id ks is else under1 id ks is
  | _, _ => []
omit S in
theorem under1_eq {id : Int} : ∀ (ks : List ByteArray) (is : List (List Int)), (∀ l ∈ is, l.Pairwise (· < ·)) → underP (pairsOf ks is) id = under1 id ks is
  | [], _, _ => by simp [pairsOf, underP, under1]
  | _ :: _, [], _ => by simp [pairsOf, underP, under1]
  | k :: ks, l :: is, h => by
    have ih := under1_eq (id := id) ks is fun x hx => h x (List.mem_cons_of_mem _ hx)
    have hl := h l List.mem_cons_self
    have key : ∀ (l : List Int), l.Pairwise (· < ·) → underP (l.map fun i => (⟨k, i⟩ : PrT)) id = if id ∈ l then [k] else [] := by
      intro l
      induction l with
      | nil => intro _; simp [underP]
      | cons x r ihl =>
        intro hp
        obtain ⟨p1, p2⟩ := List.pairwise_cons.1 hp
        have i2 := ihl p2
        unfold underP at i2 ⊢
        rw [List.map_cons]
        by_cases e : x = id
        · subst e
          have hn : x ∉ r := fun q => Int.lt_irrefl _ (p1 x q)
          rw [if_neg hn] at i2
          rw [List.filter_cons_of_pos (by simp), List.map_cons, i2, if_pos List.mem_cons_self]
        rw [List.filter_cons_of_neg (by simpa using e), i2]
        have : id ∈ x :: r ↔ id ∈ r := by rw [List.mem_cons]; exact ⟨fun q => q.resolve_left (fun q => e q.symm), .inr⟩
        simp only [this]
    simp only [pairsOf, under1]
    rw [show underP (l.map (fun i => (⟨k, i⟩ : PrT)) ++ pairsOf ks is) id = underP (l.map fun i => (⟨k, i⟩ : PrT)) id ++ underP (pairsOf ks is) id by unfold underP; rw [List.filter_append, List.map_append], key l hl, ih]
    split <;> rfl
theorem iunder_l0 (ho : okI ks is) {id : Int} (m : Nat) : ∀ (i : Nat) (out : List ByteArray), is.length - i = m → i ≤ is.length → out.length ≤ i → Ev (fun k => index_Under.l0 k id out is (is.length : Int) (i : Int) ks is) (out ++ under1 id (ks.drop i) (is.drop i)) := by
  have h2 := S.k2
  have hk := ho.2.1
  induction m with
  | zero =>
    intro i out hd hi hout
    refine Ev.step (fun k => by simp only [index_Under.l0]; rfl) (Ev.neg (by omega) (Ev.ok ?_))
    rw [List.drop_eq_nil_of_le (by omega : is.length ≤ i), List.drop_eq_nil_of_le (by omega : ks.length ≤ i)]
    simp [under1]
  | succ m ih =>
    intro i out hd hi hout
    have h : i < is.length := by omega
    have hki : i < ks.length := by omega
    have h4 := S.k4 _ (List.getElem_mem h)
    refine Ev.step (fun k => by simp only [index_Under.l0]; rfl) (Ev.pos (by omega) (Ev.pos (by omega) (Ev.pos (by omega) ?_)))
    rw [rdI h, rdOf_nat hki, wrap_eq (x := (i : Int) + 1) (by omega) (by omega), drop_cons h, drop_cons hki]
    refine Ev.bind (rows_Find_f (by omega)) ?_
    have e : (find is[i] id).2 = decide (id ∈ is[i]) := by
      unfold find
      split
      · rename_i g; exact (decide_eq_true g).symm
      rename_i g; exact (decide_eq_false g).symm
    rw [e]
    simp only [under1]
    refine Q.Ev.ite (fun c => ?_) (fun c => ?_)
    · rw [if_pos (of_decide_eq_true c)]
      refine Ev.pos (by omega) (Ev.pos (by omega) (Ev.eq (ih (i + 1) _ (by omega) (by omega) (by simp; omega)) ?_))
      rw [List.append_assoc, List.singleton_append]
    rw [if_neg (fun q => c (decide_eq_true q))]
    exact ih (i + 1) _ (by omega) (by omega) (by omega)
theorem index_under_f (id : Int) : Ev (fun k => index_Under.f k ks is id) (if chkI ks is = 0 then underP (pairsOf ks is) id else []) := by
  unfold index_Under.f
  refine Ev.bind (icheck_f S) (Q.Ev.ite (fun c => ?_) (fun c => Ev.ok (by rw [if_neg c])))
  obtain ⟨ho, _⟩ := chk_zero.1 c
  rw [if_pos c, under1_eq ks is (fun l hl => (rising_zero (ho.2.2 l hl).2).2)]
  have := iunder_l0 S ho (id := id) is.length 0 [] (by omega) (by omega) (by simp)
  rw [List.drop_zero, List.drop_zero, List.nil_append] at this
  exact this
end
end Go.Proofs.Ytdpcgigjlcpofaa.Q
set_option linter.unusedVariables false
set_option linter.unusedSimpArgs false
namespace Go.Proofs.Ytdpcgigjlcpofaa.Q
open Go.RowKit Go.Proofs.Ytdpcgigjlcpofaa.F Go.Proofs.YtdpcgigjlcpofaaX Go.Proofs.YtdpcgigjlcpofaaW.PrintWords Go.Proofs.YtdpcgigjlcpofaaW.PrintLast Go.Proofs.YtdpcgigjlcpofaaW.PrintMore
def fewI (ks : List ByteArray) (is : List (List Int)) : Bool := decide (ks.length ≤ 100) && (decide (is.length ≤ 100) && ((is.all fun l => decide (l.length ≤ 2100)) && ks.all fun x => decide (x.size ≤ 100)))
theorem ifew_l1 {ks : List ByteArray} {is : List (List Int)} (h1 : ks.length ≤ 100) (m : Nat) : ∀ i : Nat, ks.length - i = m → i ≤ ks.length → Ev (fun k => backhaullaw14_Few.l1 k (i : Int) ks is) ((ks.drop i).all fun x => decide (x.size ≤ 100)) := by
  induction m with
  | zero =>
    intro i hd hi
    refine Ev.step (fun k => by simp only [backhaullaw14_Few.l1]; rfl) (Ev.neg (by omega) (Ev.ok ?_))
    rw [List.drop_eq_nil_of_le (by omega)]
    rfl
  | succ m ih =>
    intro i hd hi
    have h : i < ks.length := by omega
    refine Ev.step (fun k => by simp only [backhaullaw14_Few.l1]; rfl) (Ev.pos (by omega) (Ev.pos (by omega) ?_))
    rw [rdOf_nat h, wrap_eq (x := (i : Int) + 1) (by omega) (by omega), drop_cons h, List.all_cons]
    refine Q.Ev.ite (fun c => Ev.ok ?_) (fun c => ?_)
    · rw [decide_eq_false (by omega), Bool.false_and]
    rw [decide_eq_true (by omega), Bool.true_and]
    exact ih (i + 1) (by omega) (by omega)
theorem ifew_l0 {ks : List ByteArray} {is : List (List Int)} (h1 : ks.length ≤ 100) (h2 : is.length ≤ 100) (m : Nat) : ∀ i : Nat, is.length - i = m → i ≤ is.length → Ev (fun k => backhaullaw14_Few.l0 k (i : Int) ks is) (((is.drop i).all fun l => decide (l.length ≤ 2100)) && ks.all fun x => decide (x.size ≤ 100)) := by
  induction m with
  | zero =>
    intro i hd hi
    have := ifew_l1 (is := is) h1 ks.length 0 (by omega) (by omega)
    rw [List.drop_zero] at this
    refine Ev.step (fun k => by simp only [backhaullaw14_Few.l0]; rfl) (Ev.neg (by omega) ?_)
    rw [List.drop_eq_nil_of_le (by omega)]
    exact this
  | succ m ih =>
    intro i hd hi
    have h : i < is.length := by omega
    refine Ev.step (fun k => by simp only [backhaullaw14_Few.l0]; rfl) (Ev.pos (by omega) (Ev.pos (by omega) ?_))
    rw [rdI h, wrap_eq (x := (i : Int) + 1) (by omega) (by omega), drop_cons h, List.all_cons]
    refine Q.Ev.ite (fun c => Ev.ok ?_) (fun c => ?_)
    · rw [decide_eq_false (by omega), Bool.false_and, Bool.false_and]
    rw [decide_eq_true (by omega), Bool.true_and]
    exact ih (i + 1) (by omega) (by omega)
theorem ifew_f (ks : List ByteArray) (is : List (List Int)) : Ev (fun k => backhaullaw14_Few.f k ks is) (fewI ks is) := by
  unfold backhaullaw14_Few.f fewI
  have bad : ∀ u : Bool, u = true → Ev (fun k => backhaullaw14_Few.j0 k u ks is) false := fun u hu =>
    Ev.step (fun k => by simp only [backhaullaw14_Few.j0]; rfl) (Q.Ev.pos hu (Ev.ok rfl))
  refine Q.Ev.ite (fun c => ?_) (fun c => ?_)
  · rw [decide_eq_false (show ¬ ks.length ≤ 100 by omega), Bool.false_and]
    exact bad true rfl
  rw [decide_eq_true (show ks.length ≤ 100 by omega), Bool.true_and]
  by_cases c2 : (is.length : Int) > 100
  · rw [decide_eq_true c2, decide_eq_false (show ¬ is.length ≤ 100 by omega), Bool.false_and]
    exact bad true rfl
  rw [decide_eq_false c2, decide_eq_true (show is.length ≤ 100 by omega), Bool.true_and]
  refine Ev.step (fun k => by simp only [backhaullaw14_Few.j0]; rfl) (Q.Ev.neg (by decide) ?_)
  have := ifew_l0 (ks := ks) (is := is) (by omega) (by omega) is.length 0 (by omega) (by omega)
  rw [List.drop_zero] at this
  exact this
theorem few_small {ks : List ByteArray} {is : List (List Int)} (h : fewI ks is = true) : Small ks is := by
  unfold fewI at h
  simp only [Bool.and_eq_true, decide_eq_true_eq, List.all_eq_true] at h
  exact ⟨by omega, by omega, fun x hx => by have := h.2.2.2 x hx; omega, fun l hl => by have := h.2.2.1 l hl; omega⟩
theorem same_ints_l0 {a b : List Int} (hl : a.length ≤ 30000000) (hab : a.length = b.length) (d : Nat) : ∀ i : Nat, a.length - i = d → i ≤ a.length → Ev (fun k => backhaulref02_SameInts.l0 k a b (i : Int)) (decide (a.drop i = b.drop i)) := by
  induction d with
  | zero =>
    intro i hd hi
    refine Ev.step (fun k => by simp only [backhaulref02_SameInts.l0]; rfl) (Ev.neg (by omega) (Ev.ok ?_))
    rw [List.drop_eq_nil_of_le (by omega), List.drop_eq_nil_of_le (by omega)]
    exact (decide_eq_true rfl).symm
  | succ d ih =>
    intro i hd hi
    have h : i < a.length := by omega
    have h' : i < b.length := by omega
    refine Ev.step (fun k => by simp only [backhaulref02_SameInts.l0]; rfl) (Ev.pos (by omega) (Ev.pos (by omega) (Ev.pos (by omega) ?_)))
    rw [rd_nat h, rd_nat h', wrap_eq (x := (i : Int) + 1) (by omega) (by omega), drop_cons h, drop_cons h']
    refine Q.Ev.ite (fun c => ?_) (fun c => Ev.ok ?_)
    · refine Ev.eq (ih (i + 1) (by omega) (by omega)) ?_
      rw [c]
      exact decide_eq_decide.2 ⟨fun e => by rw [e], fun e => (List.cons.inj e).2⟩
    exact (decide_eq_false (fun e => c (List.cons.inj e).1)).symm
theorem same_ints_f {a b : List Int} (hl : a.length ≤ 30000000) : Ev (fun k => backhaulref02_SameInts.f k a b) (decide (a = b)) := by
  unfold backhaulref02_SameInts.f
  refine Q.Ev.ite (fun c => ?_) (fun c => Ev.ok ?_)
  · exact same_ints_l0 hl (by omega) a.length 0 (by omega) (by omega)
  exact (decide_eq_false (fun e => c (by rw [e]))).symm
theorem ofP_le (l : List PrT) (s : ByteArray) : (ofP l s).length ≤ l.length := by
  unfold ofP
  rw [List.length_map]
  exact List.length_filter_le _ _
theorem underP_le (l : List PrT) (id : Int) : (underP l id).length ≤ l.length := by
  unfold underP
  rw [List.length_map]
  exact List.length_filter_le _ _
theorem small_sum {ks : List ByteArray} {is : List (List Int)} (S : Small ks is) : sumL is ≤ 25000000 := by
  have := sumL_le is S.k4
  have := S.k2
  omega
end Go.Proofs.Ytdpcgigjlcpofaa.Q
set_option linter.unusedVariables false
set_option linter.unusedSimpArgs false
namespace Go.Proofs.Ytdpcgigjlcpofaa.Pure
open Go.RowKit Go.Proofs.Ytdpcgigjlcpofaa.F Go.Proofs.YtdpcgigjlcpofaaX Go.Proofs.Ytdpcgigjlcpofaa.Q Go.Proofs.YtdpcgigjlcpofaaW.PrintWords Go.Proofs.YtdpcgigjlcpofaaW.PrintLast
theorem IndexTells : backhaullaw14_IndexTells.Pure := by
  intro ks is s id hk hi hs hid
  refine Ev.rounds (r := true) ?_
  have haw : backhaullaw14_awake.f = some true := rfl
  have out : ∀ u : Bool, u = true → Ev (fun k => backhaullaw14_IndexTells.j0 k s id u ks is) true := fun u hu =>
    Ev.step (fun k => by simp only [backhaullaw14_IndexTells.j0]; rfl) (Q.Ev.pos hu (Q.Ev.bindc haw (Q.Ev.pos rfl (Q.Ev.const rfl))))
  unfold backhaullaw14_IndexTells.f
  refine Ev.bind (ifew_f _ _) (Q.Ev.ite (fun q => ?_) (fun _ => out true rfl))
  have S := few_small q
  by_cases g : decide ((s.size : Int) > 100) = true
  · exact out _ g
  refine Ev.step (fun k => by simp only [backhaullaw14_IndexTells.j0]; rfl) (Q.Ev.neg g (Ev.bind (ref_pairs_f S) ?_))
  have hsum := small_sum S
  by_cases c : chkI ks is = 0
  · obtain ⟨ho, h2⟩ := chk_zero.1 c
    have hb := okB_iff.2 ho
    have hlen := pairs_len ks is ho.2.1
    rw [if_pos hb]
    refine Q.Ev.pos (decide_eq_true h2) (Ev.bind (icheck_f S) (Q.Ev.pos c (Ev.bind (index_of_f S s) ?_)))
    rw [if_pos c]
    have l1 := ofP_le (pairsOf ks is) s
    have l2 := underP_le (pairsOf ks is) id
    refine Ev.bind (ref_of_f (by first | omega | (dsimp only; omega))) (Ev.bind (same_ints_f (by first | omega | (dsimp only; omega))) (Q.Ev.pos (decide_eq_true rfl) (Ev.bind (index_under_f S id) ?_)))
    rw [if_pos c]
    refine Ev.bind (ref_under_f (by first | omega | (dsimp only; omega))) (Ev.bind (same_texts_f (by first | omega | (dsimp only; omega))) (Q.Ev.pos (decide_eq_true rfl) (Ev.bind (index_count_f S) ?_)))
    rw [if_pos c]
    exact Q.Ev.pos (by first | omega | (dsimp only; omega)) (Q.Ev.bindc haw (Q.Ev.pos rfl (Q.Ev.const rfl)))
  have e : ¬ (if okB ks is = true then (pairsOf ks is, decide (sumL is ≤ 2000)) else ([], false)).2 = true := by
    intro h
    split at h
    · rename_i hb
      exact c (chk_zero.2 ⟨okB_iff.1 hb, of_decide_eq_true h⟩)
    cases h
  have e2 := (chk_or ks is).resolve_left c
  refine Q.Ev.neg e (Ev.bind (icheck_f S) (Q.Ev.pos e2 (Ev.bind (index_of_f S s) ?_)))
  rw [if_neg c]
  refine Q.Ev.pos rfl (Ev.bind (index_under_f S id) ?_)
  rw [if_neg c]
  refine Q.Ev.pos rfl (Ev.bind (index_count_f S) ?_)
  rw [if_neg c]
  exact Q.Ev.pos rfl (Q.Ev.bindc haw (Q.Ev.pos rfl (Q.Ev.const rfl)))
end Go.Proofs.Ytdpcgigjlcpofaa.Pure
set_option linter.unusedVariables false
set_option linter.unusedSimpArgs false
namespace Go.Proofs.YtdpcgigjlcpofaaX
open Go.RowKit Go.Proofs.YtdpcgigjlcpofaaW.PrintWords Go.Proofs.YtdpcgigjlcpofaaW.PrintLast Go.Proofs.YtdpcgigjlcpofaaW.PrintMore
def Opens {α : Type} (P : Program) (t : TypeId) (k : Kd α) (Ok : α → Prop) : Prop :=
  ∀ {H : Type} {enc : TypeId × Value → H} {w : World} {base : Nat} {spare : Nat → Bool} {held : Bool} {fuel : Nat} {cs : List Value} {x : DataW H × List MemPlace},
    DataW.trod enc P w base spare held fuel t cs = some x → ∃ a : α, k.K w a cs ∧ Ok a
theorem Opens.int {P : Program} {t : TypeId} {k : IntKind} (ht : P.underlying t = some (.int k)) : Opens P t (Kd.int k) (fun a => (Lit.int k a).wf = true) := by
  intro H enc w base spare held fuel cs x h
  obtain ⟨n, rfl, _, hw⟩ := DataW.trod_int ht h
  exact ⟨n, rfl, hw⟩
theorem Opens.bool {P : Program} {t : TypeId} (ht : P.underlying t = some .bool) : Opens P t Kd.bool (fun _ => True) := by
  intro H enc w base spare held fuel cs x h
  obtain ⟨n, rfl, _⟩ := DataW.trod_bool ht h
  exact ⟨n, rfl, trivial⟩
theorem Opens.string {P : Program} {t : TypeId} (ht : P.underlying t = some .string) : Opens P t Kd.string (fun a => a.size ≤ maxLen) := by
  intro H enc w base spare held fuel cs x h
  obtain ⟨s, rfl, _, hw⟩ := DataW.trod_string ht h
  exact ⟨s, rfl, hw⟩
theorem list_of {α : Type} {p : Nat → α → Prop} : ∀ n, (∀ i, i < n → ∃ a, p i a) → ∃ xs : List α, xs.length = n ∧ ∀ i a, xs[i]? = some a → p i a
  | 0, _ => ⟨[], rfl, fun i a h => by simp at h⟩
  | n + 1, h => by
    obtain ⟨xs, hl, hx⟩ := list_of n (fun i hi => h i (by omega))
    obtain ⟨a, ha⟩ := h n (by omega)
    refine ⟨xs ++ [a], by simp [hl], fun i b hb => ?_⟩
    rcases Nat.lt_or_ge i xs.length with h1 | h1
    · rw [List.getElem?_append_left h1] at hb
      exact hx i b hb
    rw [List.getElem?_append_right h1] at hb
    have h2 : i - xs.length = 0 := by
      have := (List.getElem?_eq_some_iff.1 hb).1
      simp at this; omega
    rw [h2] at hb
    have : a = b := by simpa using hb
    subst this
    have : i = n := by omega
    rw [this]; exact ha
theorem Opens.slice {α : Type} {P : Program} {t e : TypeId} {k : Kd α} {Ok : α → Prop} (ht : P.underlying t = some (.slice e)) (hc : P.cellsOf e = k.sz) (h : Opens P e k Ok) :
    Opens P t (Kd.slice e k) (fun xs => xs.length ≤ maxLen ∧ ∀ x ∈ xs, Ok x) := by
  intro H enc w base spare held fuel cs x hx
  rcases Go.Deep.open_slice ht hx with ⟨rfl, rfl⟩ | ⟨a, len, cap, m, n, D, Pl, rfl, hb, hl, hm, hmm, rfl, hel⟩
  · exact ⟨[], ⟨none, 0, rfl, by simp, rfl, by simp, fun h => absurd h (by simp)⟩, by simp [maxLen], by simp⟩
  have hlm : len ≤ m := by rw [hmm]; split <;> omega
  obtain ⟨xs, hlen, hxs⟩ := list_of (p := fun i (a' : α) => ∃ cs', w.cells? base (a.add (i * P.cellsOf e)) (P.cellsOf e) = some cs' ∧ k.K w a' cs' ∧ Ok a') len (fun i hi => by
    obtain ⟨cs', h1, h2⟩ := hel i (by omega)
    obtain ⟨a', h3, h4⟩ := h h2
    exact ⟨a', cs', h1, h3, h4⟩)
  have hlm2 : len ≤ maxLen := by omega
  refine ⟨xs, ⟨some a, cap, by rw [hlen], by rw [hlen]; exact hl, rfl, by rw [hlen]; simpa [maxLen] using hlm2, fun _ => ⟨a, rfl, fun j p hj => ?_⟩⟩, by rw [hlen]; exact hlm2, fun y hy => ?_⟩
  · obtain ⟨cs', h1, h2, _⟩ := hxs j p hj
    refine ⟨cs', k.K_len h2, h2, fun i u hu => ?_⟩
    obtain ⟨_, _, h3⟩ := World.cells?_some h1
    have h4 := h3 i (by have := (List.getElem?_eq_some_iff.1 hu).1; have := k.K_len h2; omega)
    rw [← hc, ← Go.Proofs.YtdpcgigjlcpofaaW.PrintWords.add_add]
    rw [← hu]; exact h4
  obtain ⟨i, hi, rfl⟩ := List.mem_iff_getElem.1 hy
  obtain ⟨_, _, _, h3⟩ := hxs i _ (List.getElem?_eq_getElem hi)
  exact h3
theorem field_reads {H : Type} {enc : TypeId × Value → H} {P : Program} {w : World} {base : Nat} {spare : Nat → Bool} {held : Bool} {fuel : Nat} {t : TypeId} {cs : List Value} {x : DataW H × List MemPlace} {fs : Array Field}
    (ht : P.underlying t = some (.struct fs)) (h : DataW.trod enc P w base spare held fuel t cs = some x) :
    cs.length = P.cellsOf t ∧ ∃ n, ∀ (i : Nat) (f : Field), fs[i]? = some f → ∃ y, DataW.trod enc P w base spare held n f.type ((cs.drop f.offset).take (P.cellsOf f.type)) = some y := by
  obtain ⟨xs, n, _, _, hl, hx, hf⟩ := DataW.trod_struct ht h
  refine ⟨hl, n, fun i f hif => ?_⟩
  rw [hf i f hif]
  have hi := (Array.getElem?_eq_some_iff.1 hif).1
  exact ⟨_, List.getElem?_eq_getElem (by rw [hx]; exact hi)⟩
theorem band {a b : Bool} (h1 : a = true) (h2 : b = true) : (a && b) = true := by rw [h1, h2]; rfl
theorem mayEnter_of {P : Program} {L c : List Char} {rest : List (List Char)} (h : P.initOrder.toList = L) (h1 : behindMainWord (wordsSigns L) = c :: rest) (h2 : ((stripLifts liftWords (c :: rest)).2.head? == some "cut".toList) = true) (h3 : P.laysLater = false) (h4 : P.bearsReflect = false) (h5 : (stripLifts liftWords (c :: rest)).1 = []) (h6 : P.doorFits [] = true) : P.mayEnter = true := by
  unfold Program.mayEnter
  rw [h, h1]
  dsimp only
  rw [h2, h3, h4, h5, h6]
  simp
theorem make_of {P : Program} {L : List Char} {rest : List (List Char)} (h : P.initOrder.toList = L) (h1 : behindMainWord (wordsSigns L) = "cut".toList :: rest) : P.make = some .cut := by
  unfold Program.make
  rw [h, h1]
  dsimp only
  rw [if_neg (by decide), if_pos (by simp)]
end Go.Proofs.YtdpcgigjlcpofaaX
set_option maxRecDepth 10000
namespace Go.Proofs.Ytdpcgigjlcpofaa.Join
open Go.Proofs.YtdpcgigjlcpofaaX
def initSigns : List Char := ['h', 'a', 'r', 'n', 'e', 's', 's', ' ', 'c', 'e', 'c', 'b', '8', '6', 'd', '2', '2', '8', '2', 'f', '6', '6', '6', '7', 'a', '3', 'b', '2', '0', 'd', '3', 'e', 'a', 'd', '2', 'c', 'f', 'e', '3', '7', '7', '5', 'b', '7', 'b', '3', 'd', '0', 'c', '6', '0', '2', '6', '1', '5', 'c', 'f', '5', '2', '5', '6', '6', 'c', '6', '0', '2', '7', '8', '5', 'c', '9', '9', ' ', 'c', 'u', 't', ' ', 'a', 't', ' ', 'b', 'a', 'c', 'k', 'h', 'a', 'u', 'l', '/', 'b', 'a', 'c', 'k', 'h', 'a', 'u', 'l', 'l', 'a', 'w', '0', '6', '.', 'S', 't', 'r', 'i', 'c', 't', 'F', 'i', 'r', 's', 't', ' ', 'b', 'a', 'c', 'k', 'h', 'a', 'u', 'l', '/', 'b', 'a', 'c', 'k', 'h', 'a', 'u', 'l', 'l', 'a', 'w', '1', '4', '.', 'I', 'n', 'd', 'e', 'x', 'T', 'e', 'l', 'l', 's', ' ', 'b', 'a', 'c', 'k', 'h', 'a', 'u', 'l', '/', 'b', 'a', 'c', 'k', 'h', 'a', 'u', 'l', 'l', 'a', 'w', '1', '4', '.', 'I', 'n', 'd', 'e', 'x', 'A', 'd', 'd', 's', ' ', 'b', 'a', 'c', 'k', 'h', 'a', 'u', 'l', '/', 'b', 'a', 'c', 'k', 'h', 'a', 'u', 'l', 'l', 'a', 'w', '1', '4', '.', 'I', 'n', 'd', 'e', 'x', 'T', 'u', 'r', 'n', 's', ' ', 'b', 'a', 'c', 'k', 'h', 'a', 'u', 'l', '/', 'b', 'a', 'c', 'k', 'h', 'a', 'u', 'l', 'l', 'a', 'w', '1', '4', '.', 'I', 'n', 'd', 'e', 'x', 'W', 'h', 'o', 'l', 'e', ' ', 'b', 'a', 'c', 'k', 'h', 'a', 'u', 'l', '/', 'b', 'a', 'c', 'k', 'h', 'a', 'u', 'l', 'l', 'a', 'w', '1', '5', '.', 'B', 'a', 't', 'c', 'h', 'A', 'p', 'p', 'l', 'i', 'e', 's', ' ', 'b', 'a', 'c', 'k', 'h', 'a', 'u', 'l', '/', 'b', 'a', 'c', 'k', 'h', 'a', 'u', 'l', 'l', 'a', 'w', '1', '5', '.', 'B', 'a', 't', 'c', 'h', 'C', 'o', 'd', 'e', 's', ' ', 'b', 'a', 'c', 'k', 'h', 'a', 'u', 'l', '/', 'b', 'a', 'c', 'k', 'h', 'a', 'u', 'l', 'l', 'a', 'w', '1', '5', '.', 'B', 'a', 't', 'c', 'h', 'W', 'h', 'o', 'l', 'e', ' ', 'b', 'a', 'c', 'k', 'h', 'a', 'u', 'l', '/', 'b', 'a', 'c', 'k', 'h', 'a', 'u', 'l', 'l', 'a', 'w', '1', '5', '.', 'B', 'a', 't', 'c', 'h', 'U', 'n', 'd', 'o', ' ', 'b', 'a', 'c', 'k', 'h', 'a', 'u', 'l', '/', 'b', 'a', 'c', 'k', 'h', 'a', 'u', 'l', 'l', 'a', 'w', '1', '5', '.', 'B', 'a', 't', 'c', 'h', 'D', 'i', 'f', 'f']
theorem initText : Try.pinned.checked.prog.initOrder = String.ofList initSigns := by kernel_rfl
theorem initList : Try.pinned.checked.prog.initOrder.toList = initSigns := (congrArg String.toList initText).trans String.toList_ofList
theorem mayEnter_is : Try.pinned.checked.prog.mayEnter = true :=
  mayEnter_of (L := initSigns) (c := "cut".toList) (rest := (behindMainWord (wordsSigns initSigns)).tail) initList (by kernel_rfl) (by kernel_rfl) (by kernel_rfl) (by kernel_rfl) (by kernel_rfl) (by kernel_rfl)
theorem make_is : Try.pinned.checked.prog.make = some .cut :=
  make_of (L := initSigns) (rest := (behindMainWord (wordsSigns initSigns)).tail) initList (by kernel_rfl)
theorem lifts_is : Try.pinned.checked.prog.liftsFinal = false := by
  unfold Program.liftsFinal Program.headLifts
  rw [initList]
  kernel_rfl
end Go.Proofs.Ytdpcgigjlcpofaa.Join
