-- merged and pruned by prune.py (the session's own program); its words go back to the kit's print
import Derived.Test.YtefhljhpcpajgaaProg
import Derived.Below
import Derived.Deep.Draws
import Derived.Deep.AppendLies
import Derived.Maps.AppendAt
import Derived.OwnWalk
import Derived.Laws.BytesArg
import Derived.Laws.MakeOwn
import Derived.Laws.OwnMore
import Derived.Deep.OwnRows
import Derived.Tactics
import Derived.Lib.ConvBytes
import Derived.Laws.Slices
import Derived.WalkKit
import Derived.KernelRfl
import Derived.RowKit3
import Derived.Deep.LoopGhost
import Derived.Deep.QuietTactic
import Derived.BigQuiet
import Derived.WideLaws
import Derived.Deep.DeepCutAuto
import Derived.Deep.CutBlock
import Derived.Deep.RegionHeld3
import Derived.Laws.Rows
import Derived.Lib.AppendStr
import Derived.ArgAppend
import Derived.Laws.IdiomCopy
import Derived.OrdersHeld
import Derived.Laws.BitsLemmas
import Derived.RowKit
import Derived.Laws.StructEq
import Derived.Deep.RegionLawGrows
import Derived.Lib.SliceRun
import Derived.Lib.OthersKept
import Derived.Lib.RuneCount
import Derived.Laws.Cover4
import Derived.Outline
import Derived.Shelf.Small.Bits
import Derived.Shelf.Utf8.RuneCount
import Derived.Shelf.Strconv.Itoa0
import Derived.Shelf.Strings.Prefix
import Derived.Shelf.Strings.RuneCount
import Derived.Shelf.Bits.Mul64
import Derived.Ground.Names2Prog
import Derived.Shelf.Slices.SearchI
import Derived.Ground.SlsfProg
import Derived.Shelf.SlSortCmp.Insertion
import Derived.Shelf.SlSortCmp.Insertion1
import Derived.Sort.LotA
import Derived.Sort.OwnSortedInts
import Derived.Test.YtefhljhpcpajgaaZLineTells5
namespace Go.Proofs.Ytefhljhpcpajgaa.F
open Go.RowKit Go.Proofs.YtefhljhpcpajgaaX Go.Proofs.YtefhljhpcpajgaaW.PrintWords Go.Proofs.YtefhljhpcpajgaaW.PrintLast Go.Proofs.YtefhljhpcpajgaaW.PrintMore
attribute [local go_sem] max2_int min2_int max_two min_two max_three min_three max_four min_four   
attribute [local go_sem high] str_geq str_leq str_gtr
set_option linter.unusedVariables false
set_option linter.unusedSimpArgs false
mutual
def backhaulref01_Fold.j0 : Nat → ByteArray → Bool → Option (ByteArray × Int)
  | 0, _, _ => none
  | k + 1, x0, x27 => if x27 = true then (some ((⟨#[]⟩ : ByteArray), 9)) else (backhaulref01_Fold.l0 k x0 ([] : List Int) 0)
def backhaulref01_Fold.l0 : Nat → ByteArray → List Int → Int → Option (ByteArray × Int)
  | 0, _, _, _ => none
  | k + 1, x0, x4, x5 => if x5 < (x0.size : Int) then (if 0 ≤ x5 then ((backhaulref01_Class.f k (wrap32 (bt x0 x5))).bind fun t101 => (if t101 = 0 then (backhaulref01_Fold.j2 k x0 x4 x5 (bt x0 x5) true) else (if (bt x0 x5) = 45 then (if 0 ≤ (wrap64 (x5 - 1)) then (if (wrap64 (x5 - 1)) < (x0.size : Int) then (backhaulref01_Fold.j2 k x0 x4 x5 (bt x0 x5) ((bt x0 (wrap64 (x5 - 1))) == 45)) else (none)) else (none)) else (backhaulref01_Fold.j2 k x0 x4 x5 (bt x0 x5) false)))) else (none)) else (some (strOfNums x4, 0))
def backhaulref01_Fold.j2 : Nat → ByteArray → List Int → Int → Int → Bool → Option (ByteArray × Int)
  | 0, _, _, _, _, _ => none
  | k + 1, x0, x4, x5, x6, x51 => if x51 = true then (some ((⟨#[]⟩ : ByteArray), 9)) else (if x6 ≥ 97 then (if x6 ≤ 122 then (if x4.length < 140737488355328 then (backhaulref01_Fold.l0 k x0 (x4 ++ [(x6 - 32) % 256]) (wrap64 (x5 + 1))) else (none)) else (if x4.length < 140737488355328 then (backhaulref01_Fold.l0 k x0 (x4 ++ [x6]) (wrap64 (x5 + 1))) else (none))) else (if x4.length < 140737488355328 then (backhaulref01_Fold.l0 k x0 (x4 ++ [x6]) (wrap64 (x5 + 1))) else (none)))
end
def backhaulref01_Fold.f (k : Nat) (a0 : ByteArray) : Option (ByteArray × Int) := if (a0.size : Int) = 0 then (backhaulref01_Fold.j0 k a0 true) else (if (a0.size : Int) > 16 then (backhaulref01_Fold.j0 k a0 true) else (if 0 < (a0.size : Int) then (if (bt a0 0) = 45 then (backhaulref01_Fold.j0 k a0 true) else (if 0 ≤ (wrap64 ((a0.size : Int) - 1)) then (if (wrap64 ((a0.size : Int) - 1)) < (a0.size : Int) then (backhaulref01_Fold.j0 k a0 ((bt a0 (wrap64 ((a0.size : Int) - 1))) == 45)) else (none)) else (none))) else (none)))
theorem backhaulref01_Fold.mono_l : ∀ k, (∀ y0 y1, LeO (backhaulref01_Fold.j0 k y0 y1) (backhaulref01_Fold.j0 (k + 1) y0 y1)) ∧ (∀ y0 y1 y2, LeO (backhaulref01_Fold.l0 k y0 y1 y2) (backhaulref01_Fold.l0 (k + 1) y0 y1 y2)) ∧ (∀ y0 y1 y2 y3 y4, LeO (backhaulref01_Fold.j2 k y0 y1 y2 y3 y4) (backhaulref01_Fold.j2 (k + 1) y0 y1 y2 y3 y4))
  | 0 => ⟨fun _ _ r h => by simp [backhaulref01_Fold.j0] at h, fun _ _ _ r h => by simp [backhaulref01_Fold.l0] at h, fun _ _ _ _ _ r h => by simp [backhaulref01_Fold.j2] at h⟩
  | k + 1 => by
    obtain ⟨ih0, ih1, ih2⟩ := backhaulref01_Fold.mono_l k
    refine ⟨?_, ?_, ?_⟩
    · intro y0 y1
      unfold backhaulref01_Fold.j0
      repeat' first
      | (with_reducible exact ih0 _ _)
      | (with_reducible exact ih1 _ _ _)
      | (with_reducible exact ih2 _ _ _ _ _)
      | (with_reducible exact backhaulref01_Class.mono _ _)
      | (with_reducible exact LeO.refl _)
      | (with_reducible exact LeO.none _)
      | (with_reducible refine LeO.ite ?_ ?_)
      | (with_reducible refine LeO.bind ?_ (fun _ => ?_))
      | exact ih0 _ _
      | exact ih1 _ _ _
      | exact ih2 _ _ _ _ _
      | exact backhaulref01_Class.mono _ _
      | exact LeO.none _
      | refine LeO.ite ?_ ?_
      | refine LeO.bind ?_ (fun _ => ?_)
    · intro y0 y1 y2
      unfold backhaulref01_Fold.l0
      repeat' first
      | (with_reducible exact ih0 _ _)
      | (with_reducible exact ih1 _ _ _)
      | (with_reducible exact ih2 _ _ _ _ _)
      | (with_reducible exact backhaulref01_Class.mono _ _)
      | (with_reducible exact LeO.refl _)
      | (with_reducible exact LeO.none _)
      | (with_reducible refine LeO.ite ?_ ?_)
      | (with_reducible refine LeO.bind ?_ (fun _ => ?_))
      | exact ih0 _ _
      | exact ih1 _ _ _
      | exact ih2 _ _ _ _ _
      | exact backhaulref01_Class.mono _ _
      | exact LeO.none _
      | refine LeO.ite ?_ ?_
      | refine LeO.bind ?_ (fun _ => ?_)
    intro y0 y1 y2 y3 y4
    unfold backhaulref01_Fold.j2
    repeat' first
    | (with_reducible exact ih0 _ _)
    | (with_reducible exact ih1 _ _ _)
    | (with_reducible exact ih2 _ _ _ _ _)
    | (with_reducible exact backhaulref01_Class.mono _ _)
    | (with_reducible exact LeO.refl _)
    | (with_reducible exact LeO.none _)
    | (with_reducible refine LeO.ite ?_ ?_)
    | (with_reducible refine LeO.bind ?_ (fun _ => ?_))
    | exact ih0 _ _
    | exact ih1 _ _ _
    | exact ih2 _ _ _ _ _
    | exact backhaulref01_Class.mono _ _
    | exact LeO.none _
    | refine LeO.ite ?_ ?_
    | refine LeO.bind ?_ (fun _ => ?_)
theorem backhaulref01_Fold.mono : ∀ a0 k, LeO (backhaulref01_Fold.f k a0) (backhaulref01_Fold.f (k + 1) a0) := by
  intro a0 k
  obtain ⟨ih0, ih1, ih2⟩ := backhaulref01_Fold.mono_l k
  unfold backhaulref01_Fold.f
  repeat' first
      | (with_reducible exact ih0 _ _)
      | (with_reducible exact ih1 _ _ _)
      | (with_reducible exact ih2 _ _ _ _ _)
      | (with_reducible exact backhaulref01_Class.mono _ _)
      | (with_reducible exact LeO.refl _)
      | (with_reducible exact LeO.none _)
      | (with_reducible refine LeO.ite ?_ ?_)
      | (with_reducible refine LeO.bind ?_ (fun _ => ?_))
      | exact ih0 _ _
      | exact ih1 _ _ _
      | exact ih2 _ _ _ _ _
      | exact backhaulref01_Class.mono _ _
      | exact LeO.none _
      | refine LeO.ite ?_ ?_
      | refine LeO.bind ?_ (fun _ => ?_)
set_option maxHeartbeats 8000000 in
set_option maxRecDepth 100000 in
theorem backhaulref01_Fold.calls (k : Nat) (a0 : ByteArray) (r1 : ByteArray) (r2 : Int) (w : World) (h : backhaulref01_Fold.f k a0 = some (r1, r2)) :
    Calls Try.prog 151 #[.string a0] w fun e w' => e = .returned (.tuple #[.string r1, .int .i64 r2]) ∧ Below w.heap.size w w' := by
  have HB := zA (Below.refl w.heap.size w)
  have H : (if (a0.size : Int) = 0 then (backhaulref01_Fold.j0 k a0 true) else (if (a0.size : Int) > 16 then (backhaulref01_Fold.j0 k a0 true) else (if 0 < (a0.size : Int) then (if (bt a0 0) = 45 then (backhaulref01_Fold.j0 k a0 true) else (if 0 ≤ (wrap64 ((a0.size : Int) - 1)) then (if (wrap64 ((a0.size : Int) - 1)) < (a0.size : Int) then (backhaulref01_Fold.j0 k a0 ((bt a0 (wrap64 ((a0.size : Int) - 1))) == 45)) else (none)) else (none))) else (none)))) = some (r1, r2) := h
  clear h
  have HC2 := zA H
  clear H
  go_enter Try.func151, Try.ntmps151
  go_upto_region 1 with (fail)
  go_cut [27] (fun v27 wc => ∃ (kq : Nat) (x27_1 : Bool), v27 = .bool x27_1 ∧ Aside0 (backhaulref01_Fold.j0 kq a0 x27_1 = some (r1, r2)) ∧ Aside0 (kq ≤ k) ∧ Aside0 (Below w.heap.size w wc))
  case first =>
    have H := HC2.out; clear HC2; by_cases c3 : (a0.size : Int) = 0
    · rw [if_pos c3] at H
      have c3b0 : ((a0.size : Int) == 0) = true := beq_iff_eq.mpr c3; have c3b1 : ((a0.size : Int) != 0) = false := bne_eq_false_iff_eq.mpr c3; clear c3; (first | rw [c3b0] | (simp only [i64_w, i32_w]; rw [c3b0]) | skip)
      have H' := zA H; clear H; go_wp2; go_meet
      case rel => exact ⟨_, (true), (by first | rfl | (simp; done) | (simp [*]; done)), H', ⟨by first | omega | exact Nat.le_refl _⟩, ⟨qB⟩⟩
    rw [if_neg c3] at H; have c3b0 : ((a0.size : Int) == 0) = false := beq_eq_false_iff_ne.mpr c3; have c3b1 : ((a0.size : Int) != 0) = true := bne_iff_ne.mpr c3; (first | rw [c3b0] | (simp only [i64_w, i32_w]; rw [c3b0]) | skip)
    by_cases c4 : (a0.size : Int) > 16
    · rw [if_pos c4] at H
      have c4b0 : decide (16 < (a0.size : Int)) = true := zFq c4; have c4b1 : decide (16 < a0.size) = true := zFq (by omega); clear c4; have H' := zA H; clear H; go_wp2; go_meet
      case rel => exact ⟨_, (true), (by first | rfl | (simp; done) | (simp [*]; done)), H', ⟨by first | omega | exact Nat.le_refl _⟩, ⟨qB⟩⟩
    rw [if_neg c4] at H; have c4b0 : decide (16 < (a0.size : Int)) = false := zGq c4; have c4b1 : decide (16 < a0.size) = false := zGq (by omega); clear c4; by_cases c5 : 0 < (a0.size : Int)
    · rw [if_pos c5] at H
      have c5b0 : decide (0 < (a0.size : Int)) = true := zFq c5; have c5b1 : decide (0 < a0.size) = true := zFq (by omega); clear c5; by_cases c7 : (bt a0 0) = 45
      · rw [if_pos c7] at H
        have c7b0 : ((bt a0 0) == 45) = true := beq_iff_eq.mpr c7; have c7b1 : ((bt a0 0) != 45) = false := bne_eq_false_iff_eq.mpr c7; clear c7; have H' := zA H; clear H; have p6 : 0 ≤ (0 : Int) := (by omega)
        have q6 : 0 < a0.size := (by have : (0 : Int) < (a0.size : Int) := of_decide_eq_true qA; omega)
        have hx6 : ∀ h : 0 < a0.size, ((a0[0]'h).toNat : Int) = bt a0 0 := bt_at a0 0; clear p6; have qi6 : (0 < (a0.size : Int)) = True := eq_true (of_decide_eq_true qA); replace q6 := eq_true q6; go_wp2; go_meet
        case rel => exact ⟨_, (true), (by first | rfl | (simp; done) | (simp [*]; done)), H', ⟨by first | omega | exact Nat.le_refl _⟩, ⟨qB⟩⟩
      rw [if_neg c7] at H; have c7b0 : ((bt a0 0) == 45) = false := beq_eq_false_iff_ne.mpr c7; have c7b1 : ((bt a0 0) != 45) = true := bne_iff_ne.mpr c7; obtain ⟨ji8, hji8⟩ : ∃ j_ : Int, (wrap64 ((a0.size : Int) - 1)) = j_ := ⟨_, rfl⟩
      replace H : (if 0 ≤ (ji8) then (if (ji8) < (a0.size : Int) then (backhaulref01_Fold.j0 k a0 ((bt a0 (ji8)) == 45)) else (none)) else (none)) = some (r1, r2) := by first | (rw [hji8] at H; exact H) | (simp only [hji8] at H ⊢; exact H)
      have hji8w : (IntKind.i64.wrap ((a0.size : Int) - 1)) = ji8 := (i64_w _).trans hji8; by_cases c9 : 0 ≤ (ji8)
      · rw [if_pos c9] at H
        have c9b0 : decide (0 ≤ (ji8)) = true := zFq c9; clear c9; by_cases c10 : (ji8) < (a0.size : Int)
        · rw [if_pos c10] at H
          have c10b0 : decide ((ji8) < (a0.size : Int)) = true := zFq c10; clear c10; have H' := zA H; clear H; have p6 : 0 ≤ (0 : Int) := (by omega)
          have q6 : 0 < a0.size := (by have : (0 : Int) < (a0.size : Int) := of_decide_eq_true qA; omega)
          have hx6 : ∀ h : 0 < a0.size, ((a0[0]'h).toNat : Int) = bt a0 0 := bt_at a0 0; clear p6; have qi6 : (0 < (a0.size : Int)) = True := eq_true (of_decide_eq_true qA); replace q6 := eq_true q6; have p11 : 0 ≤ ((ji8) : Int) := of_decide_eq_true qA; have q11 : (ji8) < (a0.size : Int) := of_decide_eq_true qA; have hx11 := bt_at a0 (ji8); replace p11 := eq_true p11; replace q11 := eq_true q11; go_wp2; go_meet
          case rel => exact ⟨_, (((bt a0 (ji8)) == 45)), (by first | rfl | (simp; done) | (simp only [← hji8] <;> (first | rfl | simp)) | (simp [*]; done)), H', ⟨by first | omega | exact Nat.le_refl _⟩, ⟨qB⟩⟩
        rw [if_neg c10] at H; exact absurd H (by simp)
      rw [if_neg c9] at H; exact absurd H (by simp)
    rw [if_neg c5] at H; exact absurd H (by simp)
  case rest =>
    clear HC2; try clear c1
    try clear p1
    try clear q1
    try clear hx1
    try clear p2
    try clear c3
    try clear c3b0
    try clear c3b1
    try clear c4
    try clear c4b0
    try clear c4b1
    try clear c5
    try clear c5b0
    try clear c5b1
    try clear p6
    try clear q6
    try clear hx6
    try clear qi6
    try clear c7
    try clear c7b0
    try clear c7b1
    try clear c9
    try clear c9b0
    try clear c10
    try clear c10b0
    try clear p11
    try clear q11
    try clear hx11
    try clear p11
    try clear p6
    try clear q11
    try clear q6
    obtain ⟨kq, x27_1, rfl, HA, HJ1, HB⟩ := hcut; cases kq with
    | zero => exact absurd HA.out (by simp [backhaulref01_Fold.j0])
    | succ kj1 =>
      have H := HA.out; clear HA; simp only [backhaulref01_Fold.j0] at H; by_cases c12 : x27_1 = true
      · subst c12
        have H1 : (some ((⟨#[]⟩ : ByteArray), 9)) = some (r1, r2) := by first | (rw [if_pos rfl] at H; exact H) | rfl
        clear H; have H := H1; clear H1; simp only [zNq, zOq] at H; obtain ⟨rfl, rfl⟩ := H; go_wp2; go_ret2; exact ⟨qE, qB⟩
      replace c12 := Bool.eq_false_iff.mpr c12; subst c12; have H1 : (backhaulref01_Fold.l0 kj1 a0 ([] : List Int) 0) = some (r1, r2) := by first | (rw [if_neg (show ¬ (false = true) by decide)] at H; exact H) | rfl
      clear H; have H := H1; clear H1; have H' := zA H; clear H; go_wp2; go_loopg [4, 5] kj1 (fun kq v4 v5 w' => ∃ (x4_2 : List Int) (x5_2 : Int), v5 = .int .i64 x5_2 ∧ Aside0 (backhaulref01_Fold.l0 kq a0 x4_2 x5_2 = some (r1, r2)) ∧ Aside0 (kq ≤ kj1) ∧ Aside0 (Kd.R (Kd.int .u8) 5 w' w.heap.size (fun _ => True) v4 x4_2) ∧ Aside0 (Below w.heap.size w w'))
      case atStart => exact ⟨(([] : List Int)), (0), (by first | rfl | (simp; done) | (simp [*]; done)), H', ⟨Nat.le_refl _⟩, ⟨qN⟩, ⟨qB⟩⟩
      case round =>
        clear H'; try clear c1
        try clear p1
        try clear q1
        try clear hx1
        try clear p2
        try clear c3
        try clear c3b0
        try clear c3b1
        try clear c4
        try clear c4b0
        try clear c4b1
        try clear c5
        try clear c5b0
        try clear c5b1
        try clear p6
        try clear q6
        try clear hx6
        try clear qi6
        try clear c7
        try clear c7b0
        try clear c7b1
        try clear c9
        try clear c9b0
        try clear c10
        try clear c10b0
        try clear p11
        try clear q11
        try clear hx11
        try clear c12
        try clear p1
        try clear p11
        try clear p2
        try clear p6
        try clear q1
        try clear q11
        try clear q6
        obtain ⟨x4_2, x5_2, rfl, HA, HK2, HO_4, HB⟩ := hrel; cases gk with
        | zero => exact absurd HA.out (by simp [backhaulref01_Fold.l0])
        | succ k2 =>
          have H := HA.out; clear HA; simp only [backhaulref01_Fold.l0] at H; by_cases c13 : x5_2 < (a0.size : Int)
          · rw [if_pos c13] at H
            have c13b0 : decide (x5_2 < (a0.size : Int)) = true := zFq c13; clear c13; by_cases c14 : 0 ≤ x5_2
            · rw [if_pos c14] at H
              have c14b0 : decide (0 ≤ x5_2) = true := zFq c14; clear c14; have HC16 := zA H; clear H; have p15 : 0 ≤ (x5_2 : Int) := of_decide_eq_true qA; have q15 : x5_2 < (a0.size : Int) := of_decide_eq_true qA; have hx15 := bt_at a0 x5_2; replace p15 := eq_true p15; replace q15 := eq_true q15; go_upto_region 8 with (fail)
              go_cut [51] (fun v51 wc => ∃ (kq : Nat) (x51_15 : Bool), v51 = .bool x51_15 ∧ Aside0 (backhaulref01_Fold.j2 kq a0 x4_2 x5_2 (bt a0 x5_2) x51_15 = some (r1, r2)) ∧ Aside0 (kq ≤ k2) ∧ Aside0 (Kd.R (Kd.int .u8) 5 wc w.heap.size (fun _ => True) u4 x4_2) ∧ Aside0 (Below w.heap.size w wc))
              case first =>
                have H := HC16.out; clear HC16; replace H := Option.bind_eq_some_iff.mp H; obtain ⟨t101, A170, H⟩ := H; replace H : (if t101 = 0 then (backhaulref01_Fold.j2 k2 a0 x4_2 x5_2 (bt a0 x5_2) true) else (if (bt a0 x5_2) = 45 then (if 0 ≤ (wrap64 (x5_2 - 1)) then (if (wrap64 (x5_2 - 1)) < (a0.size : Int) then (backhaulref01_Fold.j2 k2 a0 x4_2 x5_2 (bt a0 x5_2) ((bt a0 (wrap64 (x5_2 - 1))) == 45)) else (none)) else (none)) else (backhaulref01_Fold.j2 k2 a0 x4_2 x5_2 (bt a0 x5_2) false))) = some (r1, r2) := H; have A17 := zA A170; clear A170; by_cases c18 : t101 = 0
                · rw [if_pos c18] at H
                  have c18b0 : (t101 == 0) = true := beq_iff_eq.mpr c18; have c18b1 : (t101 != 0) = false := bne_eq_false_iff_eq.mpr c18; clear c18; (first | rw [c18b0] | (simp only [i64_w, i32_w]; rw [c18b0]) | skip)
                  have H' := zA H; clear H; go_wp2_with (first | ((with_reducible refine zJq (f := 161) rfl ?_); refine goesL_ (some 39) rfl rfl Try.func161 (by kernel_rfl) rfl #[.int .i32 (wrap32 (bt a0 x5_2))] rfl (by (try simp only [zR, zS, zT]); first | done | rfl | (simp only [zP, zQ]; rfl)) ?_; (with_reducible refine (backhaulref01_Class.calls k2 (wrap32 (bt a0 x5_2)) t101 _ A17.out).mono ?_); rintro e w' ⟨rfl, ⟨nd, rfl⟩⟩; refine ⟨_, rfl, ?_⟩)); go_meet
                  case rel => exact ⟨_, (true), (by first | rfl | (simp; done) | (simp [*]; done)), H', ⟨by have := HJ1.out; have := HK2.out; first | omega | exact Nat.le_refl _⟩, ⟨by (with_reducible repeat (first | apply Kd.R_alloc | apply Kd.R_drewN | apply Kd.R_drew)); exact HO_4.out⟩, ⟨qB⟩⟩
                rw [if_neg c18] at H; have c18b0 : (t101 == 0) = false := beq_eq_false_iff_ne.mpr c18; have c18b1 : (t101 != 0) = true := bne_iff_ne.mpr c18; (first | rw [c18b0] | (simp only [i64_w, i32_w]; rw [c18b0]) | skip)
                by_cases c19 : (bt a0 x5_2) = 45
                · rw [if_pos c19] at H
                  have c19b0 : ((bt a0 x5_2) == 45) = true := beq_iff_eq.mpr c19; have c19b1 : ((bt a0 x5_2) != 45) = false := bne_eq_false_iff_eq.mpr c19; clear c19; obtain ⟨ji20, hji20⟩ : ∃ j_ : Int, (wrap64 (x5_2 - 1)) = j_ := ⟨_, rfl⟩
                  replace H : (if 0 ≤ (ji20) then (if (ji20) < (a0.size : Int) then (backhaulref01_Fold.j2 k2 a0 x4_2 x5_2 (bt a0 x5_2) ((bt a0 (ji20)) == 45)) else (none)) else (none)) = some (r1, r2) := by first | (rw [hji20] at H; exact H) | (simp only [hji20] at H ⊢; exact H)
                  (try rw [hji20] at A17)
                  have hji20w : (IntKind.i64.wrap (x5_2 - 1)) = ji20 := (i64_w _).trans hji20; by_cases c21 : 0 ≤ (ji20)
                  · rw [if_pos c21] at H
                    have c21b0 : decide (0 ≤ (ji20)) = true := zFq c21; clear c21; by_cases c22 : (ji20) < (a0.size : Int)
                    · rw [if_pos c22] at H
                      have c22b0 : decide ((ji20) < (a0.size : Int)) = true := zFq c22; clear c22; have H' := zA H; clear H; go_wp2_with (first | ((with_reducible refine zJq (f := 161) rfl ?_); refine goesL_ (some 39) rfl rfl Try.func161 (by kernel_rfl) rfl #[.int .i32 (wrap32 (bt a0 x5_2))] rfl (by (try simp only [zR, zS, zT]); first | done | rfl | (simp only [zP, zQ]; rfl)) ?_; (with_reducible refine (backhaulref01_Class.calls k2 (wrap32 (bt a0 x5_2)) t101 _ A17.out).mono ?_); rintro e w' ⟨rfl, ⟨nd, rfl⟩⟩; refine ⟨_, rfl, ?_⟩; have p23 : 0 ≤ ((ji20) : Int) := of_decide_eq_true qA; have q23 : (ji20) < (a0.size : Int) := of_decide_eq_true qA; have hx23 := bt_at a0 (ji20); replace p23 := eq_true p23; replace q23 := eq_true q23)); go_meet
                      case rel => exact ⟨_, (((bt a0 (ji20)) == 45)), (by first | rfl | (simp; done) | (simp only [← hji20] <;> (first | rfl | simp)) | (simp [*]; done)), H', ⟨by have := HJ1.out; have := HK2.out; first | omega | exact Nat.le_refl _⟩, ⟨by (with_reducible repeat (first | apply Kd.R_alloc | apply Kd.R_drewN | apply Kd.R_drew)); exact HO_4.out⟩, ⟨qB⟩⟩
                    rw [if_neg c22] at H; exact absurd H (by simp)
                  rw [if_neg c21] at H; exact absurd H (by simp)
                rw [if_neg c19] at H; have c19b0 : ((bt a0 x5_2) == 45) = false := beq_eq_false_iff_ne.mpr c19; have c19b1 : ((bt a0 x5_2) != 45) = true := bne_iff_ne.mpr c19; have H' := zA H; clear H; go_wp2_with (first | ((with_reducible refine zJq (f := 161) rfl ?_); refine goesL_ (some 39) rfl rfl Try.func161 (by kernel_rfl) rfl #[.int .i32 (wrap32 (bt a0 x5_2))] rfl (by (try simp only [zR, zS, zT]); first | done | rfl | (simp only [zP, zQ]; rfl)) ?_; (with_reducible refine (backhaulref01_Class.calls k2 (wrap32 (bt a0 x5_2)) t101 _ A17.out).mono ?_); rintro e w' ⟨rfl, ⟨nd, rfl⟩⟩; refine ⟨_, rfl, ?_⟩)); go_meet
                case rel => exact ⟨_, (false), (by first | rfl | (simp; done) | (simp [*]; done)), H', ⟨by have := HJ1.out; have := HK2.out; first | omega | exact Nat.le_refl _⟩, ⟨by (with_reducible repeat (first | apply Kd.R_alloc | apply Kd.R_drewN | apply Kd.R_drew)); exact HO_4.out⟩, ⟨qB⟩⟩
              case rest =>
                clear HC16; try clear c1
                try clear p1
                try clear q1
                try clear hx1
                try clear c2
                try clear p2
                try clear q2
                try clear hx2
                try clear c3
                try clear c3b0
                try clear c3b1
                try clear p3
                try clear c4
                try clear c4b0
                try clear c4b1
                try clear c5
                try clear c5b0
                try clear c5b1
                try clear p6
                try clear q6
                try clear hx6
                try clear qi6
                try clear c7
                try clear c7b0
                try clear c7b1
                try clear c9
                try clear c9b0
                try clear c10
                try clear c10b0
                try clear p11
                try clear q11
                try clear hx11
                try clear c12
                try clear c13
                try clear c13b0
                try clear c14
                try clear c14b0
                try clear c15
                try clear p15
                try clear q15
                try clear hx15
                try clear c16
                try clear c18
                try clear c18b0
                try clear c18b1
                try clear c19
                try clear c19b0
                try clear c19b1
                try clear c21
                try clear c21b0
                try clear c22
                try clear c22b0
                try clear p23
                try clear q23
                try clear hx23
                try clear p1
                try clear p11
                try clear p15
                try clear p2
                try clear p23
                try clear p6
                try clear q1
                try clear q11
                try clear q15
                try clear q23
                try clear q6
                obtain ⟨kq, x51_15, rfl, HA, HJ15, HO_4, HB⟩ := hcut; cases kq with
                | zero => exact absurd HA.out (by simp [backhaulref01_Fold.j2])
                | succ kj15 =>
                  have H := HA.out; clear HA; simp only [backhaulref01_Fold.j2] at H; by_cases c24 : x51_15 = true
                  · subst c24
                    have H1 : (some ((⟨#[]⟩ : ByteArray), 9)) = some (r1, r2) := by first | (rw [if_pos rfl] at H; exact H) | rfl
                    clear H; have H := H1; clear H1; simp only [zNq, zOq] at H; obtain ⟨rfl, rfl⟩ := H; go_wp2; go_ret2; exact ⟨qE, qB⟩
                  replace c24 := Bool.eq_false_iff.mpr c24; subst c24; have H1 : (if (bt a0 x5_2) ≥ 97 then (if (bt a0 x5_2) ≤ 122 then (if x4_2.length < 140737488355328 then (backhaulref01_Fold.l0 kj15 a0 (x4_2 ++ [((bt a0 x5_2) - 32) % 256]) (wrap64 (x5_2 + 1))) else (none)) else (if x4_2.length < 140737488355328 then (backhaulref01_Fold.l0 kj15 a0 (x4_2 ++ [(bt a0 x5_2)]) (wrap64 (x5_2 + 1))) else (none))) else (if x4_2.length < 140737488355328 then (backhaulref01_Fold.l0 kj15 a0 (x4_2 ++ [(bt a0 x5_2)]) (wrap64 (x5_2 + 1))) else (none))) = some (r1, r2) := by first | (rw [if_neg (show ¬ (false = true) by decide)] at H; exact H) | rfl
                  clear H; have H := H1; clear H1; by_cases c25 : (bt a0 x5_2) ≥ 97
                  · rw [if_pos c25] at H
                    have c25b0 : decide (97 ≤ (bt a0 x5_2)) = true := zFq c25; clear c25; by_cases c26 : (bt a0 x5_2) ≤ 122
                    · rw [if_pos c26] at H
                      have c26b0 : decide ((bt a0 x5_2) ≤ 122) = true := zFq c26; clear c26; by_cases c27 : x4_2.length < 140737488355328
                      · rw [if_pos c27] at H
                        have LMc27 := zA c27; clear c27; obtain ⟨y102, hy102⟩ : ∃ y_ : List Int, y_ = (x4_2 ++ [((bt a0 x5_2) - 32) % 256]) := ⟨_, rfl⟩
                        replace H : (backhaulref01_Fold.l0 kj15 a0 y102 (wrap64 (x5_2 + 1))) = some (r1, r2) := by first | (rw [hy102]; with_reducible exact H) | (have H2_ := (Option.bind_some _ _).symm.trans H; rw [hy102]; with_reducible exact H2_) | (have H2_ := (Option.bind_some _ _).symm.trans H; with_reducible exact H2_) | with_reducible exact H | (rw [hy102]; exact H) | exact H
                        have Ny102 := zA hy102; clear hy102; have H' := zA H; clear H; go_wp2_with (first | ((with_reducible refine gate_builtin (b := .append) (xs := #[.tmp 60, .tmp 62]) rfl ?_); (try (refine gate_guard (by rfl) ?_; dsimp only)); at_builtin; refine Kd.R_append (Kd.int .u8) (w0 := w) w.heap.size rfl (.tmp 60) (.tmp 62) 179 5 (.int .u8 0) 1 rfl Try.underlying179 info5 rfl (by decide) (by omega) u4 x4_2 (((bt a0 x5_2) - 32) % 256) [.int .u8 (((bt a0 x5_2) - 32) % 256)] (fun _ => True) (fun _ => False) rfl rfl ?aP (fun _ hk => hk.elim) ?aF ?aO ?aB ?aS ?aL ?_; (case aP => exact rfl); (case aB => exact qB); (case aF => exact (fun _ _ => trivial)); (case aO => exact (by (with_reducible repeat (first | apply Kd.R_alloc | apply Kd.R_drewN | apply Kd.R_drew)); exact HO_4.out)); (case aS => exact (zW qB)); (case aL => have := LMc27.out; omega); intro v103 w28 ho hb hg hat; rw [← Ny102.out] at ho; have n0_ := zA (hb); have n1_ := zA (ho); clear HB HO_4; have HB := n0_; have HO104 := n1_; clear n0_ n1_ ho hb hg hat)); go_roundg kj15
                        case measure => have := HJ1.out; have := HK2.out; have := HJ15.out; omega
                        case rel => exact ⟨(y102), (wrap64 (x5_2 + 1)), (by first | rfl | (simp; done) | (simp [*]; done)), H', ⟨by have := HJ1.out; have := HK2.out; have := HJ15.out; omega⟩, ⟨by (with_reducible repeat (first | apply Kd.R_alloc | apply Kd.R_drewN | apply Kd.R_drew)); exact HO104.out⟩, ⟨qB⟩⟩
                      rw [if_neg c27] at H; exact absurd H (by simp)
                    rw [if_neg c26] at H; have c26b0 : decide ((bt a0 x5_2) ≤ 122) = false := zGq c26; clear c26; by_cases c29 : x4_2.length < 140737488355328
                    · rw [if_pos c29] at H
                      have LMc29 := zA c29; clear c29; obtain ⟨y105, hy105⟩ : ∃ y_ : List Int, y_ = (x4_2 ++ [(bt a0 x5_2)]) := ⟨_, rfl⟩
                      replace H : (backhaulref01_Fold.l0 kj15 a0 y105 (wrap64 (x5_2 + 1))) = some (r1, r2) := by first | (rw [hy105]; with_reducible exact H) | (have H2_ := (Option.bind_some _ _).symm.trans H; rw [hy105]; with_reducible exact H2_) | (have H2_ := (Option.bind_some _ _).symm.trans H; with_reducible exact H2_) | with_reducible exact H | (rw [hy105]; exact H) | exact H
                      have Ny105 := zA hy105; clear hy105; have H' := zA H; clear H; go_wp2_with (first | ((with_reducible refine gate_builtin (b := .append) (xs := #[.tmp 60, .tmp 62]) rfl ?_); (try (refine gate_guard (by rfl) ?_; dsimp only)); at_builtin; refine Kd.R_append (Kd.int .u8) (w0 := w) w.heap.size rfl (.tmp 60) (.tmp 62) 179 5 (.int .u8 0) 1 rfl Try.underlying179 info5 rfl (by decide) (by omega) u4 x4_2 (bt a0 x5_2) [.int .u8 (bt a0 x5_2)] (fun _ => True) (fun _ => False) rfl rfl ?aP (fun _ hk => hk.elim) ?aF ?aO ?aB ?aS ?aL ?_; (case aP => exact rfl); (case aB => exact qB); (case aF => exact (fun _ _ => trivial)); (case aO => exact (by (with_reducible repeat (first | apply Kd.R_alloc | apply Kd.R_drewN | apply Kd.R_drew)); exact HO_4.out)); (case aS => exact (zW qB)); (case aL => have := LMc29.out; omega); intro v106 w30 ho hb hg hat; rw [← Ny105.out] at ho; have n0_ := zA (hb); have n1_ := zA (ho); clear HB HO_4; have HB := n0_; have HO107 := n1_; clear n0_ n1_ ho hb hg hat)); go_roundg kj15
                      case measure => have := HJ1.out; have := HK2.out; have := HJ15.out; omega
                      case rel => exact ⟨(y105), (wrap64 (x5_2 + 1)), (by first | rfl | (simp; done) | (simp [*]; done)), H', ⟨by have := HJ1.out; have := HK2.out; have := HJ15.out; omega⟩, ⟨by (with_reducible repeat (first | apply Kd.R_alloc | apply Kd.R_drewN | apply Kd.R_drew)); exact HO107.out⟩, ⟨qB⟩⟩
                    rw [if_neg c29] at H; exact absurd H (by simp)
                  rw [if_neg c25] at H; have c25b0 : decide (97 ≤ (bt a0 x5_2)) = false := zGq c25; clear c25; by_cases c31 : x4_2.length < 140737488355328
                  · rw [if_pos c31] at H
                    have LMc31 := zA c31; clear c31; obtain ⟨y108, hy108⟩ : ∃ y_ : List Int, y_ = (x4_2 ++ [(bt a0 x5_2)]) := ⟨_, rfl⟩
                    replace H : (backhaulref01_Fold.l0 kj15 a0 y108 (wrap64 (x5_2 + 1))) = some (r1, r2) := by first | (rw [hy108]; with_reducible exact H) | (have H2_ := (Option.bind_some _ _).symm.trans H; rw [hy108]; with_reducible exact H2_) | (have H2_ := (Option.bind_some _ _).symm.trans H; with_reducible exact H2_) | with_reducible exact H | (rw [hy108]; exact H) | exact H
                    have Ny108 := zA hy108; clear hy108; have H' := zA H; clear H; go_wp2_with (first | ((with_reducible refine gate_builtin (b := .append) (xs := #[.tmp 60, .tmp 62]) rfl ?_); (try (refine gate_guard (by rfl) ?_; dsimp only)); at_builtin; refine Kd.R_append (Kd.int .u8) (w0 := w) w.heap.size rfl (.tmp 60) (.tmp 62) 179 5 (.int .u8 0) 1 rfl Try.underlying179 info5 rfl (by decide) (by omega) u4 x4_2 (bt a0 x5_2) [.int .u8 (bt a0 x5_2)] (fun _ => True) (fun _ => False) rfl rfl ?aP (fun _ hk => hk.elim) ?aF ?aO ?aB ?aS ?aL ?_; (case aP => exact rfl); (case aB => exact qB); (case aF => exact (fun _ _ => trivial)); (case aO => exact (by (with_reducible repeat (first | apply Kd.R_alloc | apply Kd.R_drewN | apply Kd.R_drew)); exact HO_4.out)); (case aS => exact (zW qB)); (case aL => have := LMc31.out; omega); intro v109 w32 ho hb hg hat; rw [← Ny108.out] at ho; have n0_ := zA (hb); have n1_ := zA (ho); clear HB HO_4; have HB := n0_; have HO110 := n1_; clear n0_ n1_ ho hb hg hat)); go_roundg kj15
                    case measure => have := HJ1.out; have := HK2.out; have := HJ15.out; omega
                    case rel => exact ⟨(y108), (wrap64 (x5_2 + 1)), (by first | rfl | (simp; done) | (simp [*]; done)), H', ⟨by have := HJ1.out; have := HK2.out; have := HJ15.out; omega⟩, ⟨by (with_reducible repeat (first | apply Kd.R_alloc | apply Kd.R_drewN | apply Kd.R_drew)); exact HO110.out⟩, ⟨qB⟩⟩
                  rw [if_neg c31] at H; exact absurd H (by simp)
            rw [if_neg c14] at H; exact absurd H (by simp)
          rw [if_neg c13] at H; have c13b0 : decide (x5_2 < (a0.size : Int)) = false := zGq c13; clear c13; simp only [zNq, zOq] at H; obtain ⟨rfl, rfl⟩ := H; have hcv33 := own_string (P := Try.prog) Try.underlying179 Try.underlying5 Try.underlying9 (Kd.own_of_R HO_4.out); go_wp2; go_ret2; exact ⟨qE, qB⟩
def backhaulref01_Check.f (k : Nat) (a0 : ByteArray) : Option (Int) := (backhaulref01_Fold.f k a0).bind fun bt101 => (if bt101.2 = 0 then (if bt101.1.toList = a0.toList then (some 0) else (some 9)) else (some 9))
theorem backhaulref01_Check.mono : ∀ a0 k, LeO (backhaulref01_Check.f k a0) (backhaulref01_Check.f (k + 1) a0) := by
  intro a0 k
  unfold backhaulref01_Check.f
  repeat' first
      | (with_reducible exact backhaulref01_Fold.mono _ _)
      | (with_reducible exact LeO.refl _)
      | (with_reducible exact LeO.none _)
      | (with_reducible refine LeO.ite ?_ ?_)
      | (with_reducible refine LeO.bind ?_ (fun _ => ?_))
      | exact backhaulref01_Fold.mono _ _
      | exact LeO.none _
      | refine LeO.ite ?_ ?_
      | refine LeO.bind ?_ (fun _ => ?_)
set_option maxHeartbeats 8000000 in
set_option maxRecDepth 100000 in
theorem backhaulref01_Check.calls (k : Nat) (a0 : ByteArray) (r : Int) (w : World) (h : backhaulref01_Check.f k a0 = some r) :
    Calls Try.prog 143 #[.string a0] w fun e w' => e = .returned (.int .i64 r) ∧ Below w.heap.size w w' := by
  have HB := zA (Below.refl w.heap.size w)
  have H : ((backhaulref01_Fold.f k a0).bind fun bt101 => (if bt101.2 = 0 then (if bt101.1.toList = a0.toList then (some 0) else (some 9)) else (some 9))) = some r := h
  clear h
  replace H := Option.bind_eq_some_iff.mp H
  obtain ⟨⟨t101, t102⟩, A20, H⟩ := H
  replace H : (if t102 = 0 then (if t101.toList = a0.toList then (some 0) else (some 9)) else (some 9)) = some r := H
  have A2 := zA A20
  clear A20
  by_cases c3 : t102 = 0
  · rw [if_pos c3] at H
    have c3b0 : (t102 == 0) = true := beq_iff_eq.mpr c3; have c3b1 : (t102 != 0) = false := bne_eq_false_iff_eq.mpr c3; clear c3; by_cases c4 : t101.toList = a0.toList
    · rw [if_pos c4] at H
      have c4b0 : (t101.toList == a0.toList) = true := beq_iff_eq.mpr c4; have c4b1 : (t101.toList != a0.toList) = false := bne_eq_false_iff_eq.mpr c4; clear c4; obtain rfl := zKq H; go_enter Try.func143, Try.ntmps143; go_wp2_with (first | ((with_reducible refine zJq (f := 151) rfl ?_); refine goesL_ (some 7) rfl rfl Try.func151 (by kernel_rfl) rfl #[.string a0] rfl (by (try simp only [zR, zS, zT]); first | done | rfl | (simp only [zP, zQ]; rfl)) ?_; (with_reducible refine (backhaulref01_Fold.calls k a0 t101 t102 _ A2.out).mono ?_); rintro e w5 ⟨rfl, hb⟩; refine ⟨_, rfl, ?_⟩; have n0_ := zA (zV qB hb); clear HB; have HB := n0_; clear n0_; (try clear hb); (try clear hb2); (try clear hk); (try clear hi))); go_ret; exact ⟨qE, qB⟩
    rw [if_neg c4] at H; have c4b0 : (t101.toList == a0.toList) = false := beq_eq_false_iff_ne.mpr c4; have c4b1 : (t101.toList != a0.toList) = true := bne_iff_ne.mpr c4; obtain rfl := zKq H; go_enter Try.func143, Try.ntmps143; go_wp2_with (first | ((with_reducible refine zJq (f := 151) rfl ?_); refine goesL_ (some 7) rfl rfl Try.func151 (by kernel_rfl) rfl #[.string a0] rfl (by (try simp only [zR, zS, zT]); first | done | rfl | (simp only [zP, zQ]; rfl)) ?_; (with_reducible refine (backhaulref01_Fold.calls k a0 t101 t102 _ A2.out).mono ?_); rintro e w6 ⟨rfl, hb⟩; refine ⟨_, rfl, ?_⟩; have n0_ := zA (zV qB hb); clear HB; have HB := n0_; clear n0_; (try clear hb); (try clear hb2); (try clear hk); (try clear hi))); go_ret; exact ⟨qE, qB⟩
  rw [if_neg c3] at H
  have c3b0 : (t102 == 0) = false := beq_eq_false_iff_ne.mpr c3
  have c3b1 : (t102 != 0) = true := bne_iff_ne.mpr c3
  obtain rfl := zKq H
  go_enter Try.func143, Try.ntmps143
  go_wp2_with (first | ((with_reducible refine zJq (f := 151) rfl ?_); refine goesL_ (some 7) rfl rfl Try.func151 (by kernel_rfl) rfl #[.string a0] rfl (by (try simp only [zR, zS, zT]); first | done | rfl | (simp only [zP, zQ]; rfl)) ?_; (with_reducible refine (backhaulref01_Fold.calls k a0 t101 t102 _ A2.out).mono ?_); rintro e w7 ⟨rfl, hb⟩; refine ⟨_, rfl, ?_⟩; have n0_ := zA (zV qB hb); clear HB; have HB := n0_; clear n0_; (try clear hb); (try clear hb2); (try clear hk); (try clear hi)))
  go_ret
  exact ⟨qE, qB⟩
def backhaulref01_Row.l0 : Nat → List ByteArray → Int → Option (Int)
  | 0, _, _ => none
  | k + 1, x0, x3 => if x3 < (x0.length : Int) then (if 0 ≤ x3 then ((backhaulref01_Check.f k (rdOf ByteArray.empty x0 x3)).bind fun t102 => (if t102 = 0 then (if x3 > 0 then (if 0 ≤ (wrap64 (x3 - 1)) then (if (wrap64 (x3 - 1)) < (x0.length : Int) then (if ((Op.bytesLess ((rdOf ByteArray.empty x0 (wrap64 (x3 - 1))).toList) ((rdOf ByteArray.empty x0 x3).toList)) = true) then (backhaulref01_Row.l0 k x0 (wrap64 (x3 + 1))) else (some 32)) else (none)) else (none)) else (backhaulref01_Row.l0 k x0 (wrap64 (x3 + 1)))) else (some 9))) else (none)) else (some 0)
def backhaulref01_Row.f (k : Nat) (l0 : List ByteArray) : Option (Int) := backhaulref01_Row.l0 k l0 0
theorem backhaulref01_Row.mono_l : ∀ k, (∀ y0 y1, LeO (backhaulref01_Row.l0 k y0 y1) (backhaulref01_Row.l0 (k + 1) y0 y1))
  | 0 => fun _ _ r h => by simp [backhaulref01_Row.l0] at h
  | k + 1 => by
    have ih0 := backhaulref01_Row.mono_l k
    intro y0 y1
    unfold backhaulref01_Row.l0
    repeat' first
    | (with_reducible exact ih0 _ _)
    | (with_reducible exact backhaulref01_Check.mono _ _)
    | (with_reducible exact LeO.refl _)
    | (with_reducible exact LeO.none _)
    | (with_reducible refine LeO.ite ?_ ?_)
    | (with_reducible refine LeO.bind ?_ (fun _ => ?_))
    | exact ih0 _ _
    | exact backhaulref01_Check.mono _ _
    | exact LeO.none _
    | refine LeO.ite ?_ ?_
    | refine LeO.bind ?_ (fun _ => ?_)
theorem backhaulref01_Row.mono : ∀ a0 k, LeO (backhaulref01_Row.f k a0) (backhaulref01_Row.f (k + 1) a0) := by
  intro a0 k
  have ih0 := backhaulref01_Row.mono_l k
  unfold backhaulref01_Row.f
  repeat' first
      | (with_reducible exact ih0 _ _)
      | (with_reducible exact backhaulref01_Check.mono _ _)
      | (with_reducible exact LeO.refl _)
      | (with_reducible exact LeO.none _)
      | (with_reducible refine LeO.ite ?_ ?_)
      | (with_reducible refine LeO.bind ?_ (fun _ => ?_))
      | exact ih0 _ _
      | exact backhaulref01_Check.mono _ _
      | exact LeO.none _
      | refine LeO.ite ?_ ?_
      | refine LeO.bind ?_ (fun _ => ?_)
set_option maxHeartbeats 8000000 in
set_option maxRecDepth 100000 in
theorem backhaulref01_Row.calls (k : Nat) (A0 : Option Addr) (c0 : Nat) (l0 : List ByteArray) (r : Int) (w : World) (hr0 : Kd.C Kd.string w A0 l0.length l0) (hc0 : l0.length ≤ c0) (h : backhaulref01_Row.f k l0 = some r) :
    Calls Try.prog 120 #[.slice A0 l0.length c0] w fun e w' => e = .returned (.int .i64 r) ∧ Below w.heap.size w w' := by
  have HR0 := zA hr0
  have HC0 := zA hc0
  clear hr0 hc0
  have HB := zA (Below.refl w.heap.size w)
  have H : (backhaulref01_Row.l0 k l0 0) = some r := h
  clear h
  have H' := zA H
  clear H
  go_enter Try.func120, Try.ntmps120
  go_wp2
  repeat (go_quiet (fail); try go_wp2)
  go_loopg [3] k (fun kq v3 w' => ∃ (x3_1 : Int), v3 = .int .i64 x3_1 ∧ Aside0 (backhaulref01_Row.l0 kq l0 x3_1 = some r) ∧ Aside0 (kq ≤ k) ∧ Aside0 (Below w.heap.size w w'))
  case atStart => exact ⟨(0), (by first | rfl | (simp; done) | (simp [*]; done)), H', ⟨Nat.le_refl _⟩, ⟨qB⟩⟩
  case round =>
    clear H'; try clear c1
    obtain ⟨x3_1, rfl, HA, HK1, HB⟩ := hrel; cases gk with
    | zero => exact absurd HA.out (by simp [backhaulref01_Row.l0])
    | succ k1 =>
      have H := HA.out; clear HA; simp only [backhaulref01_Row.l0] at H; by_cases c2 : x3_1 < (l0.length : Int)
      · rw [if_pos c2] at H
        have c2b0 : decide (x3_1 < (l0.length : Int)) = true := zFq c2; clear c2; by_cases c3 : 0 ≤ x3_1
        · rw [if_pos c3] at H
          have c3b0 : decide (0 ≤ x3_1) = true := zFq c3; clear c3; replace H := Option.bind_eq_some_iff.mp H; obtain ⟨t102, A40, H⟩ := H; replace H : (if t102 = 0 then (if x3_1 > 0 then (if 0 ≤ (wrap64 (x3_1 - 1)) then (if (wrap64 (x3_1 - 1)) < (l0.length : Int) then (if ((Op.bytesLess ((rdOf ByteArray.empty l0 (wrap64 (x3_1 - 1))).toList) ((rdOf ByteArray.empty l0 x3_1).toList)) = true) then (backhaulref01_Row.l0 k1 l0 (wrap64 (x3_1 + 1))) else (some 32)) else (none)) else (none)) else (backhaulref01_Row.l0 k1 l0 (wrap64 (x3_1 + 1)))) else (some 9)) = some r := H; have A4 := zA A40; clear A40; by_cases c5 : t102 = 0
          · rw [if_pos c5] at H
            have c5b0 : (t102 == 0) = true := beq_iff_eq.mpr c5; have c5b1 : (t102 != 0) = false := bne_eq_false_iff_eq.mpr c5; clear c5; by_cases c6 : x3_1 > 0
            · rw [if_pos c6] at H
              have c6b0 : decide (0 < x3_1) = true := zFq c6; clear c6; obtain ⟨ji7, hji7⟩ : ∃ j_ : Int, (wrap64 (x3_1 - 1)) = j_ := ⟨_, rfl⟩
              replace H : (if 0 ≤ (ji7) then (if (ji7) < (l0.length : Int) then (if ((Op.bytesLess ((rdOf ByteArray.empty l0 (ji7)).toList) ((rdOf ByteArray.empty l0 x3_1).toList)) = true) then (backhaulref01_Row.l0 k1 l0 (wrap64 (x3_1 + 1))) else (some 32)) else (none)) else (none)) = some r := by first | (rw [hji7] at H; exact H) | (simp only [hji7] at H ⊢; exact H)
              (try rw [hji7] at A4)
              have hji7w : (IntKind.i64.wrap (x3_1 - 1)) = ji7 := (i64_w _).trans hji7; by_cases c8 : 0 ≤ (ji7)
              · rw [if_pos c8] at H
                have c8b0 : decide (0 ≤ (ji7)) = true := zFq c8; clear c8; by_cases c9 : (ji7) < (l0.length : Int)
                · rw [if_pos c9] at H
                  have c9b0 : decide ((ji7) < (l0.length : Int)) = true := zFq c9; clear c9; by_cases c10 : ((Op.bytesLess ((rdOf ByteArray.empty l0 (ji7)).toList) ((rdOf ByteArray.empty l0 x3_1).toList)) = true)
                  · rw [if_pos c10] at H
                    have c10b0 : (Op.bytesLess ((rdOf ByteArray.empty l0 (ji7)).toList) ((rdOf ByteArray.empty l0 x3_1).toList)) = true := c10; clear c10; have H' := zA H; clear H; have p101 : 0 ≤ (x3_1 : Int) := of_decide_eq_true qA; have q101 : x3_1 < (l0.length : Int) := of_decide_eq_true qA; obtain ⟨ad101, e101, hx101_0⟩ := Kd.at_string HR0.out x3_1 p101 q101; cases e101
                    replace hx101_0 := (HB.out.cell (zCq w _ hx101_0)).trans hx101_0; replace p101 := eq_true p101; replace q101 := eq_true q101; go_wp2_with (first | (go_at_call 143; (with_reducible refine (backhaulref01_Check.calls k1 (rdOf ByteArray.empty l0 x3_1) t102 _ A4.out).mono ?_); rintro e w11 ⟨rfl, hb⟩; have n0_ := zA (zV qB hb); clear HB; have HB := n0_; clear n0_; (try clear hb); (try clear hb2); (try clear hk); (try clear hi); have p103 : 0 ≤ (x3_1 : Int) := of_decide_eq_true qA; have q103 : x3_1 < (l0.length : Int) := of_decide_eq_true qA; obtain ⟨ad103, e103, hx103_0⟩ := Kd.at_string HR0.out x3_1 p103 q103; obtain rfl : ad101 = ad103 := (by injection e103); replace hx103_0 := (HB.out.cell (zCq w _ hx103_0)).trans hx103_0; replace p103 := eq_true p103; replace q103 := eq_true q103; have p104 : 0 ≤ ((ji7) : Int) := of_decide_eq_true qA; have q104 : (ji7) < (l0.length : Int) := of_decide_eq_true qA; obtain ⟨ad104, e104, hx104_0⟩ := Kd.at_string HR0.out (ji7) p104 q104; obtain rfl : ad101 = ad104 := (by injection e104); replace hx104_0 := (HB.out.cell (zCq w _ hx104_0)).trans hx104_0; replace p104 := eq_true p104; replace q104 := eq_true q104)); repeat (go_quiet (first | (go_at_call 143; (with_reducible refine (backhaulref01_Check.calls k1 (rdOf ByteArray.empty l0 x3_1) t102 _ A4.out).mono ?_); rintro e w11 ⟨rfl, hb⟩; have n0_ := zA (zV qB hb); clear HB; have HB := n0_; clear n0_; (try clear hb); (try clear hb2); (try clear hk); (try clear hi); have p103 : 0 ≤ (x3_1 : Int) := of_decide_eq_true qA; have q103 : x3_1 < (l0.length : Int) := of_decide_eq_true qA; obtain ⟨ad103, e103, hx103_0⟩ := Kd.at_string HR0.out x3_1 p103 q103; obtain rfl : ad101 = ad103 := (by injection e103); replace hx103_0 := (HB.out.cell (zCq w _ hx103_0)).trans hx103_0; replace p103 := eq_true p103; replace q103 := eq_true q103; have p104 : 0 ≤ ((ji7) : Int) := of_decide_eq_true qA; have q104 : (ji7) < (l0.length : Int) := of_decide_eq_true qA; obtain ⟨ad104, e104, hx104_0⟩ := Kd.at_string HR0.out (ji7) p104 q104; obtain rfl : ad101 = ad104 := (by injection e104); replace hx104_0 := (HB.out.cell (zCq w _ hx104_0)).trans hx104_0; replace p104 := eq_true p104; replace q104 := eq_true q104)); try go_wp2_with (first | (go_at_call 143; (with_reducible refine (backhaulref01_Check.calls k1 (rdOf ByteArray.empty l0 x3_1) t102 _ A4.out).mono ?_); rintro e w11 ⟨rfl, hb⟩; have n0_ := zA (zV qB hb); clear HB; have HB := n0_; clear n0_; (try clear hb); (try clear hb2); (try clear hk); (try clear hi); have p103 : 0 ≤ (x3_1 : Int) := of_decide_eq_true qA; have q103 : x3_1 < (l0.length : Int) := of_decide_eq_true qA; obtain ⟨ad103, e103, hx103_0⟩ := Kd.at_string HR0.out x3_1 p103 q103; obtain rfl : ad101 = ad103 := (by injection e103); replace hx103_0 := (HB.out.cell (zCq w _ hx103_0)).trans hx103_0; replace p103 := eq_true p103; replace q103 := eq_true q103; have p104 : 0 ≤ ((ji7) : Int) := of_decide_eq_true qA; have q104 : (ji7) < (l0.length : Int) := of_decide_eq_true qA; obtain ⟨ad104, e104, hx104_0⟩ := Kd.at_string HR0.out (ji7) p104 q104; obtain rfl : ad101 = ad104 := (by injection e104); replace hx104_0 := (HB.out.cell (zCq w _ hx104_0)).trans hx104_0; replace p104 := eq_true p104; replace q104 := eq_true q104)))
                    go_roundg k1
                    case measure => have := HK1.out; omega
                    case rel => exact ⟨(wrap64 (x3_1 + 1)), (by first | rfl | (simp; done) | (simp [*]; done)), H', ⟨by have := HK1.out; omega⟩, ⟨qB⟩⟩
                  rw [if_neg c10] at H; have c10b0 : (Op.bytesLess ((rdOf ByteArray.empty l0 (ji7)).toList) ((rdOf ByteArray.empty l0 x3_1).toList)) = false := by simpa using c10
                  clear c10; obtain rfl := zKq H; have p101 : 0 ≤ (x3_1 : Int) := of_decide_eq_true qA; have q101 : x3_1 < (l0.length : Int) := of_decide_eq_true qA; obtain ⟨ad101, e101, hx101_0⟩ := Kd.at_string HR0.out x3_1 p101 q101; cases e101
                  replace hx101_0 := (HB.out.cell (zCq w _ hx101_0)).trans hx101_0; replace p101 := eq_true p101; replace q101 := eq_true q101; go_wp2_with (first | (go_at_call 143; (with_reducible refine (backhaulref01_Check.calls k1 (rdOf ByteArray.empty l0 x3_1) t102 _ A4.out).mono ?_); rintro e w12 ⟨rfl, hb⟩; have n0_ := zA (zV qB hb); clear HB; have HB := n0_; clear n0_; (try clear hb); (try clear hb2); (try clear hk); (try clear hi); have p103 : 0 ≤ (x3_1 : Int) := of_decide_eq_true qA; have q103 : x3_1 < (l0.length : Int) := of_decide_eq_true qA; obtain ⟨ad103, e103, hx103_0⟩ := Kd.at_string HR0.out x3_1 p103 q103; obtain rfl : ad101 = ad103 := (by injection e103); replace hx103_0 := (HB.out.cell (zCq w _ hx103_0)).trans hx103_0; replace p103 := eq_true p103; replace q103 := eq_true q103; have p104 : 0 ≤ ((ji7) : Int) := of_decide_eq_true qA; have q104 : (ji7) < (l0.length : Int) := of_decide_eq_true qA; obtain ⟨ad104, e104, hx104_0⟩ := Kd.at_string HR0.out (ji7) p104 q104; obtain rfl : ad101 = ad104 := (by injection e104); replace hx104_0 := (HB.out.cell (zCq w _ hx104_0)).trans hx104_0; replace p104 := eq_true p104; replace q104 := eq_true q104)); repeat (go_quiet (first | (go_at_call 143; (with_reducible refine (backhaulref01_Check.calls k1 (rdOf ByteArray.empty l0 x3_1) t102 _ A4.out).mono ?_); rintro e w12 ⟨rfl, hb⟩; have n0_ := zA (zV qB hb); clear HB; have HB := n0_; clear n0_; (try clear hb); (try clear hb2); (try clear hk); (try clear hi); have p103 : 0 ≤ (x3_1 : Int) := of_decide_eq_true qA; have q103 : x3_1 < (l0.length : Int) := of_decide_eq_true qA; obtain ⟨ad103, e103, hx103_0⟩ := Kd.at_string HR0.out x3_1 p103 q103; obtain rfl : ad101 = ad103 := (by injection e103); replace hx103_0 := (HB.out.cell (zCq w _ hx103_0)).trans hx103_0; replace p103 := eq_true p103; replace q103 := eq_true q103; have p104 : 0 ≤ ((ji7) : Int) := of_decide_eq_true qA; have q104 : (ji7) < (l0.length : Int) := of_decide_eq_true qA; obtain ⟨ad104, e104, hx104_0⟩ := Kd.at_string HR0.out (ji7) p104 q104; obtain rfl : ad101 = ad104 := (by injection e104); replace hx104_0 := (HB.out.cell (zCq w _ hx104_0)).trans hx104_0; replace p104 := eq_true p104; replace q104 := eq_true q104)); try go_wp2_with (first | (go_at_call 143; (with_reducible refine (backhaulref01_Check.calls k1 (rdOf ByteArray.empty l0 x3_1) t102 _ A4.out).mono ?_); rintro e w12 ⟨rfl, hb⟩; have n0_ := zA (zV qB hb); clear HB; have HB := n0_; clear n0_; (try clear hb); (try clear hb2); (try clear hk); (try clear hi); have p103 : 0 ≤ (x3_1 : Int) := of_decide_eq_true qA; have q103 : x3_1 < (l0.length : Int) := of_decide_eq_true qA; obtain ⟨ad103, e103, hx103_0⟩ := Kd.at_string HR0.out x3_1 p103 q103; obtain rfl : ad101 = ad103 := (by injection e103); replace hx103_0 := (HB.out.cell (zCq w _ hx103_0)).trans hx103_0; replace p103 := eq_true p103; replace q103 := eq_true q103; have p104 : 0 ≤ ((ji7) : Int) := of_decide_eq_true qA; have q104 : (ji7) < (l0.length : Int) := of_decide_eq_true qA; obtain ⟨ad104, e104, hx104_0⟩ := Kd.at_string HR0.out (ji7) p104 q104; obtain rfl : ad101 = ad104 := (by injection e104); replace hx104_0 := (HB.out.cell (zCq w _ hx104_0)).trans hx104_0; replace p104 := eq_true p104; replace q104 := eq_true q104)))
                  go_ret; exact ⟨by first | rfl | (simp [errW_none, errW_some] <;> rfl) | (simp only [← hji7]; first | rfl | (simp [errW_none, errW_some] <;> rfl)) | (simp [*, errW_none, errW_some] <;> rfl), qB⟩
                rw [if_neg c9] at H; exact absurd H (by simp)
              rw [if_neg c8] at H; exact absurd H (by simp)
            rw [if_neg c6] at H; have c6b0 : decide (0 < x3_1) = false := zGq c6; clear c6; have H' := zA H; clear H; have p101 : 0 ≤ (x3_1 : Int) := of_decide_eq_true qA; have q101 : x3_1 < (l0.length : Int) := of_decide_eq_true qA; obtain ⟨ad101, e101, hx101_0⟩ := Kd.at_string HR0.out x3_1 p101 q101; cases e101
            replace hx101_0 := (HB.out.cell (zCq w _ hx101_0)).trans hx101_0; replace p101 := eq_true p101; replace q101 := eq_true q101; go_wp2_with (first | (go_at_call 143; (with_reducible refine (backhaulref01_Check.calls k1 (rdOf ByteArray.empty l0 x3_1) t102 _ A4.out).mono ?_); rintro e w13 ⟨rfl, hb⟩; have n0_ := zA (zV qB hb); clear HB; have HB := n0_; clear n0_; (try clear hb); (try clear hb2); (try clear hk); (try clear hi))); repeat (go_quiet (first | (go_at_call 143; (with_reducible refine (backhaulref01_Check.calls k1 (rdOf ByteArray.empty l0 x3_1) t102 _ A4.out).mono ?_); rintro e w13 ⟨rfl, hb⟩; have n0_ := zA (zV qB hb); clear HB; have HB := n0_; clear n0_; (try clear hb); (try clear hb2); (try clear hk); (try clear hi))); try go_wp2_with (first | (go_at_call 143; (with_reducible refine (backhaulref01_Check.calls k1 (rdOf ByteArray.empty l0 x3_1) t102 _ A4.out).mono ?_); rintro e w13 ⟨rfl, hb⟩; have n0_ := zA (zV qB hb); clear HB; have HB := n0_; clear n0_; (try clear hb); (try clear hb2); (try clear hk); (try clear hi))))
            go_roundg k1
            case measure => have := HK1.out; omega
            case rel => exact ⟨(wrap64 (x3_1 + 1)), (by first | rfl | (simp; done) | (simp [*]; done)), H', ⟨by have := HK1.out; omega⟩, ⟨qB⟩⟩
          rw [if_neg c5] at H; have c5b0 : (t102 == 0) = false := beq_eq_false_iff_ne.mpr c5; have c5b1 : (t102 != 0) = true := bne_iff_ne.mpr c5; obtain rfl := zKq H; have p101 : 0 ≤ (x3_1 : Int) := of_decide_eq_true qA; have q101 : x3_1 < (l0.length : Int) := of_decide_eq_true qA; obtain ⟨ad101, e101, hx101_0⟩ := Kd.at_string HR0.out x3_1 p101 q101; cases e101
          replace hx101_0 := (HB.out.cell (zCq w _ hx101_0)).trans hx101_0; replace p101 := eq_true p101; replace q101 := eq_true q101; go_wp2_with (first | (go_at_call 143; (with_reducible refine (backhaulref01_Check.calls k1 (rdOf ByteArray.empty l0 x3_1) t102 _ A4.out).mono ?_); rintro e w14 ⟨rfl, hb⟩; have n0_ := zA (zV qB hb); clear HB; have HB := n0_; clear n0_; (try clear hb); (try clear hb2); (try clear hk); (try clear hi))); repeat (go_quiet (first | (go_at_call 143; (with_reducible refine (backhaulref01_Check.calls k1 (rdOf ByteArray.empty l0 x3_1) t102 _ A4.out).mono ?_); rintro e w14 ⟨rfl, hb⟩; have n0_ := zA (zV qB hb); clear HB; have HB := n0_; clear n0_; (try clear hb); (try clear hb2); (try clear hk); (try clear hi))); try go_wp2_with (first | (go_at_call 143; (with_reducible refine (backhaulref01_Check.calls k1 (rdOf ByteArray.empty l0 x3_1) t102 _ A4.out).mono ?_); rintro e w14 ⟨rfl, hb⟩; have n0_ := zA (zV qB hb); clear HB; have HB := n0_; clear n0_; (try clear hb); (try clear hb2); (try clear hk); (try clear hi))))
          go_ret; exact ⟨qE, qB⟩
        rw [if_neg c3] at H; exact absurd H (by simp)
      rw [if_neg c2] at H; have c2b0 : decide (x3_1 < (l0.length : Int)) = false := zGq c2; clear c2; obtain rfl := zKq H; go_wp2; repeat (go_quiet (fail); try go_wp2)
      go_ret; exact ⟨qE, qB⟩
mutual
def backhaulref21_Check.j0 : Nat → Bool → Int → Int → Int → Int → List ByteArray → Option (Int)
  | 0, _, _, _, _, _, _ => none
  | k + 1, x10, x102000, x102001, x102002, x102003, x102004 => if x10 = true then (some 2) else (if x102001 < 0 then (backhaulref21_Check.j1 k true x102000 x102001 x102002 x102003 x102004) else (if x102001 > 1000000000000 then (backhaulref21_Check.j1 k true x102000 x102001 x102002 x102003 x102004) else (if x102002 < 0 then (backhaulref21_Check.j1 k true x102000 x102001 x102002 x102003 x102004) else (if x102002 > x102001 then (backhaulref21_Check.j1 k true x102000 x102001 x102002 x102003 x102004) else (if x102003 < 0 then (backhaulref21_Check.j1 k true x102000 x102001 x102002 x102003 x102004) else (if x102003 > 1000000000000 then (backhaulref21_Check.j1 k true x102000 x102001 x102002 x102003 x102004) else (backhaulref21_Check.j1 k (decide ((wrap64 (x102002 + x102003)) > 1000000000000)) x102000 x102001 x102002 x102003 x102004)))))))
def backhaulref21_Check.j1 : Nat → Bool → Int → Int → Int → Int → List ByteArray → Option (Int)
  | 0, _, _, _, _, _, _ => none
  | k + 1, x48, x102000, x102001, x102002, x102003, x102004 => if x48 = true then (some 8) else (if (x102004.length : Int) < 1 then (some 9) else (if (x102004.length : Int) > 20 then (some 9) else ((backhaulref01_Row.f k x102004).bind fun t102 => (if t102 = 0 then (some 0) else (some 9)))))
end
def backhaulref21_Check.f (k : Nat) (a0_0 : Int) (a0_1 : Int) (a0_2 : Int) (a0_3 : Int) (l0_4 : List ByteArray) : Option (Int) := if a0_0 < 1 then (backhaulref21_Check.j0 k true a0_0 a0_1 a0_2 a0_3 l0_4) else (backhaulref21_Check.j0 k (decide (a0_0 > 999999)) a0_0 a0_1 a0_2 a0_3 l0_4)
theorem backhaulref21_Check.mono_l : ∀ k, (∀ y0 y1 y2 y3 y4 y5, LeO (backhaulref21_Check.j0 k y0 y1 y2 y3 y4 y5) (backhaulref21_Check.j0 (k + 1) y0 y1 y2 y3 y4 y5)) ∧ (∀ y0 y1 y2 y3 y4 y5, LeO (backhaulref21_Check.j1 k y0 y1 y2 y3 y4 y5) (backhaulref21_Check.j1 (k + 1) y0 y1 y2 y3 y4 y5))
  | 0 => ⟨fun _ _ _ _ _ _ r h => by simp [backhaulref21_Check.j0] at h, fun _ _ _ _ _ _ r h => by simp [backhaulref21_Check.j1] at h⟩
  | k + 1 => by
    obtain ⟨ih0, ih1⟩ := backhaulref21_Check.mono_l k
    refine ⟨?_, ?_⟩
    · intro y0 y1 y2 y3 y4 y5
      unfold backhaulref21_Check.j0
      repeat' first
      | (with_reducible exact ih0 _ _ _ _ _ _)
      | (with_reducible exact ih1 _ _ _ _ _ _)
      | (with_reducible exact backhaulref01_Row.mono _ _)
      | (with_reducible exact LeO.refl _)
      | (with_reducible exact LeO.none _)
      | (with_reducible refine LeO.ite ?_ ?_)
      | (with_reducible refine LeO.bind ?_ (fun _ => ?_))
      | exact ih0 _ _ _ _ _ _
      | exact ih1 _ _ _ _ _ _
      | exact backhaulref01_Row.mono _ _
      | exact LeO.none _
      | refine LeO.ite ?_ ?_
      | refine LeO.bind ?_ (fun _ => ?_)
    intro y0 y1 y2 y3 y4 y5
    unfold backhaulref21_Check.j1
    repeat' first
    | (with_reducible exact ih0 _ _ _ _ _ _)
    | (with_reducible exact ih1 _ _ _ _ _ _)
    | (with_reducible exact backhaulref01_Row.mono _ _)
    | (with_reducible exact LeO.refl _)
    | (with_reducible exact LeO.none _)
    | (with_reducible refine LeO.ite ?_ ?_)
    | (with_reducible refine LeO.bind ?_ (fun _ => ?_))
    | exact ih0 _ _ _ _ _ _
    | exact ih1 _ _ _ _ _ _
    | exact backhaulref01_Row.mono _ _
    | exact LeO.none _
    | refine LeO.ite ?_ ?_
    | refine LeO.bind ?_ (fun _ => ?_)
theorem backhaulref21_Check.mono : ∀ a0 a1 a2 a3 a4 k, LeO (backhaulref21_Check.f k a0 a1 a2 a3 a4) (backhaulref21_Check.f (k + 1) a0 a1 a2 a3 a4) := by
  intro a0 a1 a2 a3 a4 k
  obtain ⟨ih0, ih1⟩ := backhaulref21_Check.mono_l k
  unfold backhaulref21_Check.f
  repeat' first
      | (with_reducible exact ih0 _ _ _ _ _ _)
      | (with_reducible exact ih1 _ _ _ _ _ _)
      | (with_reducible exact backhaulref01_Row.mono _ _)
      | (with_reducible exact LeO.refl _)
      | (with_reducible exact LeO.none _)
      | (with_reducible refine LeO.ite ?_ ?_)
      | (with_reducible refine LeO.bind ?_ (fun _ => ?_))
      | exact ih0 _ _ _ _ _ _
      | exact ih1 _ _ _ _ _ _
      | exact backhaulref01_Row.mono _ _
      | exact LeO.none _
      | refine LeO.ite ?_ ?_
      | refine LeO.bind ?_ (fun _ => ?_)
set_option maxHeartbeats 8000000 in
set_option maxRecDepth 100000 in
theorem backhaulref21_Check.calls (k : Nat) (a0_0 : Int) (a0_1 : Int) (a0_2 : Int) (a0_3 : Int) (A0_4 : Option Addr) (c0_4 : Nat) (l0_4 : List ByteArray) (r : Int) (w : World) (hr0_4 : Kd.C Kd.string w A0_4 l0_4.length l0_4) (hc0_4 : l0_4.length ≤ c0_4) (h : backhaulref21_Check.f k a0_0 a0_1 a0_2 a0_3 l0_4 = some r) :
    Calls Try.prog 70 #[.agg #[.int .i64 a0_0, .int .i64 a0_1, .int .i64 a0_2, .int .i64 a0_3, .slice A0_4 l0_4.length c0_4]] w fun e w' => e = .returned (.int .i64 r) ∧ Below w.heap.size w w' := by
  have hu71 := Try.underlying71
  have HR0_4 := zA hr0_4
  have HC0_4 := zA hc0_4
  clear hr0_4 hc0_4
  have HB := zA (Below.refl w.heap.size w)
  have H : (if a0_0 < 1 then (backhaulref21_Check.j0 k true a0_0 a0_1 a0_2 a0_3 l0_4) else (backhaulref21_Check.j0 k (decide (a0_0 > 999999)) a0_0 a0_1 a0_2 a0_3 l0_4)) = some r := h
  clear h
  have HC2 := zA H
  clear H
  go_enter Try.func70, Try.ntmps70
  go_upto_region 1 with (first | ((with_reducible refine gate_dst (N := 1) rfl ?_); (try (refine gate_guard (by rfl) ?_; dsimp only)); refine box_event qr (N := 1) qr (cs := #[.int .i64 a0_0, .int .i64 a0_1, .int .i64 a0_2, .int .i64 a0_3, .slice A0_4 l0_4.length c0_4]) (t := 71) qg ?_; intro gb101 hg w3 hbox hb; have n0_ := zA (zV qB hb); have n1_ := zA (hbox); have n2_ := zA ((qS : w.heap.size ≤ gb101)); have n3_ := zA ((qS : w.heap.size ≤ gb101)); clear HB; have HB := n0_; have BK101 := n1_; have GW101 := n2_; have GE101 := n3_; clear n0_ n1_ n2_ n3_ hb hbox hg))
  (try simp only [Act.put, zH, zI, zJ])
  go_cut [10] (fun v10 wc => ∃ (kq : Nat) (x10_1 : Bool), v10 = .bool x10_1 ∧ Aside0 (backhaulref21_Check.j0 kq x10_1 a0_0 a0_1 a0_2 a0_3 l0_4 = some r) ∧ Aside0 (kq ≤ k) ∧ Aside0 (wc.heap[gb101]? = some (.cells #[.int .i64 a0_0, .int .i64 a0_1, .int .i64 a0_2, .int .i64 a0_3, (.slice A0_4 l0_4.length c0_4)] 71 (0, 0))) ∧ Aside0 (Below w.heap.size w wc))
  case first =>
    have H := HC2.out; clear HC2; by_cases c4 : a0_0 < 1
    · rw [if_pos c4] at H
      have c4b0 : decide (a0_0 < 1) = true := zFq c4; clear c4; (first | rw [c4b0] | (simp only [i64_w, i32_w]; rw [c4b0]) | skip)
      have H' := zA H; clear H; obtain ⟨_, _, _, _, _, _, _, _, _, _⟩ := qc5f BK101.out; go_wp2; go_meet
      case rel => exact ⟨_, (true), (by first | rfl | (simp; done) | (simp [*]; done)), H', ⟨by first | omega | exact Nat.le_refl _⟩, ⟨by exact BK101.out⟩, ⟨qB⟩⟩
    rw [if_neg c4] at H; have c4b0 : decide (a0_0 < 1) = false := zGq c4; clear c4; (first | rw [c4b0] | (simp only [i64_w, i32_w]; rw [c4b0]) | skip)
    have H' := zA H; clear H; obtain ⟨_, _, _, _, _, _, _, _, _, _⟩ := qc5f BK101.out; go_wp2; go_meet
    case rel => exact ⟨_, (decide (a0_0 > 999999)), (by first | rfl | (simp; done) | (simp [*]; done)), H', ⟨by first | omega | exact Nat.le_refl _⟩, ⟨by exact BK101.out⟩, ⟨qB⟩⟩
  case rest =>
    clear HC2; try clear p2
    try clear c4
    try clear c4b0
    obtain ⟨kq, x10_1, rfl, HA, HJ1, BK101, HB⟩ := hcut; cases kq with
    | zero => exact absurd HA.out (by simp [backhaulref21_Check.j0])
    | succ kj1 =>
      have H := HA.out; clear HA; simp only [backhaulref21_Check.j0] at H; by_cases c7 : x10_1 = true
      · subst c7
        have H1 : (some 2) = some r := by first | (rw [if_pos rfl] at H; exact H) | rfl
        clear H; have H := H1; clear H1; obtain rfl := zKq H; go_wp2; go_ret; exact ⟨qE, qB⟩
      replace c7 := Bool.eq_false_iff.mpr c7; subst c7; have H1 : (if a0_1 < 0 then (backhaulref21_Check.j1 kj1 true a0_0 a0_1 a0_2 a0_3 l0_4) else (if a0_1 > 1000000000000 then (backhaulref21_Check.j1 kj1 true a0_0 a0_1 a0_2 a0_3 l0_4) else (if a0_2 < 0 then (backhaulref21_Check.j1 kj1 true a0_0 a0_1 a0_2 a0_3 l0_4) else (if a0_2 > a0_1 then (backhaulref21_Check.j1 kj1 true a0_0 a0_1 a0_2 a0_3 l0_4) else (if a0_3 < 0 then (backhaulref21_Check.j1 kj1 true a0_0 a0_1 a0_2 a0_3 l0_4) else (if a0_3 > 1000000000000 then (backhaulref21_Check.j1 kj1 true a0_0 a0_1 a0_2 a0_3 l0_4) else (backhaulref21_Check.j1 kj1 (decide ((wrap64 (a0_2 + a0_3)) > 1000000000000)) a0_0 a0_1 a0_2 a0_3 l0_4))))))) = some r := by first | (rw [if_neg (show ¬ (false = true) by decide)] at H; exact H) | rfl
      clear H; have H := H1; clear H1; have HC8 := zA H; clear H; go_upto_region 3 with (fail)
      go_cut [48] (fun v48 wc => ∃ (kq : Nat) (x48_7 : Bool), v48 = .bool x48_7 ∧ Aside0 (backhaulref21_Check.j1 kq x48_7 a0_0 a0_1 a0_2 a0_3 l0_4 = some r) ∧ Aside0 (kq ≤ kj1) ∧ Aside0 (wc.heap[gb101]? = some (.cells #[.int .i64 a0_0, .int .i64 a0_1, .int .i64 a0_2, .int .i64 a0_3, (.slice A0_4 l0_4.length c0_4)] 71 (0, 0))) ∧ Aside0 (Below w.heap.size w wc))
      case first =>
        have H := HC8.out; clear HC8; by_cases c9 : a0_1 < 0
        · rw [if_pos c9] at H
          have c9b0 : decide (a0_1 < 0) = true := zFq c9; clear c9; (first | rw [c9b0] | (simp only [i64_w, i32_w]; rw [c9b0]) | skip)
          have H' := zA H; clear H; obtain ⟨_, _, _, _, _, _, _, _, _, _⟩ := qc5f BK101.out; go_wp2; go_meet
          case rel => exact ⟨_, (true), (by first | rfl | (simp; done) | (simp [*]; done)), H', ⟨by have := HJ1.out; first | omega | exact Nat.le_refl _⟩, ⟨by exact BK101.out⟩, ⟨qB⟩⟩
        rw [if_neg c9] at H; have c9b0 : decide (a0_1 < 0) = false := zGq c9; clear c9; (first | rw [c9b0] | (simp only [i64_w, i32_w]; rw [c9b0]) | skip)
        by_cases c11 : a0_1 > 1000000000000
        · rw [if_pos c11] at H
          have c11b0 : decide (1000000000000 < a0_1) = true := zFq c11; clear c11; have H' := zA H; clear H; obtain ⟨_, _, _, _, _, _, _, _, _, _⟩ := qc5f BK101.out; go_wp2; go_meet
          case rel => exact ⟨_, (true), (by first | rfl | (simp; done) | (simp [*]; done)), H', ⟨by have := HJ1.out; first | omega | exact Nat.le_refl _⟩, ⟨by exact BK101.out⟩, ⟨qB⟩⟩
        rw [if_neg c11] at H; have c11b0 : decide (1000000000000 < a0_1) = false := zGq c11; clear c11; by_cases c13 : a0_2 < 0
        · rw [if_pos c13] at H
          have c13b0 : decide (a0_2 < 0) = true := zFq c13; clear c13; have H' := zA H; clear H; obtain ⟨_, _, _, _, _, _, _, _, _, _⟩ := qc5f BK101.out; go_wp2; go_meet
          case rel => exact ⟨_, (true), (by first | rfl | (simp; done) | (simp [*]; done)), H', ⟨by have := HJ1.out; first | omega | exact Nat.le_refl _⟩, ⟨by exact BK101.out⟩, ⟨qB⟩⟩
        rw [if_neg c13] at H; have c13b0 : decide (a0_2 < 0) = false := zGq c13; clear c13; by_cases c15 : a0_2 > a0_1
        · rw [if_pos c15] at H
          have c15b0 : decide (a0_1 < a0_2) = true := zFq c15; clear c15; have H' := zA H; clear H; obtain ⟨_, _, _, _, _, _, _, _, _, _⟩ := qc5f BK101.out; go_wp2; go_meet
          case rel => exact ⟨_, (true), (by first | rfl | (simp; done) | (simp [*]; done)), H', ⟨by have := HJ1.out; first | omega | exact Nat.le_refl _⟩, ⟨by exact BK101.out⟩, ⟨qB⟩⟩
        rw [if_neg c15] at H; have c15b0 : decide (a0_1 < a0_2) = false := zGq c15; clear c15; by_cases c17 : a0_3 < 0
        · rw [if_pos c17] at H
          have c17b0 : decide (a0_3 < 0) = true := zFq c17; clear c17; have H' := zA H; clear H; obtain ⟨_, _, _, _, _, _, _, _, _, _⟩ := qc5f BK101.out; go_wp2; go_meet
          case rel => exact ⟨_, (true), (by first | rfl | (simp; done) | (simp [*]; done)), H', ⟨by have := HJ1.out; first | omega | exact Nat.le_refl _⟩, ⟨by exact BK101.out⟩, ⟨qB⟩⟩
        rw [if_neg c17] at H; have c17b0 : decide (a0_3 < 0) = false := zGq c17; clear c17; by_cases c19 : a0_3 > 1000000000000
        · rw [if_pos c19] at H
          have c19b0 : decide (1000000000000 < a0_3) = true := zFq c19; clear c19; have H' := zA H; clear H; obtain ⟨_, _, _, _, _, _, _, _, _, _⟩ := qc5f BK101.out; go_wp2; go_meet
          case rel => exact ⟨_, (true), (by first | rfl | (simp; done) | (simp [*]; done)), H', ⟨by have := HJ1.out; first | omega | exact Nat.le_refl _⟩, ⟨by exact BK101.out⟩, ⟨qB⟩⟩
        rw [if_neg c19] at H; have c19b0 : decide (1000000000000 < a0_3) = false := zGq c19; clear c19; have H' := zA H; clear H; obtain ⟨_, _, _, _, _, _, _, _, _, _⟩ := qc5f BK101.out; go_wp2; go_meet
        case rel => exact ⟨_, (decide ((wrap64 (a0_2 + a0_3)) > 1000000000000)), (by first | rfl | (simp; done) | (simp [*]; done)), H', ⟨by have := HJ1.out; first | omega | exact Nat.le_refl _⟩, ⟨by exact BK101.out⟩, ⟨qB⟩⟩
      case rest =>
        clear HC8; try clear c1
        try clear p2
        try clear c4
        try clear c4b0
        try clear p6
        try clear c7
        try clear c9
        try clear c9b0
        try clear c11
        try clear c11b0
        try clear c13
        try clear c13b0
        try clear c15
        try clear c15b0
        try clear c17
        try clear c17b0
        try clear c19
        try clear c19b0
        try clear p2
        obtain ⟨kq, x48_7, rfl, HA, HJ7, BK101, HB⟩ := hcut; cases kq with
        | zero => exact absurd HA.out (by simp [backhaulref21_Check.j1])
        | succ kj7 =>
          have H := HA.out; clear HA; simp only [backhaulref21_Check.j1] at H; by_cases c22 : x48_7 = true
          · subst c22
            have H1 : (some 8) = some r := by first | (rw [if_pos rfl] at H; exact H) | rfl
            clear H; have H := H1; clear H1; obtain rfl := zKq H; go_wp2; go_ret; exact ⟨qE, qB⟩
          replace c22 := Bool.eq_false_iff.mpr c22; subst c22; have H1 : (if (l0_4.length : Int) < 1 then (some 9) else (if (l0_4.length : Int) > 20 then (some 9) else ((backhaulref01_Row.f kj7 l0_4).bind fun t102 => (if t102 = 0 then (some 0) else (some 9))))) = some r := by first | (rw [if_neg (show ¬ (false = true) by decide)] at H; exact H) | rfl
          clear H; have H := H1; clear H1; by_cases c23 : (l0_4.length : Int) < 1
          · rw [if_pos c23] at H
            have c23b0 : decide ((l0_4.length : Int) < 1) = true := zFq c23; have c23b1 : decide (l0_4.length < 1) = true := zFq (by omega); clear c23; obtain rfl := zKq H; obtain ⟨_, _, _, _, _, _, _, _, _, _⟩ := qc5f BK101.out; go_wp2; go_ret; exact ⟨qE, qB⟩
          rw [if_neg c23] at H; have c23b0 : decide ((l0_4.length : Int) < 1) = false := zGq c23; have c23b1 : decide (l0_4.length < 1) = false := zGq (by omega); clear c23; by_cases c25 : (l0_4.length : Int) > 20
          · rw [if_pos c25] at H
            have c25b0 : decide (20 < (l0_4.length : Int)) = true := zFq c25; have c25b1 : decide (20 < l0_4.length) = true := zFq (by omega); clear c25; obtain rfl := zKq H; obtain ⟨_, _, _, _, _, _, _, _, _, _⟩ := qc5f BK101.out; go_wp2; go_ret; exact ⟨qE, qB⟩
          rw [if_neg c25] at H; have c25b0 : decide (20 < (l0_4.length : Int)) = false := zGq c25; have c25b1 : decide (20 < l0_4.length) = false := zGq (by omega); clear c25; replace H := Option.bind_eq_some_iff.mp H; obtain ⟨t102, A270, H⟩ := H; replace H : (if t102 = 0 then (some 0) else (some 9)) = some r := H; have A27 := zA A270; clear A270; by_cases c28 : t102 = 0
          · rw [if_pos c28] at H
            have c28b0 : (t102 == 0) = true := beq_iff_eq.mpr c28; have c28b1 : (t102 != 0) = false := bne_eq_false_iff_eq.mpr c28; clear c28; obtain rfl := zKq H; obtain ⟨_, _, _, _, _, _, _, _, _, _⟩ := qc5f BK101.out; go_wp2_with (first | (go_at_call 120; (with_reducible refine (backhaulref01_Row.calls kj7 _ _ l0_4 t102 _ ?side1 ?side2 A27.out).mono ?_); (case side1 => exact qC (Kd.C_below HR0_4.out HB.out)); (case side2 => exact HC0_4.out); rintro e w30 ⟨rfl, hb⟩; have n0_ := zA (qX BK101.out hb); have n1_ := zA (zV qB hb); clear BK101 HB; have BK101 := n0_; have HB := n1_; clear n0_ n1_; (try clear hb); (try clear hb2); (try clear hk); (try clear hi))); go_ret; exact ⟨qE, qB⟩
          rw [if_neg c28] at H; have c28b0 : (t102 == 0) = false := beq_eq_false_iff_ne.mpr c28; have c28b1 : (t102 != 0) = true := bne_iff_ne.mpr c28; obtain rfl := zKq H; obtain ⟨_, _, _, _, _, _, _, _, _, _⟩ := qc5f BK101.out; go_wp2_with (first | (go_at_call 120; (with_reducible refine (backhaulref01_Row.calls kj7 _ _ l0_4 t102 _ ?side1 ?side2 A27.out).mono ?_); (case side1 => exact qC (Kd.C_below HR0_4.out HB.out)); (case side2 => exact HC0_4.out); rintro e w32 ⟨rfl, hb⟩; have n0_ := zA (qX BK101.out hb); have n1_ := zA (zV qB hb); clear BK101 HB; have BK101 := n0_; have HB := n1_; clear n0_ n1_; (try clear hb); (try clear hb2); (try clear hk); (try clear hi))); go_ret; exact ⟨qE, qB⟩
def backhaulref21_Unit.j0 : Nat → Int → Bool → Int → Int → Int → Int → List ByteArray → Option (Int × Int × Int)
  | 0, _, _, _, _, _, _, _ => none
  | k + 1, x1, x25, x102000, x102001, x102002, x102003, x102004 => if x25 = true then (some (0, 0, 2)) else ((backhaulref03_Evenly.f k x102002 (x102004.length : Int)).bind fun bt103 => ((backhaulref03_Evenly.f k x102003 (x102004.length : Int)).bind fun bt107 => (if 0 ≤ x1 then (if x1 < (bt103.1.length : Int) then (if x1 < (bt107.1.length : Int) then (some (rd bt103.1 x1, rd bt107.1 x1, 0)) else (none)) else (none)) else (none))))
def backhaulref21_Unit.f (k : Nat) (a0_0 : Int) (a0_1 : Int) (a0_2 : Int) (a0_3 : Int) (l0_4 : List ByteArray) (a1 : Int) : Option (Int × Int × Int) := (backhaulref21_Check.f k a0_0 a0_1 a0_2 a0_3 l0_4).bind fun t102 => (if t102 = 0 then (if a1 < 0 then (backhaulref21_Unit.j0 k a1 true a0_0 a0_1 a0_2 a0_3 l0_4) else (backhaulref21_Unit.j0 k a1 (decide (a1 ≥ (l0_4.length : Int))) a0_0 a0_1 a0_2 a0_3 l0_4)) else (some (0, 0, t102)))
theorem backhaulref21_Unit.mono_l : ∀ k, (∀ y0 y1 y2 y3 y4 y5 y6, LeO (backhaulref21_Unit.j0 k y0 y1 y2 y3 y4 y5 y6) (backhaulref21_Unit.j0 (k + 1) y0 y1 y2 y3 y4 y5 y6))
  | 0 => fun _ _ _ _ _ _ _ r h => by simp [backhaulref21_Unit.j0] at h
  | k + 1 => by
    have ih0 := backhaulref21_Unit.mono_l k
    intro y0 y1 y2 y3 y4 y5 y6
    unfold backhaulref21_Unit.j0
    repeat' first
    | (with_reducible exact ih0 _ _ _ _ _ _ _)
    | (with_reducible exact backhaulref03_Evenly.mono _ _ _)
    | (with_reducible exact backhaulref21_Check.mono _ _ _ _ _ _)
    | (with_reducible exact LeO.refl _)
    | (with_reducible exact LeO.none _)
    | (with_reducible refine LeO.ite ?_ ?_)
    | (with_reducible refine LeO.bind ?_ (fun _ => ?_))
    | exact ih0 _ _ _ _ _ _ _
    | exact backhaulref03_Evenly.mono _ _ _
    | exact backhaulref21_Check.mono _ _ _ _ _ _
    | exact LeO.none _
    | refine LeO.ite ?_ ?_
    | refine LeO.bind ?_ (fun _ => ?_)
theorem backhaulref21_Unit.mono : ∀ a0 a1 a2 a3 a4 a5 k, LeO (backhaulref21_Unit.f k a0 a1 a2 a3 a4 a5) (backhaulref21_Unit.f (k + 1) a0 a1 a2 a3 a4 a5) := by
  intro a0 a1 a2 a3 a4 a5 k
  have ih0 := backhaulref21_Unit.mono_l k
  unfold backhaulref21_Unit.f
  repeat' first
      | (with_reducible exact ih0 _ _ _ _ _ _ _)
      | (with_reducible exact backhaulref03_Evenly.mono _ _ _)
      | (with_reducible exact backhaulref21_Check.mono _ _ _ _ _ _)
      | (with_reducible exact LeO.refl _)
      | (with_reducible exact LeO.none _)
      | (with_reducible refine LeO.ite ?_ ?_)
      | (with_reducible refine LeO.bind ?_ (fun _ => ?_))
      | exact ih0 _ _ _ _ _ _ _
      | exact backhaulref03_Evenly.mono _ _ _
      | exact backhaulref21_Check.mono _ _ _ _ _ _
      | exact LeO.none _
      | refine LeO.ite ?_ ?_
      | refine LeO.bind ?_ (fun _ => ?_)
set_option maxHeartbeats 8000000 in
set_option maxRecDepth 100000 in
theorem backhaulref21_Unit.calls (k : Nat) (a0_0 : Int) (a0_1 : Int) (a0_2 : Int) (a0_3 : Int) (A0_4 : Option Addr) (c0_4 : Nat) (l0_4 : List ByteArray) (a1 : Int) (r1 : Int) (r2 : Int) (r3 : Int) (w : World) (hr0_4 : Kd.C Kd.string w A0_4 l0_4.length l0_4) (hc0_4 : l0_4.length ≤ c0_4) (h : backhaulref21_Unit.f k a0_0 a0_1 a0_2 a0_3 l0_4 a1 = some (r1, r2, r3)) :
    Calls Try.prog 66 #[.agg #[.int .i64 a0_0, .int .i64 a0_1, .int .i64 a0_2, .int .i64 a0_3, .slice A0_4 l0_4.length c0_4], .int .i64 a1] w fun e w' => e = .returned (.tuple #[.int .i64 r1, .int .i64 r2, .int .i64 r3]) ∧ Below w.heap.size w w' := by
  have hu71 := Try.underlying71
  have HR0_4 := zA hr0_4
  have HC0_4 := zA hc0_4
  clear hr0_4 hc0_4
  have HB := zA (Below.refl w.heap.size w)
  have H : ((backhaulref21_Check.f k a0_0 a0_1 a0_2 a0_3 l0_4).bind fun t102 => (if t102 = 0 then (if a1 < 0 then (backhaulref21_Unit.j0 k a1 true a0_0 a0_1 a0_2 a0_3 l0_4) else (backhaulref21_Unit.j0 k a1 (decide (a1 ≥ (l0_4.length : Int))) a0_0 a0_1 a0_2 a0_3 l0_4)) else (some (0, 0, t102)))) = some (r1, r2, r3) := h
  clear h
  replace H := Option.bind_eq_some_iff.mp H
  obtain ⟨t102, A30, H⟩ := H
  replace H : (if t102 = 0 then (if a1 < 0 then (backhaulref21_Unit.j0 k a1 true a0_0 a0_1 a0_2 a0_3 l0_4) else (backhaulref21_Unit.j0 k a1 (decide (a1 ≥ (l0_4.length : Int))) a0_0 a0_1 a0_2 a0_3 l0_4)) else (some (0, 0, t102))) = some (r1, r2, r3) := H
  have A3 := zA A30
  clear A30
  by_cases c4 : t102 = 0
  · rw [if_pos c4] at H
    have c4b0 : (t102 == 0) = true := beq_iff_eq.mpr c4; have c4b1 : (t102 != 0) = false := bne_eq_false_iff_eq.mpr c4; clear c4; have HC5 := zA H; clear H; go_enter Try.func66, Try.ntmps66; go_upto_region 4 with (first | ((with_reducible refine gate_dst (N := 2) rfl ?_); (try (refine gate_guard (by rfl) ?_; dsimp only)); refine box_event qr (N := 2) qr (cs := #[.int .i64 a0_0, .int .i64 a0_1, .int .i64 a0_2, .int .i64 a0_3, .slice A0_4 l0_4.length c0_4]) (t := 71) qg ?_; intro gb101 hg w6 hbox hb; have n0_ := zA (zV qB hb); have n1_ := zA (hbox); have n2_ := zA ((qS : w.heap.size ≤ gb101)); have n3_ := zA ((qS : w.heap.size ≤ gb101)); clear HB; have HB := n0_; have BK101 := n1_; have GW101 := n2_; have GE101 := n3_; clear n0_ n1_ n2_ n3_ hb hbox hg; obtain ⟨hcz7_0, hcz7_1, hcz7_2, hcz7_3, hcz7_4, hfz7_0, hfz7_1, hfz7_2, hfz7_3, hfz7_4⟩ := qc5f BK101.out) | (go_at_call 70; (with_reducible refine (backhaulref21_Check.calls k a0_0 a0_1 a0_2 a0_3 _ _ l0_4 t102 _ ?side1 ?side2 A3.out).mono ?_); (case side1 => exact qC (Kd.C_below HR0_4.out HB.out)); (case side2 => exact HC0_4.out); rintro e w8 ⟨rfl, hb⟩; have n0_ := zA (qX BK101.out hb); have n1_ := zA (zV qB hb); clear BK101 HB; have BK101 := n0_; have HB := n1_; clear n0_ n1_; (try clear hb); (try clear hb2); (try clear hk); (try clear hi)))
    repeat (go_quiet (first | ((with_reducible refine gate_dst (N := 2) rfl ?_); (try (refine gate_guard (by rfl) ?_; dsimp only)); refine box_event qr (N := 2) qr (cs := #[.int .i64 a0_0, .int .i64 a0_1, .int .i64 a0_2, .int .i64 a0_3, .slice A0_4 l0_4.length c0_4]) (t := 71) qg ?_; intro gb101 hg w6 hbox hb; have n0_ := zA (zV qB hb); have n1_ := zA (hbox); have n2_ := zA ((qS : w.heap.size ≤ gb101)); have n3_ := zA ((qS : w.heap.size ≤ gb101)); clear HB; have HB := n0_; have BK101 := n1_; have GW101 := n2_; have GE101 := n3_; clear n0_ n1_ n2_ n3_ hb hbox hg; obtain ⟨hcz7_0, hcz7_1, hcz7_2, hcz7_3, hcz7_4, hfz7_0, hfz7_1, hfz7_2, hfz7_3, hfz7_4⟩ := qc5f BK101.out) | (go_at_call 70; (with_reducible refine (backhaulref21_Check.calls k a0_0 a0_1 a0_2 a0_3 _ _ l0_4 t102 _ ?side1 ?side2 A3.out).mono ?_); (case side1 => exact qC (Kd.C_below HR0_4.out HB.out)); (case side2 => exact HC0_4.out); rintro e w8 ⟨rfl, hb⟩; have n0_ := zA (qX BK101.out hb); have n1_ := zA (zV qB hb); clear BK101 HB; have BK101 := n0_; have HB := n1_; clear n0_ n1_; (try clear hb); (try clear hb2); (try clear hk); (try clear hi))); go_upto_region 4 with (first | ((with_reducible refine gate_dst (N := 2) rfl ?_); (try (refine gate_guard (by rfl) ?_; dsimp only)); refine box_event qr (N := 2) qr (cs := #[.int .i64 a0_0, .int .i64 a0_1, .int .i64 a0_2, .int .i64 a0_3, .slice A0_4 l0_4.length c0_4]) (t := 71) qg ?_; intro gb101 hg w6 hbox hb; have n0_ := zA (zV qB hb); have n1_ := zA (hbox); have n2_ := zA ((qS : w.heap.size ≤ gb101)); have n3_ := zA ((qS : w.heap.size ≤ gb101)); clear HB; have HB := n0_; have BK101 := n1_; have GW101 := n2_; have GE101 := n3_; clear n0_ n1_ n2_ n3_ hb hbox hg; obtain ⟨hcz7_0, hcz7_1, hcz7_2, hcz7_3, hcz7_4, hfz7_0, hfz7_1, hfz7_2, hfz7_3, hfz7_4⟩ := qc5f BK101.out) | (go_at_call 70; (with_reducible refine (backhaulref21_Check.calls k a0_0 a0_1 a0_2 a0_3 _ _ l0_4 t102 _ ?side1 ?side2 A3.out).mono ?_); (case side1 => exact qC (Kd.C_below HR0_4.out HB.out)); (case side2 => exact HC0_4.out); rintro e w8 ⟨rfl, hb⟩; have n0_ := zA (qX BK101.out hb); have n1_ := zA (zV qB hb); clear BK101 HB; have BK101 := n0_; have HB := n1_; clear n0_ n1_; (try clear hb); (try clear hb2); (try clear hk); (try clear hi))))
    (try simp only [Act.put, zH, zI, zJ])
    go_cut [25] (fun v25 wc => ∃ (kq : Nat) (x25_4 : Bool), v25 = .bool x25_4 ∧ Aside0 (backhaulref21_Unit.j0 kq a1 x25_4 a0_0 a0_1 a0_2 a0_3 l0_4 = some (r1, r2, r3)) ∧ Aside0 (kq ≤ k) ∧ Aside0 (wc.heap[gb101]? = some (.cells #[.int .i64 a0_0, .int .i64 a0_1, .int .i64 a0_2, .int .i64 a0_3, (.slice A0_4 l0_4.length c0_4)] 71 (0, 0))) ∧ Aside0 (Below w.heap.size w wc))
    case first =>
      have H := HC5.out; clear HC5; by_cases c9 : a1 < 0
      · rw [if_pos c9] at H
        have c9b0 : decide (a1 < 0) = true := zFq c9; clear c9; (first | rw [c9b0] | (simp only [i64_w, i32_w]; rw [c9b0]) | skip)
        have H' := zA H; clear H; go_wp2; repeat (go_quiet (fail); try go_wp2)
        go_meet
        case rel => exact ⟨_, (true), (by first | rfl | (simp; done) | (simp [*]; done)), H', ⟨by first | omega | exact Nat.le_refl _⟩, ⟨by exact BK101.out⟩, ⟨qB⟩⟩
      rw [if_neg c9] at H; have c9b0 : decide (a1 < 0) = false := zGq c9; clear c9; (first | rw [c9b0] | (simp only [i64_w, i32_w]; rw [c9b0]) | skip)
      have H' := zA H; clear H; obtain ⟨_, _, _, _, _, _, _, _, _, _⟩ := qc5f BK101.out; go_wp2; repeat (go_quiet (fail); try go_wp2)
      go_meet
      case rel => exact ⟨_, (decide (a1 ≥ (l0_4.length : Int))), (by first | rfl | (simp; done) | (simp [*]; done)), H', ⟨by first | omega | exact Nat.le_refl _⟩, ⟨by exact BK101.out⟩, ⟨qB⟩⟩
    case rest =>
      clear HC5; try clear p2
      try clear c4
      try clear c4b0
      try clear c4b1
      try clear c6
      try clear c9
      try clear c9b0
      try clear hcz7_0
      try clear hcz7_1
      try clear hcz7_2
      try clear hcz7_3
      try clear hcz7_4
      try clear hfz7_0
      try clear hfz7_1
      try clear hfz7_2
      try clear hfz7_3
      try clear hfz7_4
      obtain ⟨kq, x25_4, rfl, HA, HJ4, BK101, HB⟩ := hcut; cases kq with
      | zero => exact absurd HA.out (by simp [backhaulref21_Unit.j0])
      | succ kj4 =>
        have H := HA.out; clear HA; simp only [backhaulref21_Unit.j0] at H; by_cases c11 : x25_4 = true
        · subst c11
          have H1 : (some (0, 0, 2)) = some (r1, r2, r3) := by first | (rw [if_pos rfl] at H; exact H) | rfl
          clear H; have H := H1; clear H1; simp only [zNq, zOq] at H; obtain ⟨rfl, rfl, rfl⟩ := H; go_wp2; repeat (go_quiet (fail); try go_wp2)
          go_ret3; exact ⟨qE, qB⟩
        replace c11 := Bool.eq_false_iff.mpr c11; subst c11; have H1 : ((backhaulref03_Evenly.f kj4 a0_2 (l0_4.length : Int)).bind fun bt103 => ((backhaulref03_Evenly.f kj4 a0_3 (l0_4.length : Int)).bind fun bt107 => (if 0 ≤ a1 then (if a1 < (bt103.1.length : Int) then (if a1 < (bt107.1.length : Int) then (some (rd bt103.1 a1, rd bt107.1 a1, 0)) else (none)) else (none)) else (none)))) = some (r1, r2, r3) := by first | (rw [if_neg (show ¬ (false = true) by decide)] at H; exact H) | rfl
        clear H; have H := H1; clear H1; replace H := Option.bind_eq_some_iff.mp H; obtain ⟨⟨t103, t104⟩, A120, H⟩ := H; replace H : ((backhaulref03_Evenly.f kj4 a0_3 (l0_4.length : Int)).bind fun bt107 => (if 0 ≤ a1 then (if a1 < (t103.length : Int) then (if a1 < (bt107.1.length : Int) then (some (rd t103 a1, rd bt107.1 a1, 0)) else (none)) else (none)) else (none))) = some (r1, r2, r3) := H; have A12 := zA A120; clear A120; replace H := Option.bind_eq_some_iff.mp H; obtain ⟨⟨t107, t108⟩, A130, H⟩ := H; replace H : (if 0 ≤ a1 then (if a1 < (t103.length : Int) then (if a1 < (t107.length : Int) then (some (rd t103 a1, rd t107 a1, 0)) else (none)) else (none)) else (none)) = some (r1, r2, r3) := H; have A13 := zA A130; clear A130; by_cases c14 : 0 ≤ a1
        · rw [if_pos c14] at H
          have c14b0 : decide (0 ≤ a1) = true := zFq c14; clear c14; by_cases c15 : a1 < (t103.length : Int)
          · rw [if_pos c15] at H
            have c15b0 : decide (a1 < (t103.length : Int)) = true := zFq c15; clear c15; by_cases c16 : a1 < (t107.length : Int)
            · rw [if_pos c16] at H
              have c16b0 : decide (a1 < (t107.length : Int)) = true := zFq c16; clear c16; simp only [zNq, zOq] at H; obtain ⟨rfl, rfl, rfl⟩ := H; obtain ⟨_, _, _, _, _, _, _, _, _, _⟩ := qc5f BK101.out; go_wp2_with (first | (go_at_call 54; (with_reducible refine (backhaulref03_Evenly.calls kj4 a0_2 (l0_4.length : Int) t103 t104 _ A12.out).mono ?_); rintro e w18 ⟨v105, rfl, ho0, hb⟩; have n0_ := zA (Kd.R_lower ho0 (zW qB)); have n1_ := zA (qX BK101.out hb); have n2_ := zA (zV qB hb); clear BK101 HB; have HO106 := n0_; have BK101 := n1_; have HB := n2_; clear n0_ n1_ n2_; (try clear hb); (try clear hb2); (try clear hk); (try clear hi); (try clear ho0); obtain ⟨hcz19_0, hcz19_1, hcz19_2, hcz19_3, hcz19_4, hfz19_0, hfz19_1, hfz19_2, hfz19_3, hfz19_4⟩ := qc5f BK101.out) | (go_at_call 54; (with_reducible refine (backhaulref03_Evenly.calls kj4 a0_3 (l0_4.length : Int) t107 t108 _ A13.out).mono ?_); rintro e w20 ⟨v109, rfl, ho0, hb⟩; have n0_ := zA (Kd.R_elder' (by (with_reducible repeat (first | apply Kd.R_alloc | apply Kd.R_drewN | apply Kd.R_drew)); exact HO106.out) (Kd.R_base ho0) hb); have n1_ := zA (Kd.R_lower (Kd.R_new' ho0 (Kd.R_lt (by (with_reducible repeat (first | apply Kd.R_alloc | apply Kd.R_drewN | apply Kd.R_drew)); exact HO106.out))) (zW qB)); have n2_ := zA (qX BK101.out hb); have n3_ := zA (zV qB hb); clear HO106 BK101 HB; have HO106 := n0_; have HO110 := n1_; have BK101 := n2_; have HB := n3_; clear n0_ n1_ n2_ n3_; (try clear hb); (try clear hb2); (try clear hk); (try clear hi); (try clear ho0); obtain ⟨Ao21, co21, eo21⟩ := Kd.R_slice HO106.out; subst eo21; have p111 : 0 ≤ (a1 : Int) := of_decide_eq_true qA; have q111 : a1 < (t103.length : Int) := of_decide_eq_true qA; obtain ⟨ad111, e111, hx111_0⟩ := Kd.at_int (Kd.R_reads' HO106.out).2.2 a1 p111 q111; cases e111; replace p111 := eq_true p111; replace q111 := eq_true q111; obtain ⟨Ao22, co22, eo22⟩ := Kd.R_slice HO110.out; subst eo22; have p112 : 0 ≤ (a1 : Int) := of_decide_eq_true qA; have q112 : a1 < (t107.length : Int) := of_decide_eq_true qA; obtain ⟨ad112, e112, hx112_0⟩ := Kd.at_int (Kd.R_reads' HO110.out).2.2 a1 p112 q112; cases e112; replace p112 := eq_true p112; replace q112 := eq_true q112)); repeat (go_quiet (first | (go_at_call 54; (with_reducible refine (backhaulref03_Evenly.calls kj4 a0_2 (l0_4.length : Int) t103 t104 _ A12.out).mono ?_); rintro e w18 ⟨v105, rfl, ho0, hb⟩; have n0_ := zA (Kd.R_lower ho0 (zW qB)); have n1_ := zA (qX BK101.out hb); have n2_ := zA (zV qB hb); clear BK101 HB; have HO106 := n0_; have BK101 := n1_; have HB := n2_; clear n0_ n1_ n2_; (try clear hb); (try clear hb2); (try clear hk); (try clear hi); (try clear ho0); obtain ⟨hcz19_0, hcz19_1, hcz19_2, hcz19_3, hcz19_4, hfz19_0, hfz19_1, hfz19_2, hfz19_3, hfz19_4⟩ := qc5f BK101.out) | (go_at_call 54; (with_reducible refine (backhaulref03_Evenly.calls kj4 a0_3 (l0_4.length : Int) t107 t108 _ A13.out).mono ?_); rintro e w20 ⟨v109, rfl, ho0, hb⟩; have n0_ := zA (Kd.R_elder' (by (with_reducible repeat (first | apply Kd.R_alloc | apply Kd.R_drewN | apply Kd.R_drew)); exact HO106.out) (Kd.R_base ho0) hb); have n1_ := zA (Kd.R_lower (Kd.R_new' ho0 (Kd.R_lt (by (with_reducible repeat (first | apply Kd.R_alloc | apply Kd.R_drewN | apply Kd.R_drew)); exact HO106.out))) (zW qB)); have n2_ := zA (qX BK101.out hb); have n3_ := zA (zV qB hb); clear HO106 BK101 HB; have HO106 := n0_; have HO110 := n1_; have BK101 := n2_; have HB := n3_; clear n0_ n1_ n2_ n3_; (try clear hb); (try clear hb2); (try clear hk); (try clear hi); (try clear ho0); obtain ⟨Ao21, co21, eo21⟩ := Kd.R_slice HO106.out; subst eo21; have p111 : 0 ≤ (a1 : Int) := of_decide_eq_true qA; have q111 : a1 < (t103.length : Int) := of_decide_eq_true qA; obtain ⟨ad111, e111, hx111_0⟩ := Kd.at_int (Kd.R_reads' HO106.out).2.2 a1 p111 q111; cases e111; replace p111 := eq_true p111; replace q111 := eq_true q111; obtain ⟨Ao22, co22, eo22⟩ := Kd.R_slice HO110.out; subst eo22; have p112 : 0 ≤ (a1 : Int) := of_decide_eq_true qA; have q112 : a1 < (t107.length : Int) := of_decide_eq_true qA; obtain ⟨ad112, e112, hx112_0⟩ := Kd.at_int (Kd.R_reads' HO110.out).2.2 a1 p112 q112; cases e112; replace p112 := eq_true p112; replace q112 := eq_true q112)); try go_wp2_with (first | (go_at_call 54; (with_reducible refine (backhaulref03_Evenly.calls kj4 a0_2 (l0_4.length : Int) t103 t104 _ A12.out).mono ?_); rintro e w18 ⟨v105, rfl, ho0, hb⟩; have n0_ := zA (Kd.R_lower ho0 (zW qB)); have n1_ := zA (qX BK101.out hb); have n2_ := zA (zV qB hb); clear BK101 HB; have HO106 := n0_; have BK101 := n1_; have HB := n2_; clear n0_ n1_ n2_; (try clear hb); (try clear hb2); (try clear hk); (try clear hi); (try clear ho0); obtain ⟨hcz19_0, hcz19_1, hcz19_2, hcz19_3, hcz19_4, hfz19_0, hfz19_1, hfz19_2, hfz19_3, hfz19_4⟩ := qc5f BK101.out) | (go_at_call 54; (with_reducible refine (backhaulref03_Evenly.calls kj4 a0_3 (l0_4.length : Int) t107 t108 _ A13.out).mono ?_); rintro e w20 ⟨v109, rfl, ho0, hb⟩; have n0_ := zA (Kd.R_elder' (by (with_reducible repeat (first | apply Kd.R_alloc | apply Kd.R_drewN | apply Kd.R_drew)); exact HO106.out) (Kd.R_base ho0) hb); have n1_ := zA (Kd.R_lower (Kd.R_new' ho0 (Kd.R_lt (by (with_reducible repeat (first | apply Kd.R_alloc | apply Kd.R_drewN | apply Kd.R_drew)); exact HO106.out))) (zW qB)); have n2_ := zA (qX BK101.out hb); have n3_ := zA (zV qB hb); clear HO106 BK101 HB; have HO106 := n0_; have HO110 := n1_; have BK101 := n2_; have HB := n3_; clear n0_ n1_ n2_ n3_; (try clear hb); (try clear hb2); (try clear hk); (try clear hi); (try clear ho0); obtain ⟨Ao21, co21, eo21⟩ := Kd.R_slice HO106.out; subst eo21; have p111 : 0 ≤ (a1 : Int) := of_decide_eq_true qA; have q111 : a1 < (t103.length : Int) := of_decide_eq_true qA; obtain ⟨ad111, e111, hx111_0⟩ := Kd.at_int (Kd.R_reads' HO106.out).2.2 a1 p111 q111; cases e111; replace p111 := eq_true p111; replace q111 := eq_true q111; obtain ⟨Ao22, co22, eo22⟩ := Kd.R_slice HO110.out; subst eo22; have p112 : 0 ≤ (a1 : Int) := of_decide_eq_true qA; have q112 : a1 < (t107.length : Int) := of_decide_eq_true qA; obtain ⟨ad112, e112, hx112_0⟩ := Kd.at_int (Kd.R_reads' HO110.out).2.2 a1 p112 q112; cases e112; replace p112 := eq_true p112; replace q112 := eq_true q112)))
              go_ret3; exact ⟨qE, qB⟩
            rw [if_neg c16] at H; exact absurd H (by simp)
          rw [if_neg c15] at H; exact absurd H (by simp)
        rw [if_neg c14] at H; exact absurd H (by simp)
  rw [if_neg c4] at H
  have c4b0 : (t102 == 0) = false := beq_eq_false_iff_ne.mpr c4
  have c4b1 : (t102 != 0) = true := bne_iff_ne.mpr c4
  simp only [zNq, zOq] at H
  obtain ⟨rfl, rfl, rfl⟩ := H
  go_enter Try.func66, Try.ntmps66
  go_wp2_with (first | ((with_reducible refine gate_dst (N := 2) rfl ?_); (try (refine gate_guard (by rfl) ?_; dsimp only)); refine box_event qr (N := 2) qr (cs := #[.int .i64 a0_0, .int .i64 a0_1, .int .i64 a0_2, .int .i64 a0_3, .slice A0_4 l0_4.length c0_4]) (t := 71) qg ?_; intro gb101 hg w23 hbox hb; have n0_ := zA (zV qB hb); have n1_ := zA (hbox); have n2_ := zA ((qS : w.heap.size ≤ gb101)); have n3_ := zA ((qS : w.heap.size ≤ gb101)); clear HB; have HB := n0_; have BK101 := n1_; have GW101 := n2_; have GE101 := n3_; clear n0_ n1_ n2_ n3_ hb hbox hg; obtain ⟨hcz24_0, hcz24_1, hcz24_2, hcz24_3, hcz24_4, hfz24_0, hfz24_1, hfz24_2, hfz24_3, hfz24_4⟩ := qc5f BK101.out) | (go_at_call 70; (with_reducible refine (backhaulref21_Check.calls k a0_0 a0_1 a0_2 a0_3 _ _ l0_4 t102 _ ?side1 ?side2 A3.out).mono ?_); (case side1 => exact qC (Kd.C_below HR0_4.out HB.out)); (case side2 => exact HC0_4.out); rintro e w25 ⟨rfl, hb⟩; have n0_ := zA (qX BK101.out hb); have n1_ := zA (zV qB hb); clear BK101 HB; have BK101 := n0_; have HB := n1_; clear n0_ n1_; (try clear hb); (try clear hb2); (try clear hk); (try clear hi)))
  repeat (go_quiet (first | ((with_reducible refine gate_dst (N := 2) rfl ?_); (try (refine gate_guard (by rfl) ?_; dsimp only)); refine box_event qr (N := 2) qr (cs := #[.int .i64 a0_0, .int .i64 a0_1, .int .i64 a0_2, .int .i64 a0_3, .slice A0_4 l0_4.length c0_4]) (t := 71) qg ?_; intro gb101 hg w23 hbox hb; have n0_ := zA (zV qB hb); have n1_ := zA (hbox); have n2_ := zA ((qS : w.heap.size ≤ gb101)); have n3_ := zA ((qS : w.heap.size ≤ gb101)); clear HB; have HB := n0_; have BK101 := n1_; have GW101 := n2_; have GE101 := n3_; clear n0_ n1_ n2_ n3_ hb hbox hg; obtain ⟨hcz24_0, hcz24_1, hcz24_2, hcz24_3, hcz24_4, hfz24_0, hfz24_1, hfz24_2, hfz24_3, hfz24_4⟩ := qc5f BK101.out) | (go_at_call 70; (with_reducible refine (backhaulref21_Check.calls k a0_0 a0_1 a0_2 a0_3 _ _ l0_4 t102 _ ?side1 ?side2 A3.out).mono ?_); (case side1 => exact qC (Kd.C_below HR0_4.out HB.out)); (case side2 => exact HC0_4.out); rintro e w25 ⟨rfl, hb⟩; have n0_ := zA (qX BK101.out hb); have n1_ := zA (zV qB hb); clear BK101 HB; have BK101 := n0_; have HB := n1_; clear n0_ n1_; (try clear hb); (try clear hb2); (try clear hk); (try clear hi))); try go_wp2_with (first | ((with_reducible refine gate_dst (N := 2) rfl ?_); (try (refine gate_guard (by rfl) ?_; dsimp only)); refine box_event qr (N := 2) qr (cs := #[.int .i64 a0_0, .int .i64 a0_1, .int .i64 a0_2, .int .i64 a0_3, .slice A0_4 l0_4.length c0_4]) (t := 71) qg ?_; intro gb101 hg w23 hbox hb; have n0_ := zA (zV qB hb); have n1_ := zA (hbox); have n2_ := zA ((qS : w.heap.size ≤ gb101)); have n3_ := zA ((qS : w.heap.size ≤ gb101)); clear HB; have HB := n0_; have BK101 := n1_; have GW101 := n2_; have GE101 := n3_; clear n0_ n1_ n2_ n3_ hb hbox hg; obtain ⟨hcz24_0, hcz24_1, hcz24_2, hcz24_3, hcz24_4, hfz24_0, hfz24_1, hfz24_2, hfz24_3, hfz24_4⟩ := qc5f BK101.out) | (go_at_call 70; (with_reducible refine (backhaulref21_Check.calls k a0_0 a0_1 a0_2 a0_3 _ _ l0_4 t102 _ ?side1 ?side2 A3.out).mono ?_); (case side1 => exact qC (Kd.C_below HR0_4.out HB.out)); (case side2 => exact HC0_4.out); rintro e w25 ⟨rfl, hb⟩; have n0_ := zA (qX BK101.out hb); have n1_ := zA (zV qB hb); clear BK101 HB; have BK101 := n0_; have HB := n1_; clear n0_ n1_; (try clear hb); (try clear hb2); (try clear hk); (try clear hi))))
  go_ret3
  exact ⟨qE, qB⟩
def backhaulref21_Paid.f (k : Nat) (a0_0 : Int) (a0_1 : Int) (a0_2 : Int) (a0_3 : Int) (l0_4 : List ByteArray) : Option (Int × Int) := (backhaulref21_Check.f k a0_0 a0_1 a0_2 a0_3 l0_4).bind fun t102 => (if t102 = 0 then (some (wrap64 (a0_2 + a0_3), 0)) else (some (0, t102)))
theorem backhaulref21_Paid.mono : ∀ a0 a1 a2 a3 a4 k, LeO (backhaulref21_Paid.f k a0 a1 a2 a3 a4) (backhaulref21_Paid.f (k + 1) a0 a1 a2 a3 a4) := by
  intro a0 a1 a2 a3 a4 k
  unfold backhaulref21_Paid.f
  repeat' first
      | (with_reducible exact backhaulref21_Check.mono _ _ _ _ _ _)
      | (with_reducible exact LeO.refl _)
      | (with_reducible exact LeO.none _)
      | (with_reducible refine LeO.ite ?_ ?_)
      | (with_reducible refine LeO.bind ?_ (fun _ => ?_))
      | exact backhaulref21_Check.mono _ _ _ _ _ _
      | exact LeO.none _
      | refine LeO.ite ?_ ?_
      | refine LeO.bind ?_ (fun _ => ?_)
set_option maxHeartbeats 8000000 in
set_option maxRecDepth 100000 in
theorem backhaulref21_Paid.calls (k : Nat) (a0_0 : Int) (a0_1 : Int) (a0_2 : Int) (a0_3 : Int) (A0_4 : Option Addr) (c0_4 : Nat) (l0_4 : List ByteArray) (r1 : Int) (r2 : Int) (w : World) (hr0_4 : Kd.C Kd.string w A0_4 l0_4.length l0_4) (hc0_4 : l0_4.length ≤ c0_4) (h : backhaulref21_Paid.f k a0_0 a0_1 a0_2 a0_3 l0_4 = some (r1, r2)) :
    Calls Try.prog 68 #[.agg #[.int .i64 a0_0, .int .i64 a0_1, .int .i64 a0_2, .int .i64 a0_3, .slice A0_4 l0_4.length c0_4]] w fun e w' => e = .returned (.tuple #[.int .i64 r1, .int .i64 r2]) ∧ Below w.heap.size w w' := by
  have hu71 := Try.underlying71
  have HR0_4 := zA hr0_4
  have HC0_4 := zA hc0_4
  clear hr0_4 hc0_4
  have HB := zA (Below.refl w.heap.size w)
  have H : ((backhaulref21_Check.f k a0_0 a0_1 a0_2 a0_3 l0_4).bind fun t102 => (if t102 = 0 then (some (wrap64 (a0_2 + a0_3), 0)) else (some (0, t102)))) = some (r1, r2) := h
  clear h
  replace H := Option.bind_eq_some_iff.mp H
  obtain ⟨t102, A20, H⟩ := H
  replace H : (if t102 = 0 then (some (wrap64 (a0_2 + a0_3), 0)) else (some (0, t102))) = some (r1, r2) := H
  have A2 := zA A20
  clear A20
  by_cases c3 : t102 = 0
  · rw [if_pos c3] at H
    have c3b0 : (t102 == 0) = true := beq_iff_eq.mpr c3; have c3b1 : (t102 != 0) = false := bne_eq_false_iff_eq.mpr c3; clear c3; simp only [zNq, zOq] at H; obtain ⟨rfl, rfl⟩ := H; go_enter Try.func68, Try.ntmps68; go_wp2_with (first | ((with_reducible refine gate_dst (N := 1) rfl ?_); refine box_event qr (N := 1) qr (cs := #[.int .i64 a0_0, .int .i64 a0_1, .int .i64 a0_2, .int .i64 a0_3, .slice A0_4 l0_4.length c0_4]) (t := 71) qg ?_; intro gb101 hg w4 hbox hb; have n0_ := zA (zV qB hb); have n1_ := zA (hbox); have n2_ := zA ((qS : w.heap.size ≤ gb101)); have n3_ := zA ((qS : w.heap.size ≤ gb101)); clear HB; have HB := n0_; have BK101 := n1_; have GW101 := n2_; have GE101 := n3_; clear n0_ n1_ n2_ n3_ hb hbox hg; obtain ⟨_, _, _, _, _, _, _, _, _, _⟩ := qc5f BK101.out) | ((with_reducible refine zJq (f := 70) rfl ?_); refine goesL_ (some 6) rfl rfl Try.func70 (by kernel_rfl) rfl #[.agg #[.int .i64 a0_0, .int .i64 a0_1, .int .i64 a0_2, .int .i64 a0_3, .slice A0_4 l0_4.length c0_4]] rfl (by (try simp only [zR, zS, zT]); first | done | rfl | (simp only [zP, zQ]; rfl)) ?_; (with_reducible refine (backhaulref21_Check.calls k a0_0 a0_1 a0_2 a0_3 _ _ l0_4 t102 _ ?side1 ?side2 A2.out).mono ?_); (case side1 => exact qC (Kd.C_below HR0_4.out HB.out)); (case side2 => exact HC0_4.out); rintro e w6 ⟨rfl, hb⟩; refine ⟨_, rfl, ?_⟩; have n0_ := zA (qX BK101.out hb); have n1_ := zA (zV qB hb); clear BK101 HB; have BK101 := n0_; have HB := n1_; clear n0_ n1_; (try clear hb); (try clear hb2); (try clear hk); (try clear hi); obtain ⟨_, _, _, _, _, _, _, _, _, _⟩ := qc5f BK101.out)); go_ret2; exact ⟨qE, qB⟩
  rw [if_neg c3] at H
  have c3b0 : (t102 == 0) = false := beq_eq_false_iff_ne.mpr c3
  have c3b1 : (t102 != 0) = true := bne_iff_ne.mpr c3
  simp only [zNq, zOq] at H
  obtain ⟨rfl, rfl⟩ := H
  go_enter Try.func68, Try.ntmps68
  go_wp2_with (first | ((with_reducible refine gate_dst (N := 1) rfl ?_); refine box_event qr (N := 1) qr (cs := #[.int .i64 a0_0, .int .i64 a0_1, .int .i64 a0_2, .int .i64 a0_3, .slice A0_4 l0_4.length c0_4]) (t := 71) qg ?_; intro gb101 hg w8 hbox hb; have n0_ := zA (zV qB hb); have n1_ := zA (hbox); have n2_ := zA ((qS : w.heap.size ≤ gb101)); have n3_ := zA ((qS : w.heap.size ≤ gb101)); clear HB; have HB := n0_; have BK101 := n1_; have GW101 := n2_; have GE101 := n3_; clear n0_ n1_ n2_ n3_ hb hbox hg; obtain ⟨_, _, _, _, _, _, _, _, _, _⟩ := qc5f BK101.out) | ((with_reducible refine zJq (f := 70) rfl ?_); refine goesL_ (some 6) rfl rfl Try.func70 (by kernel_rfl) rfl #[.agg #[.int .i64 a0_0, .int .i64 a0_1, .int .i64 a0_2, .int .i64 a0_3, .slice A0_4 l0_4.length c0_4]] rfl (by (try simp only [zR, zS, zT]); first | done | rfl | (simp only [zP, zQ]; rfl)) ?_; (with_reducible refine (backhaulref21_Check.calls k a0_0 a0_1 a0_2 a0_3 _ _ l0_4 t102 _ ?side1 ?side2 A2.out).mono ?_); (case side1 => exact qC (Kd.C_below HR0_4.out HB.out)); (case side2 => exact HC0_4.out); rintro e w10 ⟨rfl, hb⟩; refine ⟨_, rfl, ?_⟩; have n0_ := zA (qX BK101.out hb); have n1_ := zA (zV qB hb); clear BK101 HB; have BK101 := n0_; have HB := n1_; clear n0_ n1_; (try clear hb); (try clear hb2); (try clear hk); (try clear hi)))
  go_ret2
  exact ⟨qE, qB⟩
def backhaulref21_Sum.l0 : Nat → List (S71) → Int → Int → Int → Int → Option (Int × Int × Int × Int)
  | 0, _, _, _, _, _ => none
  | k + 1, x0, x6, x7, x8, x9 => if x9 < (x0.length : Int) then (if 0 ≤ x9 then ((backhaulref21_Check.f k ((rd_T71 x0 x9).f0) ((rd_T71 x0 x9).f1) ((rd_T71 x0 x9).f2) ((rd_T71 x0 x9).f3) ((rd_T71 x0 x9).f4)).bind fun t102 => (if t102 = 0 then (if (wrap64 (x6 + ((rd_T71 x0 x9).f1))) > 1000000000000 then (some (0, 0, 0, 8)) else (if (wrap64 (x7 + ((rd_T71 x0 x9).f2))) > 1000000000000 then (some (0, 0, 0, 8)) else (if (wrap64 (x8 + ((rd_T71 x0 x9).f3))) > 1000000000000 then (some (0, 0, 0, 8)) else (backhaulref21_Sum.l0 k x0 (wrap64 (x6 + ((rd_T71 x0 x9).f1))) (wrap64 (x7 + ((rd_T71 x0 x9).f2))) (wrap64 (x8 + ((rd_T71 x0 x9).f3))) (wrap64 (x9 + 1)))))) else (some (0, 0, 0, t102)))) else (none)) else (some (x6, x7, x8, 0))
def backhaulref21_Sum.f (k : Nat) (l0 : List (S71)) : Option (Int × Int × Int × Int) := backhaulref21_Sum.l0 k l0 0 0 0 0
theorem backhaulref21_Sum.mono_l : ∀ k, (∀ y0 y1 y2 y3 y4, LeO (backhaulref21_Sum.l0 k y0 y1 y2 y3 y4) (backhaulref21_Sum.l0 (k + 1) y0 y1 y2 y3 y4))
  | 0 => fun _ _ _ _ _ r h => by simp [backhaulref21_Sum.l0] at h
  | k + 1 => by
    have ih0 := backhaulref21_Sum.mono_l k
    intro y0 y1 y2 y3 y4
    unfold backhaulref21_Sum.l0
    repeat' first
    | (with_reducible exact ih0 _ _ _ _ _)
    | (with_reducible exact backhaulref21_Check.mono _ _ _ _ _ _)
    | (with_reducible exact LeO.refl _)
    | (with_reducible exact LeO.none _)
    | (with_reducible refine LeO.ite ?_ ?_)
    | (with_reducible refine LeO.bind ?_ (fun _ => ?_))
    | exact ih0 _ _ _ _ _
    | exact backhaulref21_Check.mono _ _ _ _ _ _
    | exact LeO.none _
    | refine LeO.ite ?_ ?_
    | refine LeO.bind ?_ (fun _ => ?_)
theorem backhaulref21_Sum.mono : ∀ a0 k, LeO (backhaulref21_Sum.f k a0) (backhaulref21_Sum.f (k + 1) a0) := by
  intro a0 k
  have ih0 := backhaulref21_Sum.mono_l k
  unfold backhaulref21_Sum.f
  repeat' first
      | (with_reducible exact ih0 _ _ _ _ _)
      | (with_reducible exact backhaulref21_Check.mono _ _ _ _ _ _)
      | (with_reducible exact LeO.refl _)
      | (with_reducible exact LeO.none _)
      | (with_reducible refine LeO.ite ?_ ?_)
      | (with_reducible refine LeO.bind ?_ (fun _ => ?_))
      | exact ih0 _ _ _ _ _
      | exact backhaulref21_Check.mono _ _ _ _ _ _
      | exact LeO.none _
      | refine LeO.ite ?_ ?_
      | refine LeO.bind ?_ (fun _ => ?_)
set_option maxHeartbeats 8000000 in
set_option maxRecDepth 100000 in
theorem backhaulref21_Sum.calls (k : Nat) (A0 : Option Addr) (c0 : Nat) (l0 : List (S71)) (r1 : Int) (r2 : Int) (r3 : Int) (r4 : Int) (w : World) (hr0 : Kd.C k71 w A0 l0.length l0) (hc0 : l0.length ≤ c0) (h : backhaulref21_Sum.f k l0 = some (r1, r2, r3, r4)) :
    Calls Try.prog 72 #[.slice A0 l0.length c0] w fun e w' => e = .returned (.tuple #[.int .i64 r1, .int .i64 r2, .int .i64 r3, .int .i64 r4]) ∧ Below w.heap.size w w' := by
  have hu71 := Try.underlying71
  have HR0 := zA hr0
  have HC0 := zA hc0
  clear hr0 hc0
  have HB := zA (Below.refl w.heap.size w)
  have H : (backhaulref21_Sum.l0 k l0 0 0 0 0) = some (r1, r2, r3, r4) := h
  clear h
  have H' := zA H
  clear H
  go_enter Try.func72, Try.ntmps72
  go_wp2
  repeat (go_quiet (fail); try go_wp2)
  go_loopg [6, 7, 8, 9] k (fun kq v6 v7 v8 v9 w' => ∃ (x6_1 : Int) (x7_1 : Int) (x8_1 : Int) (x9_1 : Int), v6 = .int .i64 x6_1 ∧ v7 = .int .i64 x7_1 ∧ v8 = .int .i64 x8_1 ∧ v9 = .int .i64 x9_1 ∧ Aside0 (backhaulref21_Sum.l0 kq l0 x6_1 x7_1 x8_1 x9_1 = some (r1, r2, r3, r4)) ∧ Aside0 (kq ≤ k) ∧ Aside0 (Below w.heap.size w w'))
  case atStart => exact ⟨(0), (0), (0), (0), (by first | rfl | (simp; done) | (simp [*]; done)), (by first | rfl | (simp; done) | (simp [*]; done)), (by first | rfl | (simp; done) | (simp [*]; done)), (by first | rfl | (simp; done) | (simp [*]; done)), H', ⟨Nat.le_refl _⟩, ⟨qB⟩⟩
  case round =>
    clear H'; obtain ⟨x6_1, x7_1, x8_1, x9_1, rfl, rfl, rfl, rfl, HA, HK1, HB⟩ := hrel; cases gk with
    | zero => exact absurd HA.out (by simp [backhaulref21_Sum.l0])
    | succ k1 =>
      have H := HA.out; clear HA; simp only [backhaulref21_Sum.l0] at H; by_cases c2 : x9_1 < (l0.length : Int)
      · rw [if_pos c2] at H
        have c2b0 : decide (x9_1 < (l0.length : Int)) = true := zFq c2; clear c2; by_cases c3 : 0 ≤ x9_1
        · rw [if_pos c3] at H
          have c3b0 : decide (0 ≤ x9_1) = true := zFq c3; clear c3; replace H := Option.bind_eq_some_iff.mp H; obtain ⟨t102, A40, H⟩ := H; replace H : (if t102 = 0 then (if (wrap64 (x6_1 + ((rd_T71 l0 x9_1).f1))) > 1000000000000 then (some (0, 0, 0, 8)) else (if (wrap64 (x7_1 + ((rd_T71 l0 x9_1).f2))) > 1000000000000 then (some (0, 0, 0, 8)) else (if (wrap64 (x8_1 + ((rd_T71 l0 x9_1).f3))) > 1000000000000 then (some (0, 0, 0, 8)) else (backhaulref21_Sum.l0 k1 l0 (wrap64 (x6_1 + ((rd_T71 l0 x9_1).f1))) (wrap64 (x7_1 + ((rd_T71 l0 x9_1).f2))) (wrap64 (x8_1 + ((rd_T71 l0 x9_1).f3))) (wrap64 (x9_1 + 1)))))) else (some (0, 0, 0, t102))) = some (r1, r2, r3, r4) := H; have A4 := zA A40; clear A40; by_cases c5 : t102 = 0
          · rw [if_pos c5] at H
            have c5b0 : (t102 == 0) = true := beq_iff_eq.mpr c5; have c5b1 : (t102 != 0) = false := bne_eq_false_iff_eq.mpr c5; clear c5; by_cases c6 : (wrap64 (x6_1 + ((rd_T71 l0 x9_1).f1))) > 1000000000000
            · rw [if_pos c6] at H
              have c6b0 : decide (1000000000000 < (wrap64 (x6_1 + ((rd_T71 l0 x9_1).f1)))) = true := zFq c6; clear c6; simp only [zNq, zOq] at H; obtain ⟨rfl, rfl, rfl, rfl⟩ := H; have p101 : 0 ≤ (x9_1 : Int) := of_decide_eq_true qA; have q101 : x9_1 < (l0.length : Int) := of_decide_eq_true qA; obtain ⟨ad101, A101_4, c101_4, e101, hx101_0, hx101_1, hx101_2, hx101_3, hx101_4, hl101_4, hi101_4⟩ := at_T71 HR0.out x9_1 p101 q101; cases e101
              replace hx101_0 := (HB.out.cell (zCq w _ hx101_0)).trans hx101_0; replace hx101_1 := (HB.out.cell (zCq w _ hx101_1)).trans hx101_1; replace hx101_2 := (HB.out.cell (zCq w _ hx101_2)).trans hx101_2; replace hx101_3 := (HB.out.cell (zCq w _ hx101_3)).trans hx101_3; replace hx101_4 := (HB.out.cell (zCq w _ hx101_4)).trans hx101_4; have HR101_4 := zA hi101_4; have HC101_4 := zA hl101_4; clear hi101_4 hl101_4; replace p101 := eq_true p101; replace q101 := eq_true q101; go_wp2_with (first | (go_at_call 70; (with_reducible refine (backhaulref21_Check.calls k1 ((rd_T71 l0 x9_1).f0) ((rd_T71 l0 x9_1).f1) ((rd_T71 l0 x9_1).f2) ((rd_T71 l0 x9_1).f3) _ _ ((rd_T71 l0 x9_1).f4) t102 _ ?side1 ?side2 A4.out).mono ?_); (case side1 => exact qC (Kd.C_below HR101_4.out HB.out)); (case side2 => exact HC101_4.out); rintro e w7 ⟨rfl, hb⟩; have n0_ := zA (zV qB hb); clear HB; have HB := n0_; clear n0_; (try clear hb); (try clear hb2); (try clear hk); (try clear hi); have p103 : 0 ≤ (x9_1 : Int) := of_decide_eq_true qA; have q103 : x9_1 < (l0.length : Int) := of_decide_eq_true qA; obtain ⟨ad103, A103_4, c103_4, e103, hx103_0, hx103_1, hx103_2, hx103_3, hx103_4, hl103_4, hi103_4⟩ := at_T71 HR0.out x9_1 p103 q103; obtain rfl : ad101 = ad103 := (by injection e103); replace hx103_0 := (HB.out.cell (zCq w _ hx103_0)).trans hx103_0; replace hx103_1 := (HB.out.cell (zCq w _ hx103_1)).trans hx103_1; replace hx103_2 := (HB.out.cell (zCq w _ hx103_2)).trans hx103_2; replace hx103_3 := (HB.out.cell (zCq w _ hx103_3)).trans hx103_3; replace hx103_4 := (HB.out.cell (zCq w _ hx103_4)).trans hx103_4; have HR103_4 := zA hi103_4; have HC103_4 := zA hl103_4; clear hi103_4 hl103_4; replace p103 := eq_true p103; replace q103 := eq_true q103; have p104 : 0 ≤ (x9_1 : Int) := of_decide_eq_true qA; have q104 : x9_1 < (l0.length : Int) := of_decide_eq_true qA; obtain ⟨ad104, A104_4, c104_4, e104, hx104_0, hx104_1, hx104_2, hx104_3, hx104_4, hl104_4, hi104_4⟩ := at_T71 HR0.out x9_1 p104 q104; obtain rfl : ad101 = ad104 := (by injection e104); replace hx104_0 := (HB.out.cell (zCq w _ hx104_0)).trans hx104_0; replace hx104_1 := (HB.out.cell (zCq w _ hx104_1)).trans hx104_1; replace hx104_2 := (HB.out.cell (zCq w _ hx104_2)).trans hx104_2; replace hx104_3 := (HB.out.cell (zCq w _ hx104_3)).trans hx104_3; replace hx104_4 := (HB.out.cell (zCq w _ hx104_4)).trans hx104_4; have HR104_4 := zA hi104_4; have HC104_4 := zA hl104_4; clear hi104_4 hl104_4; replace p104 := eq_true p104; replace q104 := eq_true q104; have ea_ := zKq (hx103_4.symm.trans hx104_4); injection ea_ with ea_ en_ ec_; subst ea_; subst ec_; clear en_; have p105 : 0 ≤ (x9_1 : Int) := of_decide_eq_true qA; have q105 : x9_1 < (l0.length : Int) := of_decide_eq_true qA; obtain ⟨ad105, A105_4, c105_4, e105, hx105_0, hx105_1, hx105_2, hx105_3, hx105_4, hl105_4, hi105_4⟩ := at_T71 HR0.out x9_1 p105 q105; obtain rfl : ad101 = ad105 := (by injection e105); replace hx105_0 := (HB.out.cell (zCq w _ hx105_0)).trans hx105_0; replace hx105_1 := (HB.out.cell (zCq w _ hx105_1)).trans hx105_1; replace hx105_2 := (HB.out.cell (zCq w _ hx105_2)).trans hx105_2; replace hx105_3 := (HB.out.cell (zCq w _ hx105_3)).trans hx105_3; replace hx105_4 := (HB.out.cell (zCq w _ hx105_4)).trans hx105_4; have HR105_4 := zA hi105_4; have HC105_4 := zA hl105_4; clear hi105_4 hl105_4; replace p105 := eq_true p105; replace q105 := eq_true q105; have ea_ := zKq (hx103_4.symm.trans hx105_4); injection ea_ with ea_ en_ ec_; subst ea_; subst ec_; clear en_))
              repeat (go_quiet (first | (go_at_call 70; (with_reducible refine (backhaulref21_Check.calls k1 ((rd_T71 l0 x9_1).f0) ((rd_T71 l0 x9_1).f1) ((rd_T71 l0 x9_1).f2) ((rd_T71 l0 x9_1).f3) _ _ ((rd_T71 l0 x9_1).f4) t102 _ ?side1 ?side2 A4.out).mono ?_); (case side1 => exact qC (Kd.C_below HR101_4.out HB.out)); (case side2 => exact HC101_4.out); rintro e w7 ⟨rfl, hb⟩; have n0_ := zA (zV qB hb); clear HB; have HB := n0_; clear n0_; (try clear hb); (try clear hb2); (try clear hk); (try clear hi); have p103 : 0 ≤ (x9_1 : Int) := of_decide_eq_true qA; have q103 : x9_1 < (l0.length : Int) := of_decide_eq_true qA; obtain ⟨ad103, A103_4, c103_4, e103, hx103_0, hx103_1, hx103_2, hx103_3, hx103_4, hl103_4, hi103_4⟩ := at_T71 HR0.out x9_1 p103 q103; obtain rfl : ad101 = ad103 := (by injection e103); replace hx103_0 := (HB.out.cell (zCq w _ hx103_0)).trans hx103_0; replace hx103_1 := (HB.out.cell (zCq w _ hx103_1)).trans hx103_1; replace hx103_2 := (HB.out.cell (zCq w _ hx103_2)).trans hx103_2; replace hx103_3 := (HB.out.cell (zCq w _ hx103_3)).trans hx103_3; replace hx103_4 := (HB.out.cell (zCq w _ hx103_4)).trans hx103_4; have HR103_4 := zA hi103_4; have HC103_4 := zA hl103_4; clear hi103_4 hl103_4; replace p103 := eq_true p103; replace q103 := eq_true q103; have p104 : 0 ≤ (x9_1 : Int) := of_decide_eq_true qA; have q104 : x9_1 < (l0.length : Int) := of_decide_eq_true qA; obtain ⟨ad104, A104_4, c104_4, e104, hx104_0, hx104_1, hx104_2, hx104_3, hx104_4, hl104_4, hi104_4⟩ := at_T71 HR0.out x9_1 p104 q104; obtain rfl : ad101 = ad104 := (by injection e104); replace hx104_0 := (HB.out.cell (zCq w _ hx104_0)).trans hx104_0; replace hx104_1 := (HB.out.cell (zCq w _ hx104_1)).trans hx104_1; replace hx104_2 := (HB.out.cell (zCq w _ hx104_2)).trans hx104_2; replace hx104_3 := (HB.out.cell (zCq w _ hx104_3)).trans hx104_3; replace hx104_4 := (HB.out.cell (zCq w _ hx104_4)).trans hx104_4; have HR104_4 := zA hi104_4; have HC104_4 := zA hl104_4; clear hi104_4 hl104_4; replace p104 := eq_true p104; replace q104 := eq_true q104; have ea_ := zKq (hx103_4.symm.trans hx104_4); injection ea_ with ea_ en_ ec_; subst ea_; subst ec_; clear en_; have p105 : 0 ≤ (x9_1 : Int) := of_decide_eq_true qA; have q105 : x9_1 < (l0.length : Int) := of_decide_eq_true qA; obtain ⟨ad105, A105_4, c105_4, e105, hx105_0, hx105_1, hx105_2, hx105_3, hx105_4, hl105_4, hi105_4⟩ := at_T71 HR0.out x9_1 p105 q105; obtain rfl : ad101 = ad105 := (by injection e105); replace hx105_0 := (HB.out.cell (zCq w _ hx105_0)).trans hx105_0; replace hx105_1 := (HB.out.cell (zCq w _ hx105_1)).trans hx105_1; replace hx105_2 := (HB.out.cell (zCq w _ hx105_2)).trans hx105_2; replace hx105_3 := (HB.out.cell (zCq w _ hx105_3)).trans hx105_3; replace hx105_4 := (HB.out.cell (zCq w _ hx105_4)).trans hx105_4; have HR105_4 := zA hi105_4; have HC105_4 := zA hl105_4; clear hi105_4 hl105_4; replace p105 := eq_true p105; replace q105 := eq_true q105; have ea_ := zKq (hx103_4.symm.trans hx105_4); injection ea_ with ea_ en_ ec_; subst ea_; subst ec_; clear en_)); try go_wp2_with (first | (go_at_call 70; (with_reducible refine (backhaulref21_Check.calls k1 ((rd_T71 l0 x9_1).f0) ((rd_T71 l0 x9_1).f1) ((rd_T71 l0 x9_1).f2) ((rd_T71 l0 x9_1).f3) _ _ ((rd_T71 l0 x9_1).f4) t102 _ ?side1 ?side2 A4.out).mono ?_); (case side1 => exact qC (Kd.C_below HR101_4.out HB.out)); (case side2 => exact HC101_4.out); rintro e w7 ⟨rfl, hb⟩; have n0_ := zA (zV qB hb); clear HB; have HB := n0_; clear n0_; (try clear hb); (try clear hb2); (try clear hk); (try clear hi); have p103 : 0 ≤ (x9_1 : Int) := of_decide_eq_true qA; have q103 : x9_1 < (l0.length : Int) := of_decide_eq_true qA; obtain ⟨ad103, A103_4, c103_4, e103, hx103_0, hx103_1, hx103_2, hx103_3, hx103_4, hl103_4, hi103_4⟩ := at_T71 HR0.out x9_1 p103 q103; obtain rfl : ad101 = ad103 := (by injection e103); replace hx103_0 := (HB.out.cell (zCq w _ hx103_0)).trans hx103_0; replace hx103_1 := (HB.out.cell (zCq w _ hx103_1)).trans hx103_1; replace hx103_2 := (HB.out.cell (zCq w _ hx103_2)).trans hx103_2; replace hx103_3 := (HB.out.cell (zCq w _ hx103_3)).trans hx103_3; replace hx103_4 := (HB.out.cell (zCq w _ hx103_4)).trans hx103_4; have HR103_4 := zA hi103_4; have HC103_4 := zA hl103_4; clear hi103_4 hl103_4; replace p103 := eq_true p103; replace q103 := eq_true q103; have p104 : 0 ≤ (x9_1 : Int) := of_decide_eq_true qA; have q104 : x9_1 < (l0.length : Int) := of_decide_eq_true qA; obtain ⟨ad104, A104_4, c104_4, e104, hx104_0, hx104_1, hx104_2, hx104_3, hx104_4, hl104_4, hi104_4⟩ := at_T71 HR0.out x9_1 p104 q104; obtain rfl : ad101 = ad104 := (by injection e104); replace hx104_0 := (HB.out.cell (zCq w _ hx104_0)).trans hx104_0; replace hx104_1 := (HB.out.cell (zCq w _ hx104_1)).trans hx104_1; replace hx104_2 := (HB.out.cell (zCq w _ hx104_2)).trans hx104_2; replace hx104_3 := (HB.out.cell (zCq w _ hx104_3)).trans hx104_3; replace hx104_4 := (HB.out.cell (zCq w _ hx104_4)).trans hx104_4; have HR104_4 := zA hi104_4; have HC104_4 := zA hl104_4; clear hi104_4 hl104_4; replace p104 := eq_true p104; replace q104 := eq_true q104; have ea_ := zKq (hx103_4.symm.trans hx104_4); injection ea_ with ea_ en_ ec_; subst ea_; subst ec_; clear en_; have p105 : 0 ≤ (x9_1 : Int) := of_decide_eq_true qA; have q105 : x9_1 < (l0.length : Int) := of_decide_eq_true qA; obtain ⟨ad105, A105_4, c105_4, e105, hx105_0, hx105_1, hx105_2, hx105_3, hx105_4, hl105_4, hi105_4⟩ := at_T71 HR0.out x9_1 p105 q105; obtain rfl : ad101 = ad105 := (by injection e105); replace hx105_0 := (HB.out.cell (zCq w _ hx105_0)).trans hx105_0; replace hx105_1 := (HB.out.cell (zCq w _ hx105_1)).trans hx105_1; replace hx105_2 := (HB.out.cell (zCq w _ hx105_2)).trans hx105_2; replace hx105_3 := (HB.out.cell (zCq w _ hx105_3)).trans hx105_3; replace hx105_4 := (HB.out.cell (zCq w _ hx105_4)).trans hx105_4; have HR105_4 := zA hi105_4; have HC105_4 := zA hl105_4; clear hi105_4 hl105_4; replace p105 := eq_true p105; replace q105 := eq_true q105; have ea_ := zKq (hx103_4.symm.trans hx105_4); injection ea_ with ea_ en_ ec_; subst ea_; subst ec_; clear en_)))
              refine bodyPost_ret (results_list (rs := [.tmp 2, .tmp 3, .tmp 4, .tmp 5]) rfl (by simp) (.tmp (.tmp (.tmp (.tmp .nil))))) rfl ?_; exact ⟨qE, qB⟩
            rw [if_neg c6] at H; have c6b0 : decide (1000000000000 < (wrap64 (x6_1 + ((rd_T71 l0 x9_1).f1)))) = false := zGq c6; clear c6; by_cases c8 : (wrap64 (x7_1 + ((rd_T71 l0 x9_1).f2))) > 1000000000000
            · rw [if_pos c8] at H
              have c8b0 : decide (1000000000000 < (wrap64 (x7_1 + ((rd_T71 l0 x9_1).f2)))) = true := zFq c8; clear c8; simp only [zNq, zOq] at H; obtain ⟨rfl, rfl, rfl, rfl⟩ := H; have p101 : 0 ≤ (x9_1 : Int) := of_decide_eq_true qA; have q101 : x9_1 < (l0.length : Int) := of_decide_eq_true qA; obtain ⟨ad101, A101_4, c101_4, e101, hx101_0, hx101_1, hx101_2, hx101_3, hx101_4, hl101_4, hi101_4⟩ := at_T71 HR0.out x9_1 p101 q101; cases e101
              replace hx101_0 := (HB.out.cell (zCq w _ hx101_0)).trans hx101_0; replace hx101_1 := (HB.out.cell (zCq w _ hx101_1)).trans hx101_1; replace hx101_2 := (HB.out.cell (zCq w _ hx101_2)).trans hx101_2; replace hx101_3 := (HB.out.cell (zCq w _ hx101_3)).trans hx101_3; replace hx101_4 := (HB.out.cell (zCq w _ hx101_4)).trans hx101_4; have HR101_4 := zA hi101_4; have HC101_4 := zA hl101_4; clear hi101_4 hl101_4; replace p101 := eq_true p101; replace q101 := eq_true q101; go_wp2_with (first | (go_at_call 70; (with_reducible refine (backhaulref21_Check.calls k1 ((rd_T71 l0 x9_1).f0) ((rd_T71 l0 x9_1).f1) ((rd_T71 l0 x9_1).f2) ((rd_T71 l0 x9_1).f3) _ _ ((rd_T71 l0 x9_1).f4) t102 _ ?side1 ?side2 A4.out).mono ?_); (case side1 => exact qC (Kd.C_below HR101_4.out HB.out)); (case side2 => exact HC101_4.out); rintro e w9 ⟨rfl, hb⟩; have n0_ := zA (zV qB hb); clear HB; have HB := n0_; clear n0_; (try clear hb); (try clear hb2); (try clear hk); (try clear hi); have p103 : 0 ≤ (x9_1 : Int) := of_decide_eq_true qA; have q103 : x9_1 < (l0.length : Int) := of_decide_eq_true qA; obtain ⟨ad103, A103_4, c103_4, e103, hx103_0, hx103_1, hx103_2, hx103_3, hx103_4, hl103_4, hi103_4⟩ := at_T71 HR0.out x9_1 p103 q103; obtain rfl : ad101 = ad103 := (by injection e103); replace hx103_0 := (HB.out.cell (zCq w _ hx103_0)).trans hx103_0; replace hx103_1 := (HB.out.cell (zCq w _ hx103_1)).trans hx103_1; replace hx103_2 := (HB.out.cell (zCq w _ hx103_2)).trans hx103_2; replace hx103_3 := (HB.out.cell (zCq w _ hx103_3)).trans hx103_3; replace hx103_4 := (HB.out.cell (zCq w _ hx103_4)).trans hx103_4; have HR103_4 := zA hi103_4; have HC103_4 := zA hl103_4; clear hi103_4 hl103_4; replace p103 := eq_true p103; replace q103 := eq_true q103; have p104 : 0 ≤ (x9_1 : Int) := of_decide_eq_true qA; have q104 : x9_1 < (l0.length : Int) := of_decide_eq_true qA; obtain ⟨ad104, A104_4, c104_4, e104, hx104_0, hx104_1, hx104_2, hx104_3, hx104_4, hl104_4, hi104_4⟩ := at_T71 HR0.out x9_1 p104 q104; obtain rfl : ad101 = ad104 := (by injection e104); replace hx104_0 := (HB.out.cell (zCq w _ hx104_0)).trans hx104_0; replace hx104_1 := (HB.out.cell (zCq w _ hx104_1)).trans hx104_1; replace hx104_2 := (HB.out.cell (zCq w _ hx104_2)).trans hx104_2; replace hx104_3 := (HB.out.cell (zCq w _ hx104_3)).trans hx104_3; replace hx104_4 := (HB.out.cell (zCq w _ hx104_4)).trans hx104_4; have HR104_4 := zA hi104_4; have HC104_4 := zA hl104_4; clear hi104_4 hl104_4; replace p104 := eq_true p104; replace q104 := eq_true q104; have ea_ := zKq (hx103_4.symm.trans hx104_4); injection ea_ with ea_ en_ ec_; subst ea_; subst ec_; clear en_; have p105 : 0 ≤ (x9_1 : Int) := of_decide_eq_true qA; have q105 : x9_1 < (l0.length : Int) := of_decide_eq_true qA; obtain ⟨ad105, A105_4, c105_4, e105, hx105_0, hx105_1, hx105_2, hx105_3, hx105_4, hl105_4, hi105_4⟩ := at_T71 HR0.out x9_1 p105 q105; obtain rfl : ad101 = ad105 := (by injection e105); replace hx105_0 := (HB.out.cell (zCq w _ hx105_0)).trans hx105_0; replace hx105_1 := (HB.out.cell (zCq w _ hx105_1)).trans hx105_1; replace hx105_2 := (HB.out.cell (zCq w _ hx105_2)).trans hx105_2; replace hx105_3 := (HB.out.cell (zCq w _ hx105_3)).trans hx105_3; replace hx105_4 := (HB.out.cell (zCq w _ hx105_4)).trans hx105_4; have HR105_4 := zA hi105_4; have HC105_4 := zA hl105_4; clear hi105_4 hl105_4; replace p105 := eq_true p105; replace q105 := eq_true q105; have ea_ := zKq (hx103_4.symm.trans hx105_4); injection ea_ with ea_ en_ ec_; subst ea_; subst ec_; clear en_))
              repeat (go_quiet (first | (go_at_call 70; (with_reducible refine (backhaulref21_Check.calls k1 ((rd_T71 l0 x9_1).f0) ((rd_T71 l0 x9_1).f1) ((rd_T71 l0 x9_1).f2) ((rd_T71 l0 x9_1).f3) _ _ ((rd_T71 l0 x9_1).f4) t102 _ ?side1 ?side2 A4.out).mono ?_); (case side1 => exact qC (Kd.C_below HR101_4.out HB.out)); (case side2 => exact HC101_4.out); rintro e w9 ⟨rfl, hb⟩; have n0_ := zA (zV qB hb); clear HB; have HB := n0_; clear n0_; (try clear hb); (try clear hb2); (try clear hk); (try clear hi); have p103 : 0 ≤ (x9_1 : Int) := of_decide_eq_true qA; have q103 : x9_1 < (l0.length : Int) := of_decide_eq_true qA; obtain ⟨ad103, A103_4, c103_4, e103, hx103_0, hx103_1, hx103_2, hx103_3, hx103_4, hl103_4, hi103_4⟩ := at_T71 HR0.out x9_1 p103 q103; obtain rfl : ad101 = ad103 := (by injection e103); replace hx103_0 := (HB.out.cell (zCq w _ hx103_0)).trans hx103_0; replace hx103_1 := (HB.out.cell (zCq w _ hx103_1)).trans hx103_1; replace hx103_2 := (HB.out.cell (zCq w _ hx103_2)).trans hx103_2; replace hx103_3 := (HB.out.cell (zCq w _ hx103_3)).trans hx103_3; replace hx103_4 := (HB.out.cell (zCq w _ hx103_4)).trans hx103_4; have HR103_4 := zA hi103_4; have HC103_4 := zA hl103_4; clear hi103_4 hl103_4; replace p103 := eq_true p103; replace q103 := eq_true q103; have p104 : 0 ≤ (x9_1 : Int) := of_decide_eq_true qA; have q104 : x9_1 < (l0.length : Int) := of_decide_eq_true qA; obtain ⟨ad104, A104_4, c104_4, e104, hx104_0, hx104_1, hx104_2, hx104_3, hx104_4, hl104_4, hi104_4⟩ := at_T71 HR0.out x9_1 p104 q104; obtain rfl : ad101 = ad104 := (by injection e104); replace hx104_0 := (HB.out.cell (zCq w _ hx104_0)).trans hx104_0; replace hx104_1 := (HB.out.cell (zCq w _ hx104_1)).trans hx104_1; replace hx104_2 := (HB.out.cell (zCq w _ hx104_2)).trans hx104_2; replace hx104_3 := (HB.out.cell (zCq w _ hx104_3)).trans hx104_3; replace hx104_4 := (HB.out.cell (zCq w _ hx104_4)).trans hx104_4; have HR104_4 := zA hi104_4; have HC104_4 := zA hl104_4; clear hi104_4 hl104_4; replace p104 := eq_true p104; replace q104 := eq_true q104; have ea_ := zKq (hx103_4.symm.trans hx104_4); injection ea_ with ea_ en_ ec_; subst ea_; subst ec_; clear en_; have p105 : 0 ≤ (x9_1 : Int) := of_decide_eq_true qA; have q105 : x9_1 < (l0.length : Int) := of_decide_eq_true qA; obtain ⟨ad105, A105_4, c105_4, e105, hx105_0, hx105_1, hx105_2, hx105_3, hx105_4, hl105_4, hi105_4⟩ := at_T71 HR0.out x9_1 p105 q105; obtain rfl : ad101 = ad105 := (by injection e105); replace hx105_0 := (HB.out.cell (zCq w _ hx105_0)).trans hx105_0; replace hx105_1 := (HB.out.cell (zCq w _ hx105_1)).trans hx105_1; replace hx105_2 := (HB.out.cell (zCq w _ hx105_2)).trans hx105_2; replace hx105_3 := (HB.out.cell (zCq w _ hx105_3)).trans hx105_3; replace hx105_4 := (HB.out.cell (zCq w _ hx105_4)).trans hx105_4; have HR105_4 := zA hi105_4; have HC105_4 := zA hl105_4; clear hi105_4 hl105_4; replace p105 := eq_true p105; replace q105 := eq_true q105; have ea_ := zKq (hx103_4.symm.trans hx105_4); injection ea_ with ea_ en_ ec_; subst ea_; subst ec_; clear en_)); try go_wp2_with (first | (go_at_call 70; (with_reducible refine (backhaulref21_Check.calls k1 ((rd_T71 l0 x9_1).f0) ((rd_T71 l0 x9_1).f1) ((rd_T71 l0 x9_1).f2) ((rd_T71 l0 x9_1).f3) _ _ ((rd_T71 l0 x9_1).f4) t102 _ ?side1 ?side2 A4.out).mono ?_); (case side1 => exact qC (Kd.C_below HR101_4.out HB.out)); (case side2 => exact HC101_4.out); rintro e w9 ⟨rfl, hb⟩; have n0_ := zA (zV qB hb); clear HB; have HB := n0_; clear n0_; (try clear hb); (try clear hb2); (try clear hk); (try clear hi); have p103 : 0 ≤ (x9_1 : Int) := of_decide_eq_true qA; have q103 : x9_1 < (l0.length : Int) := of_decide_eq_true qA; obtain ⟨ad103, A103_4, c103_4, e103, hx103_0, hx103_1, hx103_2, hx103_3, hx103_4, hl103_4, hi103_4⟩ := at_T71 HR0.out x9_1 p103 q103; obtain rfl : ad101 = ad103 := (by injection e103); replace hx103_0 := (HB.out.cell (zCq w _ hx103_0)).trans hx103_0; replace hx103_1 := (HB.out.cell (zCq w _ hx103_1)).trans hx103_1; replace hx103_2 := (HB.out.cell (zCq w _ hx103_2)).trans hx103_2; replace hx103_3 := (HB.out.cell (zCq w _ hx103_3)).trans hx103_3; replace hx103_4 := (HB.out.cell (zCq w _ hx103_4)).trans hx103_4; have HR103_4 := zA hi103_4; have HC103_4 := zA hl103_4; clear hi103_4 hl103_4; replace p103 := eq_true p103; replace q103 := eq_true q103; have p104 : 0 ≤ (x9_1 : Int) := of_decide_eq_true qA; have q104 : x9_1 < (l0.length : Int) := of_decide_eq_true qA; obtain ⟨ad104, A104_4, c104_4, e104, hx104_0, hx104_1, hx104_2, hx104_3, hx104_4, hl104_4, hi104_4⟩ := at_T71 HR0.out x9_1 p104 q104; obtain rfl : ad101 = ad104 := (by injection e104); replace hx104_0 := (HB.out.cell (zCq w _ hx104_0)).trans hx104_0; replace hx104_1 := (HB.out.cell (zCq w _ hx104_1)).trans hx104_1; replace hx104_2 := (HB.out.cell (zCq w _ hx104_2)).trans hx104_2; replace hx104_3 := (HB.out.cell (zCq w _ hx104_3)).trans hx104_3; replace hx104_4 := (HB.out.cell (zCq w _ hx104_4)).trans hx104_4; have HR104_4 := zA hi104_4; have HC104_4 := zA hl104_4; clear hi104_4 hl104_4; replace p104 := eq_true p104; replace q104 := eq_true q104; have ea_ := zKq (hx103_4.symm.trans hx104_4); injection ea_ with ea_ en_ ec_; subst ea_; subst ec_; clear en_; have p105 : 0 ≤ (x9_1 : Int) := of_decide_eq_true qA; have q105 : x9_1 < (l0.length : Int) := of_decide_eq_true qA; obtain ⟨ad105, A105_4, c105_4, e105, hx105_0, hx105_1, hx105_2, hx105_3, hx105_4, hl105_4, hi105_4⟩ := at_T71 HR0.out x9_1 p105 q105; obtain rfl : ad101 = ad105 := (by injection e105); replace hx105_0 := (HB.out.cell (zCq w _ hx105_0)).trans hx105_0; replace hx105_1 := (HB.out.cell (zCq w _ hx105_1)).trans hx105_1; replace hx105_2 := (HB.out.cell (zCq w _ hx105_2)).trans hx105_2; replace hx105_3 := (HB.out.cell (zCq w _ hx105_3)).trans hx105_3; replace hx105_4 := (HB.out.cell (zCq w _ hx105_4)).trans hx105_4; have HR105_4 := zA hi105_4; have HC105_4 := zA hl105_4; clear hi105_4 hl105_4; replace p105 := eq_true p105; replace q105 := eq_true q105; have ea_ := zKq (hx103_4.symm.trans hx105_4); injection ea_ with ea_ en_ ec_; subst ea_; subst ec_; clear en_)))
              refine bodyPost_ret (results_list (rs := [.tmp 2, .tmp 3, .tmp 4, .tmp 5]) rfl (by simp) (.tmp (.tmp (.tmp (.tmp .nil))))) rfl ?_; exact ⟨qE, qB⟩
            rw [if_neg c8] at H; have c8b0 : decide (1000000000000 < (wrap64 (x7_1 + ((rd_T71 l0 x9_1).f2)))) = false := zGq c8; clear c8; by_cases c10 : (wrap64 (x8_1 + ((rd_T71 l0 x9_1).f3))) > 1000000000000
            · rw [if_pos c10] at H
              have c10b0 : decide (1000000000000 < (wrap64 (x8_1 + ((rd_T71 l0 x9_1).f3)))) = true := zFq c10; clear c10; simp only [zNq, zOq] at H; obtain ⟨rfl, rfl, rfl, rfl⟩ := H; have p101 : 0 ≤ (x9_1 : Int) := of_decide_eq_true qA; have q101 : x9_1 < (l0.length : Int) := of_decide_eq_true qA; obtain ⟨ad101, A101_4, c101_4, e101, hx101_0, hx101_1, hx101_2, hx101_3, hx101_4, hl101_4, hi101_4⟩ := at_T71 HR0.out x9_1 p101 q101; cases e101
              replace hx101_0 := (HB.out.cell (zCq w _ hx101_0)).trans hx101_0; replace hx101_1 := (HB.out.cell (zCq w _ hx101_1)).trans hx101_1; replace hx101_2 := (HB.out.cell (zCq w _ hx101_2)).trans hx101_2; replace hx101_3 := (HB.out.cell (zCq w _ hx101_3)).trans hx101_3; replace hx101_4 := (HB.out.cell (zCq w _ hx101_4)).trans hx101_4; have HR101_4 := zA hi101_4; have HC101_4 := zA hl101_4; clear hi101_4 hl101_4; replace p101 := eq_true p101; replace q101 := eq_true q101; go_wp2_with (first | (go_at_call 70; (with_reducible refine (backhaulref21_Check.calls k1 ((rd_T71 l0 x9_1).f0) ((rd_T71 l0 x9_1).f1) ((rd_T71 l0 x9_1).f2) ((rd_T71 l0 x9_1).f3) _ _ ((rd_T71 l0 x9_1).f4) t102 _ ?side1 ?side2 A4.out).mono ?_); (case side1 => exact qC (Kd.C_below HR101_4.out HB.out)); (case side2 => exact HC101_4.out); rintro e w11 ⟨rfl, hb⟩; have n0_ := zA (zV qB hb); clear HB; have HB := n0_; clear n0_; (try clear hb); (try clear hb2); (try clear hk); (try clear hi); have p103 : 0 ≤ (x9_1 : Int) := of_decide_eq_true qA; have q103 : x9_1 < (l0.length : Int) := of_decide_eq_true qA; obtain ⟨ad103, A103_4, c103_4, e103, hx103_0, hx103_1, hx103_2, hx103_3, hx103_4, hl103_4, hi103_4⟩ := at_T71 HR0.out x9_1 p103 q103; obtain rfl : ad101 = ad103 := (by injection e103); replace hx103_0 := (HB.out.cell (zCq w _ hx103_0)).trans hx103_0; replace hx103_1 := (HB.out.cell (zCq w _ hx103_1)).trans hx103_1; replace hx103_2 := (HB.out.cell (zCq w _ hx103_2)).trans hx103_2; replace hx103_3 := (HB.out.cell (zCq w _ hx103_3)).trans hx103_3; replace hx103_4 := (HB.out.cell (zCq w _ hx103_4)).trans hx103_4; have HR103_4 := zA hi103_4; have HC103_4 := zA hl103_4; clear hi103_4 hl103_4; replace p103 := eq_true p103; replace q103 := eq_true q103; have p104 : 0 ≤ (x9_1 : Int) := of_decide_eq_true qA; have q104 : x9_1 < (l0.length : Int) := of_decide_eq_true qA; obtain ⟨ad104, A104_4, c104_4, e104, hx104_0, hx104_1, hx104_2, hx104_3, hx104_4, hl104_4, hi104_4⟩ := at_T71 HR0.out x9_1 p104 q104; obtain rfl : ad101 = ad104 := (by injection e104); replace hx104_0 := (HB.out.cell (zCq w _ hx104_0)).trans hx104_0; replace hx104_1 := (HB.out.cell (zCq w _ hx104_1)).trans hx104_1; replace hx104_2 := (HB.out.cell (zCq w _ hx104_2)).trans hx104_2; replace hx104_3 := (HB.out.cell (zCq w _ hx104_3)).trans hx104_3; replace hx104_4 := (HB.out.cell (zCq w _ hx104_4)).trans hx104_4; have HR104_4 := zA hi104_4; have HC104_4 := zA hl104_4; clear hi104_4 hl104_4; replace p104 := eq_true p104; replace q104 := eq_true q104; have ea_ := zKq (hx103_4.symm.trans hx104_4); injection ea_ with ea_ en_ ec_; subst ea_; subst ec_; clear en_; have p105 : 0 ≤ (x9_1 : Int) := of_decide_eq_true qA; have q105 : x9_1 < (l0.length : Int) := of_decide_eq_true qA; obtain ⟨ad105, A105_4, c105_4, e105, hx105_0, hx105_1, hx105_2, hx105_3, hx105_4, hl105_4, hi105_4⟩ := at_T71 HR0.out x9_1 p105 q105; obtain rfl : ad101 = ad105 := (by injection e105); replace hx105_0 := (HB.out.cell (zCq w _ hx105_0)).trans hx105_0; replace hx105_1 := (HB.out.cell (zCq w _ hx105_1)).trans hx105_1; replace hx105_2 := (HB.out.cell (zCq w _ hx105_2)).trans hx105_2; replace hx105_3 := (HB.out.cell (zCq w _ hx105_3)).trans hx105_3; replace hx105_4 := (HB.out.cell (zCq w _ hx105_4)).trans hx105_4; have HR105_4 := zA hi105_4; have HC105_4 := zA hl105_4; clear hi105_4 hl105_4; replace p105 := eq_true p105; replace q105 := eq_true q105; have ea_ := zKq (hx103_4.symm.trans hx105_4); injection ea_ with ea_ en_ ec_; subst ea_; subst ec_; clear en_))
              repeat (go_quiet (first | (go_at_call 70; (with_reducible refine (backhaulref21_Check.calls k1 ((rd_T71 l0 x9_1).f0) ((rd_T71 l0 x9_1).f1) ((rd_T71 l0 x9_1).f2) ((rd_T71 l0 x9_1).f3) _ _ ((rd_T71 l0 x9_1).f4) t102 _ ?side1 ?side2 A4.out).mono ?_); (case side1 => exact qC (Kd.C_below HR101_4.out HB.out)); (case side2 => exact HC101_4.out); rintro e w11 ⟨rfl, hb⟩; have n0_ := zA (zV qB hb); clear HB; have HB := n0_; clear n0_; (try clear hb); (try clear hb2); (try clear hk); (try clear hi); have p103 : 0 ≤ (x9_1 : Int) := of_decide_eq_true qA; have q103 : x9_1 < (l0.length : Int) := of_decide_eq_true qA; obtain ⟨ad103, A103_4, c103_4, e103, hx103_0, hx103_1, hx103_2, hx103_3, hx103_4, hl103_4, hi103_4⟩ := at_T71 HR0.out x9_1 p103 q103; obtain rfl : ad101 = ad103 := (by injection e103); replace hx103_0 := (HB.out.cell (zCq w _ hx103_0)).trans hx103_0; replace hx103_1 := (HB.out.cell (zCq w _ hx103_1)).trans hx103_1; replace hx103_2 := (HB.out.cell (zCq w _ hx103_2)).trans hx103_2; replace hx103_3 := (HB.out.cell (zCq w _ hx103_3)).trans hx103_3; replace hx103_4 := (HB.out.cell (zCq w _ hx103_4)).trans hx103_4; have HR103_4 := zA hi103_4; have HC103_4 := zA hl103_4; clear hi103_4 hl103_4; replace p103 := eq_true p103; replace q103 := eq_true q103; have p104 : 0 ≤ (x9_1 : Int) := of_decide_eq_true qA; have q104 : x9_1 < (l0.length : Int) := of_decide_eq_true qA; obtain ⟨ad104, A104_4, c104_4, e104, hx104_0, hx104_1, hx104_2, hx104_3, hx104_4, hl104_4, hi104_4⟩ := at_T71 HR0.out x9_1 p104 q104; obtain rfl : ad101 = ad104 := (by injection e104); replace hx104_0 := (HB.out.cell (zCq w _ hx104_0)).trans hx104_0; replace hx104_1 := (HB.out.cell (zCq w _ hx104_1)).trans hx104_1; replace hx104_2 := (HB.out.cell (zCq w _ hx104_2)).trans hx104_2; replace hx104_3 := (HB.out.cell (zCq w _ hx104_3)).trans hx104_3; replace hx104_4 := (HB.out.cell (zCq w _ hx104_4)).trans hx104_4; have HR104_4 := zA hi104_4; have HC104_4 := zA hl104_4; clear hi104_4 hl104_4; replace p104 := eq_true p104; replace q104 := eq_true q104; have ea_ := zKq (hx103_4.symm.trans hx104_4); injection ea_ with ea_ en_ ec_; subst ea_; subst ec_; clear en_; have p105 : 0 ≤ (x9_1 : Int) := of_decide_eq_true qA; have q105 : x9_1 < (l0.length : Int) := of_decide_eq_true qA; obtain ⟨ad105, A105_4, c105_4, e105, hx105_0, hx105_1, hx105_2, hx105_3, hx105_4, hl105_4, hi105_4⟩ := at_T71 HR0.out x9_1 p105 q105; obtain rfl : ad101 = ad105 := (by injection e105); replace hx105_0 := (HB.out.cell (zCq w _ hx105_0)).trans hx105_0; replace hx105_1 := (HB.out.cell (zCq w _ hx105_1)).trans hx105_1; replace hx105_2 := (HB.out.cell (zCq w _ hx105_2)).trans hx105_2; replace hx105_3 := (HB.out.cell (zCq w _ hx105_3)).trans hx105_3; replace hx105_4 := (HB.out.cell (zCq w _ hx105_4)).trans hx105_4; have HR105_4 := zA hi105_4; have HC105_4 := zA hl105_4; clear hi105_4 hl105_4; replace p105 := eq_true p105; replace q105 := eq_true q105; have ea_ := zKq (hx103_4.symm.trans hx105_4); injection ea_ with ea_ en_ ec_; subst ea_; subst ec_; clear en_)); try go_wp2_with (first | (go_at_call 70; (with_reducible refine (backhaulref21_Check.calls k1 ((rd_T71 l0 x9_1).f0) ((rd_T71 l0 x9_1).f1) ((rd_T71 l0 x9_1).f2) ((rd_T71 l0 x9_1).f3) _ _ ((rd_T71 l0 x9_1).f4) t102 _ ?side1 ?side2 A4.out).mono ?_); (case side1 => exact qC (Kd.C_below HR101_4.out HB.out)); (case side2 => exact HC101_4.out); rintro e w11 ⟨rfl, hb⟩; have n0_ := zA (zV qB hb); clear HB; have HB := n0_; clear n0_; (try clear hb); (try clear hb2); (try clear hk); (try clear hi); have p103 : 0 ≤ (x9_1 : Int) := of_decide_eq_true qA; have q103 : x9_1 < (l0.length : Int) := of_decide_eq_true qA; obtain ⟨ad103, A103_4, c103_4, e103, hx103_0, hx103_1, hx103_2, hx103_3, hx103_4, hl103_4, hi103_4⟩ := at_T71 HR0.out x9_1 p103 q103; obtain rfl : ad101 = ad103 := (by injection e103); replace hx103_0 := (HB.out.cell (zCq w _ hx103_0)).trans hx103_0; replace hx103_1 := (HB.out.cell (zCq w _ hx103_1)).trans hx103_1; replace hx103_2 := (HB.out.cell (zCq w _ hx103_2)).trans hx103_2; replace hx103_3 := (HB.out.cell (zCq w _ hx103_3)).trans hx103_3; replace hx103_4 := (HB.out.cell (zCq w _ hx103_4)).trans hx103_4; have HR103_4 := zA hi103_4; have HC103_4 := zA hl103_4; clear hi103_4 hl103_4; replace p103 := eq_true p103; replace q103 := eq_true q103; have p104 : 0 ≤ (x9_1 : Int) := of_decide_eq_true qA; have q104 : x9_1 < (l0.length : Int) := of_decide_eq_true qA; obtain ⟨ad104, A104_4, c104_4, e104, hx104_0, hx104_1, hx104_2, hx104_3, hx104_4, hl104_4, hi104_4⟩ := at_T71 HR0.out x9_1 p104 q104; obtain rfl : ad101 = ad104 := (by injection e104); replace hx104_0 := (HB.out.cell (zCq w _ hx104_0)).trans hx104_0; replace hx104_1 := (HB.out.cell (zCq w _ hx104_1)).trans hx104_1; replace hx104_2 := (HB.out.cell (zCq w _ hx104_2)).trans hx104_2; replace hx104_3 := (HB.out.cell (zCq w _ hx104_3)).trans hx104_3; replace hx104_4 := (HB.out.cell (zCq w _ hx104_4)).trans hx104_4; have HR104_4 := zA hi104_4; have HC104_4 := zA hl104_4; clear hi104_4 hl104_4; replace p104 := eq_true p104; replace q104 := eq_true q104; have ea_ := zKq (hx103_4.symm.trans hx104_4); injection ea_ with ea_ en_ ec_; subst ea_; subst ec_; clear en_; have p105 : 0 ≤ (x9_1 : Int) := of_decide_eq_true qA; have q105 : x9_1 < (l0.length : Int) := of_decide_eq_true qA; obtain ⟨ad105, A105_4, c105_4, e105, hx105_0, hx105_1, hx105_2, hx105_3, hx105_4, hl105_4, hi105_4⟩ := at_T71 HR0.out x9_1 p105 q105; obtain rfl : ad101 = ad105 := (by injection e105); replace hx105_0 := (HB.out.cell (zCq w _ hx105_0)).trans hx105_0; replace hx105_1 := (HB.out.cell (zCq w _ hx105_1)).trans hx105_1; replace hx105_2 := (HB.out.cell (zCq w _ hx105_2)).trans hx105_2; replace hx105_3 := (HB.out.cell (zCq w _ hx105_3)).trans hx105_3; replace hx105_4 := (HB.out.cell (zCq w _ hx105_4)).trans hx105_4; have HR105_4 := zA hi105_4; have HC105_4 := zA hl105_4; clear hi105_4 hl105_4; replace p105 := eq_true p105; replace q105 := eq_true q105; have ea_ := zKq (hx103_4.symm.trans hx105_4); injection ea_ with ea_ en_ ec_; subst ea_; subst ec_; clear en_)))
              refine bodyPost_ret (results_list (rs := [.tmp 2, .tmp 3, .tmp 4, .tmp 5]) rfl (by simp) (.tmp (.tmp (.tmp (.tmp .nil))))) rfl ?_; exact ⟨qE, qB⟩
            rw [if_neg c10] at H; have c10b0 : decide (1000000000000 < (wrap64 (x8_1 + ((rd_T71 l0 x9_1).f3)))) = false := zGq c10; clear c10; have H' := zA H; clear H; have p101 : 0 ≤ (x9_1 : Int) := of_decide_eq_true qA; have q101 : x9_1 < (l0.length : Int) := of_decide_eq_true qA; obtain ⟨ad101, A101_4, c101_4, e101, hx101_0, hx101_1, hx101_2, hx101_3, hx101_4, hl101_4, hi101_4⟩ := at_T71 HR0.out x9_1 p101 q101; cases e101
            replace hx101_0 := (HB.out.cell (zCq w _ hx101_0)).trans hx101_0; replace hx101_1 := (HB.out.cell (zCq w _ hx101_1)).trans hx101_1; replace hx101_2 := (HB.out.cell (zCq w _ hx101_2)).trans hx101_2; replace hx101_3 := (HB.out.cell (zCq w _ hx101_3)).trans hx101_3; replace hx101_4 := (HB.out.cell (zCq w _ hx101_4)).trans hx101_4; have HR101_4 := zA hi101_4; have HC101_4 := zA hl101_4; clear hi101_4 hl101_4; replace p101 := eq_true p101; replace q101 := eq_true q101; go_wp2_with (first | (go_at_call 70; (with_reducible refine (backhaulref21_Check.calls k1 ((rd_T71 l0 x9_1).f0) ((rd_T71 l0 x9_1).f1) ((rd_T71 l0 x9_1).f2) ((rd_T71 l0 x9_1).f3) _ _ ((rd_T71 l0 x9_1).f4) t102 _ ?side1 ?side2 A4.out).mono ?_); (case side1 => exact qC (Kd.C_below HR101_4.out HB.out)); (case side2 => exact HC101_4.out); rintro e w12 ⟨rfl, hb⟩; have n0_ := zA (zV qB hb); clear HB; have HB := n0_; clear n0_; (try clear hb); (try clear hb2); (try clear hk); (try clear hi); have p103 : 0 ≤ (x9_1 : Int) := of_decide_eq_true qA; have q103 : x9_1 < (l0.length : Int) := of_decide_eq_true qA; obtain ⟨ad103, A103_4, c103_4, e103, hx103_0, hx103_1, hx103_2, hx103_3, hx103_4, hl103_4, hi103_4⟩ := at_T71 HR0.out x9_1 p103 q103; obtain rfl : ad101 = ad103 := (by injection e103); replace hx103_0 := (HB.out.cell (zCq w _ hx103_0)).trans hx103_0; replace hx103_1 := (HB.out.cell (zCq w _ hx103_1)).trans hx103_1; replace hx103_2 := (HB.out.cell (zCq w _ hx103_2)).trans hx103_2; replace hx103_3 := (HB.out.cell (zCq w _ hx103_3)).trans hx103_3; replace hx103_4 := (HB.out.cell (zCq w _ hx103_4)).trans hx103_4; have HR103_4 := zA hi103_4; have HC103_4 := zA hl103_4; clear hi103_4 hl103_4; replace p103 := eq_true p103; replace q103 := eq_true q103; have p104 : 0 ≤ (x9_1 : Int) := of_decide_eq_true qA; have q104 : x9_1 < (l0.length : Int) := of_decide_eq_true qA; obtain ⟨ad104, A104_4, c104_4, e104, hx104_0, hx104_1, hx104_2, hx104_3, hx104_4, hl104_4, hi104_4⟩ := at_T71 HR0.out x9_1 p104 q104; obtain rfl : ad101 = ad104 := (by injection e104); replace hx104_0 := (HB.out.cell (zCq w _ hx104_0)).trans hx104_0; replace hx104_1 := (HB.out.cell (zCq w _ hx104_1)).trans hx104_1; replace hx104_2 := (HB.out.cell (zCq w _ hx104_2)).trans hx104_2; replace hx104_3 := (HB.out.cell (zCq w _ hx104_3)).trans hx104_3; replace hx104_4 := (HB.out.cell (zCq w _ hx104_4)).trans hx104_4; have HR104_4 := zA hi104_4; have HC104_4 := zA hl104_4; clear hi104_4 hl104_4; replace p104 := eq_true p104; replace q104 := eq_true q104; have ea_ := zKq (hx103_4.symm.trans hx104_4); injection ea_ with ea_ en_ ec_; subst ea_; subst ec_; clear en_; have p105 : 0 ≤ (x9_1 : Int) := of_decide_eq_true qA; have q105 : x9_1 < (l0.length : Int) := of_decide_eq_true qA; obtain ⟨ad105, A105_4, c105_4, e105, hx105_0, hx105_1, hx105_2, hx105_3, hx105_4, hl105_4, hi105_4⟩ := at_T71 HR0.out x9_1 p105 q105; obtain rfl : ad101 = ad105 := (by injection e105); replace hx105_0 := (HB.out.cell (zCq w _ hx105_0)).trans hx105_0; replace hx105_1 := (HB.out.cell (zCq w _ hx105_1)).trans hx105_1; replace hx105_2 := (HB.out.cell (zCq w _ hx105_2)).trans hx105_2; replace hx105_3 := (HB.out.cell (zCq w _ hx105_3)).trans hx105_3; replace hx105_4 := (HB.out.cell (zCq w _ hx105_4)).trans hx105_4; have HR105_4 := zA hi105_4; have HC105_4 := zA hl105_4; clear hi105_4 hl105_4; replace p105 := eq_true p105; replace q105 := eq_true q105; have ea_ := zKq (hx103_4.symm.trans hx105_4); injection ea_ with ea_ en_ ec_; subst ea_; subst ec_; clear en_))
            repeat (go_quiet (first | (go_at_call 70; (with_reducible refine (backhaulref21_Check.calls k1 ((rd_T71 l0 x9_1).f0) ((rd_T71 l0 x9_1).f1) ((rd_T71 l0 x9_1).f2) ((rd_T71 l0 x9_1).f3) _ _ ((rd_T71 l0 x9_1).f4) t102 _ ?side1 ?side2 A4.out).mono ?_); (case side1 => exact qC (Kd.C_below HR101_4.out HB.out)); (case side2 => exact HC101_4.out); rintro e w12 ⟨rfl, hb⟩; have n0_ := zA (zV qB hb); clear HB; have HB := n0_; clear n0_; (try clear hb); (try clear hb2); (try clear hk); (try clear hi); have p103 : 0 ≤ (x9_1 : Int) := of_decide_eq_true qA; have q103 : x9_1 < (l0.length : Int) := of_decide_eq_true qA; obtain ⟨ad103, A103_4, c103_4, e103, hx103_0, hx103_1, hx103_2, hx103_3, hx103_4, hl103_4, hi103_4⟩ := at_T71 HR0.out x9_1 p103 q103; obtain rfl : ad101 = ad103 := (by injection e103); replace hx103_0 := (HB.out.cell (zCq w _ hx103_0)).trans hx103_0; replace hx103_1 := (HB.out.cell (zCq w _ hx103_1)).trans hx103_1; replace hx103_2 := (HB.out.cell (zCq w _ hx103_2)).trans hx103_2; replace hx103_3 := (HB.out.cell (zCq w _ hx103_3)).trans hx103_3; replace hx103_4 := (HB.out.cell (zCq w _ hx103_4)).trans hx103_4; have HR103_4 := zA hi103_4; have HC103_4 := zA hl103_4; clear hi103_4 hl103_4; replace p103 := eq_true p103; replace q103 := eq_true q103; have p104 : 0 ≤ (x9_1 : Int) := of_decide_eq_true qA; have q104 : x9_1 < (l0.length : Int) := of_decide_eq_true qA; obtain ⟨ad104, A104_4, c104_4, e104, hx104_0, hx104_1, hx104_2, hx104_3, hx104_4, hl104_4, hi104_4⟩ := at_T71 HR0.out x9_1 p104 q104; obtain rfl : ad101 = ad104 := (by injection e104); replace hx104_0 := (HB.out.cell (zCq w _ hx104_0)).trans hx104_0; replace hx104_1 := (HB.out.cell (zCq w _ hx104_1)).trans hx104_1; replace hx104_2 := (HB.out.cell (zCq w _ hx104_2)).trans hx104_2; replace hx104_3 := (HB.out.cell (zCq w _ hx104_3)).trans hx104_3; replace hx104_4 := (HB.out.cell (zCq w _ hx104_4)).trans hx104_4; have HR104_4 := zA hi104_4; have HC104_4 := zA hl104_4; clear hi104_4 hl104_4; replace p104 := eq_true p104; replace q104 := eq_true q104; have ea_ := zKq (hx103_4.symm.trans hx104_4); injection ea_ with ea_ en_ ec_; subst ea_; subst ec_; clear en_; have p105 : 0 ≤ (x9_1 : Int) := of_decide_eq_true qA; have q105 : x9_1 < (l0.length : Int) := of_decide_eq_true qA; obtain ⟨ad105, A105_4, c105_4, e105, hx105_0, hx105_1, hx105_2, hx105_3, hx105_4, hl105_4, hi105_4⟩ := at_T71 HR0.out x9_1 p105 q105; obtain rfl : ad101 = ad105 := (by injection e105); replace hx105_0 := (HB.out.cell (zCq w _ hx105_0)).trans hx105_0; replace hx105_1 := (HB.out.cell (zCq w _ hx105_1)).trans hx105_1; replace hx105_2 := (HB.out.cell (zCq w _ hx105_2)).trans hx105_2; replace hx105_3 := (HB.out.cell (zCq w _ hx105_3)).trans hx105_3; replace hx105_4 := (HB.out.cell (zCq w _ hx105_4)).trans hx105_4; have HR105_4 := zA hi105_4; have HC105_4 := zA hl105_4; clear hi105_4 hl105_4; replace p105 := eq_true p105; replace q105 := eq_true q105; have ea_ := zKq (hx103_4.symm.trans hx105_4); injection ea_ with ea_ en_ ec_; subst ea_; subst ec_; clear en_)); try go_wp2_with (first | (go_at_call 70; (with_reducible refine (backhaulref21_Check.calls k1 ((rd_T71 l0 x9_1).f0) ((rd_T71 l0 x9_1).f1) ((rd_T71 l0 x9_1).f2) ((rd_T71 l0 x9_1).f3) _ _ ((rd_T71 l0 x9_1).f4) t102 _ ?side1 ?side2 A4.out).mono ?_); (case side1 => exact qC (Kd.C_below HR101_4.out HB.out)); (case side2 => exact HC101_4.out); rintro e w12 ⟨rfl, hb⟩; have n0_ := zA (zV qB hb); clear HB; have HB := n0_; clear n0_; (try clear hb); (try clear hb2); (try clear hk); (try clear hi); have p103 : 0 ≤ (x9_1 : Int) := of_decide_eq_true qA; have q103 : x9_1 < (l0.length : Int) := of_decide_eq_true qA; obtain ⟨ad103, A103_4, c103_4, e103, hx103_0, hx103_1, hx103_2, hx103_3, hx103_4, hl103_4, hi103_4⟩ := at_T71 HR0.out x9_1 p103 q103; obtain rfl : ad101 = ad103 := (by injection e103); replace hx103_0 := (HB.out.cell (zCq w _ hx103_0)).trans hx103_0; replace hx103_1 := (HB.out.cell (zCq w _ hx103_1)).trans hx103_1; replace hx103_2 := (HB.out.cell (zCq w _ hx103_2)).trans hx103_2; replace hx103_3 := (HB.out.cell (zCq w _ hx103_3)).trans hx103_3; replace hx103_4 := (HB.out.cell (zCq w _ hx103_4)).trans hx103_4; have HR103_4 := zA hi103_4; have HC103_4 := zA hl103_4; clear hi103_4 hl103_4; replace p103 := eq_true p103; replace q103 := eq_true q103; have p104 : 0 ≤ (x9_1 : Int) := of_decide_eq_true qA; have q104 : x9_1 < (l0.length : Int) := of_decide_eq_true qA; obtain ⟨ad104, A104_4, c104_4, e104, hx104_0, hx104_1, hx104_2, hx104_3, hx104_4, hl104_4, hi104_4⟩ := at_T71 HR0.out x9_1 p104 q104; obtain rfl : ad101 = ad104 := (by injection e104); replace hx104_0 := (HB.out.cell (zCq w _ hx104_0)).trans hx104_0; replace hx104_1 := (HB.out.cell (zCq w _ hx104_1)).trans hx104_1; replace hx104_2 := (HB.out.cell (zCq w _ hx104_2)).trans hx104_2; replace hx104_3 := (HB.out.cell (zCq w _ hx104_3)).trans hx104_3; replace hx104_4 := (HB.out.cell (zCq w _ hx104_4)).trans hx104_4; have HR104_4 := zA hi104_4; have HC104_4 := zA hl104_4; clear hi104_4 hl104_4; replace p104 := eq_true p104; replace q104 := eq_true q104; have ea_ := zKq (hx103_4.symm.trans hx104_4); injection ea_ with ea_ en_ ec_; subst ea_; subst ec_; clear en_; have p105 : 0 ≤ (x9_1 : Int) := of_decide_eq_true qA; have q105 : x9_1 < (l0.length : Int) := of_decide_eq_true qA; obtain ⟨ad105, A105_4, c105_4, e105, hx105_0, hx105_1, hx105_2, hx105_3, hx105_4, hl105_4, hi105_4⟩ := at_T71 HR0.out x9_1 p105 q105; obtain rfl : ad101 = ad105 := (by injection e105); replace hx105_0 := (HB.out.cell (zCq w _ hx105_0)).trans hx105_0; replace hx105_1 := (HB.out.cell (zCq w _ hx105_1)).trans hx105_1; replace hx105_2 := (HB.out.cell (zCq w _ hx105_2)).trans hx105_2; replace hx105_3 := (HB.out.cell (zCq w _ hx105_3)).trans hx105_3; replace hx105_4 := (HB.out.cell (zCq w _ hx105_4)).trans hx105_4; have HR105_4 := zA hi105_4; have HC105_4 := zA hl105_4; clear hi105_4 hl105_4; replace p105 := eq_true p105; replace q105 := eq_true q105; have ea_ := zKq (hx103_4.symm.trans hx105_4); injection ea_ with ea_ en_ ec_; subst ea_; subst ec_; clear en_)))
            go_roundg k1
            case measure => have := HK1.out; omega
            case rel => exact ⟨(wrap64 (x6_1 + ((rd_T71 l0 x9_1).f1))), (wrap64 (x7_1 + ((rd_T71 l0 x9_1).f2))), (wrap64 (x8_1 + ((rd_T71 l0 x9_1).f3))), (wrap64 (x9_1 + 1)), (by first | rfl | (simp; done) | (simp [*]; done)), (by first | rfl | (simp; done) | (simp [*]; done)), (by first | rfl | (simp; done) | (simp [*]; done)), (by first | rfl | (simp; done) | (simp [*]; done)), H', ⟨by have := HK1.out; omega⟩, ⟨qB⟩⟩
          rw [if_neg c5] at H; have c5b0 : (t102 == 0) = false := beq_eq_false_iff_ne.mpr c5; have c5b1 : (t102 != 0) = true := bne_iff_ne.mpr c5; simp only [zNq, zOq] at H; obtain ⟨rfl, rfl, rfl, rfl⟩ := H; have p101 : 0 ≤ (x9_1 : Int) := of_decide_eq_true qA; have q101 : x9_1 < (l0.length : Int) := of_decide_eq_true qA; obtain ⟨ad101, A101_4, c101_4, e101, hx101_0, hx101_1, hx101_2, hx101_3, hx101_4, hl101_4, hi101_4⟩ := at_T71 HR0.out x9_1 p101 q101; cases e101
          replace hx101_0 := (HB.out.cell (zCq w _ hx101_0)).trans hx101_0; replace hx101_1 := (HB.out.cell (zCq w _ hx101_1)).trans hx101_1; replace hx101_2 := (HB.out.cell (zCq w _ hx101_2)).trans hx101_2; replace hx101_3 := (HB.out.cell (zCq w _ hx101_3)).trans hx101_3; replace hx101_4 := (HB.out.cell (zCq w _ hx101_4)).trans hx101_4; have HR101_4 := zA hi101_4; have HC101_4 := zA hl101_4; clear hi101_4 hl101_4; replace p101 := eq_true p101; replace q101 := eq_true q101; go_wp2_with (first | (go_at_call 70; (with_reducible refine (backhaulref21_Check.calls k1 ((rd_T71 l0 x9_1).f0) ((rd_T71 l0 x9_1).f1) ((rd_T71 l0 x9_1).f2) ((rd_T71 l0 x9_1).f3) _ _ ((rd_T71 l0 x9_1).f4) t102 _ ?side1 ?side2 A4.out).mono ?_); (case side1 => exact qC (Kd.C_below HR101_4.out HB.out)); (case side2 => exact HC101_4.out); rintro e w13 ⟨rfl, hb⟩; have n0_ := zA (zV qB hb); clear HB; have HB := n0_; clear n0_; (try clear hb); (try clear hb2); (try clear hk); (try clear hi))); repeat (go_quiet (first | (go_at_call 70; (with_reducible refine (backhaulref21_Check.calls k1 ((rd_T71 l0 x9_1).f0) ((rd_T71 l0 x9_1).f1) ((rd_T71 l0 x9_1).f2) ((rd_T71 l0 x9_1).f3) _ _ ((rd_T71 l0 x9_1).f4) t102 _ ?side1 ?side2 A4.out).mono ?_); (case side1 => exact qC (Kd.C_below HR101_4.out HB.out)); (case side2 => exact HC101_4.out); rintro e w13 ⟨rfl, hb⟩; have n0_ := zA (zV qB hb); clear HB; have HB := n0_; clear n0_; (try clear hb); (try clear hb2); (try clear hk); (try clear hi))); try go_wp2_with (first | (go_at_call 70; (with_reducible refine (backhaulref21_Check.calls k1 ((rd_T71 l0 x9_1).f0) ((rd_T71 l0 x9_1).f1) ((rd_T71 l0 x9_1).f2) ((rd_T71 l0 x9_1).f3) _ _ ((rd_T71 l0 x9_1).f4) t102 _ ?side1 ?side2 A4.out).mono ?_); (case side1 => exact qC (Kd.C_below HR101_4.out HB.out)); (case side2 => exact HC101_4.out); rintro e w13 ⟨rfl, hb⟩; have n0_ := zA (zV qB hb); clear HB; have HB := n0_; clear n0_; (try clear hb); (try clear hb2); (try clear hk); (try clear hi))))
          refine bodyPost_ret (results_list (rs := [.tmp 2, .tmp 3, .tmp 4, .tmp 5]) rfl (by simp) (.tmp (.tmp (.tmp (.tmp .nil))))) rfl ?_; exact ⟨qE, qB⟩
        rw [if_neg c3] at H; exact absurd H (by simp)
      rw [if_neg c2] at H; have c2b0 : decide (x9_1 < (l0.length : Int)) = false := zGq c2; clear c2; simp only [zNq, zOq] at H; obtain ⟨rfl, rfl, rfl, rfl⟩ := H; go_wp2; repeat (go_quiet (fail); try go_wp2)
      refine bodyPost_ret (results_list (rs := [.tmp 2, .tmp 3, .tmp 4, .tmp 5]) rfl (by simp) (.tmp (.tmp (.tmp (.tmp .nil))))) rfl ?_; exact ⟨qE, qB⟩
def backhaullaw21_LineTells.l0 : Nat → List (S71) → Int → Int → Option (Bool)
  | 0, _, _, _ => none
  | k + 1, x0, x1, x5 => if x5 < (x0.length : Int) then (if 0 ≤ x5 then ((line_Unit.f k ((rd_T71 x0 x5).f0) ((rd_T71 x0 x5).f1) ((rd_T71 x0 x5).f2) ((rd_T71 x0 x5).f3) ((rd_T71 x0 x5).f4) x1).bind fun bt113 => ((backhaulref21_Unit.f k ((rd_T71 x0 x5).f0) ((rd_T71 x0 x5).f1) ((rd_T71 x0 x5).f2) ((rd_T71 x0 x5).f3) ((rd_T71 x0 x5).f4) x1).bind fun bt117 => ((line_Paid.f k ((rd_T71 x0 x5).f0) ((rd_T71 x0 x5).f1) ((rd_T71 x0 x5).f2) ((rd_T71 x0 x5).f3) ((rd_T71 x0 x5).f4)).bind fun bt121 => ((backhaulref21_Paid.f k ((rd_T71 x0 x5).f0) ((rd_T71 x0 x5).f1) ((rd_T71 x0 x5).f2) ((rd_T71 x0 x5).f3) ((rd_T71 x0 x5).f4)).bind fun bt124 => ((line_Check.f k ((rd_T71 x0 x5).f0) ((rd_T71 x0 x5).f1) ((rd_T71 x0 x5).f2) ((rd_T71 x0 x5).f3) ((rd_T71 x0 x5).f4)).bind fun t127 => ((backhaulref21_Check.f k ((rd_T71 x0 x5).f0) ((rd_T71 x0 x5).f1) ((rd_T71 x0 x5).f2) ((rd_T71 x0 x5).f3) ((rd_T71 x0 x5).f4)).bind fun t129 => (if t127 = t129 then (if bt113.1 = bt117.1 then (if bt113.2.1 = bt117.2.1 then (if bt113.2.2 = bt117.2.2 then (if bt121.1 = bt124.1 then (if bt121.2 = bt124.2 then (backhaullaw21_LineTells.l0 k x0 x1 (wrap64 (x5 + 1))) else (some false)) else (some false)) else (some false)) else (some false)) else (some false)) else (some false)))))))) else (none)) else ((line_Sum.f k x0).bind fun bt103 => ((backhaulref21_Sum.f k x0).bind fun bt107 => (if bt103.1 = bt107.1 then (if bt103.2.1 = bt107.2.1 then (if bt103.2.2.1 = bt107.2.2.1 then (if bt103.2.2.2 = bt107.2.2.2 then ((backhaullaw21_awake.f).bind fun t111 => (if t111 = true then (some true) else (some false))) else (some false)) else (some false)) else (some false)) else (some false))))
def backhaullaw21_LineTells.f (k : Nat) (l0 : List (S71)) (a1 : Int) : Option (Bool) := (backhaullaw21_Few.f k l0).bind fun t101 => (if t101 = true then (backhaullaw21_LineTells.l0 k l0 a1 0) else ((backhaullaw21_awake.f).bind fun t102 => (if t102 = true then (some true) else (some false))))
theorem backhaullaw21_LineTells.mono_l : ∀ k, (∀ y0 y1 y2, LeO (backhaullaw21_LineTells.l0 k y0 y1 y2) (backhaullaw21_LineTells.l0 (k + 1) y0 y1 y2))
  | 0 => fun _ _ _ r h => by simp [backhaullaw21_LineTells.l0] at h
  | k + 1 => by
    have ih0 := backhaullaw21_LineTells.mono_l k
    intro y0 y1 y2
    unfold backhaullaw21_LineTells.l0
    repeat' first
    | (with_reducible exact ih0 _ _ _)
    | (with_reducible exact backhaullaw21_Few.mono _ _)
    | (with_reducible exact backhaulref21_Check.mono _ _ _ _ _ _)
    | (with_reducible exact backhaulref21_Paid.mono _ _ _ _ _ _)
    | (with_reducible exact backhaulref21_Sum.mono _ _)
    | (with_reducible exact backhaulref21_Unit.mono _ _ _ _ _ _ _)
    | (with_reducible exact line_Check.mono _ _ _ _ _ _)
    | (with_reducible exact line_Paid.mono _ _ _ _ _ _)
    | (with_reducible exact line_Sum.mono _ _)
    | (with_reducible exact line_Unit.mono _ _ _ _ _ _ _)
    | (with_reducible exact LeO.refl _)
    | (with_reducible exact LeO.none _)
    | (with_reducible refine LeO.ite ?_ ?_)
    | (with_reducible refine LeO.bind ?_ (fun _ => ?_))
    | exact ih0 _ _ _
    | exact backhaullaw21_Few.mono _ _
    | exact backhaulref21_Check.mono _ _ _ _ _ _
    | exact backhaulref21_Paid.mono _ _ _ _ _ _
    | exact backhaulref21_Sum.mono _ _
    | exact backhaulref21_Unit.mono _ _ _ _ _ _ _
    | exact line_Check.mono _ _ _ _ _ _
    | exact line_Paid.mono _ _ _ _ _ _
    | exact line_Sum.mono _ _
    | exact line_Unit.mono _ _ _ _ _ _ _
    | exact LeO.none _
    | refine LeO.ite ?_ ?_
    | refine LeO.bind ?_ (fun _ => ?_)
theorem backhaullaw21_LineTells.mono : ∀ a0 a1 k, LeO (backhaullaw21_LineTells.f k a0 a1) (backhaullaw21_LineTells.f (k + 1) a0 a1) := by
  intro a0 a1 k
  have ih0 := backhaullaw21_LineTells.mono_l k
  unfold backhaullaw21_LineTells.f
  repeat' first
      | (with_reducible exact ih0 _ _ _)
      | (with_reducible exact backhaullaw21_Few.mono _ _)
      | (with_reducible exact backhaulref21_Check.mono _ _ _ _ _ _)
      | (with_reducible exact backhaulref21_Paid.mono _ _ _ _ _ _)
      | (with_reducible exact backhaulref21_Sum.mono _ _)
      | (with_reducible exact backhaulref21_Unit.mono _ _ _ _ _ _ _)
      | (with_reducible exact line_Check.mono _ _ _ _ _ _)
      | (with_reducible exact line_Paid.mono _ _ _ _ _ _)
      | (with_reducible exact line_Sum.mono _ _)
      | (with_reducible exact line_Unit.mono _ _ _ _ _ _ _)
      | (with_reducible exact LeO.refl _)
      | (with_reducible exact LeO.none _)
      | (with_reducible refine LeO.ite ?_ ?_)
      | (with_reducible refine LeO.bind ?_ (fun _ => ?_))
      | exact ih0 _ _ _
      | exact backhaullaw21_Few.mono _ _
      | exact backhaulref21_Check.mono _ _ _ _ _ _
      | exact backhaulref21_Paid.mono _ _ _ _ _ _
      | exact backhaulref21_Sum.mono _ _
      | exact backhaulref21_Unit.mono _ _ _ _ _ _ _
      | exact line_Check.mono _ _ _ _ _ _
      | exact line_Paid.mono _ _ _ _ _ _
      | exact line_Sum.mono _ _
      | exact line_Unit.mono _ _ _ _ _ _ _
      | exact LeO.none _
      | refine LeO.ite ?_ ?_
      | refine LeO.bind ?_ (fun _ => ?_)
def backhaullaw21_LineTells.T10 : Bool × List (List Nat × List Nat) := (true, [([], []), ([], []), ([0, 1], [0, 1]), ([2], [2]), ([3], [3]), ([], []), ([], []), ([5, 6], [5, 6]), ([7], [7]), ([8, 4], [8]), ([4, 9], [4, 9]), ([10, 9], [10]), ([11], [11]), ([11], [11]), ([12, 13, 11], [11, 12, 13]), ([11, 14], [11, 14]), ([15, 11], [15]), ([16], [16]), ([16], [16]), ([17, 18, 16], [16, 17, 18]), ([16, 19], [16, 19]), ([20, 16], [20]), ([21], [21]), ([21], [21]), ([22, 23, 21], [21, 22, 23]), ([21, 24], [21, 24]), ([25, 21], [25]), ([26], [26]), ([26], [26]), ([27, 28, 26], [26, 27, 28]), ([26, 29], [26, 29]), ([30, 26], [30]), ([31], [31]), ([31], [31]), ([32, 33, 31], [31, 32, 33]), ([31, 34], [31, 34])])
def backhaullaw21_LineTells.B10 : List Nat := [0, 0, 3, 7, 15, 0, 0, 96, 224, 511, 1023, 2047, 4095, 4095, 16383, 32767, 65535, 131071, 131071, 524287, 1048575, 2097151, 4194303, 4194303, 16777215, 33554431, 67108863, 134217727, 134217727, 536870911, 1073741823, 2147483647, 4294967295, 4294967295, 17179869183, 34359738367]
theorem backhaullaw21_LineTells.tab10 : rtab .any (opsOf Try.f14 10) = backhaullaw21_LineTells.T10 := by kernel_rfl
theorem backhaullaw21_LineTells.bits10 : waitsOk backhaullaw21_LineTells.T10.2 backhaullaw21_LineTells.B10 = true := by kernel_rfl
set_option maxHeartbeats 8000000 in
set_option maxRecDepth 100000 in
theorem backhaullaw21_LineTells.calls (k : Nat) (A0 : Option Addr) (c0 : Nat) (l0 : List (S71)) (a1 : Int) (w : World) (hr0 : Kd.C k71 w A0 l0.length l0) (hc0 : l0.length ≤ c0) (h : backhaullaw21_LineTells.f k l0 a1 = some true) :
    Calls Try.prog 14 #[.slice A0 l0.length c0, .int .i64 a1] w fun e w' => e = .returned (.bool true) ∧ Below w.heap.size w w' := by
  have hu71 := Try.underlying71
  have HR0 := zA hr0
  have HC0 := zA hc0
  clear hr0 hc0
  have HB := zA (Below.refl w.heap.size w)
  have H : ((backhaullaw21_Few.f k l0).bind fun t101 => (if t101 = true then (backhaullaw21_LineTells.l0 k l0 a1 0) else ((backhaullaw21_awake.f).bind fun t102 => (if t102 = true then (some true) else (some false))))) = some true := h
  clear h
  replace H := Option.bind_eq_some_iff.mp H
  obtain ⟨t101, A30, H⟩ := H
  replace H : (if t101 = true then (backhaullaw21_LineTells.l0 k l0 a1 0) else ((backhaullaw21_awake.f).bind fun t102 => (if t102 = true then (some true) else (some false)))) = some true := H
  have A3 := zA A30
  clear A30
  by_cases c4 : t101 = true
  · subst c4
    have H1 : (backhaullaw21_LineTells.l0 k l0 a1 0) = some true := by first | (rw [if_pos rfl] at H; exact H) | rfl
    clear H; have H := H1; clear H1; have H' := zA H; clear H; go_enter Try.func14, Try.ntmps14; go_wp2_with (first | ((with_reducible refine zJq (f := 60) rfl ?_); refine goesL_ (some 25) rfl rfl Try.func60 (by kernel_rfl) rfl #[.slice A0 l0.length c0] rfl (by (try simp only [zR, zS, zT]); first | done | rfl | (simp only [zP, zQ]; rfl)) ?_; (with_reducible refine (backhaullaw21_Few.calls k _ _ l0 true _ ?side1 ?side2 A3.out).mono ?_); (case side1 => repeat (first | exact HR0.out | (with_reducible refine Kd.C_alloc ?_ _) | (with_reducible refine Kd.C_drewN ?_ _) | (with_reducible refine Kd.C_drew ?_))); (case side2 => exact HC0.out); rintro e w' ⟨rfl, ⟨nd, rfl⟩⟩; refine ⟨_, rfl, ?_⟩)); go_loopg [5] k (fun kq v5 w' => ∃ (x5_1 : Int), v5 = .int .i64 x5_1 ∧ Aside0 (backhaullaw21_LineTells.l0 kq l0 a1 x5_1 = some true) ∧ Aside0 (kq ≤ k) ∧ Aside0 (Below w.heap.size w w'))
    case atStart => exact ⟨(0), (by first | rfl | (simp; done) | (simp [*]; done)), H', ⟨Nat.le_refl _⟩, ⟨qB⟩⟩
    case round =>
      clear H'; try clear c1
      try clear p2
      try clear c4
      obtain ⟨x5_1, rfl, HA, HK1, HB⟩ := hrel; cases gk with
      | zero => exact absurd HA.out (by simp [backhaullaw21_LineTells.l0])
      | succ k1 =>
        have H := HA.out; clear HA; simp only [backhaullaw21_LineTells.l0] at H; by_cases c5 : x5_1 < (l0.length : Int)
        · rw [if_pos c5] at H
          have c5b0 : decide (x5_1 < (l0.length : Int)) = true := zFq c5; clear c5; by_cases c6 : 0 ≤ x5_1
          · rw [if_pos c6] at H
            have c6b0 : decide (0 ≤ x5_1) = true := zFq c6; clear c6; replace H := Option.bind_eq_some_iff.mp H; obtain ⟨⟨t113, t114, t115⟩, A70, H⟩ := H; replace H : ((backhaulref21_Unit.f k1 ((rd_T71 l0 x5_1).f0) ((rd_T71 l0 x5_1).f1) ((rd_T71 l0 x5_1).f2) ((rd_T71 l0 x5_1).f3) ((rd_T71 l0 x5_1).f4) a1).bind fun bt117 => ((line_Paid.f k1 ((rd_T71 l0 x5_1).f0) ((rd_T71 l0 x5_1).f1) ((rd_T71 l0 x5_1).f2) ((rd_T71 l0 x5_1).f3) ((rd_T71 l0 x5_1).f4)).bind fun bt121 => ((backhaulref21_Paid.f k1 ((rd_T71 l0 x5_1).f0) ((rd_T71 l0 x5_1).f1) ((rd_T71 l0 x5_1).f2) ((rd_T71 l0 x5_1).f3) ((rd_T71 l0 x5_1).f4)).bind fun bt124 => ((line_Check.f k1 ((rd_T71 l0 x5_1).f0) ((rd_T71 l0 x5_1).f1) ((rd_T71 l0 x5_1).f2) ((rd_T71 l0 x5_1).f3) ((rd_T71 l0 x5_1).f4)).bind fun t127 => ((backhaulref21_Check.f k1 ((rd_T71 l0 x5_1).f0) ((rd_T71 l0 x5_1).f1) ((rd_T71 l0 x5_1).f2) ((rd_T71 l0 x5_1).f3) ((rd_T71 l0 x5_1).f4)).bind fun t129 => (if t127 = t129 then (if t113 = bt117.1 then (if t114 = bt117.2.1 then (if t115 = bt117.2.2 then (if bt121.1 = bt124.1 then (if bt121.2 = bt124.2 then (backhaullaw21_LineTells.l0 k1 l0 a1 (wrap64 (x5_1 + 1))) else (some false)) else (some false)) else (some false)) else (some false)) else (some false)) else (some false))))))) = some true := H; have A7 := zA A70; clear A70; replace H := Option.bind_eq_some_iff.mp H; obtain ⟨⟨t117, t118, t119⟩, A80, H⟩ := H; replace H : ((line_Paid.f k1 ((rd_T71 l0 x5_1).f0) ((rd_T71 l0 x5_1).f1) ((rd_T71 l0 x5_1).f2) ((rd_T71 l0 x5_1).f3) ((rd_T71 l0 x5_1).f4)).bind fun bt121 => ((backhaulref21_Paid.f k1 ((rd_T71 l0 x5_1).f0) ((rd_T71 l0 x5_1).f1) ((rd_T71 l0 x5_1).f2) ((rd_T71 l0 x5_1).f3) ((rd_T71 l0 x5_1).f4)).bind fun bt124 => ((line_Check.f k1 ((rd_T71 l0 x5_1).f0) ((rd_T71 l0 x5_1).f1) ((rd_T71 l0 x5_1).f2) ((rd_T71 l0 x5_1).f3) ((rd_T71 l0 x5_1).f4)).bind fun t127 => ((backhaulref21_Check.f k1 ((rd_T71 l0 x5_1).f0) ((rd_T71 l0 x5_1).f1) ((rd_T71 l0 x5_1).f2) ((rd_T71 l0 x5_1).f3) ((rd_T71 l0 x5_1).f4)).bind fun t129 => (if t127 = t129 then (if t113 = t117 then (if t114 = t118 then (if t115 = t119 then (if bt121.1 = bt124.1 then (if bt121.2 = bt124.2 then (backhaullaw21_LineTells.l0 k1 l0 a1 (wrap64 (x5_1 + 1))) else (some false)) else (some false)) else (some false)) else (some false)) else (some false)) else (some false)))))) = some true := H; have A8 := zA A80; clear A80; replace H := Option.bind_eq_some_iff.mp H; obtain ⟨⟨t121, t122⟩, A90, H⟩ := H; replace H : ((backhaulref21_Paid.f k1 ((rd_T71 l0 x5_1).f0) ((rd_T71 l0 x5_1).f1) ((rd_T71 l0 x5_1).f2) ((rd_T71 l0 x5_1).f3) ((rd_T71 l0 x5_1).f4)).bind fun bt124 => ((line_Check.f k1 ((rd_T71 l0 x5_1).f0) ((rd_T71 l0 x5_1).f1) ((rd_T71 l0 x5_1).f2) ((rd_T71 l0 x5_1).f3) ((rd_T71 l0 x5_1).f4)).bind fun t127 => ((backhaulref21_Check.f k1 ((rd_T71 l0 x5_1).f0) ((rd_T71 l0 x5_1).f1) ((rd_T71 l0 x5_1).f2) ((rd_T71 l0 x5_1).f3) ((rd_T71 l0 x5_1).f4)).bind fun t129 => (if t127 = t129 then (if t113 = t117 then (if t114 = t118 then (if t115 = t119 then (if t121 = bt124.1 then (if t122 = bt124.2 then (backhaullaw21_LineTells.l0 k1 l0 a1 (wrap64 (x5_1 + 1))) else (some false)) else (some false)) else (some false)) else (some false)) else (some false)) else (some false))))) = some true := H
            have A9 := zA A90; clear A90; replace H := Option.bind_eq_some_iff.mp H; obtain ⟨⟨t124, t125⟩, A100, H⟩ := H; replace H : ((line_Check.f k1 ((rd_T71 l0 x5_1).f0) ((rd_T71 l0 x5_1).f1) ((rd_T71 l0 x5_1).f2) ((rd_T71 l0 x5_1).f3) ((rd_T71 l0 x5_1).f4)).bind fun t127 => ((backhaulref21_Check.f k1 ((rd_T71 l0 x5_1).f0) ((rd_T71 l0 x5_1).f1) ((rd_T71 l0 x5_1).f2) ((rd_T71 l0 x5_1).f3) ((rd_T71 l0 x5_1).f4)).bind fun t129 => (if t127 = t129 then (if t113 = t117 then (if t114 = t118 then (if t115 = t119 then (if t121 = t124 then (if t122 = t125 then (backhaullaw21_LineTells.l0 k1 l0 a1 (wrap64 (x5_1 + 1))) else (some false)) else (some false)) else (some false)) else (some false)) else (some false)) else (some false)))) = some true := H; have A10 := zA A100; clear A100; replace H := Option.bind_eq_some_iff.mp H; obtain ⟨t127, A110, H⟩ := H; replace H : ((backhaulref21_Check.f k1 ((rd_T71 l0 x5_1).f0) ((rd_T71 l0 x5_1).f1) ((rd_T71 l0 x5_1).f2) ((rd_T71 l0 x5_1).f3) ((rd_T71 l0 x5_1).f4)).bind fun t129 => (if t127 = t129 then (if t113 = t117 then (if t114 = t118 then (if t115 = t119 then (if t121 = t124 then (if t122 = t125 then (backhaullaw21_LineTells.l0 k1 l0 a1 (wrap64 (x5_1 + 1))) else (some false)) else (some false)) else (some false)) else (some false)) else (some false)) else (some false))) = some true := H; have A11 := zA A110; clear A110; replace H := Option.bind_eq_some_iff.mp H; obtain ⟨t129, A120, H⟩ := H; replace H : (if t127 = t129 then (if t113 = t117 then (if t114 = t118 then (if t115 = t119 then (if t121 = t124 then (if t122 = t125 then (backhaullaw21_LineTells.l0 k1 l0 a1 (wrap64 (x5_1 + 1))) else (some false)) else (some false)) else (some false)) else (some false)) else (some false)) else (some false)) = some true := H; have A12 := zA A120; clear A120; by_cases c13 : t127 = t129
            · rw [if_pos c13] at H
              have c13b0 : (t127 == t129) = true := beq_iff_eq.mpr c13; have c13b1 : (t127 != t129) = false := bne_eq_false_iff_eq.mpr c13; clear c13; by_cases c14 : t113 = t117
              · rw [if_pos c14] at H
                have c14b0 : (t113 == t117) = true := beq_iff_eq.mpr c14; have c14b1 : (t113 != t117) = false := bne_eq_false_iff_eq.mpr c14; clear c14; by_cases c15 : t114 = t118
                · rw [if_pos c15] at H
                  have c15b0 : (t114 == t118) = true := beq_iff_eq.mpr c15; have c15b1 : (t114 != t118) = false := bne_eq_false_iff_eq.mpr c15; clear c15; by_cases c16 : t115 = t119
                  · rw [if_pos c16] at H
                    have c16b0 : (t115 == t119) = true := beq_iff_eq.mpr c16; have c16b1 : (t115 != t119) = false := bne_eq_false_iff_eq.mpr c16; clear c16; by_cases c17 : t121 = t124
                    · rw [if_pos c17] at H
                      have c17b0 : (t121 == t124) = true := beq_iff_eq.mpr c17; have c17b1 : (t121 != t124) = false := bne_eq_false_iff_eq.mpr c17; clear c17; by_cases c18 : t122 = t125
                      · rw [if_pos c18] at H
                        have c18b0 : (t122 == t125) = true := beq_iff_eq.mpr c18; have c18b1 : (t122 != t125) = false := bne_eq_false_iff_eq.mpr c18; clear c18; have H' := zA H; clear H; have p112 : 0 ≤ (x5_1 : Int) := of_decide_eq_true qA; have q112 : x5_1 < (l0.length : Int) := of_decide_eq_true qA; obtain ⟨ad112, A112_4, c112_4, e112, hx112_0, hx112_1, hx112_2, hx112_3, hx112_4, hl112_4, hi112_4⟩ := at_T71 HR0.out x5_1 p112 q112; cases e112
                        replace hx112_0 := (HB.out.cell (zCq w _ hx112_0)).trans hx112_0; replace hx112_1 := (HB.out.cell (zCq w _ hx112_1)).trans hx112_1; replace hx112_2 := (HB.out.cell (zCq w _ hx112_2)).trans hx112_2; replace hx112_3 := (HB.out.cell (zCq w _ hx112_3)).trans hx112_3; replace hx112_4 := (HB.out.cell (zCq w _ hx112_4)).trans hx112_4; have HR112_4 := zA hi112_4; have HC112_4 := zA hl112_4; clear hi112_4 hl112_4; replace p112 := eq_true p112; replace q112 := eq_true q112; try go_wp2_with (first | ((with_reducible refine zJq (f := 65) rfl ?_); refine goesL_ (some 40) rfl rfl Try.func65 (by kernel_rfl) rfl #[.agg #[.int .i64 ((rd_T71 l0 x5_1).f0), .int .i64 ((rd_T71 l0 x5_1).f1), .int .i64 ((rd_T71 l0 x5_1).f2), .int .i64 ((rd_T71 l0 x5_1).f3), .slice A112_4 ((rd_T71 l0 x5_1).f4).length c112_4], .int .i64 a1] rfl (by (try simp only [zR, zS, zT]); first | done | rfl | (simp only [zP, zQ]; rfl)) ?_; (with_reducible refine (line_Unit.calls k1 ((rd_T71 l0 x5_1).f0) ((rd_T71 l0 x5_1).f1) ((rd_T71 l0 x5_1).f2) ((rd_T71 l0 x5_1).f3) _ _ ((rd_T71 l0 x5_1).f4) a1 t113 t114 t115 _ ?side1 ?side2 A7.out).mono ?_); (case side1 => exact qC (Kd.C_below HR112_4.out HB.out)); (case side2 => exact HC112_4.out); rintro e w19 ⟨rfl, hb⟩; refine ⟨_, rfl, ?_⟩; have n0_ := zA (zV qB hb); clear HB; have HB := n0_; clear n0_; (try clear hb); (try clear hb2); (try clear hk); (try clear hi); have p116 : 0 ≤ (x5_1 : Int) := of_decide_eq_true qA; have q116 : x5_1 < (l0.length : Int) := of_decide_eq_true qA; obtain ⟨ad116, A116_4, c116_4, e116, hx116_0, hx116_1, hx116_2, hx116_3, hx116_4, hl116_4, hi116_4⟩ := at_T71 HR0.out x5_1 p116 q116; obtain rfl : ad112 = ad116 := (by injection e116); replace hx116_0 := (HB.out.cell (zCq w _ hx116_0)).trans hx116_0; replace hx116_1 := (HB.out.cell (zCq w _ hx116_1)).trans hx116_1; replace hx116_2 := (HB.out.cell (zCq w _ hx116_2)).trans hx116_2; replace hx116_3 := (HB.out.cell (zCq w _ hx116_3)).trans hx116_3; replace hx116_4 := (HB.out.cell (zCq w _ hx116_4)).trans hx116_4; have HR116_4 := zA hi116_4; have HC116_4 := zA hl116_4; clear hi116_4 hl116_4; replace p116 := eq_true p116; replace q116 := eq_true q116) | ((with_reducible refine zJq (f := 66) rfl ?_); refine goesL_ (some 50) rfl rfl Try.func66 (by kernel_rfl) rfl #[.agg #[.int .i64 ((rd_T71 l0 x5_1).f0), .int .i64 ((rd_T71 l0 x5_1).f1), .int .i64 ((rd_T71 l0 x5_1).f2), .int .i64 ((rd_T71 l0 x5_1).f3), .slice A116_4 ((rd_T71 l0 x5_1).f4).length c116_4], .int .i64 a1] rfl (by (try simp only [zR, zS, zT]); first | done | rfl | (simp only [zP, zQ]; rfl)) ?_; (with_reducible refine (backhaulref21_Unit.calls k1 ((rd_T71 l0 x5_1).f0) ((rd_T71 l0 x5_1).f1) ((rd_T71 l0 x5_1).f2) ((rd_T71 l0 x5_1).f3) _ _ ((rd_T71 l0 x5_1).f4) a1 t117 t118 t119 _ ?side1 ?side2 A8.out).mono ?_); (case side1 => exact qC (Kd.C_below HR116_4.out HB.out)); (case side2 => exact HC116_4.out); rintro e w20 ⟨rfl, hb⟩; refine ⟨_, rfl, ?_⟩; have n0_ := zA (zV qB hb); clear HB; have HB := n0_; clear n0_; (try clear hb); (try clear hb2); (try clear hk); (try clear hi); have p120 : 0 ≤ (x5_1 : Int) := of_decide_eq_true qA; have q120 : x5_1 < (l0.length : Int) := of_decide_eq_true qA; obtain ⟨ad120, A120_4, c120_4, e120, hx120_0, hx120_1, hx120_2, hx120_3, hx120_4, hl120_4, hi120_4⟩ := at_T71 HR0.out x5_1 p120 q120; obtain rfl : ad112 = ad120 := (by injection e120); replace hx120_0 := (HB.out.cell (zCq w _ hx120_0)).trans hx120_0; replace hx120_1 := (HB.out.cell (zCq w _ hx120_1)).trans hx120_1; replace hx120_2 := (HB.out.cell (zCq w _ hx120_2)).trans hx120_2; replace hx120_3 := (HB.out.cell (zCq w _ hx120_3)).trans hx120_3; replace hx120_4 := (HB.out.cell (zCq w _ hx120_4)).trans hx120_4; have HR120_4 := zA hi120_4; have HC120_4 := zA hl120_4; clear hi120_4 hl120_4; replace p120 := eq_true p120; replace q120 := eq_true q120) | ((with_reducible refine zJq (f := 67) rfl ?_); refine goesL_ (some 59) rfl rfl Try.func67 (by kernel_rfl) rfl #[.agg #[.int .i64 ((rd_T71 l0 x5_1).f0), .int .i64 ((rd_T71 l0 x5_1).f1), .int .i64 ((rd_T71 l0 x5_1).f2), .int .i64 ((rd_T71 l0 x5_1).f3), .slice A120_4 ((rd_T71 l0 x5_1).f4).length c120_4]] rfl (by (try simp only [zR, zS, zT]); first | done | rfl | (simp only [zP, zQ]; rfl)) ?_; (with_reducible refine (line_Paid.calls k1 ((rd_T71 l0 x5_1).f0) ((rd_T71 l0 x5_1).f1) ((rd_T71 l0 x5_1).f2) ((rd_T71 l0 x5_1).f3) _ _ ((rd_T71 l0 x5_1).f4) t121 t122 _ ?side1 ?side2 A9.out).mono ?_); (case side1 => exact qC (Kd.C_below HR120_4.out HB.out)); (case side2 => exact HC120_4.out); rintro e w21 ⟨rfl, hb⟩; refine ⟨_, rfl, ?_⟩; have n0_ := zA (zV qB hb); clear HB; have HB := n0_; clear n0_; (try clear hb); (try clear hb2); (try clear hk); (try clear hi); have p123 : 0 ≤ (x5_1 : Int) := of_decide_eq_true qA; have q123 : x5_1 < (l0.length : Int) := of_decide_eq_true qA; obtain ⟨ad123, A123_4, c123_4, e123, hx123_0, hx123_1, hx123_2, hx123_3, hx123_4, hl123_4, hi123_4⟩ := at_T71 HR0.out x5_1 p123 q123; obtain rfl : ad112 = ad123 := (by injection e123); replace hx123_0 := (HB.out.cell (zCq w _ hx123_0)).trans hx123_0; replace hx123_1 := (HB.out.cell (zCq w _ hx123_1)).trans hx123_1; replace hx123_2 := (HB.out.cell (zCq w _ hx123_2)).trans hx123_2; replace hx123_3 := (HB.out.cell (zCq w _ hx123_3)).trans hx123_3; replace hx123_4 := (HB.out.cell (zCq w _ hx123_4)).trans hx123_4; have HR123_4 := zA hi123_4; have HC123_4 := zA hl123_4; clear hi123_4 hl123_4; replace p123 := eq_true p123; replace q123 := eq_true q123) | ((with_reducible refine zJq (f := 68) rfl ?_); refine goesL_ (some 67) rfl rfl Try.func68 (by kernel_rfl) rfl #[.agg #[.int .i64 ((rd_T71 l0 x5_1).f0), .int .i64 ((rd_T71 l0 x5_1).f1), .int .i64 ((rd_T71 l0 x5_1).f2), .int .i64 ((rd_T71 l0 x5_1).f3), .slice A123_4 ((rd_T71 l0 x5_1).f4).length c123_4]] rfl (by (try simp only [zR, zS, zT]); first | done | rfl | (simp only [zP, zQ]; rfl)) ?_; (with_reducible refine (backhaulref21_Paid.calls k1 ((rd_T71 l0 x5_1).f0) ((rd_T71 l0 x5_1).f1) ((rd_T71 l0 x5_1).f2) ((rd_T71 l0 x5_1).f3) _ _ ((rd_T71 l0 x5_1).f4) t124 t125 _ ?side1 ?side2 A10.out).mono ?_); (case side1 => exact qC (Kd.C_below HR123_4.out HB.out)); (case side2 => exact HC123_4.out); rintro e w22 ⟨rfl, hb⟩; refine ⟨_, rfl, ?_⟩; have n0_ := zA (zV qB hb); clear HB; have HB := n0_; clear n0_; (try clear hb); (try clear hb2); (try clear hk); (try clear hi)))
                        have n0_ := zA (zC HB.out); clear HB; have HB := n0_; clear n0_; have p126 : 0 ≤ (x5_1 : Int) := of_decide_eq_true qA; have q126 : x5_1 < (l0.length : Int) := of_decide_eq_true qA; obtain ⟨ad126, A126_4, c126_4, e126, hx126_0, hx126_1, hx126_2, hx126_3, hx126_4, hl126_4, hi126_4⟩ := at_T71 HR0.out x5_1 p126 q126; have hw126_4 := hx126_4; have hw126_3 := hx126_3; have hw126_2 := hx126_2; have hw126_1 := hx126_1; have hw126_0 := hx126_0; obtain rfl : ad112 = ad126 := (by injection e126)
                        replace hx126_0 := (HB.out.cell (zCq w _ hx126_0)).trans hx126_0; replace hx126_1 := (HB.out.cell (zCq w _ hx126_1)).trans hx126_1; replace hx126_2 := (HB.out.cell (zCq w _ hx126_2)).trans hx126_2; replace hx126_3 := (HB.out.cell (zCq w _ hx126_3)).trans hx126_3; replace hx126_4 := (HB.out.cell (zCq w _ hx126_4)).trans hx126_4; have HR126_4 := zA hi126_4; have HC126_4 := zA hl126_4; clear hi126_4 hl126_4; replace p126 := eq_true p126; replace q126 := eq_true q126; have p128 : 0 ≤ (x5_1 : Int) := of_decide_eq_true qA; have q128 : x5_1 < (l0.length : Int) := of_decide_eq_true qA; obtain ⟨ad128, A128_4, c128_4, e128, hx128_0, hx128_1, hx128_2, hx128_3, hx128_4, hl128_4, hi128_4⟩ := at_T71 HR0.out x5_1 p128 q128; have hw128_4 := hx128_4; have hw128_3 := hx128_3; have hw128_2 := hx128_2; have hw128_1 := hx128_1; have hw128_0 := hx128_0; obtain rfl : ad112 = ad128 := (by injection e128)
                        replace hx128_0 := (HB.out.cell (zCq w _ hx128_0)).trans hx128_0; replace hx128_1 := (HB.out.cell (zCq w _ hx128_1)).trans hx128_1; replace hx128_2 := (HB.out.cell (zCq w _ hx128_2)).trans hx128_2; replace hx128_3 := (HB.out.cell (zCq w _ hx128_3)).trans hx128_3; replace hx128_4 := (HB.out.cell (zCq w _ hx128_4)).trans hx128_4; have HR128_4 := zA hi128_4; have HC128_4 := zA hl128_4; clear hi128_4 hl128_4; replace p128 := eq_true p128; replace q128 := eq_true q128; have ea_ := zKq (hx126_4.symm.trans hx128_4); injection ea_ with ea_ en_ ec_
                        subst ea_; subst ec_; clear en_; refine start_ (n := 36) (S := fun w' => w'.cell? (ad112.add ((x5_1).toNat * 5)) = some (.int .i64 ((rd_T71 l0 x5_1).f0)) ∧ w'.cell? ⟨(ad112.add ((x5_1).toNat * 5)).block, (ad112.add ((x5_1).toNat * 5)).off + 1, none⟩ = some (.int .i64 ((rd_T71 l0 x5_1).f1)) ∧ w'.cell? ⟨(ad112.add ((x5_1).toNat * 5)).block, (ad112.add ((x5_1).toNat * 5)).off + 2, none⟩ = some (.int .i64 ((rd_T71 l0 x5_1).f2)) ∧ w'.cell? ⟨(ad112.add ((x5_1).toNat * 5)).block, (ad112.add ((x5_1).toNat * 5)).off + 3, none⟩ = some (.int .i64 ((rd_T71 l0 x5_1).f3)) ∧ w'.cell? ⟨(ad112.add ((x5_1).toNat * 5)).block, (ad112.add ((x5_1).toNat * 5)).off + 4, none⟩ = some (.slice A126_4 ((rd_T71 l0 x5_1).f4).length c126_4) ∧ w'.cell? (ad112.add ((x5_1).toNat * 5)) = some (.int .i64 ((rd_T71 l0 x5_1).f0)) ∧ w'.cell? ⟨(ad112.add ((x5_1).toNat * 5)).block, (ad112.add ((x5_1).toNat * 5)).off + 1, none⟩ = some (.int .i64 ((rd_T71 l0 x5_1).f1)) ∧ w'.cell? ⟨(ad112.add ((x5_1).toNat * 5)).block, (ad112.add ((x5_1).toNat * 5)).off + 2, none⟩ = some (.int .i64 ((rd_T71 l0 x5_1).f2)) ∧ w'.cell? ⟨(ad112.add ((x5_1).toNat * 5)).block, (ad112.add ((x5_1).toNat * 5)).off + 3, none⟩ = some (.int .i64 ((rd_T71 l0 x5_1).f3)) ∧ w'.cell? ⟨(ad112.add ((x5_1).toNat * 5)).block, (ad112.add ((x5_1).toNat * 5)).off + 4, none⟩ = some (.slice A126_4 ((rd_T71 l0 x5_1).f4).length c126_4)) (ds := []) #[o0, o0, o0, o0, o0, o0, o0, o0, o0, o0, o0, o0, o0, o0, o0, o0, o0, o0, o0, o0, o0, o0, o0, o0, o0, o0, o0, o0, o0, o0, o0, o0, o0, o0, o0, o0] (by kernel_rfl) rfl rfl ⟨((HB.out.cell (zCq w _ hw126_0)).trans hw126_0), ((HB.out.cell (zCq w _ hw126_1)).trans hw126_1), ((HB.out.cell (zCq w _ hw126_2)).trans hw126_2), ((HB.out.cell (zCq w _ hw126_3)).trans hw126_3), ((HB.out.cell (zCq w _ hw126_4)).trans hw126_4), ((HB.out.cell (zCq w _ hw128_0)).trans hw128_0), ((HB.out.cell (zCq w _ hw128_1)).trans hw128_1), ((HB.out.cell (zCq w _ hw128_2)).trans hw128_2), ((HB.out.cell (zCq w _ hw128_3)).trans hw128_3), ((HB.out.cell (zCq w _ hw128_4)).trans hw128_4)⟩ (fun hHeld => ?_); refine with_tabW backhaullaw21_LineTells.tab10 backhaullaw21_LineTells.bits10 (fun HT_ HW_ => ?_); generalize w22.drew = w23 at HB HR126_4 HR128_4 hx126_0 hx126_1 hx126_2 hx126_3 hx126_4 hx128_0 hx128_1 hx128_2 hx128_3 hx128_4 hHeld ⊢; refine pure_ (i := 0) (N := some 70) #[o1, o0, o0, o0, o0, o0, o0, o0, o0, o0, o0, o0, o0, o0, o0, o0, o0, o0, o0, o0, o0, o0, o0, o0, o0, o0, o0, o0, o0, o0, o0, o0, o0, o0, o0, o0] rfl rfl (any_of HT_.out (by kernel_rfl)) (fun _ _ _ h => h) (Or.inl ⟨by rfl, qy⟩) qz ?_
                        refine pure_ (i := 1) (N := some 71) #[o1, o1, o0, o0, o0, o0, o0, o0, o0, o0, o0, o0, o0, o0, o0, o0, o0, o0, o0, o0, o0, o0, o0, o0, o0, o0, o0, o0, o0, o0, o0, o0, o0, o0, o0, o0] rfl rfl (any_of HT_.out (by kernel_rfl)) (fun _ _ _ h => h) (Or.inl ⟨by rfl, qy⟩) qz ?_; refine pure_ (i := 2) (N := some 72) #[o1, o1, o1, o0, o0, o0, o0, o0, o0, o0, o0, o0, o0, o0, o0, o0, o0, o0, o0, o0, o0, o0, o0, o0, o0, o0, o0, o0, o0, o0, o0, o0, o0, o0, o0, o0] rfl rfl (any_of HT_.out (by kernel_rfl)) (fun _ _ _ h => h) (Or.inl ⟨by rfl, qy⟩) qz ?_; refine pure_ (i := 5) (N := some 75) #[o1, o1, o1, o0, o0, o1, o0, o0, o0, o0, o0, o0, o0, o0, o0, o0, o0, o0, o0, o0, o0, o0, o0, o0, o0, o0, o0, o0, o0, o0, o0, o0, o0, o0, o0, o0] rfl rfl (any_of HT_.out (by kernel_rfl)) (fun _ _ _ h => h) (Or.inl ⟨by rfl, qy⟩) qz ?_; refine pure_ (i := 6) (N := some 76) #[o1, o1, o1, o0, o0, o1, o1, o0, o0, o0, o0, o0, o0, o0, o0, o0, o0, o0, o0, o0, o0, o0, o0, o0, o0, o0, o0, o0, o0, o0, o0, o0, o0, o0, o0, o0] rfl rfl (any_of HT_.out (by kernel_rfl)) (fun _ _ _ h => h) (Or.inl ⟨by rfl, qy⟩) qz ?_; refine pure_ (i := 7) (N := some 77) #[o1, o1, o1, o0, o0, o1, o1, o1, o0, o0, o0, o0, o0, o0, o0, o0, o0, o0, o0, o0, o0, o0, o0, o0, o0, o0, o0, o0, o0, o0, o0, o0, o0, o0, o0, o0] rfl rfl (any_of HT_.out (by kernel_rfl)) (fun _ _ _ h => h) (Or.inl ⟨by rfl, qy⟩) qz ?_; refine take_ (i := 3) (N := some 73) (v := ?_) (a' := ?_) #[o1, o1, o1, o1, o0, o1, o1, o1, o0, o0, o0, o0, o0, o0, o0, o0, o0, o0, o0, o0, o0, o0, o0, o0, o0, o0, o0, o0, o0, o0, o0, o0, o0, o0, o0, o0] rfl rfl (take_ofW HT_.out HW_.out (by kernel_rfl)) (fun _ _ _ h => h) (Or.inl ⟨by rfl, ?_⟩) hHeld ?_ ?_; rotate_left
                        · rintro w' ⟨s0, s1, s2, s3, s4, s5, s6, s7, s8, s9⟩
                          go_simp; with_reducible rfl
                        rotate_left
                        · simp only [Act.put, zH, zI, zJ, i64_w, i32_w]
                          rfl
                        refine take_ (i := 8) (N := some 78) (v := ?_) (a' := ?_) #[o1, o1, o1, o1, o0, o1, o1, o1, o1, o0, o0, o0, o0, o0, o0, o0, o0, o0, o0, o0, o0, o0, o0, o0, o0, o0, o0, o0, o0, o0, o0, o0, o0, o0, o0, o0] rfl rfl (take_ofW HT_.out HW_.out (by kernel_rfl)) (fun _ _ _ h => h) (Or.inl ⟨by rfl, ?_⟩) hHeld ?_ ?_; rotate_left
                        · rintro w' ⟨s0, s1, s2, s3, s4, s5, s6, s7, s8, s9⟩
                          go_simp; with_reducible rfl
                        rotate_left
                        · simp only [Act.put, zH, zI, zJ, i64_w, i32_w]
                          rfl
                        refine one_ (i := 4) (N := some 74) #[o1, o1, o1, o1, o1, o1, o1, o1, o1, o0, o0, o0, o0, o0, o0, o0, o0, o0, o0, o0, o0, o0, o0, o0, o0, o0, o0, o0, o0, o0, o0, o0, o0, o0, o0, o0] rfl rfl (one_of HT_.out (by kernel_rfl)) (by decide) (fun K hK => ?_); refine goes_ Try.func69 (by kernel_rfl) rfl #[.agg #[.int .i64 ((rd_T71 l0 x5_1).f0), .int .i64 ((rd_T71 l0 x5_1).f1), .int .i64 ((rd_T71 l0 x5_1).f2), .int .i64 ((rd_T71 l0 x5_1).f3), .slice A126_4 ((rd_T71 l0 x5_1).f4).length c126_4]] (by rfl) rfl rfl (by (try simp only [zR, zS, zT]); first | done | rfl | (simp only [zP, zQ]; rfl)) ?_; with_reducible refine (line_Check.calls k1 ((rd_T71 l0 x5_1).f0) ((rd_T71 l0 x5_1).f1) ((rd_T71 l0 x5_1).f2) ((rd_T71 l0 x5_1).f3) _ _ ((rd_T71 l0 x5_1).f4) t127 _ ?side1 ?side2 A11.out).mono ?_
                        (case side1 => exact qC (Kd.C_below HR126_4.out HB.out))
                        (case side2 => exact HC126_4.out)
                        rintro e w24 ⟨rfl, hb⟩; refine ⟨_, rfl, ?_⟩; have n0_ := zA (zV qB hb); clear HB; have HB := n0_; clear n0_; (try clear hb); (try clear hb2); (try clear hk); (try clear hi); refine hK.out _ _ ⟨((HB.out.cell (zCq w _ hw126_0)).trans hw126_0), ((HB.out.cell (zCq w _ hw126_1)).trans hw126_1), ((HB.out.cell (zCq w _ hw126_2)).trans hw126_2), ((HB.out.cell (zCq w _ hw126_3)).trans hw126_3), ((HB.out.cell (zCq w _ hw126_4)).trans hw126_4), ((HB.out.cell (zCq w _ hw128_0)).trans hw128_0), ((HB.out.cell (zCq w _ hw128_1)).trans hw128_1), ((HB.out.cell (zCq w _ hw128_2)).trans hw128_2), ((HB.out.cell (zCq w _ hw128_3)).trans hw128_3), ((HB.out.cell (zCq w _ hw128_4)).trans hw128_4)⟩ (fun hHeld => ?_); clear hK K; refine norm_ (a' := ?_) ?_ ?_; rotate_left
                        · show Act.put _ (some 74) _ = _
                          simp only [Act.put, zH, zI, zJ, i64_w, i32_w]; rfl
                        refine one_ (i := 9) (N := some 79) #[o1, o1, o1, o1, o1, o1, o1, o1, o1, o1, o0, o0, o0, o0, o0, o0, o0, o0, o0, o0, o0, o0, o0, o0, o0, o0, o0, o0, o0, o0, o0, o0, o0, o0, o0, o0] rfl rfl (one_of HT_.out (by kernel_rfl)) (by decide) (fun K hK => ?_); refine goes_ Try.func70 (by kernel_rfl) rfl #[.agg #[.int .i64 ((rd_T71 l0 x5_1).f0), .int .i64 ((rd_T71 l0 x5_1).f1), .int .i64 ((rd_T71 l0 x5_1).f2), .int .i64 ((rd_T71 l0 x5_1).f3), .slice A126_4 ((rd_T71 l0 x5_1).f4).length c126_4]] (by rfl) rfl rfl (by (try simp only [zR, zS, zT]); first | done | rfl | (simp only [zP, zQ]; rfl)) ?_; with_reducible refine (backhaulref21_Check.calls k1 ((rd_T71 l0 x5_1).f0) ((rd_T71 l0 x5_1).f1) ((rd_T71 l0 x5_1).f2) ((rd_T71 l0 x5_1).f3) _ _ ((rd_T71 l0 x5_1).f4) t129 _ ?side1 ?side2 A12.out).mono ?_
                        (case side1 => exact qC (Kd.C_below HR128_4.out HB.out))
                        (case side2 => exact HC128_4.out)
                        rintro e w25 ⟨rfl, hb⟩; refine ⟨_, rfl, ?_⟩; have n0_ := zA (zV qB hb); clear HB; have HB := n0_; clear n0_; (try clear hb); (try clear hb2); (try clear hk); (try clear hi); refine hK.out _ _ ⟨((HB.out.cell (zCq w _ hw126_0)).trans hw126_0), ((HB.out.cell (zCq w _ hw126_1)).trans hw126_1), ((HB.out.cell (zCq w _ hw126_2)).trans hw126_2), ((HB.out.cell (zCq w _ hw126_3)).trans hw126_3), ((HB.out.cell (zCq w _ hw126_4)).trans hw126_4), ((HB.out.cell (zCq w _ hw128_0)).trans hw128_0), ((HB.out.cell (zCq w _ hw128_1)).trans hw128_1), ((HB.out.cell (zCq w _ hw128_2)).trans hw128_2), ((HB.out.cell (zCq w _ hw128_3)).trans hw128_3), ((HB.out.cell (zCq w _ hw128_4)).trans hw128_4)⟩ (fun hHeld => ?_); clear hK K; refine norm_ (a' := ?_) ?_ ?_; rotate_left
                        · show Act.put _ (some 79) _ = _
                          simp only [Act.put, zH, zI, zJ, i64_w, i32_w]; rfl
                        refine pure_ (i := 10) (N := some 80) #[o1, o1, o1, o1, o1, o1, o1, o1, o1, o1, o1, o0, o0, o0, o0, o0, o0, o0, o0, o0, o0, o0, o0, o0, o0, o0, o0, o0, o0, o0, o0, o0, o0, o0, o0, o0] rfl rfl (any_of HT_.out (by kernel_rfl)) (fun _ _ _ h => h) (Or.inl ⟨by rfl, qy⟩) qz ?_; refine pure_ (i := 11) (N := some 81) #[o1, o1, o1, o1, o1, o1, o1, o1, o1, o1, o1, o1, o0, o0, o0, o0, o0, o0, o0, o0, o0, o0, o0, o0, o0, o0, o0, o0, o0, o0, o0, o0, o0, o0, o0, o0] rfl rfl (any_of HT_.out (by kernel_rfl)) (fun _ _ _ h => h) (Or.inl ⟨by rfl, qy⟩) qz ?_; refine pure_ (i := 12) (N := some 82) #[o1, o1, o1, o1, o1, o1, o1, o1, o1, o1, o1, o1, o1, o0, o0, o0, o0, o0, o0, o0, o0, o0, o0, o0, o0, o0, o0, o0, o0, o0, o0, o0, o0, o0, o0, o0] rfl rfl (any_of HT_.out (by kernel_rfl)) (fun _ _ _ h => h) (Or.inl ⟨by rfl, qy⟩) qz ?_; refine pure_ (i := 13) (N := some 83) #[o1, o1, o1, o1, o1, o1, o1, o1, o1, o1, o1, o1, o1, o1, o0, o0, o0, o0, o0, o0, o0, o0, o0, o0, o0, o0, o0, o0, o0, o0, o0, o0, o0, o0, o0, o0] rfl rfl (any_of HT_.out (by kernel_rfl)) (fun _ _ _ h => h) (Or.inl ⟨by rfl, qy⟩) qz ?_; refine pure_ (i := 14) (N := some 84) #[o1, o1, o1, o1, o1, o1, o1, o1, o1, o1, o1, o1, o1, o1, o1, o0, o0, o0, o0, o0, o0, o0, o0, o0, o0, o0, o0, o0, o0, o0, o0, o0, o0, o0, o0, o0] rfl rfl (any_of HT_.out (by kernel_rfl)) (fun _ _ _ h => h) (Or.inl ⟨by rfl, qy⟩) qz ?_; refine pure_ (i := 15) (N := some 85) #[o1, o1, o1, o1, o1, o1, o1, o1, o1, o1, o1, o1, o1, o1, o1, o1, o0, o0, o0, o0, o0, o0, o0, o0, o0, o0, o0, o0, o0, o0, o0, o0, o0, o0, o0, o0] rfl rfl (any_of HT_.out (by kernel_rfl)) (fun _ _ _ h => h) (Or.inl ⟨by rfl, qy⟩) qz ?_; refine pure_ (i := 16) (N := some 86) #[o1, o1, o1, o1, o1, o1, o1, o1, o1, o1, o1, o1, o1, o1, o1, o1, o1, o0, o0, o0, o0, o0, o0, o0, o0, o0, o0, o0, o0, o0, o0, o0, o0, o0, o0, o0] rfl rfl (any_of HT_.out (by kernel_rfl)) (fun _ _ _ h => h) (Or.inl ⟨by rfl, qy⟩) qz ?_; refine pure_ (i := 17) (N := some 87) #[o1, o1, o1, o1, o1, o1, o1, o1, o1, o1, o1, o1, o1, o1, o1, o1, o1, o1, o0, o0, o0, o0, o0, o0, o0, o0, o0, o0, o0, o0, o0, o0, o0, o0, o0, o0] rfl rfl (any_of HT_.out (by kernel_rfl)) (fun _ _ _ h => h) (Or.inl ⟨by rfl, qy⟩) qz ?_; refine pure_ (i := 18) (N := some 88) #[o1, o1, o1, o1, o1, o1, o1, o1, o1, o1, o1, o1, o1, o1, o1, o1, o1, o1, o1, o0, o0, o0, o0, o0, o0, o0, o0, o0, o0, o0, o0, o0, o0, o0, o0, o0] rfl rfl (any_of HT_.out (by kernel_rfl)) (fun _ _ _ h => h) (Or.inl ⟨by rfl, qy⟩) qz ?_
                        refine pure_ (i := 19) (N := some 89) #[o1, o1, o1, o1, o1, o1, o1, o1, o1, o1, o1, o1, o1, o1, o1, o1, o1, o1, o1, o1, o0, o0, o0, o0, o0, o0, o0, o0, o0, o0, o0, o0, o0, o0, o0, o0] rfl rfl (any_of HT_.out (by kernel_rfl)) (fun _ _ _ h => h) (Or.inl ⟨by rfl, qy⟩) qz ?_; refine pure_ (i := 20) (N := some 90) #[o1, o1, o1, o1, o1, o1, o1, o1, o1, o1, o1, o1, o1, o1, o1, o1, o1, o1, o1, o1, o1, o0, o0, o0, o0, o0, o0, o0, o0, o0, o0, o0, o0, o0, o0, o0] rfl rfl (any_of HT_.out (by kernel_rfl)) (fun _ _ _ h => h) (Or.inl ⟨by rfl, qy⟩) qz ?_; refine pure_ (i := 21) (N := some 91) #[o1, o1, o1, o1, o1, o1, o1, o1, o1, o1, o1, o1, o1, o1, o1, o1, o1, o1, o1, o1, o1, o1, o0, o0, o0, o0, o0, o0, o0, o0, o0, o0, o0, o0, o0, o0] rfl rfl (any_of HT_.out (by kernel_rfl)) (fun _ _ _ h => h) (Or.inl ⟨by rfl, qy⟩) qz ?_; refine pure_ (i := 22) (N := some 92) #[o1, o1, o1, o1, o1, o1, o1, o1, o1, o1, o1, o1, o1, o1, o1, o1, o1, o1, o1, o1, o1, o1, o1, o0, o0, o0, o0, o0, o0, o0, o0, o0, o0, o0, o0, o0] rfl rfl (any_of HT_.out (by kernel_rfl)) (fun _ _ _ h => h) (Or.inl ⟨by rfl, qy⟩) qz ?_; refine pure_ (i := 23) (N := some 93) #[o1, o1, o1, o1, o1, o1, o1, o1, o1, o1, o1, o1, o1, o1, o1, o1, o1, o1, o1, o1, o1, o1, o1, o1, o0, o0, o0, o0, o0, o0, o0, o0, o0, o0, o0, o0] rfl rfl (any_of HT_.out (by kernel_rfl)) (fun _ _ _ h => h) (Or.inl ⟨by rfl, qy⟩) qz ?_; refine pure_ (i := 24) (N := some 94) #[o1, o1, o1, o1, o1, o1, o1, o1, o1, o1, o1, o1, o1, o1, o1, o1, o1, o1, o1, o1, o1, o1, o1, o1, o1, o0, o0, o0, o0, o0, o0, o0, o0, o0, o0, o0] rfl rfl (any_of HT_.out (by kernel_rfl)) (fun _ _ _ h => h) (Or.inl ⟨by rfl, qy⟩) qz ?_; refine pure_ (i := 25) (N := some 95) #[o1, o1, o1, o1, o1, o1, o1, o1, o1, o1, o1, o1, o1, o1, o1, o1, o1, o1, o1, o1, o1, o1, o1, o1, o1, o1, o0, o0, o0, o0, o0, o0, o0, o0, o0, o0] rfl rfl (any_of HT_.out (by kernel_rfl)) (fun _ _ _ h => h) (Or.inl ⟨by rfl, qy⟩) qz ?_; refine pure_ (i := 26) (N := some 96) #[o1, o1, o1, o1, o1, o1, o1, o1, o1, o1, o1, o1, o1, o1, o1, o1, o1, o1, o1, o1, o1, o1, o1, o1, o1, o1, o1, o0, o0, o0, o0, o0, o0, o0, o0, o0] rfl rfl (any_of HT_.out (by kernel_rfl)) (fun _ _ _ h => h) (Or.inl ⟨by rfl, qy⟩) qz ?_; refine pure_ (i := 27) (N := some 97) #[o1, o1, o1, o1, o1, o1, o1, o1, o1, o1, o1, o1, o1, o1, o1, o1, o1, o1, o1, o1, o1, o1, o1, o1, o1, o1, o1, o1, o0, o0, o0, o0, o0, o0, o0, o0] rfl rfl (any_of HT_.out (by kernel_rfl)) (fun _ _ _ h => h) (Or.inl ⟨by rfl, qy⟩) qz ?_
                        refine pure_ (i := 28) (N := some 98) #[o1, o1, o1, o1, o1, o1, o1, o1, o1, o1, o1, o1, o1, o1, o1, o1, o1, o1, o1, o1, o1, o1, o1, o1, o1, o1, o1, o1, o1, o0, o0, o0, o0, o0, o0, o0] rfl rfl (any_of HT_.out (by kernel_rfl)) (fun _ _ _ h => h) (Or.inl ⟨by rfl, qy⟩) qz ?_; refine pure_ (i := 29) (N := some 99) #[o1, o1, o1, o1, o1, o1, o1, o1, o1, o1, o1, o1, o1, o1, o1, o1, o1, o1, o1, o1, o1, o1, o1, o1, o1, o1, o1, o1, o1, o1, o0, o0, o0, o0, o0, o0] rfl rfl (any_of HT_.out (by kernel_rfl)) (fun _ _ _ h => h) (Or.inl ⟨by rfl, qy⟩) qz ?_; refine pure_ (i := 30) (N := some 100) #[o1, o1, o1, o1, o1, o1, o1, o1, o1, o1, o1, o1, o1, o1, o1, o1, o1, o1, o1, o1, o1, o1, o1, o1, o1, o1, o1, o1, o1, o1, o1, o0, o0, o0, o0, o0] rfl rfl (any_of HT_.out (by kernel_rfl)) (fun _ _ _ h => h) (Or.inl ⟨by rfl, qy⟩) qz ?_; refine pure_ (i := 31) (N := some 101) #[o1, o1, o1, o1, o1, o1, o1, o1, o1, o1, o1, o1, o1, o1, o1, o1, o1, o1, o1, o1, o1, o1, o1, o1, o1, o1, o1, o1, o1, o1, o1, o1, o0, o0, o0, o0] rfl rfl (any_of HT_.out (by kernel_rfl)) (fun _ _ _ h => h) (Or.inl ⟨by rfl, qy⟩) qz ?_; refine pure_ (i := 32) (N := some 102) #[o1, o1, o1, o1, o1, o1, o1, o1, o1, o1, o1, o1, o1, o1, o1, o1, o1, o1, o1, o1, o1, o1, o1, o1, o1, o1, o1, o1, o1, o1, o1, o1, o1, o0, o0, o0] rfl rfl (any_of HT_.out (by kernel_rfl)) (fun _ _ _ h => h) (Or.inl ⟨by rfl, qy⟩) qz ?_; refine pure_ (i := 33) (N := some 103) #[o1, o1, o1, o1, o1, o1, o1, o1, o1, o1, o1, o1, o1, o1, o1, o1, o1, o1, o1, o1, o1, o1, o1, o1, o1, o1, o1, o1, o1, o1, o1, o1, o1, o1, o0, o0] rfl rfl (any_of HT_.out (by kernel_rfl)) (fun _ _ _ h => h) (Or.inl ⟨by rfl, qy⟩) qz ?_; refine pure_ (i := 34) (N := some 104) #[o1, o1, o1, o1, o1, o1, o1, o1, o1, o1, o1, o1, o1, o1, o1, o1, o1, o1, o1, o1, o1, o1, o1, o1, o1, o1, o1, o1, o1, o1, o1, o1, o1, o1, o1, o0] rfl rfl (any_of HT_.out (by kernel_rfl)) (fun _ _ _ h => h) (Or.inl ⟨by rfl, qy⟩) qz ?_; refine pure_ (i := 35) (N := some 105) #[o1, o1, o1, o1, o1, o1, o1, o1, o1, o1, o1, o1, o1, o1, o1, o1, o1, o1, o1, o1, o1, o1, o1, o1, o1, o1, o1, o1, o1, o1, o1, o1, o1, o1, o1, o1] rfl rfl (any_of HT_.out (by kernel_rfl)) (fun _ _ _ h => h) (Or.inl ⟨by rfl, qy⟩) qz ?_; refine done_ (done_of HT_.out (by kernel_rfl)) ?_; try go_wp2
                        go_roundg k1
                        case measure => have := HK1.out; omega
                        case rel => exact ⟨(wrap64 (x5_1 + 1)), (by first | rfl | (simp; done) | (simp [*]; done)), H', ⟨by have := HK1.out; omega⟩, ⟨qB⟩⟩
                      rw [if_neg c18] at H; have c18b0 : (t122 == t125) = false := beq_eq_false_iff_ne.mpr c18; have c18b1 : (t122 != t125) = true := bne_iff_ne.mpr c18; exact absurd H (by simp)
                    rw [if_neg c17] at H; have c17b0 : (t121 == t124) = false := beq_eq_false_iff_ne.mpr c17; have c17b1 : (t121 != t124) = true := bne_iff_ne.mpr c17; exact absurd H (by simp)
                  rw [if_neg c16] at H; have c16b0 : (t115 == t119) = false := beq_eq_false_iff_ne.mpr c16; have c16b1 : (t115 != t119) = true := bne_iff_ne.mpr c16; exact absurd H (by simp)
                rw [if_neg c15] at H; have c15b0 : (t114 == t118) = false := beq_eq_false_iff_ne.mpr c15; have c15b1 : (t114 != t118) = true := bne_iff_ne.mpr c15; exact absurd H (by simp)
              rw [if_neg c14] at H; have c14b0 : (t113 == t117) = false := beq_eq_false_iff_ne.mpr c14; have c14b1 : (t113 != t117) = true := bne_iff_ne.mpr c14; exact absurd H (by simp)
            rw [if_neg c13] at H; have c13b0 : (t127 == t129) = false := beq_eq_false_iff_ne.mpr c13; have c13b1 : (t127 != t129) = true := bne_iff_ne.mpr c13; exact absurd H (by simp)
          rw [if_neg c6] at H; exact absurd H (by simp)
        rw [if_neg c5] at H; have c5b0 : decide (x5_1 < (l0.length : Int)) = false := zGq c5; clear c5; replace H := Option.bind_eq_some_iff.mp H; obtain ⟨⟨t103, t104, t105, t106⟩, A260, H⟩ := H; replace H : ((backhaulref21_Sum.f k1 l0).bind fun bt107 => (if t103 = bt107.1 then (if t104 = bt107.2.1 then (if t105 = bt107.2.2.1 then (if t106 = bt107.2.2.2 then ((backhaullaw21_awake.f).bind fun t111 => (if t111 = true then (some true) else (some false))) else (some false)) else (some false)) else (some false)) else (some false))) = some true := H; have A26 := zA A260; clear A260; replace H := Option.bind_eq_some_iff.mp H; obtain ⟨⟨t107, t108, t109, t110⟩, A270, H⟩ := H; replace H : (if t103 = t107 then (if t104 = t108 then (if t105 = t109 then (if t106 = t110 then ((backhaullaw21_awake.f).bind fun t111 => (if t111 = true then (some true) else (some false))) else (some false)) else (some false)) else (some false)) else (some false)) = some true := H; have A27 := zA A270; clear A270; by_cases c28 : t103 = t107
        · rw [if_pos c28] at H
          have c28b0 : (t103 == t107) = true := beq_iff_eq.mpr c28; have c28b1 : (t103 != t107) = false := bne_eq_false_iff_eq.mpr c28; clear c28; by_cases c29 : t104 = t108
          · rw [if_pos c29] at H
            have c29b0 : (t104 == t108) = true := beq_iff_eq.mpr c29; have c29b1 : (t104 != t108) = false := bne_eq_false_iff_eq.mpr c29; clear c29; by_cases c30 : t105 = t109
            · rw [if_pos c30] at H
              have c30b0 : (t105 == t109) = true := beq_iff_eq.mpr c30; have c30b1 : (t105 != t109) = false := bne_eq_false_iff_eq.mpr c30; clear c30; by_cases c31 : t106 = t110
              · rw [if_pos c31] at H
                have c31b0 : (t106 == t110) = true := beq_iff_eq.mpr c31; have c31b1 : (t106 != t110) = false := bne_eq_false_iff_eq.mpr c31; clear c31; replace H := Option.bind_eq_some_iff.mp H; obtain ⟨t111, A320, H⟩ := H; replace H : (if t111 = true then (some true) else (some false)) = some true := H; have A32 := zA A320; clear A320; by_cases c33 : t111 = true
                · subst c33
                  have H1 : (some true) = some true := by first | (rw [if_pos rfl] at H; exact H) | rfl
                  clear H; have H := H1; clear H1; clear H; go_wp2_with (first | ((with_reducible refine zJq (f := 71) rfl ?_); refine goesL_ (some 108) rfl rfl Try.func71 (by kernel_rfl) rfl #[.slice A0 l0.length c0] rfl (by (try simp only [zR, zS, zT]); first | done | rfl | (simp only [zP, zQ]; rfl)) ?_; (with_reducible refine (line_Sum.calls k1 _ _ l0 t103 t104 t105 t106 _ ?side1 ?side2 A26.out).mono ?_); (case side1 => exact qC (Kd.C_below HR0.out HB.out)); (case side2 => exact HC0.out); rintro e w34 ⟨rfl, hb⟩; refine ⟨_, rfl, ?_⟩; have n0_ := zA (zV qB hb); clear HB; have HB := n0_; clear n0_; (try clear hb); (try clear hb2); (try clear hk); (try clear hi)) | ((with_reducible refine zJq (f := 72) rfl ?_); refine goesL_ (some 115) rfl rfl Try.func72 (by kernel_rfl) rfl #[.slice A0 l0.length c0] rfl (by (try simp only [zR, zS, zT]); first | done | rfl | (simp only [zP, zQ]; rfl)) ?_; (with_reducible refine (backhaulref21_Sum.calls k1 _ _ l0 t107 t108 t109 t110 _ ?side1 ?side2 A27.out).mono ?_); (case side1 => exact qC (Kd.C_below HR0.out HB.out)); (case side2 => exact HC0.out); rintro e w35 ⟨rfl, hb⟩; refine ⟨_, rfl, ?_⟩; have n0_ := zA (zV qB hb); clear HB; have HB := n0_; clear n0_; (try clear hb); (try clear hb2); (try clear hk); (try clear hi)) | (go_at_call 61; (with_reducible refine (backhaullaw21_awake.calls  true _ A32.out).mono ?_); rintro e w36 ⟨rfl, hb⟩; have n0_ := zA (zV qB hb); clear HB; have HB := n0_; clear n0_; (try clear hb); (try clear hb2); (try clear hk); (try clear hi))); go_ret; exact ⟨qE, qB⟩
                replace c33 := Bool.eq_false_iff.mpr c33; subst c33; have H1 : (some false) = some true := by first | (rw [if_neg (show ¬ (false = true) by decide)] at H; exact H) | rfl
                clear H; have H := H1; clear H1; exact absurd H (by simp)
              rw [if_neg c31] at H; have c31b0 : (t106 == t110) = false := beq_eq_false_iff_ne.mpr c31; have c31b1 : (t106 != t110) = true := bne_iff_ne.mpr c31; exact absurd H (by simp)
            rw [if_neg c30] at H; have c30b0 : (t105 == t109) = false := beq_eq_false_iff_ne.mpr c30; have c30b1 : (t105 != t109) = true := bne_iff_ne.mpr c30; exact absurd H (by simp)
          rw [if_neg c29] at H; have c29b0 : (t104 == t108) = false := beq_eq_false_iff_ne.mpr c29; have c29b1 : (t104 != t108) = true := bne_iff_ne.mpr c29; exact absurd H (by simp)
        rw [if_neg c28] at H; have c28b0 : (t103 == t107) = false := beq_eq_false_iff_ne.mpr c28; have c28b1 : (t103 != t107) = true := bne_iff_ne.mpr c28; exact absurd H (by simp)
  replace c4 := Bool.eq_false_iff.mpr c4
  subst c4
  have H1 : ((backhaullaw21_awake.f).bind fun t102 => (if t102 = true then (some true) else (some false))) = some true := by first | (rw [if_neg (show ¬ (false = true) by decide)] at H; exact H) | rfl
  clear H
  have H := H1
  clear H1
  replace H := Option.bind_eq_some_iff.mp H
  obtain ⟨t102, A370, H⟩ := H
  replace H : (if t102 = true then (some true) else (some false)) = some true := H
  have A37 := zA A370
  clear A370
  by_cases c38 : t102 = true
  · subst c38
    have H1 : (some true) = some true := by first | (rw [if_pos rfl] at H; exact H) | rfl
    clear H; have H := H1; clear H1; clear H; go_enter Try.func14, Try.ntmps14; go_wp2_with (first | ((with_reducible refine zJq (f := 60) rfl ?_); refine goesL_ (some 25) rfl rfl Try.func60 (by kernel_rfl) rfl #[.slice A0 l0.length c0] rfl (by (try simp only [zR, zS, zT]); first | done | rfl | (simp only [zP, zQ]; rfl)) ?_; (with_reducible refine (backhaullaw21_Few.calls k _ _ l0 false _ ?side1 ?side2 A3.out).mono ?_); (case side1 => repeat (first | exact HR0.out | (with_reducible refine Kd.C_alloc ?_ _) | (with_reducible refine Kd.C_drewN ?_ _) | (with_reducible refine Kd.C_drew ?_))); (case side2 => exact HC0.out); rintro e w' ⟨rfl, ⟨nd, rfl⟩⟩; refine ⟨_, rfl, ?_⟩) | ((with_reducible refine zJq (f := 61) rfl ?_); refine goesL_ (some 27) rfl rfl Try.func61 (by kernel_rfl) rfl #[] rfl (by (try simp only [zR, zS, zT]); first | done | rfl | (simp only [zP, zQ]; rfl)) ?_; (with_reducible refine (backhaullaw21_awake.calls  true _ A37.out).mono ?_); rintro e w39 ⟨rfl, hb⟩; refine ⟨_, rfl, ?_⟩; have n0_ := zA (zV qB hb); clear HB; have HB := n0_; clear n0_; (try clear hb); (try clear hb2); (try clear hk); (try clear hi))); go_ret; exact ⟨qE, qB⟩
  replace c38 := Bool.eq_false_iff.mpr c38
  subst c38
  have H1 : (some false) = some true := by first | (rw [if_neg (show ¬ (false = true) by decide)] at H; exact H) | rfl
  clear H
  have H := H1
  clear H1
  exact absurd H (by simp)
def backhaullaw21_LineTells.Pure : Prop := ∀ (l0 : List (S71)) (a1 : Int), (l0.length ≤ maxLen ∧ ∀ x ∈ l0, ((Lit.int .i64 x.f0).wf = true ∧ (Lit.int .i64 x.f1).wf = true ∧ (Lit.int .i64 x.f2).wf = true ∧ (Lit.int .i64 x.f3).wf = true ∧ (x.f4.length ≤ maxLen ∧ ∀ y ∈ x.f4, y.size ≤ maxLen))) → (Lit.int .i64 a1).wf = true → ∃ k, backhaullaw21_LineTells.f k l0 a1 = some true
end Go.Proofs.Ytefhljhpcpajgaa.F
set_option linter.unusedVariables false
namespace Go.Proofs.Ytefhljhpcpajgaa.Q
open Go.RowKit
def sumI (l : List Int) : Int := l.foldr (· + ·) 0
theorem sumI_cons (a : Int) (l : List Int) : sumI (a :: l) = a + sumI l := rfl
theorem sumI_append (a b : List Int) : sumI (a ++ b) = sumI a + sumI b := by
  induction a with
  | nil => simp [sumI]
  | cons x a ih => rw [List.cons_append, sumI_cons, sumI_cons, ih]; omega
theorem sumI_mul (l : List Int) (c : Int) : sumI (l.map (fun x => c * x)) = c * sumI l := by
  induction l with
  | nil => simp [sumI]
  | cons x l ih => rw [List.map_cons, sumI_cons, sumI_cons, ih, Int.mul_add]
theorem sumI_add {α : Type} (l : List α) (f g : α → Int) : sumI (l.map (fun x => f x + g x)) = sumI (l.map f) + sumI (l.map g) := by
  induction l with
  | nil => simp [sumI]
  | cons x l ih => simp only [List.map_cons, sumI_cons, ih]; omega
theorem sumI_nonneg {l : List Int} (h : ∀ x ∈ l, 0 ≤ x) : 0 ≤ sumI l := by
  induction l with
  | nil => simp [sumI]
  | cons x l ih =>
    have := h x List.mem_cons_self
    have := ih (fun y hy => h y (List.mem_cons_of_mem _ hy))
    rw [sumI_cons]; omega
theorem sumI_mem_le {l : List Int} (h : ∀ x ∈ l, 0 ≤ x) {a : Int} (ha : a ∈ l) : a ≤ sumI l := by
  induction l with
  | nil => cases ha
  | cons x l ih =>
    have h0 := h x List.mem_cons_self
    have h1 := sumI_nonneg (fun y hy => h y (List.mem_cons_of_mem _ hy))
    rw [sumI_cons]
    rcases List.mem_cons.1 ha with rfl | ha
    · omega
    have := ih (fun y hy => h y (List.mem_cons_of_mem _ hy)) ha; omega
def prt (t s w : Int) : Int := t * w / s
def rst (t s w : Int) : Int := t * w % s
def leftI (t s : Int) (l : List Int) : Int := t - sumI (l.map (prt t s))
theorem left_mul {t s : Int} {l : List Int} (hs : sumI l = s) : leftI t s l * s = sumI (l.map (rst t s)) := by
  have e : sumI (l.map (fun w => t * w)) = sumI (l.map (fun w => s * prt t s w)) + sumI (l.map (rst t s)) := by
    rw [← sumI_add]
    congr 1
    refine List.map_congr_left fun w _ => ?_
    unfold prt rst
    rw [Int.add_comm]
    exact (Int.emod_add_mul_ediv (t * w) s).symm
  have e2 : sumI (l.map (fun w => s * prt t s w)) = s * sumI (l.map (prt t s)) := by
    rw [← sumI_mul, List.map_map]; rfl
  rw [sumI_mul, hs] at e
  unfold leftI
  rw [Int.sub_mul, e, e2, Int.mul_comm s]
  omega
theorem sum_rests {t s : Int} (hs : 0 < s) (l : List Int) : 0 ≤ sumI (l.map (rst t s)) ∧ sumI (l.map (rst t s)) ≤ ((l.countP (fun w => decide (0 < rst t s w)) : Nat) : Int) * (s - 1) := by
  induction l with
  | nil => simp [sumI]
  | cons w l ih =>
    have h0 : 0 ≤ rst t s w := Int.emod_nonneg _ (by omega)
    have h1 : rst t s w < s := Int.emod_lt_of_pos _ hs
    rw [List.map_cons, sumI_cons, List.countP_cons]
    refine ⟨by omega, ?_⟩
    by_cases h : 0 < rst t s w
    · rw [if_pos (decide_eq_true h), Int.natCast_add, Int.add_mul]
      omega
    rw [if_neg (by simpa using h)]
    simp only [Int.natCast_add, Int.natCast_zero, Int.add_zero]
    omega
theorem left_bound {t s : Int} {l : List Int} (hs : sumI l = s) (h0 : 0 < s) : 0 ≤ leftI t s l ∧ leftI t s l ≤ ((l.countP (fun w => decide (0 < rst t s w)) : Nat) : Int) ∧ (leftI t s l = 0 ∨ leftI t s l < ((l.countP (fun w => decide (0 < rst t s w)) : Nat) : Int)) := by
  have e := left_mul (t := t) hs
  obtain ⟨h1, h2⟩ := sum_rests (t := t) h0 l
  rw [← e] at h1 h2
  have p0 : 0 ≤ leftI t s l := Int.nonneg_of_mul_nonneg_left h1 h0
  have hC0 : (0 : Int) ≤ ((l.countP (fun w => decide (0 < rst t s w)) : Nat) : Int) := Int.natCast_nonneg _
  generalize hL : leftI t s l = L at *
  generalize ((l.countP (fun w => decide (0 < rst t s w)) : Nat) : Int) = C at *
  have p1 : L * s ≤ C * s - C := by rw [Int.mul_sub, Int.mul_one] at h2; exact h2
  have p2 : L = 0 ∨ L < C := by
    apply Classical.byContradiction
    intro hn
    have h3 : 0 < L ∧ C ≤ L := by omega
    have h4 : C * s ≤ L * s := Int.mul_le_mul_of_nonneg_right h3.2 (by omega)
    have h5 : 0 < L * s := Int.mul_pos h3.1 h0
    by_cases hC : 0 < C
    · omega
    have : C * s ≤ 0 := by
      have := Int.mul_le_mul_of_nonneg_right (show C ≤ 0 by omega) (show 0 ≤ s by omega)
      rwa [Int.zero_mul] at this
    have : C * (s - 1) ≤ 0 := by
      have := Int.mul_le_mul_of_nonneg_right (show C ≤ 0 by omega) (show 0 ≤ s - 1 by omega)
      rwa [Int.zero_mul] at this
    omega
  refine ⟨p0, ?_, p2⟩
  rcases p2 with h | h
  · omega
  omega
def wt (l : List Int) (i : Nat) : Int := l.getD i 0
def outAt (t s : Int) (l : List Int) (i : Nat) : Int := prt t s (wt l i) + if (rank (fun j => rst t s (wt l j)) l.length i : Int) < leftI t s l then 1 else 0
def outL (t s : Int) (l : List Int) : List Int := (List.range l.length).map (outAt t s l)
theorem range_map {α : Type} [Inhabited α] (l : List α) (d : α) : (List.range l.length).map (fun i => l.getD i d) = l := by
  apply List.ext_getElem
  · simp
  intro i h1 h2
  simp [List.getD_eq_getElem?_getD, h2]
end Go.Proofs.Ytefhljhpcpajgaa.Q
set_option linter.unusedVariables false
namespace Go.Proofs.Ytefhljhpcpajgaa.Q
open Go.RowKit Go.Proofs.Ytefhljhpcpajgaa.F Go.Proofs.YtefhljhpcpajgaaW.PrintWords Go.Proofs.YtefhljhpcpajgaaW.PrintLast Go.Proofs.YtefhljhpcpajgaaW.PrintMore
def amt (n : Int) : Prop := -1000000000000 ≤ n ∧ n ≤ 1000000000000
instance (n : Int) : Decidable (amt n) := by unfold amt; infer_instance
def toldS (n : Int) : Int × Int := if amt n then (n, 0) else (0, 8)
def sumS : Int → List Int → Int × Int
  | n, [] => (n, 0)
  | n, x :: xs => if amt x ∧ amt (n + x) then sumS (n + x) xs else (0, 8)
theorem in_f (n : Int) : cents_In.f n = some (decide (amt n)) := by
  unfold cents_In.f amt
  by_cases h : n ≥ -1000000000000
  · rw [if_pos h]; congr 1; exact decide_eq_decide.2 ⟨fun a => ⟨h, a⟩, fun a => a.2⟩
  rw [if_neg h]; congr 1; exact (decide_eq_false (fun a => h a.1)).symm
theorem told_f (n : Int) : cents_told.f n = some (toldS n) := by
  unfold cents_told.f toldS
  rw [in_f]
  by_cases h : amt n
  · simp [h]
  simp [h]
theorem cents_Add_l0 {l : List Int} (hl : l.length < 9223372036854775807) (d : Nat) : ∀ (i : Nat) (n : Int), l.length - i = d → i ≤ l.length → amt n →
    Ev (fun k => cents_Add.l0 k n l (l.length : Int) (i : Int)) (sumS n (l.drop i)) := by
  induction d with
  | zero =>
    intro i n hd hi hn
    refine Ev.step (fun k => by simp only [cents_Add.l0]; rfl) ?_
    refine Ev.neg (by omega) (Ev.ok ?_)
    rw [List.drop_eq_nil_of_le (by omega)]; rfl
  | succ d ih =>
    intro i n hd hi hn
    have h : i < l.length := by omega
    refine Ev.step (fun k => by simp only [cents_Add.l0]; rfl) ?_
    refine Ev.pos (by omega) (Ev.pos (by omega) (Ev.pos (by omega) ?_))
    rw [drop_cons h, rd_nat h]
    refine Q.Ev.bindc (in_f _) ?_
    by_cases h1 : amt l[i]
    · refine Ev.pos (decide_eq_true h1) ?_
      have hw : wrap64 (n + l[i]) = n + l[i] := by unfold amt at hn h1; exact wrap_eq (by omega) (by omega)
      rw [hw]
      refine Q.Ev.bindc (in_f _) ?_
      by_cases h2 : amt (n + l[i])
      · refine Ev.pos (decide_eq_true h2) ?_
        simp only [sumS]
        rw [if_pos ⟨h1, h2⟩, wrap_eq (by omega) (by omega)]
        exact ih (i + 1) _ (by omega) (by omega) h2
      refine Ev.neg (by simp [h2]) (Ev.ok ?_)
      simp only [sumS]; rw [if_neg (fun a => h2 a.2)]
    refine Ev.neg (by simp [h1]) (Ev.ok ?_)
    simp only [sumS]; rw [if_neg (fun a => h1 a.1)]
theorem amt0 : amt 0 := by unfold amt; omega
theorem cents_Add_f {l : List Int} (hl : l.length < 9223372036854775807) : Ev (fun k => cents_Add.f k l) (sumS 0 l) := by
  unfold cents_Add.f
  exact cents_Add_l0 hl l.length 0 0 (by omega) (by omega) amt0
theorem and32 {x : Int} (h0 : 0 ≤ x) (h1 : x < 18446744073709551616) : Go.bits .and .u64 x 4294967295 = x % 4294967296 :=
  Go.bits_mask .u64 64 (by decide) (fun n h0 h1 => u64_eq h0 h1) 32 (by decide) x h0 h1
theorem mul64_f {a b : Int} (ha0 : 0 ≤ a) (ha : a < 18446744073709551616) (hb0 : 0 ≤ b) (hb : b < 18446744073709551616) :
    bits_Mul64.f a b = some (a * b / 18446744073709551616, a * b % 18446744073709551616) := by
  unfold bits_Mul64.f
  rw [and32 ha0 ha, and32 hb0 hb]
  obtain ⟨ah, hah⟩ : ∃ x, x = a / 4294967296 := ⟨_, rfl⟩
  obtain ⟨al, hal⟩ : ∃ x, x = a % 4294967296 := ⟨_, rfl⟩
  obtain ⟨bh, hbh⟩ : ∃ x, x = b / 4294967296 := ⟨_, rfl⟩
  obtain ⟨bl, hbl⟩ : ∃ x, x = b % 4294967296 := ⟨_, rfl⟩
  rw [← hah, ← hal, ← hbh, ← hbl]
  have ea : a = ah * 4294967296 + al := by omega
  have eb : b = bh * 4294967296 + bl := by omega
  have bnd : ∀ x y : Int, 0 ≤ x → x ≤ 4294967295 → 0 ≤ y → y ≤ 4294967295 → 0 ≤ x * y ∧ x * y ≤ 18446744065119617025 := by
    intro x y hx0 hx hy0 hy
    refine ⟨Int.mul_nonneg hx0 hy0, ?_⟩
    have := Int.mul_le_mul hx hy hy0 (by omega)
    omega
  obtain ⟨p, hp⟩ : ∃ x, x = ah * bh := ⟨_, rfl⟩
  obtain ⟨q, hq⟩ : ∃ x, x = ah * bl := ⟨_, rfl⟩
  obtain ⟨r, hr⟩ : ∃ x, x = al * bh := ⟨_, rfl⟩
  obtain ⟨s, hs⟩ : ∃ x, x = al * bl := ⟨_, rfl⟩
  have bp := bnd ah bh (by omega) (by omega) (by omega) (by omega)
  have bq := bnd ah bl (by omega) (by omega) (by omega) (by omega)
  have br := bnd al bh (by omega) (by omega) (by omega) (by omega)
  have bs := bnd al bl (by omega) (by omega) (by omega) (by omega)
  have e : a * b = p * 18446744073709551616 + (q + r) * 4294967296 + s := by
    rw [ea, eb, hp, hq, hr, hs]
    simp only [Int.add_mul, Int.mul_add]
    rw [show ah * 4294967296 * (bh * 4294967296) = ah * bh * 18446744073709551616 by rw [Int.mul_assoc, Int.mul_left_comm 4294967296 bh, Int.mul_assoc ah bh]; rfl, show ah * 4294967296 * bl = ah * bl * 4294967296 by rw [Int.mul_right_comm], show al * (bh * 4294967296) = al * bh * 4294967296 by rw [Int.mul_assoc]]
    omega
  rw [← hp] at bp
  rw [← hq] at bq
  rw [← hr] at br
  rw [← hs] at bs
  rw [← hp, ← hq, ← hr, ← hs, e]
  clear e hp hq hr hs ea eb hah hal hbh hbl
  rw [u64_eq (x := p) (by omega) (by omega), u64_eq (x := q) (by omega) (by omega), u64_eq (x := r) (by omega) (by omega), u64_eq (x := s) (by omega) (by omega)]
  rw [u64_eq (x := q + s / 4294967296) (by omega) (by omega)]
  rw [u64_eq (x := p + (q + s / 4294967296) / 4294967296) (by omega) (by omega)]
  rw [and32 (x := q + s / 4294967296) (by omega) (by omega)]
  rw [u64_eq (x := (q + s / 4294967296) % 4294967296 + r) (by omega) (by omega)]
  rw [u64_eq (x := p + (q + s / 4294967296) / 4294967296 + ((q + s / 4294967296) % 4294967296 + r) / 4294967296) (by omega) (by omega)]
  have hw : IntKind.u64.wrap (p * 18446744073709551616 + (q + r) * 4294967296 + s) = (p * 18446744073709551616 + (q + r) * 4294967296 + s) % 18446744073709551616 := by simp [IntKind.wrap, IntKind.signed, IntKind.bits]
  rw [hw]
  congr 2
  omega
theorem product_f {a b : Int} (ha0 : 0 ≤ a) (ha : a < 18446744073709551616) (hb0 : 0 ≤ b) (hb : b < 18446744073709551616) :
    cents_product.f a b = some (a * b / 18446744073709551616, a * b % 18446744073709551616) := by
  unfold cents_product.f
  rw [mul64_f ha0 ha hb0 hb]
  rfl
theorem above_f {x y : Int} (hx0 : 0 ≤ x) (hy0 : 0 ≤ y) : cents_wide_above.f (x / 18446744073709551616) (x % 18446744073709551616) (y / 18446744073709551616) (y % 18446744073709551616) = some (decide (x > y)) := by
  unfold cents_wide_above.f
  split
  · exact congrArg some (decide_eq_true (by omega)).symm
  split
  · exact congrArg some (decide_eq_decide.2 (by omega))
  exact congrArg some (decide_eq_false (by omega)).symm
end Go.Proofs.Ytefhljhpcpajgaa.Q
set_option linter.unusedVariables false
set_option maxRecDepth 4000
namespace Go.Proofs.Ytefhljhpcpajgaa.Q
open Go.RowKit Go.Proofs.Ytefhljhpcpajgaa.F Go.Proofs.YtefhljhpcpajgaaW.PrintWords Go.Proofs.YtefhljhpcpajgaaW.PrintLast Go.Proofs.YtefhljhpcpajgaaW.PrintMore
abbrev tab8 : ByteArray := (⟨#[0, 1, 2, 2, 3, 3, 3, 3, 4, 4, 4, 4, 4, 4, 4, 4, 5, 5, 5, 5, 5, 5, 5, 5, 5, 5, 5, 5, 5, 5, 5, 5, 6, 6, 6, 6, 6, 6, 6, 6, 6, 6, 6, 6, 6, 6, 6, 6, 6, 6, 6, 6, 6, 6, 6, 6, 6, 6, 6, 6, 6, 6, 6, 6, 7, 7, 7, 7, 7, 7, 7, 7, 7, 7, 7, 7, 7, 7, 7, 7, 7, 7, 7, 7, 7, 7, 7, 7, 7, 7, 7, 7, 7, 7, 7, 7, 7, 7, 7, 7, 7, 7, 7, 7, 7, 7, 7, 7, 7, 7, 7, 7, 7, 7, 7, 7, 7, 7, 7, 7, 7, 7, 7, 7, 7, 7, 7, 7, 8, 8, 8, 8, 8, 8, 8, 8, 8, 8, 8, 8, 8, 8, 8, 8, 8, 8, 8, 8, 8, 8, 8, 8, 8, 8, 8, 8, 8, 8, 8, 8, 8, 8, 8, 8, 8, 8, 8, 8, 8, 8, 8, 8, 8, 8, 8, 8, 8, 8, 8, 8, 8, 8, 8, 8, 8, 8, 8, 8, 8, 8, 8, 8, 8, 8, 8, 8, 8, 8, 8, 8, 8, 8, 8, 8, 8, 8, 8, 8, 8, 8, 8, 8, 8, 8, 8, 8, 8, 8, 8, 8, 8, 8, 8, 8, 8, 8, 8, 8, 8, 8, 8, 8, 8, 8, 8, 8, 8, 8, 8, 8, 8, 8, 8, 8, 8, 8, 8, 8, 8, 8, 8, 8, 8, 8, 8, 8]⟩ : ByteArray)
def len8ok (x : Nat) : Bool := let t := (bt tab8 (x : Int)).toNat; decide (bt tab8 (x : Int) = (t : Int)) && decide (t ≤ 8) && decide (x < 2 ^ t) && (x == 0 || (decide (1 ≤ t) && decide (2 ^ (t - 1) ≤ x)))
theorem len8_all : (List.range 256).all len8ok = true := by decide +kernel
theorem len8 {x : Int} (h0 : 0 ≤ x) (h1 : x < 256) : ∃ t : Nat, bt tab8 x = (t : Int) ∧ t ≤ 8 ∧ x < (2 : Int) ^ t ∧ (0 < x → 1 ≤ t ∧ (2 : Int) ^ (t - 1) ≤ x) := by
  obtain ⟨n, rfl⟩ := Int.eq_ofNat_of_zero_le h0
  have h := List.all_eq_true.1 len8_all n (List.mem_range.2 (by omega))
  unfold len8ok at h
  simp only [Bool.and_eq_true, decide_eq_true_eq, Bool.or_eq_true, beq_iff_eq] at h
  obtain ⟨⟨⟨ha, hb⟩, hc⟩, hd⟩ := h
  refine ⟨_, ha, hb, by exact_mod_cast hc, fun hp => ?_⟩
  rcases hd with hd | hd
  · omega
  exact ⟨hd.1, by exact_mod_cast hd.2⟩
theorem up_pow {x : Int} {m t : Nat} (hx : 0 ≤ x) (ht : 1 ≤ t) (h1 : (2 : Int) ^ (t - 1) ≤ x / 2 ^ m) (h2 : x / 2 ^ m < (2 : Int) ^ t) : (2 : Int) ^ (m + t - 1) ≤ x ∧ x < (2 : Int) ^ (m + t) := by
  have hp : (0 : Int) < 2 ^ m := Int.pow_pos (by decide)
  constructor
  · rw [show m + t - 1 = (t - 1) + m by omega, Int.pow_add]
    exact (Int.le_ediv_iff_mul_le hp).1 h1
  rw [Nat.add_comm, Int.pow_add]
  exact (Int.ediv_lt_iff_lt_mul hp).1 h2
theorem len64_j0 {x c : Int} (hx0 : 0 < x) (hx : x < 4294967296) (hc0 : 0 ≤ c) (hc : c ≤ 32) : ∃ n : Nat, Ev (fun k => bits_Len64.j0 k x c) (c + n) ∧ 1 ≤ n ∧ n ≤ 32 ∧ (2 : Int) ^ (n - 1) ≤ x ∧ x < (2 : Int) ^ n := by
  by_cases h1 : x ≥ 65536
  · by_cases h2 : x / 65536 ≥ 256
    · obtain ⟨t, e, ht, hlt, hpos⟩ := len8 (x := x / 65536 / 256 % 256) (by omega) (by omega)
      obtain ⟨h3, h4⟩ := hpos (by omega)
      have e2 : x / 65536 / 256 % 256 = x / 2 ^ 24 := by rw [show (2 : Int) ^ 24 = 16777216 by decide]; omega
      rw [e2] at hlt h4
      obtain ⟨h5, h6⟩ := up_pow (m := 24) (by omega) h3 h4 hlt
      refine ⟨24 + t, Ev.step (fun k => by simp only [bits_Len64.j0]; rfl) ?_, by omega, by omega, h5, h6⟩
      refine Ev.pos h1 (Ev.pos h2 (Ev.pos (by omega) (Ev.pos (by omega) (Ev.ok ?_))))
      rw [e, wrap_eq (x := c + 16) (by omega) (by omega), wrap_eq (x := (t : Int)) (by omega) (by omega), wrap_eq (x := c + 16 + 8) (by omega) (by omega), wrap_eq (by omega) (by omega)]
      omega
    obtain ⟨t, e, ht, hlt, hpos⟩ := len8 (x := x / 65536 % 256) (by omega) (by omega)
    obtain ⟨h3, h4⟩ := hpos (by omega)
    have e2 : x / 65536 % 256 = x / 2 ^ 16 := by rw [show (2 : Int) ^ 16 = 65536 by decide]; omega
    rw [e2] at hlt h4
    obtain ⟨h5, h6⟩ := up_pow (m := 16) (by omega) h3 h4 hlt
    refine ⟨16 + t, Ev.step (fun k => by simp only [bits_Len64.j0]; rfl) ?_, by omega, by omega, h5, h6⟩
    refine Ev.pos h1 (Ev.neg h2 (Ev.pos (by omega) (Ev.pos (by omega) (Ev.ok ?_))))
    rw [e, wrap_eq (x := c + 16) (by omega) (by omega), wrap_eq (x := (t : Int)) (by omega) (by omega), wrap_eq (by omega) (by omega)]
    omega
  by_cases h2 : x ≥ 256
  · obtain ⟨t, e, ht, hlt, hpos⟩ := len8 (x := x / 256 % 256) (by omega) (by omega)
    obtain ⟨h3, h4⟩ := hpos (by omega)
    have e2 : x / 256 % 256 = x / 2 ^ 8 := by rw [show (2 : Int) ^ 8 = 256 by decide]; omega
    rw [e2] at hlt h4
    obtain ⟨h5, h6⟩ := up_pow (m := 8) (by omega) h3 h4 hlt
    refine ⟨8 + t, Ev.step (fun k => by simp only [bits_Len64.j0]; rfl) ?_, by omega, by omega, h5, h6⟩
    refine Ev.neg h1 (Ev.pos h2 (Ev.pos (by omega) (Ev.pos (by omega) (Ev.ok ?_))))
    rw [e, wrap_eq (x := c + 8) (by omega) (by omega), wrap_eq (x := (t : Int)) (by omega) (by omega), wrap_eq (by omega) (by omega)]
    omega
  obtain ⟨t, e, ht, hlt, hpos⟩ := len8 (x := x % 256) (by omega) (by omega)
  obtain ⟨h3, h4⟩ := hpos (by omega)
  have e2 : x % 256 = x := by omega
  rw [e2] at hlt h4
  refine ⟨t, Ev.step (fun k => by simp only [bits_Len64.j0]; rfl) ?_, by omega, by omega, h4, hlt⟩
  refine Ev.neg h1 (Ev.neg h2 (Ev.pos (by omega) (Ev.pos (by omega) (Ev.ok ?_))))
  rw [e, wrap_eq (x := (t : Int)) (by omega) (by omega), wrap_eq (by omega) (by omega)]
theorem len64_f {x : Int} (hx0 : 0 < x) (hx : x < 18446744073709551616) : ∃ n : Nat, Ev (fun k => bits_Len64.f k x) (n : Int) ∧ 1 ≤ n ∧ n ≤ 64 ∧ (2 : Int) ^ (n - 1) ≤ x ∧ x < (2 : Int) ^ n := by
  by_cases h : x ≥ 4294967296
  · obtain ⟨n, h1, h2, h3, h4, h5⟩ := len64_j0 (x := x / 4294967296) (c := 32) (by omega) (by omega) (by omega) (by omega)
    have e2 : (4294967296 : Int) = 2 ^ 32 := by decide
    obtain ⟨h6, h7⟩ := up_pow (m := 32) (x := x) (by omega) h2 (by rw [← e2]; exact h4) (by rw [← e2]; exact h5)
    refine ⟨32 + n, ?_, by omega, by omega, h6, h7⟩
    unfold bits_Len64.f
    refine Ev.pos h ?_
    have := h1
    rwa [show (32 : Int) + n = ((32 + n : Nat) : Int) by omega] at this
  obtain ⟨n, h1, h2, h3, h4, h5⟩ := len64_j0 (x := x) (c := 0) (by omega) (by omega) (by omega) (by omega)
  refine ⟨n, ?_, by omega, by omega, h4, h5⟩
  unfold bits_Len64.f
  refine Ev.neg h ?_
  rwa [Int.zero_add] at h1
theorem u64_mod (x : Int) : IntKind.u64.wrap x = x % 18446744073709551616 := by simp [IntKind.wrap, IntKind.signed, IntKind.bits]
theorem digit {Y y1 y0 u d q r U Q : Int} (hY : Y = y1 * 4294967296 + y0) (h1 : 2147483648 ≤ y1) (h0 : 0 ≤ y0) (h0' : y0 < 4294967296) (hu0 : 0 ≤ u) (hu : u < Y) (hd0 : 0 ≤ d) (hd : d < 4294967296)
    (hU : U = u * 4294967296 + d) (hQ : Q = U / Y) (hqr : q * y1 + r = u) (hq0 : 0 ≤ q) (hq : q ≤ 4294967297) (hr0 : 0 ≤ r) (hr : r < 4294967296) (hge : Q ≤ q) :
    ((q ≥ 4294967296 ∨ q < 4294967296 ∧ 4294967296 * r + d < q * y0) ∧ Q ≤ q - 1 ∧ 1 ≤ q ∧ (r + y1 ≥ 4294967296 → q - 1 = Q)) ∨ (q < 4294967296 ∧ ¬ (4294967296 * r + d < q * y0) ∧ q = Q) := by
  have hYp : 0 < Y := by omega
  have eq : q * Y = (u - r) * 4294967296 + q * y0 := by
    rw [hY, Int.mul_add, ← Int.mul_assoc, show q * y1 = u - r by omega]
  have hlt : ∀ z : Int, Q < z ↔ U < z * Y := fun z => by rw [hQ]; exact Int.ediv_lt_iff_lt_mul hYp
  have hQ0 : 0 ≤ Q := by rw [hQ]; exact Int.ediv_nonneg (by omega) (by omega)
  have brk : Q ≤ q - 1 → r + y1 ≥ 4294967296 → q - 1 = Q := by
    intro h2 h3
    have h4 : ¬ (Q < q - 1) := by
      rw [hlt, Int.sub_mul, eq, hY, Int.one_mul]
      have : (q - 1) * y0 ≤ 4294967296 * y0 := Int.mul_le_mul_of_nonneg_right (by omega) h0
      rw [Int.sub_mul, Int.one_mul] at this
      omega
    omega
  by_cases h2 : q ≥ 4294967296
  · have h3 : Q < q := by
      have : Q < 4294967296 := by rw [hlt]; omega
      omega
    exact .inl ⟨.inl h2, by omega, by omega, brk (by omega)⟩
  by_cases h3 : 4294967296 * r + d < q * y0
  · have h4 : Q < q := by rw [hlt, eq]; omega
    exact .inl ⟨.inr ⟨by omega, h3⟩, by omega, by omega, brk (by omega)⟩
  have h4 : ¬ Q < q := by rw [hlt, eq]; omega
  exact .inr ⟨by omega, h3, by omega⟩
theorem rest_word {Y u d U Q : Int} (hY : 0 < Y) (hY' : Y < 18446744073709551616) (hU : U = u * 4294967296 + d) (hQ : Q = U / Y) : IntKind.u64.wrap (IntKind.u64.wrap (IntKind.u64.wrap (u * 4294967296) + d) - IntKind.u64.wrap (Q * Y)) = U % Y := by
  simp only [u64_mod]
  have h1 := Int.emod_nonneg U (show Y ≠ 0 by omega)
  have h2 := Int.emod_lt_of_pos U hY
  have h3 : U % Y = U - Q * Y := by rw [Int.emod_def, hQ, Int.mul_comm]
  rw [h3] at h1 h2 ⊢
  omega
structure Div1 (Y y1 y0 : Int) : Prop where
  eq : Y = y1 * 4294967296 + y0
  lo : 2147483648 ≤ y1
  hi : y1 < 4294967296
  z0 : 0 ≤ y0
  z1 : y0 < 4294967296
theorem div_l1 {Y y1 y0 u d s q1 U Q : Int} (D : Div1 Y y1 y0) (hu0 : 0 ≤ u) (hu : u < Y) (hd0 : 0 ≤ d) (hd : d < 4294967296) (hs : 0 ≤ s) (hU : U = u * 4294967296 + d) (hQ : Q = U / Y) (m : Nat) :
    ∀ q r : Int, q * y1 + r = u → 0 ≤ q → q ≤ 4294967297 → 0 ≤ r → r < 4294967296 → Q ≤ q → 4294967296 ≤ r + m * 2147483648 →
    Ev (fun k => bits_Div64.l1 k Y s y1 y0 d q1 r u q) (IntKind.u64.wrap (IntKind.u64.wrap (q1 * 4294967296) + Q), shr .u64 (U % Y) s) := by
  obtain ⟨hY, h1, h1', h0, h0'⟩ := D
  induction m with
  | zero => intro q r _ _ _ _ _ _ hm; omega
  | succ m ih =>
    intro q r hqr hq0 hq hr0 hr hge hm
    have H := digit hY h1 h0 h0' hu0 hu hd0 hd hU hQ hqr hq0 hq hr0 hr hge
    have rw_ := rest_word (show 0 < Y by omega) (by omega) hU hQ
    have yes : ((q ≥ 4294967296 ∨ q < 4294967296 ∧ 4294967296 * r + d < q * y0) ∧ Q ≤ q - 1 ∧ 1 ≤ q ∧ (r + y1 ≥ 4294967296 → q - 1 = Q)) → Ev (fun k => bits_Div64.j4 k Y s y1 y0 d q1 r u q true) (IntKind.u64.wrap (IntKind.u64.wrap (q1 * 4294967296) + Q), shr .u64 (U % Y) s) := by
      rintro ⟨_, h3, h4, h5⟩
      refine Ev.step (fun k => by simp only [bits_Div64.j4]; rfl) ?_
      refine Ev.pos (by first | trivial | rfl) ?_
      rw [u64_eq (x := r + y1) (by omega) (by omega), u64_eq (x := q - 1) (by omega) (by omega)]
      refine Ev.ite (fun h6 => Ev.pos hs (Ev.ok ?_)) (fun h6 => ?_)
      · rw [h5 h6, rw_]
      exact ih (q - 1) (r + y1) (by rw [Int.sub_mul]; omega) (by omega) (by omega) (by omega) (by omega) h3 (by omega)
    have no : q = Q → Ev (fun k => bits_Div64.j4 k Y s y1 y0 d q1 r u q false) (IntKind.u64.wrap (IntKind.u64.wrap (q1 * 4294967296) + Q), shr .u64 (U % Y) s) := by
      rintro rfl
      refine Ev.step (fun k => by simp only [bits_Div64.j4]; rfl) ?_
      refine Ev.neg (by decide) (Ev.pos hs (Ev.ok ?_))
      rw [rw_]
    refine Ev.step (fun k => by simp only [bits_Div64.l1]; rfl) ?_
    refine Ev.ite (fun h6 => ?_) (fun h6 => ?_)
    · rcases H with H | H
      · exact yes H
      omega
    have hb : q * y0 ≤ 4294967295 * 4294967295 := Int.mul_le_mul (by omega) (by omega) h0 (by decide)
    have hb0 : 0 ≤ q * y0 := Int.mul_nonneg hq0 h0
    rw [u64_eq (x := q * y0) hb0 (by omega), u64_eq (x := 4294967296 * r) (by omega) (by omega), u64_eq (x := 4294967296 * r + d) (by omega) (by omega)]
    rcases H with H | H
    · rw [decide_eq_true (by omega)]; exact yes H
    rw [decide_eq_false (by omega)]; exact no H.2.2
theorem div_l0 {Y y1 y0 u d d0 s U Q : Int} {R : Int × Int} (D : Div1 Y y1 y0) (hu0 : 0 ≤ u) (hu : u < Y) (hd0 : 0 ≤ d) (hd : d < 4294967296) (hU : U = u * 4294967296 + d) (hQ : Q = U / Y)
    (next : Ev (fun k => bits_Div64.j2 k Y s y1 y0 u d d0 Q) R) (m : Nat) :
    ∀ q r : Int, q * y1 + r = u → 0 ≤ q → q ≤ 4294967297 → 0 ≤ r → r < 4294967296 → Q ≤ q → 4294967296 ≤ r + m * 2147483648 →
    Ev (fun k => bits_Div64.l0 k Y s y1 y0 u d d0 q r) R := by
  obtain ⟨hY, h1, h1', h0, h0'⟩ := D
  induction m with
  | zero => intro q r _ _ _ _ _ _ hm; omega
  | succ m ih =>
    intro q r hqr hq0 hq hr0 hr hge hm
    have H := digit hY h1 h0 h0' hu0 hu hd0 hd hU hQ hqr hq0 hq hr0 hr hge
    have yes : ((q ≥ 4294967296 ∨ q < 4294967296 ∧ 4294967296 * r + d < q * y0) ∧ Q ≤ q - 1 ∧ 1 ≤ q ∧ (r + y1 ≥ 4294967296 → q - 1 = Q)) → Ev (fun k => bits_Div64.j1 k Y s y1 y0 u d d0 q r true) R := by
      rintro ⟨_, h3, h4, h5⟩
      refine Ev.step (fun k => by simp only [bits_Div64.j1]; rfl) ?_
      refine Ev.pos (by first | trivial | rfl) ?_
      rw [u64_eq (x := r + y1) (by omega) (by omega), u64_eq (x := q - 1) (by omega) (by omega)]
      refine Ev.ite (fun h6 => ?_) (fun h6 => ?_)
      · rw [h5 h6]; exact next
      exact ih (q - 1) (r + y1) (by rw [Int.sub_mul]; omega) (by omega) (by omega) (by omega) (by omega) h3 (by omega)
    have no : q = Q → Ev (fun k => bits_Div64.j1 k Y s y1 y0 u d d0 q r false) R := by
      rintro rfl
      refine Ev.step (fun k => by simp only [bits_Div64.j1]; rfl) ?_
      exact Ev.neg (by decide) next
    refine Ev.step (fun k => by simp only [bits_Div64.l0]; rfl) ?_
    refine Ev.ite (fun h6 => ?_) (fun h6 => ?_)
    · rcases H with H | H
      · exact yes H
      omega
    have hb : q * y0 ≤ 4294967295 * 4294967295 := Int.mul_le_mul (by omega) (by omega) h0 (by decide)
    have hb0 : 0 ≤ q * y0 := Int.mul_nonneg hq0 h0
    rw [u64_eq (x := q * y0) hb0 (by omega), u64_eq (x := 4294967296 * r) (by omega) (by omega), u64_eq (x := 4294967296 * r + d) (by omega) (by omega)]
    rcases H with H | H
    · rw [decide_eq_true (by omega)]; exact yes H
    rw [decide_eq_false (by omega)]; exact no H.2.2
theorem guess {Y y1 y0 u d U Q : Int} (D : Div1 Y y1 y0) (hu0 : 0 ≤ u) (hu : u < Y) (hd0 : 0 ≤ d) (hd : d < 4294967296) (hU : U = u * 4294967296 + d) (hQ : Q = U / Y) :
    ∃ q r : Int, IntKind.u64.wrap (Int.tdiv u y1) = q ∧ IntKind.u64.wrap (u - IntKind.u64.wrap (q * y1)) = r ∧ q * y1 + r = u ∧ 0 ≤ q ∧ q ≤ 4294967297 ∧ 0 ≤ r ∧ r < 4294967296 ∧ Q ≤ q := by
  obtain ⟨hY, h1, h1', h0, h0'⟩ := D
  have hq0 : 0 ≤ u / y1 := Int.ediv_nonneg hu0 (by omega)
  have hq : u / y1 < 4294967298 := by rw [Int.ediv_lt_iff_lt_mul (by omega)]; omega
  have hm := Int.emod_def u y1
  have hr0 := Int.emod_nonneg u (show y1 ≠ 0 by omega)
  have hr := Int.emod_lt_of_pos u (show 0 < y1 by omega)
  have hc : u / y1 * y1 = u - u % y1 := by rw [Int.mul_comm]; omega
  have hcp : 0 ≤ u / y1 * y1 := Int.mul_nonneg hq0 (by omega)
  refine ⟨u / y1, u % y1, ?_, ?_, by omega, hq0, by omega, hr0, by omega, ?_⟩
  · rw [Int.tdiv_eq_ediv_of_nonneg hu0, u64_eq hq0 (by omega)]
  · rw [hc, u64_eq (x := u - u % y1) (by omega) (by omega), show u - (u - u % y1) = u % y1 by omega, u64_eq (by omega) (by omega)]
  have hlt : Q < u / y1 + 1 := by
    rw [hQ, Int.ediv_lt_iff_lt_mul (by omega), hY, Int.mul_add, ← Int.mul_assoc, Int.add_mul, hc, Int.one_mul]
    have : 0 ≤ (u / y1 + 1) * y0 := Int.mul_nonneg (by omega) h0
    omega
  omega
theorem shl_at {x y s : Int} {n : Nat} (hs : s = (n : Int)) (hn : n ≤ 64) (h : x * 2 ^ n = y) (h0 : 0 ≤ y) (h1 : y < 18446744073709551616) : shl .u64 x s = y := by
  unfold shl
  rw [hs, Int.toNat_natCast, Nat.min_eq_left (by simpa [IntKind.bits] using hn), h, u64_eq h0 h1]
theorem and32' {x : Int} (h0 : 0 ≤ x) (h1 : x < 18446744073709551616) : Go.bits .and .u64 x 4294967295 = x % 4294967296 :=
  Go.bits_mask .u64 64 (by decide) (fun n h0 h1 => u64_eq h0 h1) 32 (by decide) x h0 h1
theorem div64_f {a b c : Int} (ha0 : 0 ≤ a) (ha : a < c) (hb0 : 0 ≤ b) (hb : b < 18446744073709551616) (hc : c < 18446744073709551616) :
    Ev (fun k => bits_Div64.f k a b c) ((a * 18446744073709551616 + b) / c, (a * 18446744073709551616 + b) % c) := by
  have hc0 : 0 < c := by omega
  unfold bits_Div64.f
  refine Ev.neg (by omega) (Ev.neg (by omega) ?_)
  by_cases hz : a = 0
  · refine Ev.pos hz (Ev.ok ?_)
    subst hz
    rw [Int.zero_mul, Int.zero_add, Int.tdiv_eq_ediv_of_nonneg hb0, Int.tmod_eq_emod_of_nonneg hb0]
    have h1 := Int.ediv_nonneg hb0 (show 0 ≤ c by omega)
    have h2 := Int.ediv_le_self c hb0
    rw [u64_eq h1 (by omega)]
  refine Ev.neg hz ?_
  obtain ⟨n, hev, hn1, hn2, hlo, hhi⟩ := len64_f hc0 hc
  obtain ⟨s, hs⟩ : ∃ s : Nat, s = 64 - n := ⟨_, rfl⟩
  have hsn : s + n = 64 := by omega
  have hs63 : s ≤ 63 := by omega
  obtain ⟨p, hp⟩ : ∃ p : Int, p = 2 ^ s := ⟨_, rfl⟩
  obtain ⟨r, hr⟩ : ∃ r : Int, r = 2 ^ n := ⟨_, rfl⟩
  have hp0 : 0 < p := by rw [hp]; exact Int.pow_pos (by decide)
  have hr0 : 0 < r := by rw [hr]; exact Int.pow_pos (by decide)
  have hpr : p * r = 18446744073709551616 := by rw [hp, hr, ← Int.pow_add, hsn]; decide
  have hY1 : c * p < 18446744073709551616 := by
    rw [← hpr, Int.mul_comm p r]
    exact Int.mul_lt_mul_of_pos_right (by rw [hr]; exact hhi) hp0
  have hY0 : 9223372036854775808 ≤ c * p := by
    have h1 : (2 : Int) ^ (n - 1) * p ≤ c * p := Int.mul_le_mul_of_nonneg_right hlo (by omega)
    have h2 : (2 : Int) ^ (n - 1) * p = 9223372036854775808 := by
      rw [hp, ← Int.pow_add, show n - 1 + s = 63 by omega]; decide
    omega
  obtain ⟨Y, hY⟩ : ∃ Y, Y = c * p := ⟨_, rfl⟩
  rw [← hY] at hY0 hY1
  have haY : a * p < Y := by rw [hY]; exact Int.mul_lt_mul_of_pos_right ha hp0
  have hap0 : 0 ≤ a * p := Int.mul_nonneg ha0 (by omega)
  have hbr0 : 0 ≤ b / r := Int.ediv_nonneg hb0 (by omega)
  have hbr : b / r < p := by rw [Int.ediv_lt_iff_lt_mul hr0, hpr]; exact hb
  have eY : shl .u64 c (s : Int) = Y := shl_at rfl (by omega) (by rw [hY, hp]) (by omega) hY1
  have ea : shl .u64 a (s : Int) = a * p := shl_at rfl (by omega) (by rw [hp]) hap0 (by omega)
  have eb : shr .u64 b (n : Int) = b / r := by
    unfold shr
    rw [Int.toNat_natCast, Nat.min_eq_left (by simpa [IntKind.bits] using hn2), hr]
  have eb2 : shl .u64 b (s : Int) = (b * p) % 18446744073709551616 := by
    unfold shl
    rw [Int.toNat_natCast, Nat.min_eq_left (by simp [IntKind.bits]; omega), u64_mod, hp]
  have hor : Go.bits .or .u64 (a * p) (b / r) = a * p + b / r := by
    refine Go.bits_join .u64 64 (by decide) (fun n h0 h1 => u64_eq h0 h1) s (a * p) (b / r) hap0 ?_ ?_ hbr0 ?_ ?_
    · rw [hp]; exact Int.mul_emod_left _ _
    · exact Int.lt_trans haY hY1
    · rw [← hp]; exact hbr
    have : p ≤ 18446744073709551616 := by
      rw [← hpr]
      have := Int.mul_le_mul_of_nonneg_left (show (1 : Int) ≤ r by omega) (show 0 ≤ p by omega)
      omega
    exact Int.lt_of_lt_of_le hbr this
  obtain ⟨u, hu⟩ : ∃ u, u = a * p + b / r := ⟨_, rfl⟩
  rw [← hu] at hor
  have huY : u < Y := by
    have h1 : (a + 1) * p ≤ c * p := Int.mul_le_mul_of_nonneg_right (by omega) (by omega)
    rw [Int.add_mul, Int.one_mul, ← hY] at h1
    omega
  have hu0 : 0 ≤ u := by omega
  obtain ⟨v, hv⟩ : ∃ v, v = (b * p) % 18446744073709551616 := ⟨_, rfl⟩
  rw [← hv] at eb2
  have hv0 : 0 ≤ v := by omega
  have hv1 : v < 18446744073709551616 := by omega
  have hbp : b * p = (b / r) * 18446744073709551616 + v := by
    have h1 : b * p / 18446744073709551616 = b / r := by
      rw [← hpr, Int.mul_comm p r]
      exact Int.mul_ediv_mul_of_pos_left b r hp0
    have h2 := Int.mul_ediv_add_emod (b * p) 18446744073709551616
    rw [h1, ← hv] at h2
    omega
  have hN : (a * 18446744073709551616 + b) * p = u * 18446744073709551616 + v := by
    rw [Int.add_mul, hbp, hu, Int.add_mul, Int.mul_right_comm]
    omega
  have ew : IntKind.u64.wrap (wrap64 (64 - (n : Int))) = (s : Int) := by
    rw [wrap_eq (by omega) (by omega), u64_eq (by omega) (by omega)]; omega
  have ew2 : IntKind.u64.wrap (64 - (s : Int)) = (n : Int) := by rw [u64_eq (by omega) (by omega)]; omega
  have hlz : Ev (fun k => bits_LeadingZeros64.f k c) (wrap64 (64 - (n : Int))) := by
    unfold bits_LeadingZeros64.f
    exact Ev.bind hev (Ev.ok rfl)
  refine Ev.bind hlz ?_
  simp only [ew, ew2, eY, ea, eb, eb2, hor]
  have D : Div1 Y (Y / 4294967296) (Go.bits .and .u64 Y 4294967295) := by
    rw [and32' (by omega) hY1]
    exact ⟨by omega, by omega, by omega, by omega, by omega⟩
  rw [and32' hv0 hv1]
  refine Ev.pos (by omega) (Ev.pos (by omega) (Ev.neg (by have := D.lo; omega) ?_))
  obtain ⟨y1, hy1⟩ : ∃ x, x = Y / 4294967296 := ⟨_, rfl⟩
  obtain ⟨y0, hy0⟩ : ∃ x, x = Go.bits .and .u64 Y 4294967295 := ⟨_, rfl⟩
  rw [← hy1, ← hy0] at D ⊢
  obtain ⟨d1, hd1⟩ : ∃ x, x = v / 4294967296 := ⟨_, rfl⟩
  obtain ⟨d0, hd0⟩ : ∃ x, x = v % 4294967296 := ⟨_, rfl⟩
  rw [← hd1, ← hd0]
  obtain ⟨U1, hU1⟩ : ∃ x, x = u * 4294967296 + d1 := ⟨_, rfl⟩
  obtain ⟨Q1, hQ1⟩ : ∃ x, x = U1 / Y := ⟨_, rfl⟩
  obtain ⟨R1, hR1⟩ : ∃ x, x = U1 % Y := ⟨_, rfl⟩
  obtain ⟨U0, hU0⟩ : ∃ x, x = R1 * 4294967296 + d0 := ⟨_, rfl⟩
  obtain ⟨Q0, hQ0⟩ : ∃ x, x = U0 / Y := ⟨_, rfl⟩
  have hYp : 0 < Y := by omega
  have hR10 : 0 ≤ R1 := by rw [hR1]; exact Int.emod_nonneg _ (by omega)
  have hR1Y : R1 < Y := by rw [hR1]; exact Int.emod_lt_of_pos _ hYp
  have e1 : U1 = Q1 * Y + R1 := by rw [hQ1, hR1, Int.mul_comm]; exact (Int.mul_ediv_add_emod U1 Y).symm
  have hQ1lt : Q1 < 4294967296 := by rw [hQ1, Int.ediv_lt_iff_lt_mul hYp]; omega
  have hQ10 : 0 ≤ Q1 := by rw [hQ1]; exact Int.ediv_nonneg (by omega) (by omega)
  have hQ0lt : Q0 < 4294967296 := by rw [hQ0, Int.ediv_lt_iff_lt_mul hYp]; omega
  have hQ00 : 0 ≤ Q0 := by rw [hQ0]; exact Int.ediv_nonneg (by omega) (by omega)
  have hNU : (a * 18446744073709551616 + b) * p = U0 + (Q1 * 4294967296) * Y := by
    rw [hN, hU0, Int.mul_right_comm]
    have : Q1 * Y = U1 - R1 := by omega
    rw [this]
    omega
  have hq : (a * 18446744073709551616 + b) / c = Q1 * 4294967296 + Q0 := by
    rw [← Int.mul_ediv_mul_of_pos_left _ c hp0, ← hY, hNU, Int.add_mul_ediv_right _ _ (by omega), ← hQ0]
    omega
  have hm : (a * 18446744073709551616 + b) % c = (U0 % Y) / p := by
    have h1 : (a * 18446744073709551616 + b) * p % (c * p) = (a * 18446744073709551616 + b) % c * p := by
      rw [Int.mul_comm _ p, Int.mul_comm c p, Int.mul_emod_mul_of_pos _ _ hp0, Int.mul_comm]
    rw [← hY, hNU, Int.add_mul_emod_self_right] at h1
    rw [h1, Int.mul_ediv_cancel _ (by omega)]
  have last : shr .u64 (U0 % Y) (s : Int) = (a * 18446744073709551616 + b) % c := by
    rw [hm, hp]
    unfold shr
    rw [Int.toNat_natCast, Nat.min_eq_left (by simp [IntKind.bits]; omega)]
  have res : (IntKind.u64.wrap (IntKind.u64.wrap (Q1 * 4294967296) + Q0), shr .u64 (U0 % Y) (s : Int)) = ((a * 18446744073709551616 + b) / c, (a * 18446744073709551616 + b) % c) := by
    rw [last, hq, u64_eq (x := Q1 * 4294967296) (by omega) (by omega), u64_eq (by omega) (by omega)]
  rw [← res]
  obtain ⟨q, rr, g1, g2, g3, g4, g5, g6, g7, g8⟩ := guess D hu0 huY (by omega) (by omega) hU1 hQ1
  rw [g1, g2]
  refine div_l0 D hu0 huY (by omega) (by omega) hU1 hQ1 ?_ 2 q rr g3 g4 g5 g6 g7 g8 (by omega)
  refine Ev.step (fun k => by simp only [bits_Div64.j2]; rfl) ?_
  refine Ev.neg (by have := D.lo; omega) ?_
  rw [rest_word hYp hY1 hU1 hQ1, ← hR1]
  obtain ⟨q', r', g1, g2, g3, g4, g5, g6, g7, g8⟩ := guess D hR10 hR1Y (by omega) (by omega) hU0 hQ0
  rw [g1, g2]
  exact div_l1 D hR10 hR1Y (by omega) (by omega) (by omega) hU0 hQ0 2 q' r' g3 g4 g5 g6 g7 g8 (by omega)
end Go.Proofs.Ytefhljhpcpajgaa.Q
