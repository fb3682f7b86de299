-- merged and pruned by prune.py (the session's own program); its words go back to the kit's print
import Derived.Test.YtdpcgigjlcpofaaProg
import Derived.Below
import Derived.Deep.Draws
import Derived.Deep.AppendLies
import Derived.Maps.AppendAt
import Derived.OwnWalk
import Derived.Laws.BytesArg
import Derived.Laws.MakeOwn
import Derived.Laws.OwnMore
import Derived.Deep.OwnRows
import Derived.Tactics
import Derived.Lib.ConvBytes
import Derived.Laws.Slices
import Derived.WalkKit
import Derived.KernelRfl
import Derived.RowKit3
import Derived.Deep.LoopGhost
import Derived.Deep.QuietTactic
import Derived.BigQuiet
import Derived.WideLaws
import Derived.Deep.DeepCutAuto
import Derived.Deep.CutBlock
import Derived.Deep.RegionHeld3
import Derived.Laws.Rows
import Derived.Lib.AppendStr
import Derived.ArgAppend
import Derived.Laws.IdiomCopy
import Derived.OrdersHeld
import Derived.Laws.BitsLemmas
import Derived.RowKit
import Derived.Laws.StructEq
import Derived.Deep.RegionLawGrows
import Derived.Lib.SliceRun
import Derived.Shelf.Strings.BuilderK
import Derived.Shelf.Strings.Builder1
import Derived.Shelf.Strings.BuilderF
import Derived.Shelf.Utf8.RuneCount
import Derived.Shelf.Strings.Prefix
import Derived.Laws.CopyRow
import Derived.Laws.CopyOwn
import Derived.Test.YtdpcgigjlcpofaaZBatchDiff4
namespace Go.Proofs.Ytdpcgigjlcpofaa.F
open Go.RowKit Go.Proofs.YtdpcgigjlcpofaaX Go.Proofs.YtdpcgigjlcpofaaW.PrintWords Go.Proofs.YtdpcgigjlcpofaaW.PrintLast Go.Proofs.YtdpcgigjlcpofaaW.PrintMore
attribute [local go_sem] max2_int min2_int max_two min_two max_three min_three max_four min_four   
attribute [local go_sem high] str_geq str_leq str_gtr
set_option linter.unusedVariables false
set_option linter.unusedSimpArgs false
attribute [local go_sem high] eqA166
def backhaullaw15_awake.f  : Option (Bool) := some true
def backhaullaw15_awake.T6 : Bool × List (List Nat × List Nat) := (true, [([], []), ([], []), ([0, 1, 0], [0, 1]), ([2], [2]), ([3], [3]), ([3], [3]), ([4, 2, 0, 1, 2, 3, 4], [4]), ([5, 6, 0, 1, 2, 3, 4, 5, 6], [5])])
def backhaullaw15_awake.B6 : List Nat := [0, 0, 3, 7, 15, 15, 31, 127]
theorem backhaullaw15_awake.tab6 : rtab .any (opsOf Try.f43 6) = backhaullaw15_awake.T6 := by kernel_rfl
theorem backhaullaw15_awake.bits6 : waitsOk backhaullaw15_awake.T6.2 backhaullaw15_awake.B6 = true := by kernel_rfl
def backhaullaw15_awake.T8 : Bool × List (List Nat × List Nat) := (true, [([], []), ([0], [0]), ([1], [1]), ([2], [2]), ([3, 2], [2, 3]), ([2, 4], [2, 4]), ([5, 2], [5]), ([6], [6]), ([7, 6], [6, 7]), ([6, 8], [6, 8]), ([9, 6], [9]), ([10], [10]), ([11, 10], [10, 11]), ([10, 12], [10, 12]), ([13, 10], [13]), ([14], [14]), ([15, 14], [14, 15]), ([16, 14], [14, 16]), ([14, 17], [14, 17]), ([18, 14], [18]), ([19], [19]), ([20, 19], [19, 20]), ([19, 21], [19, 21]), ([22, 19], [22]), ([23], [23]), ([24, 23], [23, 24]), ([25, 23], [23, 25]), ([23], [23]), ([26, 27, 23], [23, 26, 27]), ([23, 28], [23, 28]), ([29, 23], [29]), ([30], [30]), ([31, 30], [30, 31]), ([30, 32], [30, 32]), ([33, 30], [33]), ([34], [34]), ([35, 34], [34, 35]), ([34, 36], [34, 36]), ([37, 34], [37]), ([38], [38]), ([38, 38], [38]), ([40, 40, 38], [38, 40]), ([39, 41, 41, 38], [38, 39, 41]), ([38, 42], [38, 42]), ([43, 42], [43]), ([44], [44]), ([45, 44], [44, 45]), ([44, 46], [44, 46]), ([47, 44], [47]), ([48], [48]), ([49, 48], [48, 49]), ([50, 48], [48, 50]), ([48, 51], [48, 51]), ([52, 48], [52]), ([53], [53]), ([54, 53], [53, 54]), ([53, 55], [53, 55]), ([56, 53], [56]), ([57], [57]), ([58, 57], [57, 58]), ([57, 59], [57, 59]), ([60, 57], [60]), ([61], [61]), ([61, 62], [61, 62]), ([63, 61], [63]), ([64, 64], [64]), ([65, 65, 64], [64, 65]), ([66, 64], [64, 66]), ([64, 67], [64, 67]), ([68, 66, 0, 1, 2, 3, 4, 5, 6, 7, 8, 9, 10, 11, 12, 13, 14, 15, 16, 17, 18, 19, 20, 21, 22, 23, 24, 25, 26, 27, 28, 29, 30, 31, 32, 33, 34, 35, 36, 37, 38, 39, 40, 41, 42, 43, 44, 45, 46, 47, 48, 49, 50, 51, 52, 53, 54, 55, 56, 57, 58, 59, 60, 61, 62, 63, 64, 65, 66, 67, 68], [68])])
def backhaullaw15_awake.B8 : List Nat := [0, 1, 3, 7, 15, 31, 63, 127, 255, 511, 1023, 2047, 4095, 8191, 16383, 32767, 65535, 131071, 262143, 524287, 1048575, 2097151, 4194303, 8388607, 16777215, 33554431, 67108863, 16777215, 268435455, 536870911, 1073741823, 2147483647, 4294967295, 8589934591, 17179869183, 34359738367, 68719476735, 137438953471, 274877906943, 549755813887, 549755813887, 1649267441663, 4398046511103, 8796093022207, 17592186044415, 35184372088831, 70368744177663, 140737488355327, 281474976710655, 562949953421311, 1125899906842623, 2251799813685247, 4503599627370495, 9007199254740991, 18014398509481983, 36028797018963967, 72057594037927935, 144115188075855871, 288230376151711743, 576460752303423487, 1152921504606846975, 2305843009213693951, 4611686018427387903, 9223372036854775807, 18446744073709551615, 36893488147419103231, 73786976294838206463, 147573952589676412927, 295147905179352825855, 590295810358705651711]
theorem backhaullaw15_awake.tab8 : rtab .any (opsOf Try.f43 8) = backhaullaw15_awake.T8 := by kernel_rfl
theorem backhaullaw15_awake.bits8 : waitsOk backhaullaw15_awake.T8.2 backhaullaw15_awake.B8 = true := by kernel_rfl
set_option maxHeartbeats 8000000 in
set_option maxRecDepth 100000 in
theorem backhaullaw15_awake.calls (r : Bool)  (w : World) (h : backhaullaw15_awake.f  = some r) :
    Calls Try.prog 43 #[] w fun e w' => e = .returned (.bool r) ∧ Below w.heap.size w w' := by
  obtain rfl : r = true := by injection h with h; exact h.symm
  have hu166 := Try.underlying166
  have hu75 := Try.underlying75
  have HB := zA (Below.refl w.heap.size w)
  have H : ((backhaullaw15_one.f).bind fun t101 => ((batch_Apply.f 1000 t101 (([(⟨1, 1, 7, (⟨#[121]⟩ : ByteArray)⟩ : S166), (⟨0, 3, 5, (⟨#[]⟩ : ByteArray)⟩ : S166)] : List (S166)))).bind fun bt107 => ((backhaullaw15_one.f).bind fun t113 => ((batch_Apply.f 1000 t113 (([(⟨0, 2, 5, (⟨#[]⟩ : ByteArray)⟩ : S166), (⟨0, 1, 5, (⟨#[]⟩ : ByteArray)⟩ : S166)] : List (S166)))).bind fun bt119 => ((backhaullaw15_one.f).bind fun t125 => ((batch_Undo.f 1000 t125 (([(⟨0, 3, 5, (⟨#[]⟩ : ByteArray)⟩ : S166)] : List (S166)))).bind fun bt131 => ((backhaullaw15_one.f).bind fun t135 => ((batch_Put.f 1000 t135).bind fun bt138 => ((batch_Take.f 1000 bt138.1).bind fun bt140 => ((backhaullaw15_one.f).bind fun t145 => ((batch_Diff.f 1000 t145 bt107.1).bind fun bt148 => ((batch_Get.f 1000 bt107.1 1 7).bind fun bt152 => (if bt107.2.1 = 2 then (if bt107.2.2 = 0 then (if bt119.2.1 = 1 then (if bt119.2.2 = 32 then (if (bt131.1.length : Int) = 1 then (if bt131.2 = 0 then (if 0 < (bt131.1.length : Int) then (if (((rd_T166 bt131.1 0).f0) == 0 && (((rd_T166 bt131.1 0).f1) == 1 && (((rd_T166 bt131.1 0).f2) == 5 && ((((rd_T166 bt131.1 0).f3).toList) == ([120] : List UInt8))))) = true then (if bt138.1.toList = ([2, 1, 0, 0, 0, 5, 0, 1, 120, 0] : List UInt8) then (if bt138.2 = 0 then ((backhaullaw15_one.f).bind fun t155 => ((backhaullaw15_of.f 1000 t155).bind fun bt158 => ((backhaullaw15_same.f 1000 bt140.1 bt158.1 bt158.2).bind fun t162 => (if t162 = true then (if bt140.2 = 0 then (if (bt148.1.length : Int) = 2 then (if bt148.2 = 0 then (if bt152.1.toList = ([121] : List UInt8) then (if bt152.2 = true then ((backhaullaw15_one.f).bind fun t163 => ((batch_Check.f 1000 t163).bind fun t166 => (if t166 = 0 then (some true) else (some false)))) else (some false)) else (some false)) else (some false)) else (some false)) else (some false)) else (some false))))) else (some false)) else (some false)) else (some false)) else (none)) else (some false)) else (some false)) else (some false)) else (some false)) else (some false)) else (some false)))))))))))))) = some true := by decide +kernel
  replace H := Option.bind_eq_some_iff.mp H
  obtain ⟨t101, A10, H⟩ := H
  try dsimp only at H
  have A1 := zA A10
  clear A10
  obtain ⟨y104, hy104⟩ : ∃ y_ : List (S166), y_ = (([(⟨1, 1, 7, (⟨#[121]⟩ : ByteArray)⟩ : S166), (⟨0, 3, 5, (⟨#[]⟩ : ByteArray)⟩ : S166)] : List (S166))) := ⟨_, rfl⟩
  replace H : ((batch_Apply.f 1000 t101 y104).bind fun bt107 => ((backhaullaw15_one.f).bind fun t113 => ((batch_Apply.f 1000 t113 (([(⟨0, 2, 5, (⟨#[]⟩ : ByteArray)⟩ : S166), (⟨0, 1, 5, (⟨#[]⟩ : ByteArray)⟩ : S166)] : List (S166)))).bind fun bt119 => ((backhaullaw15_one.f).bind fun t125 => ((batch_Undo.f 1000 t125 (([(⟨0, 3, 5, (⟨#[]⟩ : ByteArray)⟩ : S166)] : List (S166)))).bind fun bt131 => ((backhaullaw15_one.f).bind fun t135 => ((batch_Put.f 1000 t135).bind fun bt138 => ((batch_Take.f 1000 bt138.1).bind fun bt140 => ((backhaullaw15_one.f).bind fun t145 => ((batch_Diff.f 1000 t145 bt107.1).bind fun bt148 => ((batch_Get.f 1000 bt107.1 1 7).bind fun bt152 => (if bt107.2.1 = 2 then (if bt107.2.2 = 0 then (if bt119.2.1 = 1 then (if bt119.2.2 = 32 then (if (bt131.1.length : Int) = 1 then (if bt131.2 = 0 then (if 0 < (bt131.1.length : Int) then (if (((rd_T166 bt131.1 0).f0) == 0 && (((rd_T166 bt131.1 0).f1) == 1 && (((rd_T166 bt131.1 0).f2) == 5 && ((((rd_T166 bt131.1 0).f3).toList) == ([120] : List UInt8))))) = true then (if bt138.1.toList = ([2, 1, 0, 0, 0, 5, 0, 1, 120, 0] : List UInt8) then (if bt138.2 = 0 then ((backhaullaw15_one.f).bind fun t155 => ((backhaullaw15_of.f 1000 t155).bind fun bt158 => ((backhaullaw15_same.f 1000 bt140.1 bt158.1 bt158.2).bind fun t162 => (if t162 = true then (if bt140.2 = 0 then (if (bt148.1.length : Int) = 2 then (if bt148.2 = 0 then (if bt152.1.toList = ([121] : List UInt8) then (if bt152.2 = true then ((backhaullaw15_one.f).bind fun t163 => ((batch_Check.f 1000 t163).bind fun t166 => (if t166 = 0 then (some true) else (some false)))) else (some false)) else (some false)) else (some false)) else (some false)) else (some false)) else (some false))))) else (some false)) else (some false)) else (some false)) else (none)) else (some false)) else (some false)) else (some false)) else (some false)) else (some false)) else (some false))))))))))))) = some true := by first | (rw [hy104]; with_reducible exact H) | (have H2_ := (Option.bind_some _ _).symm.trans H; rw [hy104]; with_reducible exact H2_) | (have H2_ := (Option.bind_some _ _).symm.trans H; with_reducible exact H2_) | with_reducible exact H | (rw [hy104]; exact H) | exact H
  have Ny104 := zA hy104
  clear hy104
  replace H := Option.bind_eq_some_iff.mp H
  obtain ⟨⟨t107, t110, t111⟩, A20, H⟩ := H
  try dsimp only at H
  have A2 := zA A20
  clear A20
  replace H := Option.bind_eq_some_iff.mp H
  obtain ⟨t113, A30, H⟩ := H
  try dsimp only at H
  have A3 := zA A30
  clear A30
  obtain ⟨y116, hy116⟩ : ∃ y_ : List (S166), y_ = (([(⟨0, 2, 5, (⟨#[]⟩ : ByteArray)⟩ : S166), (⟨0, 1, 5, (⟨#[]⟩ : ByteArray)⟩ : S166)] : List (S166))) := ⟨_, rfl⟩
  replace H : ((batch_Apply.f 1000 t113 y116).bind fun bt119 => ((backhaullaw15_one.f).bind fun t125 => ((batch_Undo.f 1000 t125 (([(⟨0, 3, 5, (⟨#[]⟩ : ByteArray)⟩ : S166)] : List (S166)))).bind fun bt131 => ((backhaullaw15_one.f).bind fun t135 => ((batch_Put.f 1000 t135).bind fun bt138 => ((batch_Take.f 1000 bt138.1).bind fun bt140 => ((backhaullaw15_one.f).bind fun t145 => ((batch_Diff.f 1000 t145 t107).bind fun bt148 => ((batch_Get.f 1000 t107 1 7).bind fun bt152 => (if t110 = 2 then (if t111 = 0 then (if bt119.2.1 = 1 then (if bt119.2.2 = 32 then (if (bt131.1.length : Int) = 1 then (if bt131.2 = 0 then (if 0 < (bt131.1.length : Int) then (if (((rd_T166 bt131.1 0).f0) == 0 && (((rd_T166 bt131.1 0).f1) == 1 && (((rd_T166 bt131.1 0).f2) == 5 && ((((rd_T166 bt131.1 0).f3).toList) == ([120] : List UInt8))))) = true then (if bt138.1.toList = ([2, 1, 0, 0, 0, 5, 0, 1, 120, 0] : List UInt8) then (if bt138.2 = 0 then ((backhaullaw15_one.f).bind fun t155 => ((backhaullaw15_of.f 1000 t155).bind fun bt158 => ((backhaullaw15_same.f 1000 bt140.1 bt158.1 bt158.2).bind fun t162 => (if t162 = true then (if bt140.2 = 0 then (if (bt148.1.length : Int) = 2 then (if bt148.2 = 0 then (if bt152.1.toList = ([121] : List UInt8) then (if bt152.2 = true then ((backhaullaw15_one.f).bind fun t163 => ((batch_Check.f 1000 t163).bind fun t166 => (if t166 = 0 then (some true) else (some false)))) else (some false)) else (some false)) else (some false)) else (some false)) else (some false)) else (some false))))) else (some false)) else (some false)) else (some false)) else (none)) else (some false)) else (some false)) else (some false)) else (some false)) else (some false)) else (some false))))))))))) = some true := by first | (rw [hy116]; with_reducible exact H) | (have H2_ := (Option.bind_some _ _).symm.trans H; rw [hy116]; with_reducible exact H2_) | (have H2_ := (Option.bind_some _ _).symm.trans H; with_reducible exact H2_) | with_reducible exact H | (rw [hy116]; exact H) | exact H
  have Ny116 := zA hy116
  clear hy116
  replace H := Option.bind_eq_some_iff.mp H
  obtain ⟨⟨t119, t122, t123⟩, A40, H⟩ := H
  try dsimp only at H
  have A4 := zA A40
  clear A40
  replace H := Option.bind_eq_some_iff.mp H
  obtain ⟨t125, A50, H⟩ := H
  try dsimp only at H
  have A5 := zA A50
  clear A50
  obtain ⟨y128, hy128⟩ : ∃ y_ : List (S166), y_ = (([(⟨0, 3, 5, (⟨#[]⟩ : ByteArray)⟩ : S166)] : List (S166))) := ⟨_, rfl⟩
  replace H : ((batch_Undo.f 1000 t125 y128).bind fun bt131 => ((backhaullaw15_one.f).bind fun t135 => ((batch_Put.f 1000 t135).bind fun bt138 => ((batch_Take.f 1000 bt138.1).bind fun bt140 => ((backhaullaw15_one.f).bind fun t145 => ((batch_Diff.f 1000 t145 t107).bind fun bt148 => ((batch_Get.f 1000 t107 1 7).bind fun bt152 => (if t110 = 2 then (if t111 = 0 then (if t122 = 1 then (if t123 = 32 then (if (bt131.1.length : Int) = 1 then (if bt131.2 = 0 then (if 0 < (bt131.1.length : Int) then (if (((rd_T166 bt131.1 0).f0) == 0 && (((rd_T166 bt131.1 0).f1) == 1 && (((rd_T166 bt131.1 0).f2) == 5 && ((((rd_T166 bt131.1 0).f3).toList) == ([120] : List UInt8))))) = true then (if bt138.1.toList = ([2, 1, 0, 0, 0, 5, 0, 1, 120, 0] : List UInt8) then (if bt138.2 = 0 then ((backhaullaw15_one.f).bind fun t155 => ((backhaullaw15_of.f 1000 t155).bind fun bt158 => ((backhaullaw15_same.f 1000 bt140.1 bt158.1 bt158.2).bind fun t162 => (if t162 = true then (if bt140.2 = 0 then (if (bt148.1.length : Int) = 2 then (if bt148.2 = 0 then (if bt152.1.toList = ([121] : List UInt8) then (if bt152.2 = true then ((backhaullaw15_one.f).bind fun t163 => ((batch_Check.f 1000 t163).bind fun t166 => (if t166 = 0 then (some true) else (some false)))) else (some false)) else (some false)) else (some false)) else (some false)) else (some false)) else (some false))))) else (some false)) else (some false)) else (some false)) else (none)) else (some false)) else (some false)) else (some false)) else (some false)) else (some false)) else (some false))))))))) = some true := by first | (rw [hy128]; with_reducible exact H) | (have H2_ := (Option.bind_some _ _).symm.trans H; rw [hy128]; with_reducible exact H2_) | (have H2_ := (Option.bind_some _ _).symm.trans H; with_reducible exact H2_) | with_reducible exact H | (rw [hy128]; exact H) | exact H
  have Ny128 := zA hy128
  clear hy128
  replace H := Option.bind_eq_some_iff.mp H
  obtain ⟨⟨t131, t134⟩, A60, H⟩ := H
  try dsimp only at H
  have A6 := zA A60
  clear A60
  replace H := Option.bind_eq_some_iff.mp H
  obtain ⟨t135, A70, H⟩ := H
  try dsimp only at H
  have A7 := zA A70
  clear A70
  replace H := Option.bind_eq_some_iff.mp H
  obtain ⟨⟨t138, t139⟩, A80, H⟩ := H
  try dsimp only at H
  have A8 := zA A80
  clear A80
  replace H := Option.bind_eq_some_iff.mp H
  obtain ⟨⟨t140, t143⟩, A90, H⟩ := H
  try dsimp only at H
  have A9 := zA A90
  clear A90
  replace H := Option.bind_eq_some_iff.mp H
  obtain ⟨t145, A100, H⟩ := H
  try dsimp only at H
  have A10 := zA A100
  clear A100
  replace H := Option.bind_eq_some_iff.mp H
  obtain ⟨⟨t148, t151⟩, A110, H⟩ := H
  try dsimp only at H
  have A11 := zA A110
  clear A110
  replace H := Option.bind_eq_some_iff.mp H
  obtain ⟨⟨t152, t153⟩, A120, H⟩ := H
  try dsimp only at H
  have A12 := zA A120
  clear A120
  by_cases c13 : t110 = 2
  · rw [if_pos c13] at H
    have c13b0 : (t110 == 2) = true := beq_iff_eq.mpr c13; have c13b1 : (t110 != 2) = false := bne_eq_false_iff_eq.mpr c13; clear c13; by_cases c14 : t111 = 0
    · rw [if_pos c14] at H
      have c14b0 : (t111 == 0) = true := beq_iff_eq.mpr c14; have c14b1 : (t111 != 0) = false := bne_eq_false_iff_eq.mpr c14; clear c14; by_cases c15 : t122 = 1
      · rw [if_pos c15] at H
        have c15b0 : (t122 == 1) = true := beq_iff_eq.mpr c15; have c15b1 : (t122 != 1) = false := bne_eq_false_iff_eq.mpr c15; clear c15; by_cases c16 : t123 = 32
        · rw [if_pos c16] at H
          have c16b0 : (t123 == 32) = true := beq_iff_eq.mpr c16; have c16b1 : (t123 != 32) = false := bne_eq_false_iff_eq.mpr c16; clear c16; by_cases c17 : (t131.length : Int) = 1
          · rw [if_pos c17] at H
            have c17b0 : ((t131.length : Int) == 1) = true := beq_iff_eq.mpr c17; have c17b1 : ((t131.length : Int) != 1) = false := bne_eq_false_iff_eq.mpr c17; clear c17; by_cases c18 : t134 = 0
            · rw [if_pos c18] at H
              have c18b0 : (t134 == 0) = true := beq_iff_eq.mpr c18; have c18b1 : (t134 != 0) = false := bne_eq_false_iff_eq.mpr c18; clear c18; by_cases c19 : 0 < (t131.length : Int)
              · rw [if_pos c19] at H
                have c19b0 : decide (0 < (t131.length : Int)) = true := zFq c19; have c19b1 : decide (0 < t131.length) = true := zFq (by omega); clear c19; by_cases c20 : (((rd_T166 t131 0).f0) == 0 && (((rd_T166 t131 0).f1) == 1 && (((rd_T166 t131 0).f2) == 5 && ((((rd_T166 t131 0).f3).toList) == ([120] : List UInt8))))) = true
                · rw [if_pos c20] at H
                  have c20b0 : (((rd_T166 t131 0).f0) == 0 && (((rd_T166 t131 0).f1) == 1 && (((rd_T166 t131 0).f2) == 5 && ((((rd_T166 t131 0).f3).toList) == ([120] : List UInt8))))) = true := c20; (try (have c20b1 : decide (((rd_T166 t131 0).f0) = 0 && (((rd_T166 t131 0).f1) == 1 && (((rd_T166 t131 0).f2) == 5 && ((((rd_T166 t131 0).f3).toList) == ([120] : List UInt8))))) = true := by simpa using c20))
                  (try (have c20b2 : (((rd_T166 t131 0).f0) == 0 && (((rd_T166 t131 0).f1) == 1 && (((rd_T166 t131 0).f2) == 5 && ((((rd_T166 t131 0).f3).toList) == ([120] : List UInt8))))) = true := by simpa using c20))
                  clear c20; by_cases c21 : t138.toList = ([2, 1, 0, 0, 0, 5, 0, 1, 120, 0] : List UInt8)
                  · rw [if_pos c21] at H
                    have c21b0 : (t138.toList == ([2, 1, 0, 0, 0, 5, 0, 1, 120, 0] : List UInt8)) = true := beq_iff_eq.mpr c21; have c21b1 : (t138.toList != ([2, 1, 0, 0, 0, 5, 0, 1, 120, 0] : List UInt8)) = false := bne_eq_false_iff_eq.mpr c21; clear c21; by_cases c22 : t139 = 0
                    · rw [if_pos c22] at H
                      have c22b0 : (t139 == 0) = true := beq_iff_eq.mpr c22; have c22b1 : (t139 != 0) = false := bne_eq_false_iff_eq.mpr c22; clear c22; replace H := Option.bind_eq_some_iff.mp H; obtain ⟨t155, A230, H⟩ := H; try dsimp only at H
                      have A23 := zA A230; clear A230; replace H := Option.bind_eq_some_iff.mp H; obtain ⟨⟨t158, t159⟩, A240, H⟩ := H; try dsimp only at H
                      have A24 := zA A240; clear A240; replace H := Option.bind_eq_some_iff.mp H; obtain ⟨t162, A250, H⟩ := H; try dsimp only at H
                      have A25 := zA A250; clear A250; by_cases c26 : t162 = true
                      · subst c26
                        have H1 : (if t143 = 0 then (if (t148.length : Int) = 2 then (if t151 = 0 then (if t152.toList = ([121] : List UInt8) then (if t153 = true then ((backhaullaw15_one.f).bind fun t163 => ((batch_Check.f 1000 t163).bind fun t166 => (if t166 = 0 then (some true) else (some false)))) else (some false)) else (some false)) else (some false)) else (some false)) else (some false)) = some true := by first | (rw [if_pos rfl] at H; exact H) | rfl
                        clear H; have H := H1; clear H1; by_cases c27 : t143 = 0
                        · rw [if_pos c27] at H
                          have c27b0 : (t143 == 0) = true := beq_iff_eq.mpr c27; have c27b1 : (t143 != 0) = false := bne_eq_false_iff_eq.mpr c27; clear c27; by_cases c28 : (t148.length : Int) = 2
                          · rw [if_pos c28] at H
                            have c28b0 : ((t148.length : Int) == 2) = true := beq_iff_eq.mpr c28; have c28b1 : ((t148.length : Int) != 2) = false := bne_eq_false_iff_eq.mpr c28; clear c28; by_cases c29 : t151 = 0
                            · rw [if_pos c29] at H
                              have c29b0 : (t151 == 0) = true := beq_iff_eq.mpr c29; have c29b1 : (t151 != 0) = false := bne_eq_false_iff_eq.mpr c29; clear c29; by_cases c30 : t152.toList = ([121] : List UInt8)
                              · rw [if_pos c30] at H
                                have c30b0 : (t152.toList == ([121] : List UInt8)) = true := beq_iff_eq.mpr c30; have c30b1 : (t152.toList != ([121] : List UInt8)) = false := bne_eq_false_iff_eq.mpr c30; clear c30; by_cases c31 : t153 = true
                                · subst c31
                                  have H1 : ((backhaullaw15_one.f).bind fun t163 => ((batch_Check.f 1000 t163).bind fun t166 => (if t166 = 0 then (some true) else (some false)))) = some true := by first | (rw [if_pos rfl] at H; exact H) | rfl
                                  clear H; have H := H1; clear H1; replace H := Option.bind_eq_some_iff.mp H; obtain ⟨t163, A320, H⟩ := H; try dsimp only at H
                                  have A32 := zA A320; clear A320; replace H := Option.bind_eq_some_iff.mp H; obtain ⟨t166, A330, H⟩ := H; try dsimp only at H
                                  have A33 := zA A330; clear A330; by_cases c34 : t166 = 0
                                  · rw [if_pos c34] at H
                                    have c34b0 : (t166 == 0) = true := beq_iff_eq.mpr c34; have c34b1 : (t166 != 0) = false := bne_eq_false_iff_eq.mpr c34; clear c34; clear H; go_enter Try.func43, Try.ntmps43; try go_wp2_with (first | ((with_reducible refine zJq (f := 95) rfl ?_); refine goesL_ (some 18) rfl rfl Try.func95 (by kernel_rfl) rfl #[] rfl qG ?_; (with_reducible refine (backhaullaw15_one.calls  t101 _ A1.out).mono ?_); rintro e w35 ⟨v102, rfl, ho0, hb⟩; refine ⟨_, rfl, ?_⟩; have n0_ := zA (Kd.N_lower (Kd.N_mono (ok' := fun k_ => True) ho0 (fun k_ hk_ => trivial)) (zW qB)); have n1_ := zA (zV qB hb); clear HB; have HO103 := n0_; have HB := n1_; clear n0_ n1_; (try clear hb); (try clear ho0)) | ((with_reducible refine gate_dst (N := 21) rfl ?_); (try (refine gate_guard (by rfl) ?_; dsimp only)); refine Kd.R_lit k166 _ 166 ?hg (N := 21) ?hd (xs := ([(⟨1, 1, 7, (⟨#[121]⟩ : ByteArray)⟩ : S166), (⟨0, 3, 5, (⟨#[]⟩ : ByteArray)⟩ : S166)] : List (S166))) (inner := [.int .i64 1, .int .i64 1, .int .i64 7, .string (⟨#[121]⟩ : ByteArray), .int .i64 0, .int .i64 3, .int .i64 5, .string (⟨#[]⟩ : ByteArray)]) (ok := fun _ => True) (okp := fun _ => True) ?hr ?hp (fun _ hk => hk) trivial (Below.refl _ _) (Nat.le_refl _) (by simp) ?_; (case hd => rfl); (case hg => rfl); (case hr => first | (go_simp; done) | (go_simp; rfl)); (case hp => exact (Reps.c4 (show Kd.M k166 _ _ _ (⟨1, 1, 7, (⟨#[121]⟩ : ByteArray)⟩ : S166) [.int .i64 1, .int .i64 1, .int .i64 7, .string (⟨#[121]⟩ : ByteArray)] from (k166_mkM _ _ _ (⟨1, 1, 7, (⟨#[121]⟩ : ByteArray)⟩ : S166) )) (Reps.c4 (show Kd.M k166 _ _ _ (⟨0, 3, 5, (⟨#[]⟩ : ByteArray)⟩ : S166) [.int .i64 0, .int .i64 3, .int .i64 5, .string (⟨#[]⟩ : ByteArray)] from (k166_mkM _ _ _ (⟨0, 3, 5, (⟨#[]⟩ : ByteArray)⟩ : S166) )) (Reps.none _ _)))); intro v105 w36 ho37 hb hg_ hnew_; clear hg_ hnew_; (first | rw [← Ny104.out] at ho37 | (simp only [Int.reduceToNat] at ho37; rw [← Ny104.out] at ho37)); have n0_ := zA (Kd.N_elder' HO103.out (Kd.R_base ho37) hb); have n1_ := zA (Kd.R_lower ho37 (zW qB)); have n2_ := zA (zV qB hb); clear HO103 HB; have HO103 := n0_; have HO106 := n1_; have HB := n2_; clear n0_ n1_ n2_ hb ho37; obtain ⟨Ao38, co38, eo38⟩ := Kd.N_slice HO103.out; subst eo38; obtain ⟨Ao39, co39, eo39⟩ := Kd.R_slice HO106.out; subst eo39) | ((with_reducible refine zJq (f := 45) rfl ?_); refine goesL_ (some 22) rfl rfl Try.func45 (by kernel_rfl) rfl #[.agg #[.slice Ao38 t101.length co38], .slice Ao39 y104.length co39] rfl qG ?_; (with_reducible refine (batch_Apply.calls 1000 (fun k_ => (True ∧ some k_ ≠ (.slice Ao39 y104.length co39 : Value).ownBlock)) _ _ t101 _ _ y104 t107 t110 t111 _ ?side1 ?side2 ?side3 A2.out).mono ?_); (case side1 => exact Kd.N_V (HO103.out)); (case side2 => repeat (first | exact (Kd.R_reads' HO106.out).2.2 | (with_reducible refine Kd.C_alloc ?_ _) | (with_reducible refine Kd.C_drewN ?_ _) | (with_reducible refine Kd.C_drew ?_))); (case side3 => exact (Kd.R_reads' HO106.out).2.1); rintro e w40 ⟨v108, rfl, ho0, hb⟩; refine ⟨_, rfl, ?_⟩; have n0_ := zA (Kd.N_elder' HO103.out (Kd.N_base ho0) hb); have n1_ := zA (Kd.R_below HO106.out hb); have n2_ := zA (Kd.N_lower (Kd.N_mono (ok' := fun k_ => some k_ ≠ (.slice Ao39 y104.length co39 : Value).ownBlock) ho0 (fun k_ hk_ => Or.elim hk_ (fun hs_ => hs_.2) (fun hn_ => (Kd.fresh' (Kd.R_lt HO106.out) k_ hn_)))) (zW qB)); have n3_ := zA (zV qB hb); clear HO103 HO106 HB; have HO103 := n0_; have HO106 := n1_; have HO109 := n2_; have HB := n3_; clear n0_ n1_ n2_ n3_; (try clear hb); (try clear ho0)) | ((with_reducible refine gate_dst (N := 1) rfl ?_); (try (refine gate_guard (by rfl) ?_; dsimp only)); refine box_event qr (N := 1) qr (cs := #[.slice none 0 0]) (t := 75) qg ?_; intro gb112 hg w41 hbox hb; have n0_ := zA (Kd.N_below (Kd.N_elderB HO103.out gb112 (Nat.le_of_eq hg.symm)) hb); have n1_ := zA (Kd.R_below HO106.out hb); have n2_ := zA (Kd.N_below (Kd.N_elderB HO109.out gb112 (Nat.le_of_eq hg.symm)) hb); have n3_ := zA (zV qB hb); have n4_ := zA (hbox); have n5_ := zA ((qS : w.heap.size ≤ gb112)); have n6_ := zA ((qS : w.heap.size ≤ gb112)); clear HO103 HO106 HO109 HB; have HO103 := n0_; have HO106 := n1_; have HO109 := n2_; have HB := n3_; have BK112 := n4_; have GW112 := n5_; have GE112 := n6_; clear n0_ n1_ n2_ n3_ n4_ n5_ n6_ hb hbox hg; obtain ⟨Ao42, co42, eo42⟩ := Kd.N_slice HO109.out; subst eo42; have hcz43_0 : w41.cell? ⟨gb112, 0, none⟩ = some (.slice none 0 0) := (zF BK112.out 0).trans rfl; have hfz43_0 := zG BK112.out 0) | ((with_reducible refine zJq (f := 95) rfl ?_); refine goesL_ (some 27) rfl rfl Try.func95 (by kernel_rfl) rfl #[] rfl qG ?_; (with_reducible refine (backhaullaw15_one.calls  t113 _ A3.out).mono ?_); rintro e w44 ⟨v114, rfl, ho0, hb⟩; refine ⟨_, rfl, ?_⟩; have n0_ := zA (Kd.N_elder' (by (with_reducible repeat (first | apply Kd.N_alloc | apply Kd.N_drewN | apply Kd.N_drew)); exact (Kd.N_mono (Kd.N_far (p := ⟨gb112, 0, none⟩) (Kd.N_mono HO103.out (fun k_ hk => (⟨hk, hk.2⟩ : _ ∧ k_ ≠ gb112))) (fun _ hk => hk.2) (.slice Ao42 t107.length co42)) (fun _ h_ => h_.1))) (Kd.N_base ho0) hb); have n1_ := zA (Kd.R_below (by (with_reducible repeat (first | apply Kd.R_alloc | apply Kd.R_drewN | apply Kd.R_drew)); exact (Kd.R_mono (Kd.R_far (p := ⟨gb112, 0, none⟩) (Kd.R_types HO106.out BK112.out (by decide)) (fun _ hk => hk.2) (.slice Ao42 t107.length co42)) (fun _ h_ => h_.1))) hb); have n2_ := zA (Kd.N_elder' (by (with_reducible repeat (first | apply Kd.N_alloc | apply Kd.N_drewN | apply Kd.N_drew)); exact (Kd.N_mono (Kd.N_far (p := ⟨gb112, 0, none⟩) (Kd.N_mono HO109.out (fun k_ hk => (⟨hk, hk.2⟩ : _ ∧ k_ ≠ gb112))) (fun _ hk => hk.2) (.slice Ao42 t107.length co42)) (fun _ h_ => h_.1))) (Kd.N_base ho0) hb); have n3_ := zA (Kd.N_lower (Kd.N_mono (ok' := fun k_ => some k_ ≠ (.slice Ao38 t101.length co38 : Value).ownBlock ∧ some k_ ≠ (.slice Ao39 y104.length co39 : Value).ownBlock ∧ some k_ ≠ (.slice Ao42 t107.length co42 : Value).ownBlock ∧ k_ ≠ gb112) ho0 (fun k_ hk_ => ⟨(Kd.fresh' (Kd.N_lt (by (with_reducible repeat (first | apply Kd.N_alloc | apply Kd.N_drewN | apply Kd.N_drew)); exact (Kd.N_mono (Kd.N_far (p := ⟨gb112, 0, none⟩) (Kd.N_mono HO103.out (fun k_ hk => (⟨hk, hk.2⟩ : _ ∧ k_ ≠ gb112))) (fun _ hk => hk.2) (.slice Ao42 t107.length co42)) (fun _ h_ => h_.1)))) k_ hk_), (Kd.fresh' (Kd.R_lt (by (with_reducible repeat (first | apply Kd.R_alloc | apply Kd.R_drewN | apply Kd.R_drew)); exact (Kd.R_mono (Kd.R_far (p := ⟨gb112, 0, none⟩) (Kd.R_types HO106.out BK112.out (by decide)) (fun _ hk => hk.2) (.slice Ao42 t107.length co42)) (fun _ h_ => h_.1)))) k_ hk_), (Kd.fresh' (Kd.N_lt (by (with_reducible repeat (first | apply Kd.N_alloc | apply Kd.N_drewN | apply Kd.N_drew)); exact (Kd.N_mono (Kd.N_far (p := ⟨gb112, 0, none⟩) (Kd.N_mono HO109.out (fun k_ hk => (⟨hk, hk.2⟩ : _ ∧ k_ ≠ gb112))) (fun _ hk => hk.2) (.slice Ao42 t107.length co42)) (fun _ h_ => h_.1)))) k_ hk_), (Kd.freshB (g := gb112) (o := .cells #[.slice Ao42 t107.length co42] 75 (0, 0)) (by (with_reducible repeat (first | refine zY ?_ _ | refine zAq ?_ | refine zZ ?_ _)); refine blk_put (cs := #[.slice none 0 0]) ?_ 0 _ rfl; exact BK112.out) k_ hk_)⟩)) (zW qB)); have n4_ := zA (zX (g := gb112) (o := .cells #[.slice Ao42 t107.length co42] 75 (0, 0)) (by (with_reducible repeat (first | refine zY ?_ _ | refine zAq ?_ | refine zZ ?_ _)); refine blk_put (cs := #[.slice none 0 0]) ?_ 0 _ rfl; exact BK112.out) hb); have n5_ := zA (zV qB hb); clear HO103 HO106 HO109 BK112 HB; have HO103 := n0_; have HO106 := n1_; have HO109 := n2_; have HO115 := n3_; have BK112 := n4_; have HB := n5_; clear n0_ n1_ n2_ n3_ n4_ n5_; (try clear hb); (try clear ho0)) | ((with_reducible refine gate_dst (N := 30) rfl ?_); (try (refine gate_guard (by rfl) ?_; dsimp only)); refine Kd.R_lit k166 _ 166 ?hg (N := 30) ?hd (xs := ([(⟨0, 2, 5, (⟨#[]⟩ : ByteArray)⟩ : S166), (⟨0, 1, 5, (⟨#[]⟩ : ByteArray)⟩ : S166)] : List (S166))) (inner := [.int .i64 0, .int .i64 2, .int .i64 5, .string (⟨#[]⟩ : ByteArray), .int .i64 0, .int .i64 1, .int .i64 5, .string (⟨#[]⟩ : ByteArray)]) (ok := fun _ => True) (okp := fun _ => True) ?hr ?hp (fun _ hk => hk) trivial (Below.refl _ _) (Nat.le_refl _) (by simp) ?_; (case hd => rfl); (case hg => rfl); (case hr => first | (go_simp; done) | (go_simp; rfl)); (case hp => exact (Reps.c4 (show Kd.M k166 _ _ _ (⟨0, 2, 5, (⟨#[]⟩ : ByteArray)⟩ : S166) [.int .i64 0, .int .i64 2, .int .i64 5, .string (⟨#[]⟩ : ByteArray)] from (k166_mkM _ _ _ (⟨0, 2, 5, (⟨#[]⟩ : ByteArray)⟩ : S166) )) (Reps.c4 (show Kd.M k166 _ _ _ (⟨0, 1, 5, (⟨#[]⟩ : ByteArray)⟩ : S166) [.int .i64 0, .int .i64 1, .int .i64 5, .string (⟨#[]⟩ : ByteArray)] from (k166_mkM _ _ _ (⟨0, 1, 5, (⟨#[]⟩ : ByteArray)⟩ : S166) )) (Reps.none _ _)))); intro v117 w45 ho46 hb hg_ hnew_; clear hg_ hnew_; (first | rw [← Ny116.out] at ho46 | (simp only [Int.reduceToNat] at ho46; rw [← Ny116.out] at ho46)); have n0_ := zA (Kd.N_elder' HO103.out (Kd.R_base ho46) hb); have n1_ := zA (Kd.R_elder' HO106.out (Kd.R_base ho46) hb); have n2_ := zA (Kd.N_elder' HO109.out (Kd.R_base ho46) hb); have n3_ := zA (Kd.N_elder' HO115.out (Kd.R_base ho46) hb); have n4_ := zA (Kd.R_lower (Kd.R_new' ho46 (Kd.R_lt HO106.out)) (zW qB)); have n5_ := zA (zX BK112.out hb); have n6_ := zA (zV qB hb); clear HO103 HO106 HO109 HO115 BK112 HB; have HO103 := n0_; have HO106 := n1_; have HO109 := n2_; have HO115 := n3_; have HO118 := n4_; have BK112 := n5_; have HB := n6_; clear n0_ n1_ n2_ n3_ n4_ n5_ n6_ hb ho46; obtain ⟨Ao47, co47, eo47⟩ := Kd.N_slice HO115.out; subst eo47; obtain ⟨Ao48, co48, eo48⟩ := Kd.R_slice HO118.out; subst eo48) | ((with_reducible refine zJq (f := 45) rfl ?_); refine goesL_ (some 31) rfl rfl Try.func45 (by kernel_rfl) rfl #[.agg #[.slice Ao47 t113.length co47], .slice Ao48 y116.length co48] rfl qG ?_; (with_reducible refine (batch_Apply.calls 1000 (fun k_ => ((some k_ ≠ (.slice Ao38 t101.length co38 : Value).ownBlock ∧ (some k_ ≠ (.slice Ao39 y104.length co39 : Value).ownBlock ∧ (some k_ ≠ (.slice Ao42 t107.length co42 : Value).ownBlock ∧ k_ ≠ gb112))) ∧ some k_ ≠ (.slice Ao48 y116.length co48 : Value).ownBlock)) _ _ t113 _ _ y116 t119 t122 t123 _ ?side1 ?side2 ?side3 A4.out).mono ?_); (case side1 => exact Kd.N_V (HO115.out)); (case side2 => repeat (first | exact (Kd.R_reads' HO118.out).2.2 | (with_reducible refine Kd.C_alloc ?_ _) | (with_reducible refine Kd.C_drewN ?_ _) | (with_reducible refine Kd.C_drew ?_))); (case side3 => exact (Kd.R_reads' HO118.out).2.1); rintro e w49 ⟨v120, rfl, ho0, hb⟩; refine ⟨_, rfl, ?_⟩; have n0_ := zA (Kd.N_elder' HO103.out (Kd.N_base ho0) hb); have n1_ := zA (Kd.R_below HO106.out hb); have n2_ := zA (Kd.N_elder' HO109.out (Kd.N_base ho0) hb); have n3_ := zA (Kd.N_elder' HO115.out (Kd.N_base ho0) hb); have n4_ := zA (Kd.R_below HO118.out hb); have n5_ := zA (Kd.N_lower (Kd.N_mono (ok' := fun k_ => some k_ ≠ (.slice Ao38 t101.length co38 : Value).ownBlock ∧ some k_ ≠ (.slice Ao39 y104.length co39 : Value).ownBlock ∧ some k_ ≠ (.slice Ao42 t107.length co42 : Value).ownBlock ∧ some k_ ≠ (.slice Ao48 y116.length co48 : Value).ownBlock ∧ k_ ≠ gb112) ho0 (fun k_ hk_ => ⟨Or.elim hk_ (fun hs_ => hs_.1.1) (fun hn_ => (Kd.fresh' (Kd.N_lt HO103.out) k_ hn_)), Or.elim hk_ (fun hs_ => hs_.1.2.1) (fun hn_ => (Kd.fresh' (Kd.R_lt HO106.out) k_ hn_)), Or.elim hk_ (fun hs_ => hs_.1.2.2.1) (fun hn_ => (Kd.fresh' (Kd.N_lt HO109.out) k_ hn_)), Or.elim hk_ (fun hs_ => hs_.2) (fun hn_ => (Kd.fresh' (Kd.R_lt HO118.out) k_ hn_)), Or.elim hk_ (fun hs_ => hs_.1.2.2.2) (fun hn_ => (Kd.freshB BK112.out k_ hn_))⟩)) (zW qB)); have n6_ := zA (zX BK112.out hb); have n7_ := zA (zV qB hb); clear HO103 HO106 HO109 HO115 HO118 BK112 HB; have HO103 := n0_; have HO106 := n1_; have HO109 := n2_; have HO115 := n3_; have HO118 := n4_; have HO121 := n5_; have BK112 := n6_; have HB := n7_; clear n0_ n1_ n2_ n3_ n4_ n5_ n6_ n7_; (try clear hb); (try clear ho0)) | ((with_reducible refine gate_dst (N := 4) rfl ?_); (try (refine gate_guard (by rfl) ?_; dsimp only)); refine box_event qr (N := 4) qr (cs := #[.slice none 0 0]) (t := 75) qg ?_; intro gb124 hg w50 hbox hb; have n0_ := zA (Kd.N_below (Kd.N_elderB HO103.out gb124 (Nat.le_of_eq hg.symm)) hb); have n1_ := zA (Kd.R_below HO106.out hb); have n2_ := zA (Kd.N_below (Kd.N_elderB HO109.out gb124 (Nat.le_of_eq hg.symm)) hb); have n3_ := zA (Kd.N_below (Kd.N_elderB HO115.out gb124 (Nat.le_of_eq hg.symm)) hb); have n4_ := zA (Kd.R_below HO118.out hb); have n5_ := zA (Kd.N_below (Kd.N_elderB HO121.out gb124 (Nat.le_of_eq hg.symm)) hb); have n6_ := zA (zX BK112.out hb); have n7_ := zA (zV qB hb); have n8_ := zA (hbox); have n9_ := zA ((qS : w.heap.size ≤ gb124)); have n10_ := zA ((qS : w.heap.size ≤ gb124)); have n11_ := zA ((by rw [hg]; exact zLq (blk_lt BK112.out) : gb112 ≠ gb124)); have n12_ := zA ((by rw [hg]; exact zMq (blk_lt BK112.out) : gb124 ≠ gb112)); clear HO103 HO106 HO109 HO115 HO118 HO121 BK112 HB; have HO103 := n0_; have HO106 := n1_; have HO109 := n2_; have HO115 := n3_; have HO118 := n4_; have HO121 := n5_; have BK112 := n6_; have HB := n7_; have BK124 := n8_; have GW124 := n9_; have GE124 := n10_; have NB112_124 := n11_; have NB124_112 := n12_; clear n0_ n1_ n2_ n3_ n4_ n5_ n6_ n7_ n8_ n9_ n10_ n11_ n12_ hb hbox hg; obtain ⟨Ao51, co51, eo51⟩ := Kd.N_slice HO121.out; subst eo51; have hnb52 := NB124_112.out; have hnc52 := NB112_124.out; have hcz53_0 : w50.cell? ⟨gb124, 0, none⟩ = some (.slice none 0 0) := (zF BK124.out 0).trans rfl; have hfz53_0 := zG BK124.out 0) | ((with_reducible refine zJq (f := 95) rfl ?_); refine goesL_ (some 36) rfl rfl Try.func95 (by kernel_rfl) rfl #[] rfl qG ?_; (with_reducible refine (backhaullaw15_one.calls  t125 _ A5.out).mono ?_); rintro e w54 ⟨v126, rfl, ho0, hb⟩; refine ⟨_, rfl, ?_⟩; have n0_ := zA (Kd.N_elder' (by (with_reducible repeat (first | apply Kd.N_alloc | apply Kd.N_drewN | apply Kd.N_drew)); exact (Kd.N_mono (Kd.N_far (p := ⟨gb124, 0, none⟩) (Kd.N_mono HO103.out (fun k_ hk => (⟨hk, hk.2⟩ : _ ∧ k_ ≠ gb124))) (fun _ hk => hk.2) (.slice Ao51 t119.length co51)) (fun _ h_ => h_.1))) (Kd.N_base ho0) hb); have n1_ := zA (Kd.R_below (by (with_reducible repeat (first | apply Kd.R_alloc | apply Kd.R_drewN | apply Kd.R_drew)); exact (Kd.R_mono (Kd.R_far (p := ⟨gb124, 0, none⟩) (Kd.R_types HO106.out BK124.out (by decide)) (fun _ hk => hk.2) (.slice Ao51 t119.length co51)) (fun _ h_ => h_.1))) hb); have n2_ := zA (Kd.N_elder' (by (with_reducible repeat (first | apply Kd.N_alloc | apply Kd.N_drewN | apply Kd.N_drew)); exact (Kd.N_mono (Kd.N_far (p := ⟨gb124, 0, none⟩) (Kd.N_mono HO109.out (fun k_ hk => (⟨hk, hk.2⟩ : _ ∧ k_ ≠ gb124))) (fun _ hk => hk.2) (.slice Ao51 t119.length co51)) (fun _ h_ => h_.1))) (Kd.N_base ho0) hb); have n3_ := zA (Kd.N_elder' (by (with_reducible repeat (first | apply Kd.N_alloc | apply Kd.N_drewN | apply Kd.N_drew)); exact (Kd.N_mono (Kd.N_far (p := ⟨gb124, 0, none⟩) (Kd.N_mono HO115.out (fun k_ hk => (⟨hk, hk.2⟩ : _ ∧ k_ ≠ gb124))) (fun _ hk => hk.2) (.slice Ao51 t119.length co51)) (fun _ h_ => h_.1))) (Kd.N_base ho0) hb); have n4_ := zA (Kd.R_below (by (with_reducible repeat (first | apply Kd.R_alloc | apply Kd.R_drewN | apply Kd.R_drew)); exact (Kd.R_mono (Kd.R_far (p := ⟨gb124, 0, none⟩) (Kd.R_types HO118.out BK124.out (by decide)) (fun _ hk => hk.2) (.slice Ao51 t119.length co51)) (fun _ h_ => h_.1))) hb); have n5_ := zA (Kd.N_elder' (by (with_reducible repeat (first | apply Kd.N_alloc | apply Kd.N_drewN | apply Kd.N_drew)); exact (Kd.N_mono (Kd.N_far (p := ⟨gb124, 0, none⟩) (Kd.N_mono HO121.out (fun k_ hk => (⟨hk, hk.2⟩ : _ ∧ k_ ≠ gb124))) (fun _ hk => hk.2) (.slice Ao51 t119.length co51)) (fun _ h_ => h_.1))) (Kd.N_base ho0) hb); have n6_ := zA (Kd.N_lower (Kd.N_mono (ok' := fun k_ => some k_ ≠ (.slice Ao38 t101.length co38 : Value).ownBlock ∧ some k_ ≠ (.slice Ao39 y104.length co39 : Value).ownBlock ∧ some k_ ≠ (.slice Ao42 t107.length co42 : Value).ownBlock ∧ some k_ ≠ (.slice Ao47 t113.length co47 : Value).ownBlock ∧ some k_ ≠ (.slice Ao48 y116.length co48 : Value).ownBlock ∧ some k_ ≠ (.slice Ao51 t119.length co51 : Value).ownBlock ∧ k_ ≠ gb112 ∧ k_ ≠ gb124) ho0 (fun k_ hk_ => ⟨(Kd.fresh' (Kd.N_lt (by (with_reducible repeat (first | apply Kd.N_alloc | apply Kd.N_drewN | apply Kd.N_drew)); exact (Kd.N_mono (Kd.N_far (p := ⟨gb124, 0, none⟩) (Kd.N_mono HO103.out (fun k_ hk => (⟨hk, hk.2⟩ : _ ∧ k_ ≠ gb124))) (fun _ hk => hk.2) (.slice Ao51 t119.length co51)) (fun _ h_ => h_.1)))) k_ hk_), (Kd.fresh' (Kd.R_lt (by (with_reducible repeat (first | apply Kd.R_alloc | apply Kd.R_drewN | apply Kd.R_drew)); exact (Kd.R_mono (Kd.R_far (p := ⟨gb124, 0, none⟩) (Kd.R_types HO106.out BK124.out (by decide)) (fun _ hk => hk.2) (.slice Ao51 t119.length co51)) (fun _ h_ => h_.1)))) k_ hk_), (Kd.fresh' (Kd.N_lt (by (with_reducible repeat (first | apply Kd.N_alloc | apply Kd.N_drewN | apply Kd.N_drew)); exact (Kd.N_mono (Kd.N_far (p := ⟨gb124, 0, none⟩) (Kd.N_mono HO109.out (fun k_ hk => (⟨hk, hk.2⟩ : _ ∧ k_ ≠ gb124))) (fun _ hk => hk.2) (.slice Ao51 t119.length co51)) (fun _ h_ => h_.1)))) k_ hk_), (Kd.fresh' (Kd.N_lt (by (with_reducible repeat (first | apply Kd.N_alloc | apply Kd.N_drewN | apply Kd.N_drew)); exact (Kd.N_mono (Kd.N_far (p := ⟨gb124, 0, none⟩) (Kd.N_mono HO115.out (fun k_ hk => (⟨hk, hk.2⟩ : _ ∧ k_ ≠ gb124))) (fun _ hk => hk.2) (.slice Ao51 t119.length co51)) (fun _ h_ => h_.1)))) k_ hk_), (Kd.fresh' (Kd.R_lt (by (with_reducible repeat (first | apply Kd.R_alloc | apply Kd.R_drewN | apply Kd.R_drew)); exact (Kd.R_mono (Kd.R_far (p := ⟨gb124, 0, none⟩) (Kd.R_types HO118.out BK124.out (by decide)) (fun _ hk => hk.2) (.slice Ao51 t119.length co51)) (fun _ h_ => h_.1)))) k_ hk_), (Kd.fresh' (Kd.N_lt (by (with_reducible repeat (first | apply Kd.N_alloc | apply Kd.N_drewN | apply Kd.N_drew)); exact (Kd.N_mono (Kd.N_far (p := ⟨gb124, 0, none⟩) (Kd.N_mono HO121.out (fun k_ hk => (⟨hk, hk.2⟩ : _ ∧ k_ ≠ gb124))) (fun _ hk => hk.2) (.slice Ao51 t119.length co51)) (fun _ h_ => h_.1)))) k_ hk_), (Kd.freshB (g := gb112) (o := .cells #[.slice Ao42 t107.length co42] 75 (0, 0)) (qW BK112.out) k_ hk_), (Kd.freshB (g := gb124) (o := .cells #[.slice Ao51 t119.length co51] 75 (0, 0)) (by (with_reducible repeat (first | refine zY ?_ _ | refine zAq ?_ | refine zZ ?_ _)); refine blk_put (cs := #[.slice none 0 0]) ?_ 0 _ rfl; exact BK124.out) k_ hk_)⟩)) (zW qB)); have n7_ := zA (qX BK112.out hb); have n8_ := zA (zX (g := gb124) (o := .cells #[.slice Ao51 t119.length co51] 75 (0, 0)) (by (with_reducible repeat (first | refine zY ?_ _ | refine zAq ?_ | refine zZ ?_ _)); refine blk_put (cs := #[.slice none 0 0]) ?_ 0 _ rfl; exact BK124.out) hb); have n9_ := zA (zV qB hb); clear HO103 HO106 HO109 HO115 HO118 HO121 BK112 BK124 HB; have HO103 := n0_; have HO106 := n1_; have HO109 := n2_; have HO115 := n3_; have HO118 := n4_; have HO121 := n5_; have HO127 := n6_; have BK112 := n7_; have BK124 := n8_; have HB := n9_; clear n0_ n1_ n2_ n3_ n4_ n5_ n6_ n7_ n8_ n9_; (try clear hb); (try clear ho0)) | ((with_reducible refine gate_dst (N := 38) rfl ?_); (try (refine gate_guard (by rfl) ?_; dsimp only)); refine Kd.R_lit k166 _ 166 ?hg (N := 38) ?hd (xs := ([(⟨0, 3, 5, (⟨#[]⟩ : ByteArray)⟩ : S166)] : List (S166))) (inner := [.int .i64 0, .int .i64 3, .int .i64 5, .string (⟨#[]⟩ : ByteArray)]) (ok := fun _ => True) (okp := fun _ => True) ?hr ?hp (fun _ hk => hk) trivial (Below.refl _ _) (Nat.le_refl _) (by simp) ?_; (case hd => rfl); (case hg => rfl); (case hr => first | (go_simp; done) | (go_simp; rfl)); (case hp => exact (Reps.c4 (show Kd.M k166 _ _ _ (⟨0, 3, 5, (⟨#[]⟩ : ByteArray)⟩ : S166) [.int .i64 0, .int .i64 3, .int .i64 5, .string (⟨#[]⟩ : ByteArray)] from (k166_mkM _ _ _ (⟨0, 3, 5, (⟨#[]⟩ : ByteArray)⟩ : S166) )) (Reps.none _ _))); intro v129 w55 ho56 hb hg_ hnew_; clear hg_ hnew_; (first | rw [← Ny128.out] at ho56 | (simp only [Int.reduceToNat] at ho56; rw [← Ny128.out] at ho56)); have n0_ := zA (Kd.N_elder' HO103.out (Kd.R_base ho56) hb); have n1_ := zA (Kd.R_elder' HO106.out (Kd.R_base ho56) hb); have n2_ := zA (Kd.N_elder' HO109.out (Kd.R_base ho56) hb); have n3_ := zA (Kd.N_elder' HO115.out (Kd.R_base ho56) hb); have n4_ := zA (Kd.R_elder' HO118.out (Kd.R_base ho56) hb); have n5_ := zA (Kd.N_elder' HO121.out (Kd.R_base ho56) hb); have n6_ := zA (Kd.N_elder' HO127.out (Kd.R_base ho56) hb); have n7_ := zA (Kd.R_lower (Kd.R_new' (Kd.R_new' ho56 (Kd.R_lt HO106.out)) (Kd.R_lt HO118.out)) (zW qB)); have n8_ := zA (zX BK112.out hb); have n9_ := zA (zX BK124.out hb); have n10_ := zA (zV qB hb); clear HO103 HO106 HO109 HO115 HO118 HO121 HO127 BK112 BK124 HB; have HO103 := n0_; have HO106 := n1_; have HO109 := n2_; have HO115 := n3_; have HO118 := n4_; have HO121 := n5_; have HO127 := n6_; have HO130 := n7_; have BK112 := n8_; have BK124 := n9_; have HB := n10_; clear n0_ n1_ n2_ n3_ n4_ n5_ n6_ n7_ n8_ n9_ n10_ hb ho56; obtain ⟨Ao57, co57, eo57⟩ := Kd.N_slice HO127.out; subst eo57; obtain ⟨Ao58, co58, eo58⟩ := Kd.R_slice HO130.out; subst eo58) | ((with_reducible refine zJq (f := 48) rfl ?_); refine goesL_ (some 39) rfl rfl Try.func48 (by kernel_rfl) rfl #[.agg #[.slice Ao57 t125.length co57], .slice Ao58 y128.length co58] rfl qG ?_; (with_reducible refine (batch_Undo.calls 1000 (fun k_ => ((some k_ ≠ (.slice Ao38 t101.length co38 : Value).ownBlock ∧ (some k_ ≠ (.slice Ao39 y104.length co39 : Value).ownBlock ∧ (some k_ ≠ (.slice Ao42 t107.length co42 : Value).ownBlock ∧ (some k_ ≠ (.slice Ao47 t113.length co47 : Value).ownBlock ∧ (some k_ ≠ (.slice Ao48 y116.length co48 : Value).ownBlock ∧ (some k_ ≠ (.slice Ao51 t119.length co51 : Value).ownBlock ∧ (k_ ≠ gb112 ∧ k_ ≠ gb124))))))) ∧ some k_ ≠ (.slice Ao58 y128.length co58 : Value).ownBlock)) _ _ t125 _ _ y128 t131 t134 _ ?side1 ?side2 ?side3 A6.out).mono ?_); (case side1 => exact Kd.N_V (HO127.out)); (case side2 => repeat (first | exact (Kd.R_reads' HO130.out).2.2 | (with_reducible refine Kd.C_alloc ?_ _) | (with_reducible refine Kd.C_drewN ?_ _) | (with_reducible refine Kd.C_drew ?_))); (case side3 => exact (Kd.R_reads' HO130.out).2.1); rintro e w59 ⟨v132, rfl, ho0, hb⟩; refine ⟨_, rfl, ?_⟩; have n0_ := zA (Kd.N_elder' HO103.out (Kd.R_base ho0) hb); have n1_ := zA (Kd.R_elder' HO106.out (Kd.R_base ho0) hb); have n2_ := zA (Kd.N_elder' HO109.out (Kd.R_base ho0) hb); have n3_ := zA (Kd.N_elder' HO115.out (Kd.R_base ho0) hb); have n4_ := zA (Kd.R_elder' HO118.out (Kd.R_base ho0) hb); have n5_ := zA (Kd.N_elder' HO121.out (Kd.R_base ho0) hb); have n6_ := zA (Kd.N_elder' HO127.out (Kd.R_base ho0) hb); have n7_ := zA (Kd.R_elder' HO130.out (Kd.R_base ho0) hb); have n8_ := zA (Kd.R_lower (Kd.R_new' (Kd.R_new' (Kd.R_new' (Kd.R_mono (ok' := fun k_ => True) ho0 (fun _ hk_ => trivial)) (Kd.R_lt HO106.out)) (Kd.R_lt HO118.out)) (Kd.R_lt HO130.out)) (zW qB)); have n9_ := zA (zX BK112.out hb); have n10_ := zA (zX BK124.out hb); have n11_ := zA (zV qB hb); clear HO103 HO106 HO109 HO115 HO118 HO121 HO127 HO130 BK112 BK124 HB; have HO103 := n0_; have HO106 := n1_; have HO109 := n2_; have HO115 := n3_; have HO118 := n4_; have HO121 := n5_; have HO127 := n6_; have HO130 := n7_; have HO133 := n8_; have BK112 := n9_; have BK124 := n10_; have HB := n11_; clear n0_ n1_ n2_ n3_ n4_ n5_ n6_ n7_ n8_ n9_ n10_ n11_; (try clear hb); (try clear ho0)) | ((with_reducible refine zJq (f := 95) rfl ?_); refine goesL_ (some 43) rfl rfl Try.func95 (by kernel_rfl) rfl #[] rfl qG ?_; (with_reducible refine (backhaullaw15_one.calls  t135 _ A7.out).mono ?_); rintro e w60 ⟨v136, rfl, ho0, hb⟩; refine ⟨_, rfl, ?_⟩; have n0_ := zA (Kd.N_elder' HO103.out (Kd.N_base ho0) hb); have n1_ := zA (Kd.R_below HO106.out hb); have n2_ := zA (Kd.N_elder' HO109.out (Kd.N_base ho0) hb); have n3_ := zA (Kd.N_elder' HO115.out (Kd.N_base ho0) hb); have n4_ := zA (Kd.R_below HO118.out hb); have n5_ := zA (Kd.N_elder' HO121.out (Kd.N_base ho0) hb); have n6_ := zA (Kd.N_elder' HO127.out (Kd.N_base ho0) hb); have n7_ := zA (Kd.R_below HO130.out hb); have n8_ := zA (Kd.R_below HO133.out hb); have n9_ := zA (Kd.N_lower (Kd.N_mono (ok' := fun k_ => some k_ ≠ (.slice Ao38 t101.length co38 : Value).ownBlock ∧ some k_ ≠ (.slice Ao39 y104.length co39 : Value).ownBlock ∧ some k_ ≠ (.slice Ao42 t107.length co42 : Value).ownBlock ∧ some k_ ≠ (.slice Ao47 t113.length co47 : Value).ownBlock ∧ some k_ ≠ (.slice Ao48 y116.length co48 : Value).ownBlock ∧ some k_ ≠ (.slice Ao51 t119.length co51 : Value).ownBlock ∧ some k_ ≠ (.slice Ao57 t125.length co57 : Value).ownBlock ∧ some k_ ≠ (.slice Ao58 y128.length co58 : Value).ownBlock ∧ some k_ ≠ (v132 : Value).ownBlock ∧ k_ ≠ gb112 ∧ k_ ≠ gb124) ho0 (fun k_ hk_ => ⟨(Kd.fresh' (Kd.N_lt HO103.out) k_ hk_), (Kd.fresh' (Kd.R_lt HO106.out) k_ hk_), (Kd.fresh' (Kd.N_lt HO109.out) k_ hk_), (Kd.fresh' (Kd.N_lt HO115.out) k_ hk_), (Kd.fresh' (Kd.R_lt HO118.out) k_ hk_), (Kd.fresh' (Kd.N_lt HO121.out) k_ hk_), (Kd.fresh' (Kd.N_lt HO127.out) k_ hk_), (Kd.fresh' (Kd.R_lt HO130.out) k_ hk_), (Kd.fresh' (Kd.R_lt HO133.out) k_ hk_), (Kd.freshB BK112.out k_ hk_), (Kd.freshB BK124.out k_ hk_)⟩)) (zW qB)); have n10_ := zA (zX BK112.out hb); have n11_ := zA (zX BK124.out hb); have n12_ := zA (zV qB hb); clear HO103 HO106 HO109 HO115 HO118 HO121 HO127 HO130 HO133 BK112 BK124 HB; have HO103 := n0_; have HO106 := n1_; have HO109 := n2_; have HO115 := n3_; have HO118 := n4_; have HO121 := n5_; have HO127 := n6_; have HO130 := n7_; have HO133 := n8_; have HO137 := n9_; have BK112 := n10_; have BK124 := n11_; have HB := n12_; clear n0_ n1_ n2_ n3_ n4_ n5_ n6_ n7_ n8_ n9_ n10_ n11_ n12_; (try clear hb); (try clear ho0); obtain ⟨Ao61, co61, eo61⟩ := Kd.N_slice HO137.out; subst eo61) | ((with_reducible refine zJq (f := 56) rfl ?_); refine goesL_ (some 44) rfl rfl Try.func56 (by kernel_rfl) rfl #[.agg #[.slice Ao61 t135.length co61]] rfl qG ?_; (with_reducible refine (batch_Put.calls 1000 _ _ t135 t138 t139 _ ?side1 ?side2 A8.out).mono ?_); (case side1 => repeat (first | exact (Kd.N_reads' HO137.out).2.2 | (with_reducible refine Kd.C_alloc ?_ _) | (with_reducible refine Kd.C_drewN ?_ _) | (with_reducible refine Kd.C_drew ?_))); (case side2 => exact (Kd.N_reads' HO137.out).2.1); rintro e w62 ⟨rfl, hb⟩; refine ⟨_, rfl, ?_⟩; have n0_ := zA (Kd.N_below HO103.out hb); have n1_ := zA (Kd.R_below HO106.out hb); have n2_ := zA (Kd.N_below HO109.out hb); have n3_ := zA (Kd.N_below HO115.out hb); have n4_ := zA (Kd.R_below HO118.out hb); have n5_ := zA (Kd.N_below HO121.out hb); have n6_ := zA (Kd.N_below HO127.out hb); have n7_ := zA (Kd.R_below HO130.out hb); have n8_ := zA (Kd.R_below HO133.out hb); have n9_ := zA (Kd.N_below HO137.out hb); have n10_ := zA (zX BK112.out hb); have n11_ := zA (zX BK124.out hb); have n12_ := zA (zV qB hb); clear HO103 HO106 HO109 HO115 HO118 HO121 HO127 HO130 HO133 HO137 BK112 BK124 HB; have HO103 := n0_; have HO106 := n1_; have HO109 := n2_; have HO115 := n3_; have HO118 := n4_; have HO121 := n5_; have HO127 := n6_; have HO130 := n7_; have HO133 := n8_; have HO137 := n9_; have BK112 := n10_; have BK124 := n11_; have HB := n12_; clear n0_ n1_ n2_ n3_ n4_ n5_ n6_ n7_ n8_ n9_ n10_ n11_ n12_; (try clear hb)) | ((with_reducible refine zJq (f := 58) rfl ?_); refine goesL_ (some 49) rfl rfl Try.func58 (by kernel_rfl) rfl #[.string t138] rfl qG ?_; (with_reducible refine (batch_Take.calls 1000 t138 t140 t143 _ A9.out).mono ?_); rintro e w63 ⟨v141, rfl, ho0, hb⟩; refine ⟨_, rfl, ?_⟩; have n0_ := zA (Kd.N_elder' HO103.out (Kd.N_base (Kd.S_N ho0)) hb); have n1_ := zA (Kd.R_below HO106.out hb); have n2_ := zA (Kd.N_elder' HO109.out (Kd.N_base (Kd.S_N ho0)) hb); have n3_ := zA (Kd.N_elder' HO115.out (Kd.N_base (Kd.S_N ho0)) hb); have n4_ := zA (Kd.R_below HO118.out hb); have n5_ := zA (Kd.N_elder' HO121.out (Kd.N_base (Kd.S_N ho0)) hb); have n6_ := zA (Kd.N_elder' HO127.out (Kd.N_base (Kd.S_N ho0)) hb); have n7_ := zA (Kd.R_below HO130.out hb); have n8_ := zA (Kd.R_below HO133.out hb); have n9_ := zA (Kd.N_elder' HO137.out (Kd.N_base (Kd.S_N ho0)) hb); have n10_ := zA (Kd.N_lower (Kd.N_mono (ok' := fun k_ => some k_ ≠ (.slice Ao38 t101.length co38 : Value).ownBlock ∧ some k_ ≠ (.slice Ao39 y104.length co39 : Value).ownBlock ∧ some k_ ≠ (.slice Ao42 t107.length co42 : Value).ownBlock ∧ some k_ ≠ (.slice Ao47 t113.length co47 : Value).ownBlock ∧ some k_ ≠ (.slice Ao48 y116.length co48 : Value).ownBlock ∧ some k_ ≠ (.slice Ao51 t119.length co51 : Value).ownBlock ∧ some k_ ≠ (.slice Ao57 t125.length co57 : Value).ownBlock ∧ some k_ ≠ (.slice Ao58 y128.length co58 : Value).ownBlock ∧ some k_ ≠ (v132 : Value).ownBlock ∧ some k_ ≠ (.slice Ao61 t135.length co61 : Value).ownBlock ∧ k_ ≠ gb112 ∧ k_ ≠ gb124) (Kd.S_N (Kd.S_bound ho0)) (fun k_ hk_ => ⟨(Kd.fresh' (Kd.N_lt HO103.out) k_ hk_.2.1), (Kd.fresh' (Kd.R_lt HO106.out) k_ hk_.2.1), (Kd.fresh' (Kd.N_lt HO109.out) k_ hk_.2.1), (Kd.fresh' (Kd.N_lt HO115.out) k_ hk_.2.1), (Kd.fresh' (Kd.R_lt HO118.out) k_ hk_.2.1), (Kd.fresh' (Kd.N_lt HO121.out) k_ hk_.2.1), (Kd.fresh' (Kd.N_lt HO127.out) k_ hk_.2.1), (Kd.fresh' (Kd.R_lt HO130.out) k_ hk_.2.1), (Kd.fresh' (Kd.R_lt HO133.out) k_ hk_.2.1), (Kd.fresh' (Kd.N_lt HO137.out) k_ hk_.2.1), (Kd.freshB BK112.out k_ hk_.2.1), (Kd.freshB BK124.out k_ hk_.2.1)⟩)) (zW qB)); have n11_ := zA (zX BK112.out hb); have n12_ := zA (zX BK124.out hb); have n13_ := zA (zV qB hb); clear HO103 HO106 HO109 HO115 HO118 HO121 HO127 HO130 HO133 HO137 BK112 BK124 HB; have HO103 := n0_; have HO106 := n1_; have HO109 := n2_; have HO115 := n3_; have HO118 := n4_; have HO121 := n5_; have HO127 := n6_; have HO130 := n7_; have HO133 := n8_; have HO137 := n9_; have HO142 := n10_; have BK112 := n11_; have BK124 := n12_; have HB := n13_; clear n0_ n1_ n2_ n3_ n4_ n5_ n6_ n7_ n8_ n9_ n10_ n11_ n12_ n13_; (try clear hb); (try clear ho0)) | ((with_reducible refine gate_dst (N := 11) rfl ?_); (try (refine gate_guard (by rfl) ?_; dsimp only)); refine box_event qr (N := 11) qr (cs := #[.slice none 0 0]) (t := 75) qg ?_; intro gb144 hg w64 hbox hb; have n0_ := zA (Kd.N_below (Kd.N_elderB HO103.out gb144 (Nat.le_of_eq hg.symm)) hb); have n1_ := zA (Kd.R_below HO106.out hb); have n2_ := zA (Kd.N_below (Kd.N_elderB HO109.out gb144 (Nat.le_of_eq hg.symm)) hb); have n3_ := zA (Kd.N_below (Kd.N_elderB HO115.out gb144 (Nat.le_of_eq hg.symm)) hb); have n4_ := zA (Kd.R_below HO118.out hb); have n5_ := zA (Kd.N_below (Kd.N_elderB HO121.out gb144 (Nat.le_of_eq hg.symm)) hb); have n6_ := zA (Kd.N_below (Kd.N_elderB HO127.out gb144 (Nat.le_of_eq hg.symm)) hb); have n7_ := zA (Kd.R_below HO130.out hb); have n8_ := zA (Kd.R_below HO133.out hb); have n9_ := zA (Kd.N_below (Kd.N_elderB HO137.out gb144 (Nat.le_of_eq hg.symm)) hb); have n10_ := zA (Kd.N_below (Kd.N_elderB HO142.out gb144 (Nat.le_of_eq hg.symm)) hb); have n11_ := zA (zX BK112.out hb); have n12_ := zA (zX BK124.out hb); have n13_ := zA (zV qB hb); have n14_ := zA (hbox); have n15_ := zA ((qS : w.heap.size ≤ gb144)); have n16_ := zA ((qS : w.heap.size ≤ gb144)); have n17_ := zA ((by rw [hg]; exact zLq (blk_lt BK112.out) : gb112 ≠ gb144)); have n18_ := zA ((by rw [hg]; exact zMq (blk_lt BK112.out) : gb144 ≠ gb112)); have n19_ := zA ((by rw [hg]; exact zLq (blk_lt BK124.out) : gb124 ≠ gb144)); have n20_ := zA ((by rw [hg]; exact zMq (blk_lt BK124.out) : gb144 ≠ gb124)); clear HO103 HO106 HO109 HO115 HO118 HO121 HO127 HO130 HO133 HO137 HO142 BK112 BK124 HB; have HO103 := n0_; have HO106 := n1_; have HO109 := n2_; have HO115 := n3_; have HO118 := n4_; have HO121 := n5_; have HO127 := n6_; have HO130 := n7_; have HO133 := n8_; have HO137 := n9_; have HO142 := n10_; have BK112 := n11_; have BK124 := n12_; have HB := n13_; have BK144 := n14_; have GW144 := n15_; have GE144 := n16_; have NB112_144 := n17_; have NB144_112 := n18_; have NB124_144 := n19_; have NB144_124 := n20_; clear n0_ n1_ n2_ n3_ n4_ n5_ n6_ n7_ n8_ n9_ n10_ n11_ n12_ n13_ n14_ n15_ n16_ n17_ n18_ n19_ n20_ hb hbox hg; obtain ⟨Ao65, co65, eo65⟩ := Kd.N_slice HO142.out; subst eo65; have hnb66 := NB144_112.out; have hnc66 := NB112_144.out; have hnb67 := NB144_124.out; have hnc67 := NB124_144.out; have hcz68_0 : w64.cell? ⟨gb144, 0, none⟩ = some (.slice none 0 0) := (zF BK144.out 0).trans rfl; have hfz68_0 := zG BK144.out 0))
                                    have n0_ : Aside0 (Kd.N (Kd.slice 164 k164) 162 (w64.setCell ⟨gb144, 0, none⟩ (.slice Ao65 t140.length co65)) w.heap.size (fun k_ => some k_ ≠ (.slice Ao39 y104.length co39 : Value).ownBlock ∧ some k_ ≠ (.slice Ao42 t107.length co42 : Value).ownBlock ∧ some k_ ≠ (.slice Ao47 t113.length co47 : Value).ownBlock ∧ some k_ ≠ (.slice Ao48 y116.length co48 : Value).ownBlock ∧ some k_ ≠ (.slice Ao51 t119.length co51 : Value).ownBlock ∧ some k_ ≠ (.slice Ao57 t125.length co57 : Value).ownBlock ∧ some k_ ≠ (.slice Ao58 y128.length co58 : Value).ownBlock ∧ some k_ ≠ (v132 : Value).ownBlock ∧ some k_ ≠ (.slice Ao61 t135.length co61 : Value).ownBlock ∧ some k_ ≠ (.slice Ao65 t140.length co65 : Value).ownBlock ∧ k_ ≠ gb112 ∧ k_ ≠ gb124 ∧ k_ ≠ gb144) (.slice Ao38 t101.length co38) t101) := ⟨by (with_reducible repeat (first | apply Kd.N_alloc | apply Kd.N_drewN | apply Kd.N_drew)); exact Kd.N_mono (Kd.N_far (p := ⟨gb144, 0, none⟩) (Kd.N_mono HO103.out (fun k_ hk => (⟨hk, hk.2⟩ : _ ∧ k_ ≠ gb144))) (fun _ hk => hk.2) (.slice Ao65 t140.length co65)) (fun _ hk => ⟨hk.1.1.1.1.1.1.1.1.1.1.1.1.1.2, ⟨hk.1.1.1.1.1.1.1.1.1.1.1.1.2, ⟨hk.1.1.1.1.1.1.1.1.1.1.2, ⟨hk.1.1.1.1.1.1.1.1.1.2, ⟨hk.1.1.1.1.1.1.1.1.2, ⟨hk.1.1.1.1.1.1.2, ⟨hk.1.1.1.1.1.2, ⟨hk.1.1.1.1.2, ⟨hk.1.1.1.2, ⟨hk.1.1.2, ⟨hk.1.1.1.1.1.1.1.1.1.1.1.2, ⟨hk.1.1.1.1.1.1.1.2, hk.1.2⟩⟩⟩⟩⟩⟩⟩⟩⟩⟩⟩⟩)⟩
                                    have n1_ : Aside0 (Kd.R k166 166 (w64.setCell ⟨gb144, 0, none⟩ (.slice Ao65 t140.length co65)) w.heap.size (fun k_ => some k_ ≠ (.slice Ao48 y116.length co48 : Value).ownBlock ∧ some k_ ≠ (.slice Ao58 y128.length co58 : Value).ownBlock ∧ some k_ ≠ (v132 : Value).ownBlock) (.slice Ao39 y104.length co39) y104) := ⟨by (with_reducible repeat (first | apply Kd.R_alloc | apply Kd.R_drewN | apply Kd.R_drew)); exact Kd.R_mono (Kd.R_far (p := ⟨gb144, 0, none⟩) (Kd.R_types HO106.out BK144.out (by decide)) (fun _ hk => hk.2) (.slice Ao65 t140.length co65)) (fun _ hk => ⟨hk.1.1.1.2, ⟨hk.1.1.2, hk.1.2⟩⟩)⟩
                                    have n2_ : Aside0 (Kd.N (Kd.slice 164 k164) 162 (w64.setCell ⟨gb144, 0, none⟩ (.slice Ao65 t140.length co65)) w.heap.size (fun k_ => some k_ ≠ (.slice Ao39 y104.length co39 : Value).ownBlock ∧ some k_ ≠ (.slice Ao47 t113.length co47 : Value).ownBlock ∧ some k_ ≠ (.slice Ao48 y116.length co48 : Value).ownBlock ∧ some k_ ≠ (.slice Ao51 t119.length co51 : Value).ownBlock ∧ some k_ ≠ (.slice Ao57 t125.length co57 : Value).ownBlock ∧ some k_ ≠ (.slice Ao58 y128.length co58 : Value).ownBlock ∧ some k_ ≠ (v132 : Value).ownBlock ∧ some k_ ≠ (.slice Ao61 t135.length co61 : Value).ownBlock ∧ some k_ ≠ (.slice Ao65 t140.length co65 : Value).ownBlock ∧ k_ ≠ gb112 ∧ k_ ≠ gb124 ∧ k_ ≠ gb144) (.slice Ao42 t107.length co42) t107) := ⟨by (with_reducible repeat (first | apply Kd.N_alloc | apply Kd.N_drewN | apply Kd.N_drew)); exact Kd.N_mono (Kd.N_far (p := ⟨gb144, 0, none⟩) (Kd.N_mono HO109.out (fun k_ hk => (⟨hk, hk.2⟩ : _ ∧ k_ ≠ gb144))) (fun _ hk => hk.2) (.slice Ao65 t140.length co65)) (fun _ hk => ⟨hk.1.1.1.1.1.1.1.1.1.1.1.1, ⟨hk.1.1.1.1.1.1.1.1.1.1.2, ⟨hk.1.1.1.1.1.1.1.1.1.2, ⟨hk.1.1.1.1.1.1.1.1.2, ⟨hk.1.1.1.1.1.1.2, ⟨hk.1.1.1.1.1.2, ⟨hk.1.1.1.1.2, ⟨hk.1.1.1.2, ⟨hk.1.1.2, ⟨hk.1.1.1.1.1.1.1.1.1.1.1.2, ⟨hk.1.1.1.1.1.1.1.2, hk.1.2⟩⟩⟩⟩⟩⟩⟩⟩⟩⟩⟩)⟩
                                    have n3_ : Aside0 (Kd.N (Kd.slice 164 k164) 162 (w64.setCell ⟨gb144, 0, none⟩ (.slice Ao65 t140.length co65)) w.heap.size (fun k_ => some k_ ≠ (.slice Ao38 t101.length co38 : Value).ownBlock ∧ some k_ ≠ (.slice Ao39 y104.length co39 : Value).ownBlock ∧ some k_ ≠ (.slice Ao42 t107.length co42 : Value).ownBlock ∧ some k_ ≠ (.slice Ao48 y116.length co48 : Value).ownBlock ∧ some k_ ≠ (.slice Ao51 t119.length co51 : Value).ownBlock ∧ some k_ ≠ (.slice Ao57 t125.length co57 : Value).ownBlock ∧ some k_ ≠ (.slice Ao58 y128.length co58 : Value).ownBlock ∧ some k_ ≠ (v132 : Value).ownBlock ∧ some k_ ≠ (.slice Ao61 t135.length co61 : Value).ownBlock ∧ some k_ ≠ (.slice Ao65 t140.length co65 : Value).ownBlock ∧ k_ ≠ gb112 ∧ k_ ≠ gb124 ∧ k_ ≠ gb144) (.slice Ao47 t113.length co47) t113) := ⟨by (with_reducible repeat (first | apply Kd.N_alloc | apply Kd.N_drewN | apply Kd.N_drew)); exact Kd.N_mono (Kd.N_far (p := ⟨gb144, 0, none⟩) (Kd.N_mono HO115.out (fun k_ hk => (⟨hk, hk.2⟩ : _ ∧ k_ ≠ gb144))) (fun _ hk => hk.2) (.slice Ao65 t140.length co65)) (fun _ hk => ⟨hk.1.1.1.1.1.1.1.1.1.1.1, ⟨hk.1.1.1.1.1.1.1.1.1.1.2.1, ⟨hk.1.1.1.1.1.1.1.1.1.1.2.2.1, ⟨hk.1.1.1.1.1.1.1.1.1.2, ⟨hk.1.1.1.1.1.1.1.1.2, ⟨hk.1.1.1.1.1.1.2, ⟨hk.1.1.1.1.1.2, ⟨hk.1.1.1.1.2, ⟨hk.1.1.1.2, ⟨hk.1.1.2, ⟨hk.1.1.1.1.1.1.1.1.1.1.2.2.2, ⟨hk.1.1.1.1.1.1.1.2, hk.1.2⟩⟩⟩⟩⟩⟩⟩⟩⟩⟩⟩⟩)⟩
                                    have n4_ : Aside0 (Kd.R k166 166 (w64.setCell ⟨gb144, 0, none⟩ (.slice Ao65 t140.length co65)) w.heap.size (fun k_ => some k_ ≠ (.slice Ao39 y104.length co39 : Value).ownBlock ∧ some k_ ≠ (.slice Ao58 y128.length co58 : Value).ownBlock ∧ some k_ ≠ (v132 : Value).ownBlock) (.slice Ao48 y116.length co48) y116) := ⟨by (with_reducible repeat (first | apply Kd.R_alloc | apply Kd.R_drewN | apply Kd.R_drew)); exact Kd.R_mono (Kd.R_far (p := ⟨gb144, 0, none⟩) (Kd.R_types HO118.out BK144.out (by decide)) (fun _ hk => hk.2) (.slice Ao65 t140.length co65)) (fun _ hk => ⟨hk.1.1.1.2, ⟨hk.1.1.2, hk.1.2⟩⟩)⟩
                                    have n5_ : Aside0 (Kd.N (Kd.slice 164 k164) 162 (w64.setCell ⟨gb144, 0, none⟩ (.slice Ao65 t140.length co65)) w.heap.size (fun k_ => some k_ ≠ (.slice Ao38 t101.length co38 : Value).ownBlock ∧ some k_ ≠ (.slice Ao39 y104.length co39 : Value).ownBlock ∧ some k_ ≠ (.slice Ao42 t107.length co42 : Value).ownBlock ∧ some k_ ≠ (.slice Ao48 y116.length co48 : Value).ownBlock ∧ some k_ ≠ (.slice Ao57 t125.length co57 : Value).ownBlock ∧ some k_ ≠ (.slice Ao58 y128.length co58 : Value).ownBlock ∧ some k_ ≠ (v132 : Value).ownBlock ∧ some k_ ≠ (.slice Ao61 t135.length co61 : Value).ownBlock ∧ some k_ ≠ (.slice Ao65 t140.length co65 : Value).ownBlock ∧ k_ ≠ gb112 ∧ k_ ≠ gb124 ∧ k_ ≠ gb144) (.slice Ao51 t119.length co51) t119) := ⟨by (with_reducible repeat (first | apply Kd.N_alloc | apply Kd.N_drewN | apply Kd.N_drew)); exact Kd.N_mono (Kd.N_far (p := ⟨gb144, 0, none⟩) (Kd.N_mono HO121.out (fun k_ hk => (⟨hk, hk.2⟩ : _ ∧ k_ ≠ gb144))) (fun _ hk => hk.2) (.slice Ao65 t140.length co65)) (fun _ hk => ⟨hk.1.1.1.1.1.1.1.1.1, ⟨hk.1.1.1.1.1.1.1.1.2.1, ⟨hk.1.1.1.1.1.1.1.1.2.2.1, ⟨hk.1.1.1.1.1.1.1.1.2.2.2.1, ⟨hk.1.1.1.1.1.1.2, ⟨hk.1.1.1.1.1.2, ⟨hk.1.1.1.1.2, ⟨hk.1.1.1.2, ⟨hk.1.1.2, ⟨hk.1.1.1.1.1.1.1.1.2.2.2.2, ⟨hk.1.1.1.1.1.1.1.2, hk.1.2⟩⟩⟩⟩⟩⟩⟩⟩⟩⟩⟩)⟩
                                    have n6_ : Aside0 (Kd.N (Kd.slice 164 k164) 162 (w64.setCell ⟨gb144, 0, none⟩ (.slice Ao65 t140.length co65)) w.heap.size (fun k_ => some k_ ≠ (.slice Ao38 t101.length co38 : Value).ownBlock ∧ some k_ ≠ (.slice Ao39 y104.length co39 : Value).ownBlock ∧ some k_ ≠ (.slice Ao42 t107.length co42 : Value).ownBlock ∧ some k_ ≠ (.slice Ao47 t113.length co47 : Value).ownBlock ∧ some k_ ≠ (.slice Ao48 y116.length co48 : Value).ownBlock ∧ some k_ ≠ (.slice Ao51 t119.length co51 : Value).ownBlock ∧ some k_ ≠ (.slice Ao58 y128.length co58 : Value).ownBlock ∧ some k_ ≠ (v132 : Value).ownBlock ∧ some k_ ≠ (.slice Ao61 t135.length co61 : Value).ownBlock ∧ some k_ ≠ (.slice Ao65 t140.length co65 : Value).ownBlock ∧ k_ ≠ gb112 ∧ k_ ≠ gb124 ∧ k_ ≠ gb144) (.slice Ao57 t125.length co57) t125) := ⟨by (with_reducible repeat (first | apply Kd.N_alloc | apply Kd.N_drewN | apply Kd.N_drew)); exact Kd.N_mono (Kd.N_far (p := ⟨gb144, 0, none⟩) (Kd.N_mono HO127.out (fun k_ hk => (⟨hk, hk.2⟩ : _ ∧ k_ ≠ gb144))) (fun _ hk => hk.2) (.slice Ao65 t140.length co65)) (fun _ hk => ⟨hk.1.1.1.1.1.1.1, ⟨hk.1.1.1.1.1.1.2.1, ⟨hk.1.1.1.1.1.1.2.2.1, ⟨hk.1.1.1.1.1.1.2.2.2.1, ⟨hk.1.1.1.1.1.1.2.2.2.2.1, ⟨hk.1.1.1.1.1.1.2.2.2.2.2.1, ⟨hk.1.1.1.1.1.2, ⟨hk.1.1.1.1.2, ⟨hk.1.1.1.2, ⟨hk.1.1.2, ⟨hk.1.1.1.1.1.1.2.2.2.2.2.2.1, ⟨hk.1.1.1.1.1.1.2.2.2.2.2.2.2, hk.1.2⟩⟩⟩⟩⟩⟩⟩⟩⟩⟩⟩⟩)⟩
                                    have n7_ : Aside0 (Kd.R k166 166 (w64.setCell ⟨gb144, 0, none⟩ (.slice Ao65 t140.length co65)) w.heap.size (fun k_ => some k_ ≠ (.slice Ao39 y104.length co39 : Value).ownBlock ∧ some k_ ≠ (.slice Ao48 y116.length co48 : Value).ownBlock ∧ some k_ ≠ (v132 : Value).ownBlock) (.slice Ao58 y128.length co58) y128) := ⟨by (with_reducible repeat (first | apply Kd.R_alloc | apply Kd.R_drewN | apply Kd.R_drew)); exact Kd.R_mono (Kd.R_far (p := ⟨gb144, 0, none⟩) (Kd.R_types HO130.out BK144.out (by decide)) (fun _ hk => hk.2) (.slice Ao65 t140.length co65)) (fun _ hk => ⟨hk.1.1.1.2, ⟨hk.1.1.2, hk.1.2⟩⟩)⟩
                                    have n8_ : Aside0 (Kd.R k166 166 (w64.setCell ⟨gb144, 0, none⟩ (.slice Ao65 t140.length co65)) w.heap.size (fun k_ => some k_ ≠ (.slice Ao39 y104.length co39 : Value).ownBlock ∧ some k_ ≠ (.slice Ao48 y116.length co48 : Value).ownBlock ∧ some k_ ≠ (.slice Ao58 y128.length co58 : Value).ownBlock) v132 t131) := ⟨by (with_reducible repeat (first | apply Kd.R_alloc | apply Kd.R_drewN | apply Kd.R_drew)); exact Kd.R_mono (Kd.R_far (p := ⟨gb144, 0, none⟩) (Kd.R_types HO133.out BK144.out (by decide)) (fun _ hk => hk.2) (.slice Ao65 t140.length co65)) (fun _ hk => ⟨hk.1.1.1.2, ⟨hk.1.1.2, hk.1.2⟩⟩)⟩
                                    have n9_ : Aside0 (Kd.N (Kd.slice 164 k164) 162 (w64.setCell ⟨gb144, 0, none⟩ (.slice Ao65 t140.length co65)) w.heap.size (fun k_ => some k_ ≠ (.slice Ao38 t101.length co38 : Value).ownBlock ∧ some k_ ≠ (.slice Ao39 y104.length co39 : Value).ownBlock ∧ some k_ ≠ (.slice Ao42 t107.length co42 : Value).ownBlock ∧ some k_ ≠ (.slice Ao47 t113.length co47 : Value).ownBlock ∧ some k_ ≠ (.slice Ao48 y116.length co48 : Value).ownBlock ∧ some k_ ≠ (.slice Ao51 t119.length co51 : Value).ownBlock ∧ some k_ ≠ (.slice Ao57 t125.length co57 : Value).ownBlock ∧ some k_ ≠ (.slice Ao58 y128.length co58 : Value).ownBlock ∧ some k_ ≠ (v132 : Value).ownBlock ∧ some k_ ≠ (.slice Ao65 t140.length co65 : Value).ownBlock ∧ k_ ≠ gb112 ∧ k_ ≠ gb124 ∧ k_ ≠ gb144) (.slice Ao61 t135.length co61) t135) := ⟨by (with_reducible repeat (first | apply Kd.N_alloc | apply Kd.N_drewN | apply Kd.N_drew)); exact Kd.N_mono (Kd.N_far (p := ⟨gb144, 0, none⟩) (Kd.N_mono HO137.out (fun k_ hk => (⟨hk, hk.2⟩ : _ ∧ k_ ≠ gb144))) (fun _ hk => hk.2) (.slice Ao65 t140.length co65)) (fun _ hk => ⟨hk.1.1.1.1, ⟨hk.1.1.1.2.1, ⟨hk.1.1.1.2.2.1, ⟨hk.1.1.1.2.2.2.1, ⟨hk.1.1.1.2.2.2.2.1, ⟨hk.1.1.1.2.2.2.2.2.1, ⟨hk.1.1.1.2.2.2.2.2.2.1, ⟨hk.1.1.1.2.2.2.2.2.2.2.1, ⟨hk.1.1.1.2.2.2.2.2.2.2.2.1, ⟨hk.1.1.2, ⟨hk.1.1.1.2.2.2.2.2.2.2.2.2.1, ⟨hk.1.1.1.2.2.2.2.2.2.2.2.2.2, hk.1.2⟩⟩⟩⟩⟩⟩⟩⟩⟩⟩⟩⟩)⟩
                                    have n10_ : Aside0 (Kd.N (Kd.slice 164 k164) 162 (w64.setCell ⟨gb144, 0, none⟩ (.slice Ao65 t140.length co65)) w.heap.size (fun k_ => some k_ ≠ (.slice Ao38 t101.length co38 : Value).ownBlock ∧ some k_ ≠ (.slice Ao39 y104.length co39 : Value).ownBlock ∧ some k_ ≠ (.slice Ao42 t107.length co42 : Value).ownBlock ∧ some k_ ≠ (.slice Ao47 t113.length co47 : Value).ownBlock ∧ some k_ ≠ (.slice Ao48 y116.length co48 : Value).ownBlock ∧ some k_ ≠ (.slice Ao51 t119.length co51 : Value).ownBlock ∧ some k_ ≠ (.slice Ao57 t125.length co57 : Value).ownBlock ∧ some k_ ≠ (.slice Ao58 y128.length co58 : Value).ownBlock ∧ some k_ ≠ (v132 : Value).ownBlock ∧ some k_ ≠ (.slice Ao61 t135.length co61 : Value).ownBlock ∧ k_ ≠ gb112 ∧ k_ ≠ gb124 ∧ k_ ≠ gb144) (.slice Ao65 t140.length co65) t140) := ⟨by (with_reducible repeat (first | apply Kd.N_alloc | apply Kd.N_drewN | apply Kd.N_drew)); exact Kd.N_mono (Kd.N_far (p := ⟨gb144, 0, none⟩) (Kd.N_mono HO142.out (fun k_ hk => (⟨hk, hk.2⟩ : _ ∧ k_ ≠ gb144))) (fun _ hk => hk.2) (.slice Ao65 t140.length co65)) (fun _ hk => ⟨hk.1.1.1, ⟨hk.1.1.2.1, ⟨hk.1.1.2.2.1, ⟨hk.1.1.2.2.2.1, ⟨hk.1.1.2.2.2.2.1, ⟨hk.1.1.2.2.2.2.2.1, ⟨hk.1.1.2.2.2.2.2.2.1, ⟨hk.1.1.2.2.2.2.2.2.2.1, ⟨hk.1.1.2.2.2.2.2.2.2.2.1, ⟨hk.1.1.2.2.2.2.2.2.2.2.2.1, ⟨hk.1.1.2.2.2.2.2.2.2.2.2.2.1, ⟨hk.1.1.2.2.2.2.2.2.2.2.2.2.2, hk.1.2⟩⟩⟩⟩⟩⟩⟩⟩⟩⟩⟩⟩)⟩
                                    have n11_ : Aside0 ((w64.setCell ⟨gb144, 0, none⟩ (.slice Ao65 t140.length co65)).heap[gb112]? = some (.cells #[.slice Ao42 t107.length co42] 75 (0, 0))) := ⟨by (with_reducible repeat (first | refine zY ?_ _ | refine zAq ?_ | refine zZ ?_ _)); refine blk_far ?_ NB112_144.out _; exact BK112.out⟩
                                    have n12_ : Aside0 ((w64.setCell ⟨gb144, 0, none⟩ (.slice Ao65 t140.length co65)).heap[gb124]? = some (.cells #[.slice Ao51 t119.length co51] 75 (0, 0))) := ⟨by (with_reducible repeat (first | refine zY ?_ _ | refine zAq ?_ | refine zZ ?_ _)); refine blk_far ?_ NB124_144.out _; exact BK124.out⟩
                                    have n13_ : Aside0 ((w64.setCell ⟨gb144, 0, none⟩ (.slice Ao65 t140.length co65)).heap[gb144]? = some (.cells #[.slice Ao65 t140.length co65] 75 (0, 0))) := ⟨by (with_reducible repeat (first | refine zY ?_ _ | refine zAq ?_ | refine zZ ?_ _)); refine blk_put (cs := #[.slice none 0 0]) ?_ 0 _ rfl; exact BK144.out⟩
                                    have n14_ : Aside0 (Below w.heap.size w (w64.setCell ⟨gb144, 0, none⟩ (.slice Ao65 t140.length co65))) := ⟨qB⟩
                                    (try clear HO103); (try clear HO106); (try clear HO109); (try clear HO115); (try clear HO118); (try clear HO121); (try clear HO127); (try clear HO130); (try clear HO133); (try clear HO137); (try clear HO142); (try clear BK112); (try clear BK124); (try clear BK144); (try clear HB)
                                    generalize (w64.setCell ⟨gb144, 0, none⟩ (.slice Ao65 t140.length co65)) = w69 at n0_ n1_ n2_ n3_ n4_ n5_ n6_ n7_ n8_ n9_ n10_ n11_ n12_ n13_ n14_ ⊢; have HO103 := n0_; have HO106 := n1_; have HO109 := n2_; have HO115 := n3_; have HO118 := n4_; have HO121 := n5_; have HO127 := n6_; have HO130 := n7_; have HO133 := n8_; have HO137 := n9_; have HO142 := n10_; have BK112 := n11_; have BK124 := n12_; have BK144 := n13_; have HB := n14_; clear n0_ n1_ n2_ n3_ n4_ n5_ n6_ n7_ n8_ n9_ n10_ n11_ n12_ n13_ n14_; have n0_ := zA (Kd.N_drew HO103.out); have n1_ := zA (Kd.R_drew HO106.out); have n2_ := zA (Kd.N_drew HO109.out); have n3_ := zA (Kd.N_drew HO115.out); have n4_ := zA (Kd.R_drew HO118.out); have n5_ := zA (Kd.N_drew HO121.out); have n6_ := zA (Kd.N_drew HO127.out); have n7_ := zA (Kd.R_drew HO130.out); have n8_ := zA (Kd.R_drew HO133.out); have n9_ := zA (Kd.N_drew HO137.out); have n10_ := zA (Kd.N_drew HO142.out); have n11_ := zA (zAq BK112.out); have n12_ := zA (zAq BK124.out); have n13_ := zA (zAq BK144.out); have n14_ := zA (zC HB.out); clear HO103; clear HO106; clear HO109; clear HO115; clear HO118; clear HO121; clear HO127; clear HO130; clear HO133; clear HO137; clear HO142; clear BK112; clear BK124; clear BK144; clear HB; have HO103 := n0_; have HO106 := n1_; have HO109 := n2_; have HO115 := n3_; have HO118 := n4_; have HO121 := n5_; have HO127 := n6_; have HO130 := n7_; have HO133 := n8_; have HO137 := n9_; have HO142 := n10_; have BK112 := n11_; have BK124 := n12_; have BK144 := n13_; have HB := n14_; clear n0_ n1_ n2_ n3_ n4_ n5_ n6_ n7_ n8_ n9_ n10_ n11_ n12_ n13_ n14_; refine start_ (n := 8) (S := fun w' => w'.cell? ⟨gb112, 0, none⟩ = some (.slice Ao42 t107.length co42)) (ds := []) #[o0, o0, o0, o0, o0, o0, o0, o0] (by kernel_rfl) rfl rfl ((zF BK112.out 0).trans rfl) (fun hHeld => ?_); refine with_tabW backhaullaw15_awake.tab6 backhaullaw15_awake.bits6 (fun HT_ HW_ => ?_); generalize w69.drew = w70 at HO103 HO106 HO109 HO115 HO118 HO121 HO127 HO130 HO133 HO137 HO142 BK112 BK124 BK144 HB hHeld ⊢; refine take_ (i := 1) (N := some 54) (v := ?_) (a' := ?_) #[o0, o1, o0, o0, o0, o0, o0, o0] rfl rfl (take_ofW HT_.out HW_.out (by kernel_rfl)) (fun _ _ _ h => h) (Or.inl ⟨by rfl, ?_⟩) hHeld ?_ ?_; rotate_left
                                    · intro w' s0
                                      go_simp; with_reducible rfl
                                    rotate_left
                                    · simp only [Act.put, zH, zI, zJ, i64_w, i32_w]
                                      rfl
                                    refine one_ (i := 0) (N := some 53) #[o1, o1, o0, o0, o0, o0, o0, o0] rfl rfl (one_of HT_.out (by kernel_rfl)) (by decide) (fun K hK => ?_); refine goes_ Try.func95 (by kernel_rfl) rfl #[] (by rfl) rfl rfl qG ?_; with_reducible refine (backhaullaw15_one.calls  t145 _ A10.out).mono ?_
                                    rintro e w71 ⟨v146, rfl, ho0, hb⟩; refine ⟨_, rfl, ?_⟩; have n0_ := zA (Kd.N_elder' HO103.out (Kd.N_base ho0) hb); have n1_ := zA (Kd.R_below HO106.out hb); have n2_ := zA (Kd.N_elder' HO109.out (Kd.N_base ho0) hb); have n3_ := zA (Kd.N_elder' HO115.out (Kd.N_base ho0) hb); have n4_ := zA (Kd.R_below HO118.out hb); have n5_ := zA (Kd.N_elder' HO121.out (Kd.N_base ho0) hb); have n6_ := zA (Kd.N_elder' HO127.out (Kd.N_base ho0) hb); have n7_ := zA (Kd.R_below HO130.out hb); have n8_ := zA (Kd.R_below HO133.out hb); have n9_ := zA (Kd.N_elder' HO137.out (Kd.N_base ho0) hb); have n10_ := zA (Kd.N_elder' HO142.out (Kd.N_base ho0) hb); have n11_ := zA (Kd.N_lower (Kd.N_mono (ok' := fun k_ => some k_ ≠ (.slice Ao38 t101.length co38 : Value).ownBlock ∧ some k_ ≠ (.slice Ao39 y104.length co39 : Value).ownBlock ∧ some k_ ≠ (.slice Ao42 t107.length co42 : Value).ownBlock ∧ some k_ ≠ (.slice Ao47 t113.length co47 : Value).ownBlock ∧ some k_ ≠ (.slice Ao48 y116.length co48 : Value).ownBlock ∧ some k_ ≠ (.slice Ao51 t119.length co51 : Value).ownBlock ∧ some k_ ≠ (.slice Ao57 t125.length co57 : Value).ownBlock ∧ some k_ ≠ (.slice Ao58 y128.length co58 : Value).ownBlock ∧ some k_ ≠ (v132 : Value).ownBlock ∧ some k_ ≠ (.slice Ao61 t135.length co61 : Value).ownBlock ∧ some k_ ≠ (.slice Ao65 t140.length co65 : Value).ownBlock ∧ k_ ≠ gb112 ∧ k_ ≠ gb124 ∧ k_ ≠ gb144) ho0 (fun k_ hk_ => ⟨(Kd.fresh' (Kd.N_lt HO103.out) k_ hk_), (Kd.fresh' (Kd.R_lt HO106.out) k_ hk_), (Kd.fresh' (Kd.N_lt HO109.out) k_ hk_), (Kd.fresh' (Kd.N_lt HO115.out) k_ hk_), (Kd.fresh' (Kd.R_lt HO118.out) k_ hk_), (Kd.fresh' (Kd.N_lt HO121.out) k_ hk_), (Kd.fresh' (Kd.N_lt HO127.out) k_ hk_), (Kd.fresh' (Kd.R_lt HO130.out) k_ hk_), (Kd.fresh' (Kd.R_lt HO133.out) k_ hk_), (Kd.fresh' (Kd.N_lt HO137.out) k_ hk_), (Kd.fresh' (Kd.N_lt HO142.out) k_ hk_), (Kd.freshB BK112.out k_ hk_), (Kd.freshB BK124.out k_ hk_), (Kd.freshB BK144.out k_ hk_)⟩)) (zW qB)); have n12_ := zA (zX BK112.out hb); have n13_ := zA (zX BK124.out hb); have n14_ := zA (zX BK144.out hb); have n15_ := zA (zV qB hb); clear HO103; clear HO106; clear HO109; clear HO115; clear HO118; clear HO121; clear HO127; clear HO130; clear HO133; clear HO137; clear HO142; clear BK112; clear BK124; clear BK144; clear HB; have HO103 := n0_; have HO106 := n1_; have HO109 := n2_; have HO115 := n3_; have HO118 := n4_; have HO121 := n5_; have HO127 := n6_; have HO130 := n7_; have HO133 := n8_; have HO137 := n9_; have HO142 := n10_; have HO147 := n11_; have BK112 := n12_; have BK124 := n13_; have BK144 := n14_; have HB := n15_; clear n0_ n1_ n2_ n3_ n4_ n5_ n6_ n7_ n8_ n9_ n10_ n11_ n12_ n13_ n14_ n15_; (try clear hb); (try clear hb2); (try clear hk); (try clear hi); (try clear ho0)
                                    obtain ⟨Ao72, co72, eo72⟩ := Kd.N_slice HO147.out; (first | subst eo72 | (injection eo72 with f1_ f2_ f3_; have f4_ := f1_.symm; have f5_ := f3_.symm; clear f1_ f2_ f3_; subst f4_; subst f5_))
                                    refine hK.out _ _ ((zF BK112.out 0).trans rfl) (fun hHeld => ?_); clear hK K; refine norm_ (a' := ?_) ?_ ?_; rotate_left
                                    · show Act.put _ (some 53) _ = _
                                      simp only [Act.put, zH, zI, zJ, i64_w, i32_w]; rfl
                                    refine one_ (i := 2) (N := some 55) #[o1, o1, o1, o0, o0, o0, o0, o0] rfl rfl (one_of HT_.out (by kernel_rfl)) (by decide) (fun K hK => ?_); refine goes_ Try.func60 (by kernel_rfl) rfl #[.agg #[.slice Ao72 t145.length co72], .agg #[.slice Ao42 t107.length co42]] (by rfl) rfl rfl qG ?_; with_reducible refine (batch_Diff.calls 1000 _ _ t145 _ _ t107 t148 t151 _ ?side1 ?side2 ?side3 ?side4 A11.out).mono ?_
                                    (case side1 => repeat (first | exact (Kd.N_reads' HO147.out).2.2 | (with_reducible refine Kd.C_alloc ?_ _) | (with_reducible refine Kd.C_drewN ?_ _) | (with_reducible refine Kd.C_drew ?_)))
                                    (case side2 => exact (Kd.N_reads' HO147.out).2.1)
                                    (case side3 => repeat (first | exact (Kd.N_reads' HO109.out).2.2 | (with_reducible refine Kd.C_alloc ?_ _) | (with_reducible refine Kd.C_drewN ?_ _) | (with_reducible refine Kd.C_drew ?_)))
                                    (case side4 => exact (Kd.N_reads' HO109.out).2.1)
                                    rintro e w73 ⟨v149, rfl, ho0, hb⟩; refine ⟨_, rfl, ?_⟩; have n0_ := zA (Kd.N_elder' HO103.out (Kd.R_base ho0) hb); have n1_ := zA (Kd.R_elder' HO106.out (Kd.R_base ho0) hb); have n2_ := zA (Kd.N_elder' HO109.out (Kd.R_base ho0) hb); have n3_ := zA (Kd.N_elder' HO115.out (Kd.R_base ho0) hb); have n4_ := zA (Kd.R_elder' HO118.out (Kd.R_base ho0) hb); have n5_ := zA (Kd.N_elder' HO121.out (Kd.R_base ho0) hb); have n6_ := zA (Kd.N_elder' HO127.out (Kd.R_base ho0) hb); have n7_ := zA (Kd.R_elder' HO130.out (Kd.R_base ho0) hb); have n8_ := zA (Kd.R_elder' HO133.out (Kd.R_base ho0) hb); have n9_ := zA (Kd.N_elder' HO137.out (Kd.R_base ho0) hb); have n10_ := zA (Kd.N_elder' HO142.out (Kd.R_base ho0) hb); have n11_ := zA (Kd.N_elder' HO147.out (Kd.R_base ho0) hb); have n12_ := zA (Kd.R_lower (Kd.R_new' (Kd.R_new' (Kd.R_new' (Kd.R_new' ho0 (Kd.R_lt HO106.out)) (Kd.R_lt HO118.out)) (Kd.R_lt HO130.out)) (Kd.R_lt HO133.out)) (zW qB)); have n13_ := zA (zX BK112.out hb); have n14_ := zA (zX BK124.out hb); have n15_ := zA (zX BK144.out hb); have n16_ := zA (zV qB hb); clear HO103; clear HO106; clear HO109; clear HO115; clear HO118; clear HO121; clear HO127; clear HO130; clear HO133; clear HO137; clear HO142; clear HO147; clear BK112; clear BK124; clear BK144; clear HB; have HO103 := n0_; have HO106 := n1_; have HO109 := n2_; have HO115 := n3_; have HO118 := n4_; have HO121 := n5_; have HO127 := n6_; have HO130 := n7_; have HO133 := n8_; have HO137 := n9_; have HO142 := n10_; have HO147 := n11_; have HO150 := n12_; have BK112 := n13_; have BK124 := n14_; have BK144 := n15_; have HB := n16_; clear n0_ n1_ n2_ n3_ n4_ n5_ n6_ n7_ n8_ n9_ n10_ n11_ n12_ n13_ n14_ n15_ n16_; (try clear hb); (try clear hb2); (try clear hk); (try clear hi); (try clear ho0); refine hK.out _ _ ((zF BK112.out 0).trans rfl) (fun hHeld => ?_); clear hK K; refine norm_ (a' := ?_) ?_ ?_; rotate_left
                                    · show Act.put _ (some 55) _ = _
                                      simp only [Act.put, zH, zI, zJ, i64_w, i32_w]; rfl
                                    refine pure_ (i := 3) (N := some 52) #[o1, o1, o1, o1, o0, o0, o0, o0] rfl rfl (any_of HT_.out (by kernel_rfl)) (fun _ _ _ h => h) (Or.inl ⟨by rfl, qy⟩) qz ?_; refine pure_ (i := 4) (N := some 56) #[o1, o1, o1, o1, o1, o0, o0, o0] rfl rfl (any_of HT_.out (by kernel_rfl)) (fun _ _ _ h => h) (Or.inl ⟨by rfl, qy⟩) qz ?_; refine pure_ (i := 5) (N := some 57) #[o1, o1, o1, o1, o1, o1, o0, o0] rfl rfl (any_of HT_.out (by kernel_rfl)) (fun _ _ _ h => h) (Or.inl ⟨by rfl, qy⟩) qz ?_; refine pure_ (i := 6) (N := some 13) #[o1, o1, o1, o1, o1, o1, o1, o0] rfl rfl (any_of HT_.out (by kernel_rfl)) (fun _ _ _ h => h) (Or.inl ⟨by rfl, qy⟩) qz ?_; refine pure_ (i := 7) (N := some 14) #[o1, o1, o1, o1, o1, o1, o1, o1] rfl rfl (any_of HT_.out (by kernel_rfl)) (fun _ _ _ h => h) (Or.inl ⟨by rfl, qy⟩) qz ?_; refine done_ (done_of HT_.out (by kernel_rfl)) ?_; have hcz74_0 : w73.cell? ⟨gb112, 0, none⟩ = some (.slice Ao42 t107.length co42) := (zF BK112.out 0).trans rfl; have hfz74_0 := zG BK112.out 0; try go_wp2_with (first | ((with_reducible refine zJq (f := 50) rfl ?_); refine goesL_ (some 60) rfl rfl Try.func50 (by kernel_rfl) rfl #[.agg #[.slice Ao42 t107.length co42], .int .i64 1, .int .i64 7] rfl qG ?_; (with_reducible refine (batch_Get.calls 1000 _ _ t107 1 7 t152 true _ ?side1 ?side2 A12.out).mono ?_); (case side1 => repeat (first | exact (Kd.N_reads' HO109.out).2.2 | (with_reducible refine Kd.C_alloc ?_ _) | (with_reducible refine Kd.C_drewN ?_ _) | (with_reducible refine Kd.C_drew ?_))); (case side2 => exact (Kd.N_reads' HO109.out).2.1); rintro e w75 ⟨rfl, hb⟩; refine ⟨_, rfl, ?_⟩; have n0_ := zA (Kd.N_below HO103.out hb); have n1_ := zA (Kd.R_below HO106.out hb); have n2_ := zA (Kd.N_below HO109.out hb); have n3_ := zA (Kd.N_below HO115.out hb); have n4_ := zA (Kd.R_below HO118.out hb); have n5_ := zA (Kd.N_below HO121.out hb); have n6_ := zA (Kd.N_below HO127.out hb); have n7_ := zA (Kd.R_below HO130.out hb); have n8_ := zA (Kd.R_below HO133.out hb); have n9_ := zA (Kd.N_below HO137.out hb); have n10_ := zA (Kd.N_below HO142.out hb); have n11_ := zA (Kd.N_below HO147.out hb); have n12_ := zA (Kd.R_below HO150.out hb); have n13_ := zA (zX BK112.out hb); have n14_ := zA (zX BK124.out hb); have n15_ := zA (zX BK144.out hb); have n16_ := zA (zV qB hb); clear HO103 HO106 HO109 HO115 HO118 HO121 HO127 HO130 HO133 HO137 HO142 HO147 HO150 BK112 BK124 BK144 HB; have HO103 := n0_; have HO106 := n1_; have HO109 := n2_; have HO115 := n3_; have HO118 := n4_; have HO121 := n5_; have HO127 := n6_; have HO130 := n7_; have HO133 := n8_; have HO137 := n9_; have HO142 := n10_; have HO147 := n11_; have HO150 := n12_; have BK112 := n13_; have BK124 := n14_; have BK144 := n15_; have HB := n16_; clear n0_ n1_ n2_ n3_ n4_ n5_ n6_ n7_ n8_ n9_ n10_ n11_ n12_ n13_ n14_ n15_ n16_; (try clear hb)))
                                    have n0_ := zA (Kd.N_drew HO103.out); have n1_ := zA (Kd.R_drew HO106.out); have n2_ := zA (Kd.N_drew HO109.out); have n3_ := zA (Kd.N_drew HO115.out); have n4_ := zA (Kd.R_drew HO118.out); have n5_ := zA (Kd.N_drew HO121.out); have n6_ := zA (Kd.N_drew HO127.out); have n7_ := zA (Kd.R_drew HO130.out); have n8_ := zA (Kd.R_drew HO133.out); have n9_ := zA (Kd.N_drew HO137.out); have n10_ := zA (Kd.N_drew HO142.out); have n11_ := zA (Kd.N_drew HO147.out); have n12_ := zA (Kd.R_drew HO150.out); have n13_ := zA (zAq BK112.out); have n14_ := zA (zAq BK124.out); have n15_ := zA (zAq BK144.out); have n16_ := zA (zC HB.out); clear HO103; clear HO106; clear HO109; clear HO115; clear HO118; clear HO121; clear HO127; clear HO130; clear HO133; clear HO137; clear HO142; clear HO147; clear HO150; clear BK112; clear BK124; clear BK144; clear HB; have HO103 := n0_; have HO106 := n1_; have HO109 := n2_; have HO115 := n3_; have HO118 := n4_; have HO121 := n5_; have HO127 := n6_; have HO130 := n7_; have HO133 := n8_; have HO137 := n9_; have HO142 := n10_; have HO147 := n11_; have HO150 := n12_; have BK112 := n13_; have BK124 := n14_; have BK144 := n15_; have HB := n16_; clear n0_ n1_ n2_ n3_ n4_ n5_ n6_ n7_ n8_ n9_ n10_ n11_ n12_ n13_ n14_ n15_ n16_; obtain ⟨Ao77, co77, eo77⟩ := Kd.R_slice HO133.out; (first | subst eo77 | (injection eo77 with f1_ f2_ f3_; have f4_ := f1_.symm; have f5_ := f3_.symm; clear f1_ f2_ f3_; subst f4_; subst f5_))
                                    have p154 : 0 ≤ (0 : Int) := (by omega)
                                    have q154 : 0 < (t131.length : Int) := of_decide_eq_true qA; obtain ⟨ad154, e154, hx154_0, hx154_1, hx154_2, hx154_3⟩ := at_T166 (Kd.R_reads' HO133.out).2.2 0 p154 q154; cases e154
                                    have qi154 : (0 < t131.length) = True := eq_true (by omega); (try rw [show ((0 : Int)).toNat = 0 from rfl] at hx154_0)
                                    (try rw [show 0 * 4 = 0 from rfl] at hx154_0)
                                    (try rw [Addr.add_zero'] at hx154_0)
                                    (try rw [show ((0 : Int)).toNat = 0 from rfl] at hx154_1)
                                    (try rw [show 0 * 4 = 0 from rfl] at hx154_1)
                                    (try rw [Addr.add_zero'] at hx154_1)
                                    (try rw [show ((0 : Int)).toNat = 0 from rfl] at hx154_2)
                                    (try rw [show 0 * 4 = 0 from rfl] at hx154_2)
                                    (try rw [Addr.add_zero'] at hx154_2)
                                    (try rw [show ((0 : Int)).toNat = 0 from rfl] at hx154_3)
                                    (try rw [show 0 * 4 = 0 from rfl] at hx154_3)
                                    (try rw [Addr.add_zero'] at hx154_3)
                                    replace p154 := eq_true p154; replace q154 := eq_true q154; refine start_ (n := 70) (S := fun w' => w'.cell? ⟨gb144, 0, none⟩ = some (.slice Ao65 t140.length co65) ∧ w'.cell? ad154 = some (.int .i64 ((rd_T166 t131 0).f0)) ∧ w'.cell? ⟨ad154.block, ad154.off + 1, none⟩ = some (.int .i64 ((rd_T166 t131 0).f1)) ∧ w'.cell? ⟨ad154.block, ad154.off + 2, none⟩ = some (.int .i64 ((rd_T166 t131 0).f2)) ∧ w'.cell? ⟨ad154.block, ad154.off + 3, none⟩ = some (.string ((rd_T166 t131 0).f3))) (ds := []) #[o0, o0, o0, o0, o0, o0, o0, o0, o0, o0, o0, o0, o0, o0, o0, o0, o0, o0, o0, o0, o0, o0, o0, o0, o0, o0, o0, o0, o0, o0, o0, o0, o0, o0, o0, o0, o0, o0, o0, o0, o0, o0, o0, o0, o0, o0, o0, o0, o0, o0, o0, o0, o0, o0, o0, o0, o0, o0, o0, o0, o0, o0, o0, o0, o0, o0, o0, o0, o0, o0] (by kernel_rfl) rfl rfl ⟨(zF BK144.out 0).trans rfl, hx154_0, hx154_1, hx154_2, hx154_3⟩ (fun hHeld => ?_); refine with_tabW backhaullaw15_awake.tab8 backhaullaw15_awake.bits8 (fun HT_ HW_ => ?_); generalize w75.drew = w76 at HO103 HO106 HO109 HO115 HO118 HO121 HO127 HO130 HO133 HO137 HO142 HO147 HO150 BK112 BK124 BK144 HB hx154_0 hx154_1 hx154_2 hx154_3 hHeld ⊢; refine pure_ (i := 0) (N := some 63) #[o1, o0, o0, o0, o0, o0, o0, o0, o0, o0, o0, o0, o0, o0, o0, o0, o0, o0, o0, o0, o0, o0, o0, o0, o0, o0, o0, o0, o0, o0, o0, o0, o0, o0, o0, o0, o0, o0, o0, o0, o0, o0, o0, o0, o0, o0, o0, o0, o0, o0, o0, o0, o0, o0, o0, o0, o0, o0, o0, o0, o0, o0, o0, o0, o0, o0, o0, o0, o0, o0] rfl rfl (any_of HT_.out (by kernel_rfl)) (fun _ _ _ h => h) (Or.inl ⟨by rfl, qy⟩) qz ?_; refine pure_ (i := 1) (N := some 64) #[o1, o1, o0, o0, o0, o0, o0, o0, o0, o0, o0, o0, o0, o0, o0, o0, o0, o0, o0, o0, o0, o0, o0, o0, o0, o0, o0, o0, o0, o0, o0, o0, o0, o0, o0, o0, o0, o0, o0, o0, o0, o0, o0, o0, o0, o0, o0, o0, o0, o0, o0, o0, o0, o0, o0, o0, o0, o0, o0, o0, o0, o0, o0, o0, o0, o0, o0, o0, o0, o0] rfl rfl (any_of HT_.out (by kernel_rfl)) (fun _ _ _ h => h) (Or.inl ⟨by rfl, qy⟩) qz ?_; refine pure_ (i := 2) (N := some 65) #[o1, o1, o1, o0, o0, o0, o0, o0, o0, o0, o0, o0, o0, o0, o0, o0, o0, o0, o0, o0, o0, o0, o0, o0, o0, o0, o0, o0, o0, o0, o0, o0, o0, o0, o0, o0, o0, o0, o0, o0, o0, o0, o0, o0, o0, o0, o0, o0, o0, o0, o0, o0, o0, o0, o0, o0, o0, o0, o0, o0, o0, o0, o0, o0, o0, o0, o0, o0, o0, o0] rfl rfl (any_of HT_.out (by kernel_rfl)) (fun _ _ _ h => h) (Or.inl ⟨by rfl, qy⟩) qz ?_; refine pure_ (i := 3) (N := some 66) #[o1, o1, o1, o1, o0, o0, o0, o0, o0, o0, o0, o0, o0, o0, o0, o0, o0, o0, o0, o0, o0, o0, o0, o0, o0, o0, o0, o0, o0, o0, o0, o0, o0, o0, o0, o0, o0, o0, o0, o0, o0, o0, o0, o0, o0, o0, o0, o0, o0, o0, o0, o0, o0, o0, o0, o0, o0, o0, o0, o0, o0, o0, o0, o0, o0, o0, o0, o0, o0, o0] rfl rfl (any_of HT_.out (by kernel_rfl)) (fun _ _ _ h => h) (Or.inl ⟨by rfl, qy⟩) qz ?_; refine pure_ (i := 4) (N := some 67) #[o1, o1, o1, o1, o1, o0, o0, o0, o0, o0, o0, o0, o0, o0, o0, o0, o0, o0, o0, o0, o0, o0, o0, o0, o0, o0, o0, o0, o0, o0, o0, o0, o0, o0, o0, o0, o0, o0, o0, o0, o0, o0, o0, o0, o0, o0, o0, o0, o0, o0, o0, o0, o0, o0, o0, o0, o0, o0, o0, o0, o0, o0, o0, o0, o0, o0, o0, o0, o0, o0] rfl rfl (any_of HT_.out (by kernel_rfl)) (fun _ _ _ h => h) (Or.inl ⟨by rfl, qy⟩) qz ?_
                                    refine pure_ (i := 5) (N := some 68) #[o1, o1, o1, o1, o1, o1, o0, o0, o0, o0, o0, o0, o0, o0, o0, o0, o0, o0, o0, o0, o0, o0, o0, o0, o0, o0, o0, o0, o0, o0, o0, o0, o0, o0, o0, o0, o0, o0, o0, o0, o0, o0, o0, o0, o0, o0, o0, o0, o0, o0, o0, o0, o0, o0, o0, o0, o0, o0, o0, o0, o0, o0, o0, o0, o0, o0, o0, o0, o0, o0] rfl rfl (any_of HT_.out (by kernel_rfl)) (fun _ _ _ h => h) (Or.inl ⟨by rfl, qy⟩) qz ?_; refine pure_ (i := 6) (N := some 69) #[o1, o1, o1, o1, o1, o1, o1, o0, o0, o0, o0, o0, o0, o0, o0, o0, o0, o0, o0, o0, o0, o0, o0, o0, o0, o0, o0, o0, o0, o0, o0, o0, o0, o0, o0, o0, o0, o0, o0, o0, o0, o0, o0, o0, o0, o0, o0, o0, o0, o0, o0, o0, o0, o0, o0, o0, o0, o0, o0, o0, o0, o0, o0, o0, o0, o0, o0, o0, o0, o0] rfl rfl (any_of HT_.out (by kernel_rfl)) (fun _ _ _ h => h) (Or.inl ⟨by rfl, qy⟩) qz ?_; refine pure_ (i := 7) (N := some 70) #[o1, o1, o1, o1, o1, o1, o1, o1, o0, o0, o0, o0, o0, o0, o0, o0, o0, o0, o0, o0, o0, o0, o0, o0, o0, o0, o0, o0, o0, o0, o0, o0, o0, o0, o0, o0, o0, o0, o0, o0, o0, o0, o0, o0, o0, o0, o0, o0, o0, o0, o0, o0, o0, o0, o0, o0, o0, o0, o0, o0, o0, o0, o0, o0, o0, o0, o0, o0, o0, o0] rfl rfl (any_of HT_.out (by kernel_rfl)) (fun _ _ _ h => h) (Or.inl ⟨by rfl, qy⟩) qz ?_; refine pure_ (i := 8) (N := some 71) #[o1, o1, o1, o1, o1, o1, o1, o1, o1, o0, o0, o0, o0, o0, o0, o0, o0, o0, o0, o0, o0, o0, o0, o0, o0, o0, o0, o0, o0, o0, o0, o0, o0, o0, o0, o0, o0, o0, o0, o0, o0, o0, o0, o0, o0, o0, o0, o0, o0, o0, o0, o0, o0, o0, o0, o0, o0, o0, o0, o0, o0, o0, o0, o0, o0, o0, o0, o0, o0, o0] rfl rfl (any_of HT_.out (by kernel_rfl)) (fun _ _ _ h => h) (Or.inl ⟨by rfl, qy⟩) qz ?_; refine pure_ (i := 9) (N := some 72) #[o1, o1, o1, o1, o1, o1, o1, o1, o1, o1, o0, o0, o0, o0, o0, o0, o0, o0, o0, o0, o0, o0, o0, o0, o0, o0, o0, o0, o0, o0, o0, o0, o0, o0, o0, o0, o0, o0, o0, o0, o0, o0, o0, o0, o0, o0, o0, o0, o0, o0, o0, o0, o0, o0, o0, o0, o0, o0, o0, o0, o0, o0, o0, o0, o0, o0, o0, o0, o0, o0] rfl rfl (any_of HT_.out (by kernel_rfl)) (fun _ _ _ h => h) (Or.inl ⟨by rfl, qy⟩) qz ?_; refine pure_ (i := 10) (N := some 73) #[o1, o1, o1, o1, o1, o1, o1, o1, o1, o1, o1, o0, o0, o0, o0, o0, o0, o0, o0, o0, o0, o0, o0, o0, o0, o0, o0, o0, o0, o0, o0, o0, o0, o0, o0, o0, o0, o0, o0, o0, o0, o0, o0, o0, o0, o0, o0, o0, o0, o0, o0, o0, o0, o0, o0, o0, o0, o0, o0, o0, o0, o0, o0, o0, o0, o0, o0, o0, o0, o0] rfl rfl (any_of HT_.out (by kernel_rfl)) (fun _ _ _ h => h) (Or.inl ⟨by rfl, qy⟩) qz ?_; refine pure_ (i := 11) (N := some 74) #[o1, o1, o1, o1, o1, o1, o1, o1, o1, o1, o1, o1, o0, o0, o0, o0, o0, o0, o0, o0, o0, o0, o0, o0, o0, o0, o0, o0, o0, o0, o0, o0, o0, o0, o0, o0, o0, o0, o0, o0, o0, o0, o0, o0, o0, o0, o0, o0, o0, o0, o0, o0, o0, o0, o0, o0, o0, o0, o0, o0, o0, o0, o0, o0, o0, o0, o0, o0, o0, o0] rfl rfl (any_of HT_.out (by kernel_rfl)) (fun _ _ _ h => h) (Or.inl ⟨by rfl, qy⟩) qz ?_; refine pure_ (i := 12) (N := some 75) #[o1, o1, o1, o1, o1, o1, o1, o1, o1, o1, o1, o1, o1, o0, o0, o0, o0, o0, o0, o0, o0, o0, o0, o0, o0, o0, o0, o0, o0, o0, o0, o0, o0, o0, o0, o0, o0, o0, o0, o0, o0, o0, o0, o0, o0, o0, o0, o0, o0, o0, o0, o0, o0, o0, o0, o0, o0, o0, o0, o0, o0, o0, o0, o0, o0, o0, o0, o0, o0, o0] rfl rfl (any_of HT_.out (by kernel_rfl)) (fun _ _ _ h => h) (Or.inl ⟨by rfl, qy⟩) qz ?_
                                    refine pure_ (i := 13) (N := some 76) #[o1, o1, o1, o1, o1, o1, o1, o1, o1, o1, o1, o1, o1, o1, o0, o0, o0, o0, o0, o0, o0, o0, o0, o0, o0, o0, o0, o0, o0, o0, o0, o0, o0, o0, o0, o0, o0, o0, o0, o0, o0, o0, o0, o0, o0, o0, o0, o0, o0, o0, o0, o0, o0, o0, o0, o0, o0, o0, o0, o0, o0, o0, o0, o0, o0, o0, o0, o0, o0, o0] rfl rfl (any_of HT_.out (by kernel_rfl)) (fun _ _ _ h => h) (Or.inl ⟨by rfl, qy⟩) qz ?_; refine pure_ (i := 14) (N := some 77) #[o1, o1, o1, o1, o1, o1, o1, o1, o1, o1, o1, o1, o1, o1, o1, o0, o0, o0, o0, o0, o0, o0, o0, o0, o0, o0, o0, o0, o0, o0, o0, o0, o0, o0, o0, o0, o0, o0, o0, o0, o0, o0, o0, o0, o0, o0, o0, o0, o0, o0, o0, o0, o0, o0, o0, o0, o0, o0, o0, o0, o0, o0, o0, o0, o0, o0, o0, o0, o0, o0] rfl rfl (any_of HT_.out (by kernel_rfl)) (fun _ _ _ h => h) (Or.inl ⟨by rfl, qy⟩) qz ?_; refine pure_ (i := 15) (N := some 78) #[o1, o1, o1, o1, o1, o1, o1, o1, o1, o1, o1, o1, o1, o1, o1, o1, o0, o0, o0, o0, o0, o0, o0, o0, o0, o0, o0, o0, o0, o0, o0, o0, o0, o0, o0, o0, o0, o0, o0, o0, o0, o0, o0, o0, o0, o0, o0, o0, o0, o0, o0, o0, o0, o0, o0, o0, o0, o0, o0, o0, o0, o0, o0, o0, o0, o0, o0, o0, o0, o0] rfl rfl (any_of HT_.out (by kernel_rfl)) (fun _ _ _ h => h) (Or.inl ⟨by rfl, qy⟩) qz ?_; refine pure_ (i := 16) (N := some 79) #[o1, o1, o1, o1, o1, o1, o1, o1, o1, o1, o1, o1, o1, o1, o1, o1, o1, o0, o0, o0, o0, o0, o0, o0, o0, o0, o0, o0, o0, o0, o0, o0, o0, o0, o0, o0, o0, o0, o0, o0, o0, o0, o0, o0, o0, o0, o0, o0, o0, o0, o0, o0, o0, o0, o0, o0, o0, o0, o0, o0, o0, o0, o0, o0, o0, o0, o0, o0, o0, o0] rfl rfl (any_of HT_.out (by kernel_rfl)) (fun _ _ _ h => h) (Or.inl ⟨by rfl, qy⟩) qz ?_; refine pure_ (i := 17) (N := some 80) #[o1, o1, o1, o1, o1, o1, o1, o1, o1, o1, o1, o1, o1, o1, o1, o1, o1, o1, o0, o0, o0, o0, o0, o0, o0, o0, o0, o0, o0, o0, o0, o0, o0, o0, o0, o0, o0, o0, o0, o0, o0, o0, o0, o0, o0, o0, o0, o0, o0, o0, o0, o0, o0, o0, o0, o0, o0, o0, o0, o0, o0, o0, o0, o0, o0, o0, o0, o0, o0, o0] rfl rfl (any_of HT_.out (by kernel_rfl)) (fun _ _ _ h => h) (Or.inl ⟨by rfl, qy⟩) qz ?_; refine pure_ (i := 18) (N := some 81) #[o1, o1, o1, o1, o1, o1, o1, o1, o1, o1, o1, o1, o1, o1, o1, o1, o1, o1, o1, o0, o0, o0, o0, o0, o0, o0, o0, o0, o0, o0, o0, o0, o0, o0, o0, o0, o0, o0, o0, o0, o0, o0, o0, o0, o0, o0, o0, o0, o0, o0, o0, o0, o0, o0, o0, o0, o0, o0, o0, o0, o0, o0, o0, o0, o0, o0, o0, o0, o0, o0] rfl rfl (any_of HT_.out (by kernel_rfl)) (fun _ _ _ h => h) (Or.inl ⟨by rfl, qy⟩) qz ?_; refine pure_ (i := 19) (N := some 82) #[o1, o1, o1, o1, o1, o1, o1, o1, o1, o1, o1, o1, o1, o1, o1, o1, o1, o1, o1, o1, o0, o0, o0, o0, o0, o0, o0, o0, o0, o0, o0, o0, o0, o0, o0, o0, o0, o0, o0, o0, o0, o0, o0, o0, o0, o0, o0, o0, o0, o0, o0, o0, o0, o0, o0, o0, o0, o0, o0, o0, o0, o0, o0, o0, o0, o0, o0, o0, o0, o0] rfl rfl (any_of HT_.out (by kernel_rfl)) (fun _ _ _ h => h) (Or.inl ⟨by rfl, qy⟩) qz ?_; refine pure_ (i := 20) (N := some 83) #[o1, o1, o1, o1, o1, o1, o1, o1, o1, o1, o1, o1, o1, o1, o1, o1, o1, o1, o1, o1, o1, o0, o0, o0, o0, o0, o0, o0, o0, o0, o0, o0, o0, o0, o0, o0, o0, o0, o0, o0, o0, o0, o0, o0, o0, o0, o0, o0, o0, o0, o0, o0, o0, o0, o0, o0, o0, o0, o0, o0, o0, o0, o0, o0, o0, o0, o0, o0, o0, o0] rfl rfl (any_of HT_.out (by kernel_rfl)) (fun _ _ _ h => h) (Or.inl ⟨by rfl, qy⟩) qz ?_
                                    refine pure_ (i := 21) (N := some 84) #[o1, o1, o1, o1, o1, o1, o1, o1, o1, o1, o1, o1, o1, o1, o1, o1, o1, o1, o1, o1, o1, o1, o0, o0, o0, o0, o0, o0, o0, o0, o0, o0, o0, o0, o0, o0, o0, o0, o0, o0, o0, o0, o0, o0, o0, o0, o0, o0, o0, o0, o0, o0, o0, o0, o0, o0, o0, o0, o0, o0, o0, o0, o0, o0, o0, o0, o0, o0, o0, o0] rfl rfl (any_of HT_.out (by kernel_rfl)) (fun _ _ _ h => h) (Or.inl ⟨by rfl, qy⟩) qz ?_; refine pure_ (i := 22) (N := some 85) #[o1, o1, o1, o1, o1, o1, o1, o1, o1, o1, o1, o1, o1, o1, o1, o1, o1, o1, o1, o1, o1, o1, o1, o0, o0, o0, o0, o0, o0, o0, o0, o0, o0, o0, o0, o0, o0, o0, o0, o0, o0, o0, o0, o0, o0, o0, o0, o0, o0, o0, o0, o0, o0, o0, o0, o0, o0, o0, o0, o0, o0, o0, o0, o0, o0, o0, o0, o0, o0, o0] rfl rfl (any_of HT_.out (by kernel_rfl)) (fun _ _ _ h => h) (Or.inl ⟨by rfl, qy⟩) qz ?_; refine pure_ (i := 23) (N := some 86) #[o1, o1, o1, o1, o1, o1, o1, o1, o1, o1, o1, o1, o1, o1, o1, o1, o1, o1, o1, o1, o1, o1, o1, o1, o0, o0, o0, o0, o0, o0, o0, o0, o0, o0, o0, o0, o0, o0, o0, o0, o0, o0, o0, o0, o0, o0, o0, o0, o0, o0, o0, o0, o0, o0, o0, o0, o0, o0, o0, o0, o0, o0, o0, o0, o0, o0, o0, o0, o0, o0] rfl rfl (any_of HT_.out (by kernel_rfl)) (fun _ _ _ h => h) (Or.inl ⟨by rfl, qy⟩) qz ?_; refine pure_ (i := 24) (N := some 87) #[o1, o1, o1, o1, o1, o1, o1, o1, o1, o1, o1, o1, o1, o1, o1, o1, o1, o1, o1, o1, o1, o1, o1, o1, o1, o0, o0, o0, o0, o0, o0, o0, o0, o0, o0, o0, o0, o0, o0, o0, o0, o0, o0, o0, o0, o0, o0, o0, o0, o0, o0, o0, o0, o0, o0, o0, o0, o0, o0, o0, o0, o0, o0, o0, o0, o0, o0, o0, o0, o0] rfl rfl (any_of HT_.out (by kernel_rfl)) (fun _ _ _ h => h) (Or.inl ⟨by rfl, qy⟩) qz ?_; refine pure_ (i := 25) (N := some 88) #[o1, o1, o1, o1, o1, o1, o1, o1, o1, o1, o1, o1, o1, o1, o1, o1, o1, o1, o1, o1, o1, o1, o1, o1, o1, o1, o0, o0, o0, o0, o0, o0, o0, o0, o0, o0, o0, o0, o0, o0, o0, o0, o0, o0, o0, o0, o0, o0, o0, o0, o0, o0, o0, o0, o0, o0, o0, o0, o0, o0, o0, o0, o0, o0, o0, o0, o0, o0, o0, o0] rfl rfl (any_of HT_.out (by kernel_rfl)) (fun _ _ _ h => h) (Or.inl ⟨by rfl, qy⟩) qz ?_; refine pure_ (i := 27) (N := some 90) #[o1, o1, o1, o1, o1, o1, o1, o1, o1, o1, o1, o1, o1, o1, o1, o1, o1, o1, o1, o1, o1, o1, o1, o1, o1, o1, o0, o1, o0, o0, o0, o0, o0, o0, o0, o0, o0, o0, o0, o0, o0, o0, o0, o0, o0, o0, o0, o0, o0, o0, o0, o0, o0, o0, o0, o0, o0, o0, o0, o0, o0, o0, o0, o0, o0, o0, o0, o0, o0, o0] rfl rfl (any_of HT_.out (by kernel_rfl)) (fun _ _ _ h => h) (Or.inl ⟨by rfl, qy⟩) qz ?_; refine take_ (i := 26) (N := some 89) (v := ?_) (a' := ?_) #[o1, o1, o1, o1, o1, o1, o1, o1, o1, o1, o1, o1, o1, o1, o1, o1, o1, o1, o1, o1, o1, o1, o1, o1, o1, o1, o1, o1, o0, o0, o0, o0, o0, o0, o0, o0, o0, o0, o0, o0, o0, o0, o0, o0, o0, o0, o0, o0, o0, o0, o0, o0, o0, o0, o0, o0, o0, o0, o0, o0, o0, o0, o0, o0, o0, o0, o0, o0, o0, o0] rfl rfl (take_ofW HT_.out HW_.out (by kernel_rfl)) (fun _ _ _ h => h) (Or.inl ⟨by rfl, ?_⟩) hHeld ?_ ?_; rotate_left
                                    · rintro w' ⟨s0, s1, s2, s3, s4⟩
                                      go_simp; with_reducible rfl
                                    rotate_left
                                    · simp only [Act.put, zH, zI, zJ, i64_w, i32_w]
                                      rfl
                                    refine pure_ (i := 28) (N := some 91) #[o1, o1, o1, o1, o1, o1, o1, o1, o1, o1, o1, o1, o1, o1, o1, o1, o1, o1, o1, o1, o1, o1, o1, o1, o1, o1, o1, o1, o1, o0, o0, o0, o0, o0, o0, o0, o0, o0, o0, o0, o0, o0, o0, o0, o0, o0, o0, o0, o0, o0, o0, o0, o0, o0, o0, o0, o0, o0, o0, o0, o0, o0, o0, o0, o0, o0, o0, o0, o0, o0] rfl rfl (any_of HT_.out (by kernel_rfl)) (fun _ _ _ h => h) (Or.inl ⟨by rfl, qy⟩) qz ?_; refine pure_ (i := 29) (N := some 92) #[o1, o1, o1, o1, o1, o1, o1, o1, o1, o1, o1, o1, o1, o1, o1, o1, o1, o1, o1, o1, o1, o1, o1, o1, o1, o1, o1, o1, o1, o1, o0, o0, o0, o0, o0, o0, o0, o0, o0, o0, o0, o0, o0, o0, o0, o0, o0, o0, o0, o0, o0, o0, o0, o0, o0, o0, o0, o0, o0, o0, o0, o0, o0, o0, o0, o0, o0, o0, o0, o0] rfl rfl (any_of HT_.out (by kernel_rfl)) (fun _ _ _ h => h) (Or.inl ⟨by rfl, qy⟩) qz ?_; refine pure_ (i := 30) (N := some 93) #[o1, o1, o1, o1, o1, o1, o1, o1, o1, o1, o1, o1, o1, o1, o1, o1, o1, o1, o1, o1, o1, o1, o1, o1, o1, o1, o1, o1, o1, o1, o1, o0, o0, o0, o0, o0, o0, o0, o0, o0, o0, o0, o0, o0, o0, o0, o0, o0, o0, o0, o0, o0, o0, o0, o0, o0, o0, o0, o0, o0, o0, o0, o0, o0, o0, o0, o0, o0, o0, o0] rfl rfl (any_of HT_.out (by kernel_rfl)) (fun _ _ _ h => h) (Or.inl ⟨by rfl, qy⟩) qz ?_; refine pure_ (i := 31) (N := some 94) #[o1, o1, o1, o1, o1, o1, o1, o1, o1, o1, o1, o1, o1, o1, o1, o1, o1, o1, o1, o1, o1, o1, o1, o1, o1, o1, o1, o1, o1, o1, o1, o1, o0, o0, o0, o0, o0, o0, o0, o0, o0, o0, o0, o0, o0, o0, o0, o0, o0, o0, o0, o0, o0, o0, o0, o0, o0, o0, o0, o0, o0, o0, o0, o0, o0, o0, o0, o0, o0, o0] rfl rfl (any_of HT_.out (by kernel_rfl)) (fun _ _ _ h => h) (Or.inl ⟨by rfl, qy⟩) qz ?_; refine pure_ (i := 32) (N := some 95) #[o1, o1, o1, o1, o1, o1, o1, o1, o1, o1, o1, o1, o1, o1, o1, o1, o1, o1, o1, o1, o1, o1, o1, o1, o1, o1, o1, o1, o1, o1, o1, o1, o1, o0, o0, o0, o0, o0, o0, o0, o0, o0, o0, o0, o0, o0, o0, o0, o0, o0, o0, o0, o0, o0, o0, o0, o0, o0, o0, o0, o0, o0, o0, o0, o0, o0, o0, o0, o0, o0] rfl rfl (any_of HT_.out (by kernel_rfl)) (fun _ _ _ h => h) (Or.inl ⟨by rfl, qy⟩) qz ?_; refine pure_ (i := 33) (N := some 96) #[o1, o1, o1, o1, o1, o1, o1, o1, o1, o1, o1, o1, o1, o1, o1, o1, o1, o1, o1, o1, o1, o1, o1, o1, o1, o1, o1, o1, o1, o1, o1, o1, o1, o1, o0, o0, o0, o0, o0, o0, o0, o0, o0, o0, o0, o0, o0, o0, o0, o0, o0, o0, o0, o0, o0, o0, o0, o0, o0, o0, o0, o0, o0, o0, o0, o0, o0, o0, o0, o0] rfl rfl (any_of HT_.out (by kernel_rfl)) (fun _ _ _ h => h) (Or.inl ⟨by rfl, qy⟩) qz ?_; refine pure_ (i := 34) (N := some 97) #[o1, o1, o1, o1, o1, o1, o1, o1, o1, o1, o1, o1, o1, o1, o1, o1, o1, o1, o1, o1, o1, o1, o1, o1, o1, o1, o1, o1, o1, o1, o1, o1, o1, o1, o1, o0, o0, o0, o0, o0, o0, o0, o0, o0, o0, o0, o0, o0, o0, o0, o0, o0, o0, o0, o0, o0, o0, o0, o0, o0, o0, o0, o0, o0, o0, o0, o0, o0, o0, o0] rfl rfl (any_of HT_.out (by kernel_rfl)) (fun _ _ _ h => h) (Or.inl ⟨by rfl, qy⟩) qz ?_; refine pure_ (i := 35) (N := some 98) #[o1, o1, o1, o1, o1, o1, o1, o1, o1, o1, o1, o1, o1, o1, o1, o1, o1, o1, o1, o1, o1, o1, o1, o1, o1, o1, o1, o1, o1, o1, o1, o1, o1, o1, o1, o1, o0, o0, o0, o0, o0, o0, o0, o0, o0, o0, o0, o0, o0, o0, o0, o0, o0, o0, o0, o0, o0, o0, o0, o0, o0, o0, o0, o0, o0, o0, o0, o0, o0, o0] rfl rfl (any_of HT_.out (by kernel_rfl)) (fun _ _ _ h => h) (Or.inl ⟨by rfl, qy⟩) qz ?_
                                    refine pure_ (i := 36) (N := some 99) #[o1, o1, o1, o1, o1, o1, o1, o1, o1, o1, o1, o1, o1, o1, o1, o1, o1, o1, o1, o1, o1, o1, o1, o1, o1, o1, o1, o1, o1, o1, o1, o1, o1, o1, o1, o1, o1, o0, o0, o0, o0, o0, o0, o0, o0, o0, o0, o0, o0, o0, o0, o0, o0, o0, o0, o0, o0, o0, o0, o0, o0, o0, o0, o0, o0, o0, o0, o0, o0, o0] rfl rfl (any_of HT_.out (by kernel_rfl)) (fun _ _ _ h => h) (Or.inl ⟨by rfl, qy⟩) qz ?_; refine pure_ (i := 37) (N := some 100) #[o1, o1, o1, o1, o1, o1, o1, o1, o1, o1, o1, o1, o1, o1, o1, o1, o1, o1, o1, o1, o1, o1, o1, o1, o1, o1, o1, o1, o1, o1, o1, o1, o1, o1, o1, o1, o1, o1, o0, o0, o0, o0, o0, o0, o0, o0, o0, o0, o0, o0, o0, o0, o0, o0, o0, o0, o0, o0, o0, o0, o0, o0, o0, o0, o0, o0, o0, o0, o0, o0] rfl rfl (any_of HT_.out (by kernel_rfl)) (fun _ _ _ h => h) (Or.inl ⟨by rfl, qy⟩) qz ?_; refine pure_ (i := 38) (N := some 101) #[o1, o1, o1, o1, o1, o1, o1, o1, o1, o1, o1, o1, o1, o1, o1, o1, o1, o1, o1, o1, o1, o1, o1, o1, o1, o1, o1, o1, o1, o1, o1, o1, o1, o1, o1, o1, o1, o1, o1, o0, o0, o0, o0, o0, o0, o0, o0, o0, o0, o0, o0, o0, o0, o0, o0, o0, o0, o0, o0, o0, o0, o0, o0, o0, o0, o0, o0, o0, o0, o0] rfl rfl (any_of HT_.out (by kernel_rfl)) (fun _ _ _ h => h) (Or.inl ⟨by rfl, qy⟩) qz ?_; refine take_ (i := 39) (N := some 102) (v := ?_) (a' := ?_) #[o1, o1, o1, o1, o1, o1, o1, o1, o1, o1, o1, o1, o1, o1, o1, o1, o1, o1, o1, o1, o1, o1, o1, o1, o1, o1, o1, o1, o1, o1, o1, o1, o1, o1, o1, o1, o1, o1, o1, o1, o0, o0, o0, o0, o0, o0, o0, o0, o0, o0, o0, o0, o0, o0, o0, o0, o0, o0, o0, o0, o0, o0, o0, o0, o0, o0, o0, o0, o0, o0] rfl rfl (take_ofW HT_.out HW_.out (by kernel_rfl)) (fun _ _ _ h => h) (Or.inl ⟨by rfl, ?_⟩) hHeld ?_ ?_; rotate_left
                                    · rintro w' ⟨s0, s1, s2, s3, s4⟩
                                      go_simp; with_reducible rfl
                                    rotate_left
                                    · simp only [Act.put, zH, zI, zJ, i64_w, i32_w]
                                      rfl
                                    refine one_ (i := 40) (N := some 103) #[o1, o1, o1, o1, o1, o1, o1, o1, o1, o1, o1, o1, o1, o1, o1, o1, o1, o1, o1, o1, o1, o1, o1, o1, o1, o1, o1, o1, o1, o1, o1, o1, o1, o1, o1, o1, o1, o1, o1, o1, o1, o0, o0, o0, o0, o0, o0, o0, o0, o0, o0, o0, o0, o0, o0, o0, o0, o0, o0, o0, o0, o0, o0, o0, o0, o0, o0, o0, o0, o0] rfl rfl (one_of HT_.out (by kernel_rfl)) (by decide) (fun K hK => ?_); refine goes_ Try.func95 (by kernel_rfl) rfl #[] (by rfl) rfl rfl qG ?_; with_reducible refine (backhaullaw15_one.calls  t155 _ A23.out).mono ?_
                                    rintro e w78 ⟨v156, rfl, ho0, hb⟩; have HS1_ := (hb.cell (zCq _ _ (hHeld.2.1))).trans (hHeld.2.1); have HS2_ := (hb.cell (zCq _ _ (hHeld.2.2.1))).trans (hHeld.2.2.1); have HS3_ := (hb.cell (zCq _ _ (hHeld.2.2.2.1))).trans (hHeld.2.2.2.1); have HS4_ := (hb.cell (zCq _ _ (hHeld.2.2.2.2))).trans (hHeld.2.2.2.2); refine ⟨_, rfl, ?_⟩; have n0_ := zA (Kd.N_elder' HO103.out (Kd.N_base ho0) hb); have n1_ := zA (Kd.R_below HO106.out hb); have n2_ := zA (Kd.N_elder' HO109.out (Kd.N_base ho0) hb); have n3_ := zA (Kd.N_elder' HO115.out (Kd.N_base ho0) hb); have n4_ := zA (Kd.R_below HO118.out hb); have n5_ := zA (Kd.N_elder' HO121.out (Kd.N_base ho0) hb); have n6_ := zA (Kd.N_elder' HO127.out (Kd.N_base ho0) hb); have n7_ := zA (Kd.R_below HO130.out hb); have n8_ := zA (Kd.R_below HO133.out hb); have n9_ := zA (Kd.N_elder' HO137.out (Kd.N_base ho0) hb); have n10_ := zA (Kd.N_elder' HO142.out (Kd.N_base ho0) hb); have n11_ := zA (Kd.N_elder' HO147.out (Kd.N_base ho0) hb); have n12_ := zA (Kd.R_below HO150.out hb); have n13_ := zA (Kd.N_lower (Kd.N_mono (ok' := fun k_ => some k_ ≠ (.slice Ao38 t101.length co38 : Value).ownBlock ∧ some k_ ≠ (.slice Ao39 y104.length co39 : Value).ownBlock ∧ some k_ ≠ (.slice Ao42 t107.length co42 : Value).ownBlock ∧ some k_ ≠ (.slice Ao47 t113.length co47 : Value).ownBlock ∧ some k_ ≠ (.slice Ao48 y116.length co48 : Value).ownBlock ∧ some k_ ≠ (.slice Ao51 t119.length co51 : Value).ownBlock ∧ some k_ ≠ (.slice Ao57 t125.length co57 : Value).ownBlock ∧ some k_ ≠ (.slice Ao58 y128.length co58 : Value).ownBlock ∧ some k_ ≠ (.slice (some ad154) t131.length co77 : Value).ownBlock ∧ some k_ ≠ (.slice Ao61 t135.length co61 : Value).ownBlock ∧ some k_ ≠ (.slice Ao65 t140.length co65 : Value).ownBlock ∧ some k_ ≠ (.slice Ao72 t145.length co72 : Value).ownBlock ∧ some k_ ≠ (v149 : Value).ownBlock ∧ k_ ≠ gb112 ∧ k_ ≠ gb124 ∧ k_ ≠ gb144) ho0 (fun k_ hk_ => ⟨(Kd.fresh' (Kd.N_lt HO103.out) k_ hk_), (Kd.fresh' (Kd.R_lt HO106.out) k_ hk_), (Kd.fresh' (Kd.N_lt HO109.out) k_ hk_), (Kd.fresh' (Kd.N_lt HO115.out) k_ hk_), (Kd.fresh' (Kd.R_lt HO118.out) k_ hk_), (Kd.fresh' (Kd.N_lt HO121.out) k_ hk_), (Kd.fresh' (Kd.N_lt HO127.out) k_ hk_), (Kd.fresh' (Kd.R_lt HO130.out) k_ hk_), (Kd.fresh' (Kd.R_lt HO133.out) k_ hk_), (Kd.fresh' (Kd.N_lt HO137.out) k_ hk_), (Kd.fresh' (Kd.N_lt HO142.out) k_ hk_), (Kd.fresh' (Kd.N_lt HO147.out) k_ hk_), (Kd.fresh' (Kd.R_lt HO150.out) k_ hk_), (Kd.freshB BK112.out k_ hk_), (Kd.freshB BK124.out k_ hk_), (Kd.freshB BK144.out k_ hk_)⟩)) (zW qB)); have n14_ := zA (zX BK112.out hb); have n15_ := zA (zX BK124.out hb); have n16_ := zA (zX BK144.out hb); have n17_ := zA (zV qB hb); clear HO103; clear HO106; clear HO109; clear HO115; clear HO118; clear HO121; clear HO127; clear HO130; clear HO133; clear HO137; clear HO142; clear HO147; clear HO150; clear BK112; clear BK124; clear BK144; clear HB; have HO103 := n0_; have HO106 := n1_; have HO109 := n2_; have HO115 := n3_; have HO118 := n4_; have HO121 := n5_; have HO127 := n6_; have HO130 := n7_; have HO133 := n8_; have HO137 := n9_; have HO142 := n10_; have HO147 := n11_; have HO150 := n12_; have HO157 := n13_; have BK112 := n14_; have BK124 := n15_; have BK144 := n16_; have HB := n17_; clear n0_ n1_ n2_ n3_ n4_ n5_ n6_ n7_ n8_ n9_ n10_ n11_ n12_ n13_ n14_ n15_ n16_ n17_; (try clear hb); (try clear hb2); (try clear hk); (try clear hi); (try clear ho0)
                                    obtain ⟨Ao79, co79, eo79⟩ := Kd.N_slice HO157.out; (first | subst eo79 | (injection eo79 with f1_ f2_ f3_; have f4_ := f1_.symm; have f5_ := f3_.symm; clear f1_ f2_ f3_; subst f4_; subst f5_))
                                    refine hK.out _ _ ⟨(zF BK144.out 0).trans rfl, HS1_, HS2_, HS3_, HS4_⟩ (fun hHeld => ?_); clear hK K; refine norm_ (a' := ?_) ?_ ?_; rotate_left
                                    · show Act.put _ (some 103) _ = _
                                      simp only [Act.put, zH, zI, zJ, i64_w, i32_w]; rfl
                                    refine one_ (i := 41) (N := some 104) #[o1, o1, o1, o1, o1, o1, o1, o1, o1, o1, o1, o1, o1, o1, o1, o1, o1, o1, o1, o1, o1, o1, o1, o1, o1, o1, o1, o1, o1, o1, o1, o1, o1, o1, o1, o1, o1, o1, o1, o1, o1, o1, o0, o0, o0, o0, o0, o0, o0, o0, o0, o0, o0, o0, o0, o0, o0, o0, o0, o0, o0, o0, o0, o0, o0, o0, o0, o0, o0, o0] rfl rfl (one_of HT_.out (by kernel_rfl)) (by decide) (fun K hK => ?_); refine goes_ Try.func44 (by kernel_rfl) rfl #[.agg #[.slice Ao79 t155.length co79]] (by rfl) rfl rfl qG ?_; with_reducible refine (backhaullaw15_of.calls 1000 _ _ t155 t158 t159 _ ?side1 ?side2 A24.out).mono ?_
                                    (case side1 => repeat (first | exact (Kd.N_reads' HO157.out).2.2 | (with_reducible refine Kd.C_alloc ?_ _) | (with_reducible refine Kd.C_drewN ?_ _) | (with_reducible refine Kd.C_drew ?_)))
                                    (case side2 => exact (Kd.N_reads' HO157.out).2.1)
                                    rintro e w80 ⟨v160, rfl, ho0, hb⟩; have HS1_ := (hb.cell (zCq _ _ (hHeld.2.1))).trans (hHeld.2.1); have HS2_ := (hb.cell (zCq _ _ (hHeld.2.2.1))).trans (hHeld.2.2.1); have HS3_ := (hb.cell (zCq _ _ (hHeld.2.2.2.1))).trans (hHeld.2.2.2.1); have HS4_ := (hb.cell (zCq _ _ (hHeld.2.2.2.2))).trans (hHeld.2.2.2.2); refine ⟨_, rfl, ?_⟩; have n0_ := zA (Kd.N_elder' HO103.out (Kd.R_base ho0) hb); have n1_ := zA (Kd.R_below HO106.out hb); have n2_ := zA (Kd.N_elder' HO109.out (Kd.R_base ho0) hb); have n3_ := zA (Kd.N_elder' HO115.out (Kd.R_base ho0) hb); have n4_ := zA (Kd.R_below HO118.out hb); have n5_ := zA (Kd.N_elder' HO121.out (Kd.R_base ho0) hb); have n6_ := zA (Kd.N_elder' HO127.out (Kd.R_base ho0) hb); have n7_ := zA (Kd.R_below HO130.out hb); have n8_ := zA (Kd.R_below HO133.out hb); have n9_ := zA (Kd.N_elder' HO137.out (Kd.R_base ho0) hb); have n10_ := zA (Kd.N_elder' HO142.out (Kd.R_base ho0) hb); have n11_ := zA (Kd.N_elder' HO147.out (Kd.R_base ho0) hb); have n12_ := zA (Kd.R_below HO150.out hb); have n13_ := zA (Kd.N_elder' HO157.out (Kd.R_base ho0) hb); have n14_ := zA (Kd.R_lower ho0 (zW qB)); have n15_ := zA (zX BK112.out hb); have n16_ := zA (zX BK124.out hb); have n17_ := zA (zX BK144.out hb); have n18_ := zA (zV qB hb); clear HO103; clear HO106; clear HO109; clear HO115; clear HO118; clear HO121; clear HO127; clear HO130; clear HO133; clear HO137; clear HO142; clear HO147; clear HO150; clear HO157; clear BK112; clear BK124; clear BK144; clear HB; have HO103 := n0_; have HO106 := n1_; have HO109 := n2_; have HO115 := n3_; have HO118 := n4_; have HO121 := n5_; have HO127 := n6_; have HO130 := n7_; have HO133 := n8_; have HO137 := n9_; have HO142 := n10_; have HO147 := n11_; have HO150 := n12_; have HO157 := n13_; have HO161 := n14_; have BK112 := n15_; have BK124 := n16_; have BK144 := n17_; have HB := n18_; clear n0_ n1_ n2_ n3_ n4_ n5_ n6_ n7_ n8_ n9_ n10_ n11_ n12_ n13_ n14_ n15_ n16_ n17_ n18_; (try clear hb); (try clear hb2); (try clear hk); (try clear hi); (try clear ho0); obtain ⟨Ao81, co81, eo81⟩ := Kd.R_slice HO161.out; (first | subst eo81 | (injection eo81 with f1_ f2_ f3_; have f4_ := f1_.symm; have f5_ := f3_.symm; clear f1_ f2_ f3_; subst f4_; subst f5_))
                                    refine hK.out _ _ ⟨(zF BK144.out 0).trans rfl, HS1_, HS2_, HS3_, HS4_⟩ (fun hHeld => ?_); clear hK K; refine norm_ (a' := ?_) ?_ ?_; rotate_left
                                    · show Act.put _ (some 104) _ = _
                                      simp only [Act.put, zH, zI, zJ, i64_w, i32_w]; rfl
                                    refine one_ (i := 42) (N := some 105) #[o1, o1, o1, o1, o1, o1, o1, o1, o1, o1, o1, o1, o1, o1, o1, o1, o1, o1, o1, o1, o1, o1, o1, o1, o1, o1, o1, o1, o1, o1, o1, o1, o1, o1, o1, o1, o1, o1, o1, o1, o1, o1, o1, o0, o0, o0, o0, o0, o0, o0, o0, o0, o0, o0, o0, o0, o0, o0, o0, o0, o0, o0, o0, o0, o0, o0, o0, o0, o0, o0] rfl rfl (one_of HT_.out (by kernel_rfl)) (by decide) (fun K hK => ?_); refine goes_ Try.func54 (by kernel_rfl) rfl #[.agg #[.slice Ao65 t140.length co65], .agg #[.int .i64 t158, .slice Ao81 t159.length co81]] (by rfl) rfl rfl qG ?_; with_reducible refine (backhaullaw15_same.calls 1000 _ _ t140 t158 _ _ t159 true _ ?side1 ?side2 ?side3 ?side4 A25.out).mono ?_
                                    (case side1 => repeat (first | exact (Kd.N_reads' HO142.out).2.2 | (with_reducible refine Kd.C_alloc ?_ _) | (with_reducible refine Kd.C_drewN ?_ _) | (with_reducible refine Kd.C_drew ?_)))
                                    (case side2 => exact (Kd.N_reads' HO142.out).2.1)
                                    (case side3 => repeat (first | exact (Kd.R_reads' HO161.out).2.2 | (with_reducible refine Kd.C_alloc ?_ _) | (with_reducible refine Kd.C_drewN ?_ _) | (with_reducible refine Kd.C_drew ?_)))
                                    (case side4 => exact (Kd.R_reads' HO161.out).2.1)
                                    rintro e w82 ⟨rfl, hb⟩; have HS1_ := (hb.cell (zCq _ _ (hHeld.2.1))).trans (hHeld.2.1); have HS2_ := (hb.cell (zCq _ _ (hHeld.2.2.1))).trans (hHeld.2.2.1); have HS3_ := (hb.cell (zCq _ _ (hHeld.2.2.2.1))).trans (hHeld.2.2.2.1); have HS4_ := (hb.cell (zCq _ _ (hHeld.2.2.2.2))).trans (hHeld.2.2.2.2); refine ⟨_, rfl, ?_⟩; have n0_ := zA (Kd.N_below HO103.out hb); have n1_ := zA (Kd.R_below HO106.out hb); have n2_ := zA (Kd.N_below HO109.out hb); have n3_ := zA (Kd.N_below HO115.out hb); have n4_ := zA (Kd.R_below HO118.out hb); have n5_ := zA (Kd.N_below HO121.out hb); have n6_ := zA (Kd.N_below HO127.out hb); have n7_ := zA (Kd.R_below HO130.out hb); have n8_ := zA (Kd.R_below HO133.out hb); have n9_ := zA (Kd.N_below HO137.out hb); have n10_ := zA (Kd.N_below HO142.out hb); have n11_ := zA (Kd.N_below HO147.out hb); have n12_ := zA (Kd.R_below HO150.out hb); have n13_ := zA (Kd.N_below HO157.out hb); have n14_ := zA (Kd.R_below HO161.out hb); have n15_ := zA (zX BK112.out hb); have n16_ := zA (zX BK124.out hb); have n17_ := zA (zX BK144.out hb); have n18_ := zA (zV qB hb); clear HO103; clear HO106; clear HO109; clear HO115; clear HO118; clear HO121; clear HO127; clear HO130; clear HO133; clear HO137; clear HO142; clear HO147; clear HO150; clear HO157; clear HO161; clear BK112; clear BK124; clear BK144; clear HB; have HO103 := n0_; have HO106 := n1_; have HO109 := n2_; have HO115 := n3_; have HO118 := n4_; have HO121 := n5_; have HO127 := n6_; have HO130 := n7_; have HO133 := n8_; have HO137 := n9_; have HO142 := n10_; have HO147 := n11_; have HO150 := n12_; have HO157 := n13_; have HO161 := n14_; have BK112 := n15_; have BK124 := n16_; have BK144 := n17_; have HB := n18_; clear n0_ n1_ n2_ n3_ n4_ n5_ n6_ n7_ n8_ n9_ n10_ n11_ n12_ n13_ n14_ n15_ n16_ n17_ n18_; (try clear hb); (try clear hb2); (try clear hk); (try clear hi); obtain ⟨Ao83, co83, eo83⟩ := Kd.R_slice HO150.out; (first | subst eo83 | (injection eo83 with f1_ f2_ f3_; have f4_ := f1_.symm; have f5_ := f3_.symm; clear f1_ f2_ f3_; subst f4_; subst f5_))
                                    refine hK.out _ _ ⟨(zF BK144.out 0).trans rfl, HS1_, HS2_, HS3_, HS4_⟩ (fun hHeld => ?_); clear hK K; refine norm_ (a' := ?_) ?_ ?_; rotate_left
                                    · show Act.put _ (some 105) _ = _
                                      simp only [Act.put, zH, zI, zJ, i64_w, i32_w]; rfl
                                    refine pure_ (i := 43) (N := some 106) #[o1, o1, o1, o1, o1, o1, o1, o1, o1, o1, o1, o1, o1, o1, o1, o1, o1, o1, o1, o1, o1, o1, o1, o1, o1, o1, o1, o1, o1, o1, o1, o1, o1, o1, o1, o1, o1, o1, o1, o1, o1, o1, o1, o1, o0, o0, o0, o0, o0, o0, o0, o0, o0, o0, o0, o0, o0, o0, o0, o0, o0, o0, o0, o0, o0, o0, o0, o0, o0, o0] rfl rfl (any_of HT_.out (by kernel_rfl)) (fun _ _ _ h => h) (Or.inl ⟨by rfl, qy⟩) qz ?_; refine pure_ (i := 44) (N := some 107) #[o1, o1, o1, o1, o1, o1, o1, o1, o1, o1, o1, o1, o1, o1, o1, o1, o1, o1, o1, o1, o1, o1, o1, o1, o1, o1, o1, o1, o1, o1, o1, o1, o1, o1, o1, o1, o1, o1, o1, o1, o1, o1, o1, o1, o1, o0, o0, o0, o0, o0, o0, o0, o0, o0, o0, o0, o0, o0, o0, o0, o0, o0, o0, o0, o0, o0, o0, o0, o0, o0] rfl rfl (any_of HT_.out (by kernel_rfl)) (fun _ _ _ h => h) (Or.inl ⟨by rfl, qy⟩) qz ?_; refine pure_ (i := 45) (N := some 108) #[o1, o1, o1, o1, o1, o1, o1, o1, o1, o1, o1, o1, o1, o1, o1, o1, o1, o1, o1, o1, o1, o1, o1, o1, o1, o1, o1, o1, o1, o1, o1, o1, o1, o1, o1, o1, o1, o1, o1, o1, o1, o1, o1, o1, o1, o1, o0, o0, o0, o0, o0, o0, o0, o0, o0, o0, o0, o0, o0, o0, o0, o0, o0, o0, o0, o0, o0, o0, o0, o0] rfl rfl (any_of HT_.out (by kernel_rfl)) (fun _ _ _ h => h) (Or.inl ⟨by rfl, qy⟩) qz ?_; refine pure_ (i := 46) (N := some 109) #[o1, o1, o1, o1, o1, o1, o1, o1, o1, o1, o1, o1, o1, o1, o1, o1, o1, o1, o1, o1, o1, o1, o1, o1, o1, o1, o1, o1, o1, o1, o1, o1, o1, o1, o1, o1, o1, o1, o1, o1, o1, o1, o1, o1, o1, o1, o1, o0, o0, o0, o0, o0, o0, o0, o0, o0, o0, o0, o0, o0, o0, o0, o0, o0, o0, o0, o0, o0, o0, o0] rfl rfl (any_of HT_.out (by kernel_rfl)) (fun _ _ _ h => h) (Or.inl ⟨by rfl, qy⟩) qz ?_; refine pure_ (i := 47) (N := some 110) #[o1, o1, o1, o1, o1, o1, o1, o1, o1, o1, o1, o1, o1, o1, o1, o1, o1, o1, o1, o1, o1, o1, o1, o1, o1, o1, o1, o1, o1, o1, o1, o1, o1, o1, o1, o1, o1, o1, o1, o1, o1, o1, o1, o1, o1, o1, o1, o1, o0, o0, o0, o0, o0, o0, o0, o0, o0, o0, o0, o0, o0, o0, o0, o0, o0, o0, o0, o0, o0, o0] rfl rfl (any_of HT_.out (by kernel_rfl)) (fun _ _ _ h => h) (Or.inl ⟨by rfl, qy⟩) qz ?_; refine pure_ (i := 48) (N := some 111) #[o1, o1, o1, o1, o1, o1, o1, o1, o1, o1, o1, o1, o1, o1, o1, o1, o1, o1, o1, o1, o1, o1, o1, o1, o1, o1, o1, o1, o1, o1, o1, o1, o1, o1, o1, o1, o1, o1, o1, o1, o1, o1, o1, o1, o1, o1, o1, o1, o1, o0, o0, o0, o0, o0, o0, o0, o0, o0, o0, o0, o0, o0, o0, o0, o0, o0, o0, o0, o0, o0] rfl rfl (any_of HT_.out (by kernel_rfl)) (fun _ _ _ h => h) (Or.inl ⟨by rfl, qy⟩) qz ?_; refine pure_ (i := 49) (N := some 112) #[o1, o1, o1, o1, o1, o1, o1, o1, o1, o1, o1, o1, o1, o1, o1, o1, o1, o1, o1, o1, o1, o1, o1, o1, o1, o1, o1, o1, o1, o1, o1, o1, o1, o1, o1, o1, o1, o1, o1, o1, o1, o1, o1, o1, o1, o1, o1, o1, o1, o1, o0, o0, o0, o0, o0, o0, o0, o0, o0, o0, o0, o0, o0, o0, o0, o0, o0, o0, o0, o0] rfl rfl (any_of HT_.out (by kernel_rfl)) (fun _ _ _ h => h) (Or.inl ⟨by rfl, qy⟩) qz ?_; refine pure_ (i := 50) (N := some 113) #[o1, o1, o1, o1, o1, o1, o1, o1, o1, o1, o1, o1, o1, o1, o1, o1, o1, o1, o1, o1, o1, o1, o1, o1, o1, o1, o1, o1, o1, o1, o1, o1, o1, o1, o1, o1, o1, o1, o1, o1, o1, o1, o1, o1, o1, o1, o1, o1, o1, o1, o1, o0, o0, o0, o0, o0, o0, o0, o0, o0, o0, o0, o0, o0, o0, o0, o0, o0, o0, o0] rfl rfl (any_of HT_.out (by kernel_rfl)) (fun _ _ _ h => h) (Or.inl ⟨by rfl, qy⟩) qz ?_
                                    refine pure_ (i := 51) (N := some 114) #[o1, o1, o1, o1, o1, o1, o1, o1, o1, o1, o1, o1, o1, o1, o1, o1, o1, o1, o1, o1, o1, o1, o1, o1, o1, o1, o1, o1, o1, o1, o1, o1, o1, o1, o1, o1, o1, o1, o1, o1, o1, o1, o1, o1, o1, o1, o1, o1, o1, o1, o1, o1, o0, o0, o0, o0, o0, o0, o0, o0, o0, o0, o0, o0, o0, o0, o0, o0, o0, o0] rfl rfl (any_of HT_.out (by kernel_rfl)) (fun _ _ _ h => h) (Or.inl ⟨by rfl, qy⟩) qz ?_; refine pure_ (i := 52) (N := some 115) #[o1, o1, o1, o1, o1, o1, o1, o1, o1, o1, o1, o1, o1, o1, o1, o1, o1, o1, o1, o1, o1, o1, o1, o1, o1, o1, o1, o1, o1, o1, o1, o1, o1, o1, o1, o1, o1, o1, o1, o1, o1, o1, o1, o1, o1, o1, o1, o1, o1, o1, o1, o1, o1, o0, o0, o0, o0, o0, o0, o0, o0, o0, o0, o0, o0, o0, o0, o0, o0, o0] rfl rfl (any_of HT_.out (by kernel_rfl)) (fun _ _ _ h => h) (Or.inl ⟨by rfl, qy⟩) qz ?_; refine pure_ (i := 53) (N := some 116) #[o1, o1, o1, o1, o1, o1, o1, o1, o1, o1, o1, o1, o1, o1, o1, o1, o1, o1, o1, o1, o1, o1, o1, o1, o1, o1, o1, o1, o1, o1, o1, o1, o1, o1, o1, o1, o1, o1, o1, o1, o1, o1, o1, o1, o1, o1, o1, o1, o1, o1, o1, o1, o1, o1, o0, o0, o0, o0, o0, o0, o0, o0, o0, o0, o0, o0, o0, o0, o0, o0] rfl rfl (any_of HT_.out (by kernel_rfl)) (fun _ _ _ h => h) (Or.inl ⟨by rfl, qy⟩) qz ?_; refine pure_ (i := 54) (N := some 117) #[o1, o1, o1, o1, o1, o1, o1, o1, o1, o1, o1, o1, o1, o1, o1, o1, o1, o1, o1, o1, o1, o1, o1, o1, o1, o1, o1, o1, o1, o1, o1, o1, o1, o1, o1, o1, o1, o1, o1, o1, o1, o1, o1, o1, o1, o1, o1, o1, o1, o1, o1, o1, o1, o1, o1, o0, o0, o0, o0, o0, o0, o0, o0, o0, o0, o0, o0, o0, o0, o0] rfl rfl (any_of HT_.out (by kernel_rfl)) (fun _ _ _ h => h) (Or.inl ⟨by rfl, qy⟩) qz ?_; refine pure_ (i := 55) (N := some 118) #[o1, o1, o1, o1, o1, o1, o1, o1, o1, o1, o1, o1, o1, o1, o1, o1, o1, o1, o1, o1, o1, o1, o1, o1, o1, o1, o1, o1, o1, o1, o1, o1, o1, o1, o1, o1, o1, o1, o1, o1, o1, o1, o1, o1, o1, o1, o1, o1, o1, o1, o1, o1, o1, o1, o1, o1, o0, o0, o0, o0, o0, o0, o0, o0, o0, o0, o0, o0, o0, o0] rfl rfl (any_of HT_.out (by kernel_rfl)) (fun _ _ _ h => h) (Or.inl ⟨by rfl, qy⟩) qz ?_; refine pure_ (i := 56) (N := some 119) #[o1, o1, o1, o1, o1, o1, o1, o1, o1, o1, o1, o1, o1, o1, o1, o1, o1, o1, o1, o1, o1, o1, o1, o1, o1, o1, o1, o1, o1, o1, o1, o1, o1, o1, o1, o1, o1, o1, o1, o1, o1, o1, o1, o1, o1, o1, o1, o1, o1, o1, o1, o1, o1, o1, o1, o1, o1, o0, o0, o0, o0, o0, o0, o0, o0, o0, o0, o0, o0, o0] rfl rfl (any_of HT_.out (by kernel_rfl)) (fun _ _ _ h => h) (Or.inl ⟨by rfl, qy⟩) qz ?_; refine pure_ (i := 57) (N := some 120) #[o1, o1, o1, o1, o1, o1, o1, o1, o1, o1, o1, o1, o1, o1, o1, o1, o1, o1, o1, o1, o1, o1, o1, o1, o1, o1, o1, o1, o1, o1, o1, o1, o1, o1, o1, o1, o1, o1, o1, o1, o1, o1, o1, o1, o1, o1, o1, o1, o1, o1, o1, o1, o1, o1, o1, o1, o1, o1, o0, o0, o0, o0, o0, o0, o0, o0, o0, o0, o0, o0] rfl rfl (any_of HT_.out (by kernel_rfl)) (fun _ _ _ h => h) (Or.inl ⟨by rfl, qy⟩) qz ?_; refine pure_ (i := 58) (N := some 121) #[o1, o1, o1, o1, o1, o1, o1, o1, o1, o1, o1, o1, o1, o1, o1, o1, o1, o1, o1, o1, o1, o1, o1, o1, o1, o1, o1, o1, o1, o1, o1, o1, o1, o1, o1, o1, o1, o1, o1, o1, o1, o1, o1, o1, o1, o1, o1, o1, o1, o1, o1, o1, o1, o1, o1, o1, o1, o1, o1, o0, o0, o0, o0, o0, o0, o0, o0, o0, o0, o0] rfl rfl (any_of HT_.out (by kernel_rfl)) (fun _ _ _ h => h) (Or.inl ⟨by rfl, qy⟩) qz ?_
                                    refine pure_ (i := 59) (N := some 122) #[o1, o1, o1, o1, o1, o1, o1, o1, o1, o1, o1, o1, o1, o1, o1, o1, o1, o1, o1, o1, o1, o1, o1, o1, o1, o1, o1, o1, o1, o1, o1, o1, o1, o1, o1, o1, o1, o1, o1, o1, o1, o1, o1, o1, o1, o1, o1, o1, o1, o1, o1, o1, o1, o1, o1, o1, o1, o1, o1, o1, o0, o0, o0, o0, o0, o0, o0, o0, o0, o0] rfl rfl (any_of HT_.out (by kernel_rfl)) (fun _ _ _ h => h) (Or.inl ⟨by rfl, qy⟩) qz ?_; refine pure_ (i := 60) (N := some 123) #[o1, o1, o1, o1, o1, o1, o1, o1, o1, o1, o1, o1, o1, o1, o1, o1, o1, o1, o1, o1, o1, o1, o1, o1, o1, o1, o1, o1, o1, o1, o1, o1, o1, o1, o1, o1, o1, o1, o1, o1, o1, o1, o1, o1, o1, o1, o1, o1, o1, o1, o1, o1, o1, o1, o1, o1, o1, o1, o1, o1, o1, o0, o0, o0, o0, o0, o0, o0, o0, o0] rfl rfl (any_of HT_.out (by kernel_rfl)) (fun _ _ _ h => h) (Or.inl ⟨by rfl, qy⟩) qz ?_; refine pure_ (i := 61) (N := some 124) #[o1, o1, o1, o1, o1, o1, o1, o1, o1, o1, o1, o1, o1, o1, o1, o1, o1, o1, o1, o1, o1, o1, o1, o1, o1, o1, o1, o1, o1, o1, o1, o1, o1, o1, o1, o1, o1, o1, o1, o1, o1, o1, o1, o1, o1, o1, o1, o1, o1, o1, o1, o1, o1, o1, o1, o1, o1, o1, o1, o1, o1, o1, o0, o0, o0, o0, o0, o0, o0, o0] rfl rfl (any_of HT_.out (by kernel_rfl)) (fun _ _ _ h => h) (Or.inl ⟨by rfl, qy⟩) qz ?_; refine pure_ (i := 62) (N := some 125) #[o1, o1, o1, o1, o1, o1, o1, o1, o1, o1, o1, o1, o1, o1, o1, o1, o1, o1, o1, o1, o1, o1, o1, o1, o1, o1, o1, o1, o1, o1, o1, o1, o1, o1, o1, o1, o1, o1, o1, o1, o1, o1, o1, o1, o1, o1, o1, o1, o1, o1, o1, o1, o1, o1, o1, o1, o1, o1, o1, o1, o1, o1, o1, o0, o0, o0, o0, o0, o0, o0] rfl rfl (any_of HT_.out (by kernel_rfl)) (fun _ _ _ h => h) (Or.inl ⟨by rfl, qy⟩) qz ?_; refine pure_ (i := 63) (N := some 126) #[o1, o1, o1, o1, o1, o1, o1, o1, o1, o1, o1, o1, o1, o1, o1, o1, o1, o1, o1, o1, o1, o1, o1, o1, o1, o1, o1, o1, o1, o1, o1, o1, o1, o1, o1, o1, o1, o1, o1, o1, o1, o1, o1, o1, o1, o1, o1, o1, o1, o1, o1, o1, o1, o1, o1, o1, o1, o1, o1, o1, o1, o1, o1, o1, o0, o0, o0, o0, o0, o0] rfl rfl (any_of HT_.out (by kernel_rfl)) (fun _ _ _ h => h) (Or.inl ⟨by rfl, qy⟩) qz ?_; refine pure_ (i := 64) (N := some 127) #[o1, o1, o1, o1, o1, o1, o1, o1, o1, o1, o1, o1, o1, o1, o1, o1, o1, o1, o1, o1, o1, o1, o1, o1, o1, o1, o1, o1, o1, o1, o1, o1, o1, o1, o1, o1, o1, o1, o1, o1, o1, o1, o1, o1, o1, o1, o1, o1, o1, o1, o1, o1, o1, o1, o1, o1, o1, o1, o1, o1, o1, o1, o1, o1, o1, o0, o0, o0, o0, o0] rfl rfl (any_of HT_.out (by kernel_rfl)) (fun _ _ _ h => h) (Or.inl ⟨by rfl, qy⟩) qz ?_; refine one_ (i := 65) (N := some 128) #[o1, o1, o1, o1, o1, o1, o1, o1, o1, o1, o1, o1, o1, o1, o1, o1, o1, o1, o1, o1, o1, o1, o1, o1, o1, o1, o1, o1, o1, o1, o1, o1, o1, o1, o1, o1, o1, o1, o1, o1, o1, o1, o1, o1, o1, o1, o1, o1, o1, o1, o1, o1, o1, o1, o1, o1, o1, o1, o1, o1, o1, o1, o1, o1, o1, o1, o0, o0, o0, o0] rfl rfl (one_of HT_.out (by kernel_rfl)) (by decide) (fun K hK => ?_); refine goes_ Try.func95 (by kernel_rfl) rfl #[] (by rfl) rfl rfl qG ?_; with_reducible refine (backhaullaw15_one.calls  t163 _ A32.out).mono ?_
                                    rintro e w84 ⟨v164, rfl, ho0, hb⟩; have HS1_ := (hb.cell (zCq _ _ (hHeld.2.1))).trans (hHeld.2.1); have HS2_ := (hb.cell (zCq _ _ (hHeld.2.2.1))).trans (hHeld.2.2.1); have HS3_ := (hb.cell (zCq _ _ (hHeld.2.2.2.1))).trans (hHeld.2.2.2.1); have HS4_ := (hb.cell (zCq _ _ (hHeld.2.2.2.2))).trans (hHeld.2.2.2.2); refine ⟨_, rfl, ?_⟩; have n0_ := zA (Kd.N_elder' HO103.out (Kd.N_base ho0) hb); have n1_ := zA (Kd.R_below HO106.out hb); have n2_ := zA (Kd.N_elder' HO109.out (Kd.N_base ho0) hb); have n3_ := zA (Kd.N_elder' HO115.out (Kd.N_base ho0) hb); have n4_ := zA (Kd.R_below HO118.out hb); have n5_ := zA (Kd.N_elder' HO121.out (Kd.N_base ho0) hb); have n6_ := zA (Kd.N_elder' HO127.out (Kd.N_base ho0) hb); have n7_ := zA (Kd.R_below HO130.out hb); have n8_ := zA (Kd.R_below HO133.out hb); have n9_ := zA (Kd.N_elder' HO137.out (Kd.N_base ho0) hb); have n10_ := zA (Kd.N_elder' HO142.out (Kd.N_base ho0) hb); have n11_ := zA (Kd.N_elder' HO147.out (Kd.N_base ho0) hb); have n12_ := zA (Kd.R_below HO150.out hb); have n13_ := zA (Kd.N_elder' HO157.out (Kd.N_base ho0) hb); have n14_ := zA (Kd.R_below HO161.out hb); have n15_ := zA (Kd.N_lower (Kd.N_mono (ok' := fun k_ => some k_ ≠ (.slice Ao38 t101.length co38 : Value).ownBlock ∧ some k_ ≠ (.slice Ao39 y104.length co39 : Value).ownBlock ∧ some k_ ≠ (.slice Ao42 t107.length co42 : Value).ownBlock ∧ some k_ ≠ (.slice Ao47 t113.length co47 : Value).ownBlock ∧ some k_ ≠ (.slice Ao48 y116.length co48 : Value).ownBlock ∧ some k_ ≠ (.slice Ao51 t119.length co51 : Value).ownBlock ∧ some k_ ≠ (.slice Ao57 t125.length co57 : Value).ownBlock ∧ some k_ ≠ (.slice Ao58 y128.length co58 : Value).ownBlock ∧ some k_ ≠ (.slice (some ad154) t131.length co77 : Value).ownBlock ∧ some k_ ≠ (.slice Ao61 t135.length co61 : Value).ownBlock ∧ some k_ ≠ (.slice Ao65 t140.length co65 : Value).ownBlock ∧ some k_ ≠ (.slice Ao72 t145.length co72 : Value).ownBlock ∧ some k_ ≠ (.slice Ao83 t148.length co83 : Value).ownBlock ∧ some k_ ≠ (.slice Ao79 t155.length co79 : Value).ownBlock ∧ some k_ ≠ (.slice Ao81 t159.length co81 : Value).ownBlock ∧ k_ ≠ gb112 ∧ k_ ≠ gb124 ∧ k_ ≠ gb144) ho0 (fun k_ hk_ => ⟨(Kd.fresh' (Kd.N_lt HO103.out) k_ hk_), (Kd.fresh' (Kd.R_lt HO106.out) k_ hk_), (Kd.fresh' (Kd.N_lt HO109.out) k_ hk_), (Kd.fresh' (Kd.N_lt HO115.out) k_ hk_), (Kd.fresh' (Kd.R_lt HO118.out) k_ hk_), (Kd.fresh' (Kd.N_lt HO121.out) k_ hk_), (Kd.fresh' (Kd.N_lt HO127.out) k_ hk_), (Kd.fresh' (Kd.R_lt HO130.out) k_ hk_), (Kd.fresh' (Kd.R_lt HO133.out) k_ hk_), (Kd.fresh' (Kd.N_lt HO137.out) k_ hk_), (Kd.fresh' (Kd.N_lt HO142.out) k_ hk_), (Kd.fresh' (Kd.N_lt HO147.out) k_ hk_), (Kd.fresh' (Kd.R_lt HO150.out) k_ hk_), (Kd.fresh' (Kd.N_lt HO157.out) k_ hk_), (Kd.fresh' (Kd.R_lt HO161.out) k_ hk_), (Kd.freshB BK112.out k_ hk_), (Kd.freshB BK124.out k_ hk_), (Kd.freshB BK144.out k_ hk_)⟩)) (zW qB)); have n16_ := zA (zX BK112.out hb); have n17_ := zA (zX BK124.out hb); have n18_ := zA (zX BK144.out hb); have n19_ := zA (zV qB hb); clear HO103; clear HO106; clear HO109; clear HO115; clear HO118; clear HO121; clear HO127; clear HO130; clear HO133; clear HO137; clear HO142; clear HO147; clear HO150; clear HO157; clear HO161; clear BK112; clear BK124; clear BK144; clear HB; have HO103 := n0_; have HO106 := n1_; have HO109 := n2_; have HO115 := n3_; have HO118 := n4_; have HO121 := n5_; have HO127 := n6_; have HO130 := n7_; have HO133 := n8_; have HO137 := n9_; have HO142 := n10_; have HO147 := n11_; have HO150 := n12_; have HO157 := n13_; have HO161 := n14_; have HO165 := n15_; have BK112 := n16_; have BK124 := n17_; have BK144 := n18_; have HB := n19_; clear n0_ n1_ n2_ n3_ n4_ n5_ n6_ n7_ n8_ n9_ n10_ n11_ n12_ n13_ n14_ n15_ n16_ n17_ n18_ n19_; (try clear hb); (try clear hb2); (try clear hk); (try clear hi); (try clear ho0)
                                    obtain ⟨Ao85, co85, eo85⟩ := Kd.N_slice HO165.out; (first | subst eo85 | (injection eo85 with f1_ f2_ f3_; have f4_ := f1_.symm; have f5_ := f3_.symm; clear f1_ f2_ f3_; subst f4_; subst f5_))
                                    refine hK.out _ _ ⟨(zF BK144.out 0).trans rfl, HS1_, HS2_, HS3_, HS4_⟩ (fun hHeld => ?_); clear hK K; refine norm_ (a' := ?_) ?_ ?_; rotate_left
                                    · show Act.put _ (some 128) _ = _
                                      simp only [Act.put, zH, zI, zJ, i64_w, i32_w]; rfl
                                    refine one_ (i := 66) (N := some 129) #[o1, o1, o1, o1, o1, o1, o1, o1, o1, o1, o1, o1, o1, o1, o1, o1, o1, o1, o1, o1, o1, o1, o1, o1, o1, o1, o1, o1, o1, o1, o1, o1, o1, o1, o1, o1, o1, o1, o1, o1, o1, o1, o1, o1, o1, o1, o1, o1, o1, o1, o1, o1, o1, o1, o1, o1, o1, o1, o1, o1, o1, o1, o1, o1, o1, o1, o1, o0, o0, o0] rfl rfl (one_of HT_.out (by kernel_rfl)) (by decide) (fun K hK => ?_); refine goes_ Try.func52 (by kernel_rfl) rfl #[.agg #[.slice Ao85 t163.length co85]] (by rfl) rfl rfl qG ?_; with_reducible refine (batch_Check.calls 1000 _ _ t163 t166 _ ?side1 ?side2 A33.out).mono ?_
                                    (case side1 => repeat (first | exact (Kd.N_reads' HO165.out).2.2 | (with_reducible refine Kd.C_alloc ?_ _) | (with_reducible refine Kd.C_drewN ?_ _) | (with_reducible refine Kd.C_drew ?_)))
                                    (case side2 => exact (Kd.N_reads' HO165.out).2.1)
                                    rintro e w86 ⟨rfl, hb⟩; have HS1_ := (hb.cell (zCq _ _ (hHeld.2.1))).trans (hHeld.2.1); have HS2_ := (hb.cell (zCq _ _ (hHeld.2.2.1))).trans (hHeld.2.2.1); have HS3_ := (hb.cell (zCq _ _ (hHeld.2.2.2.1))).trans (hHeld.2.2.2.1); have HS4_ := (hb.cell (zCq _ _ (hHeld.2.2.2.2))).trans (hHeld.2.2.2.2); refine ⟨_, rfl, ?_⟩; have n0_ := zA (Kd.N_below HO103.out hb); have n1_ := zA (Kd.R_below HO106.out hb); have n2_ := zA (Kd.N_below HO109.out hb); have n3_ := zA (Kd.N_below HO115.out hb); have n4_ := zA (Kd.R_below HO118.out hb); have n5_ := zA (Kd.N_below HO121.out hb); have n6_ := zA (Kd.N_below HO127.out hb); have n7_ := zA (Kd.R_below HO130.out hb); have n8_ := zA (Kd.R_below HO133.out hb); have n9_ := zA (Kd.N_below HO137.out hb); have n10_ := zA (Kd.N_below HO142.out hb); have n11_ := zA (Kd.N_below HO147.out hb); have n12_ := zA (Kd.R_below HO150.out hb); have n13_ := zA (Kd.N_below HO157.out hb); have n14_ := zA (Kd.R_below HO161.out hb); have n15_ := zA (Kd.N_below HO165.out hb); have n16_ := zA (zX BK112.out hb); have n17_ := zA (zX BK124.out hb); have n18_ := zA (zX BK144.out hb); have n19_ := zA (zV qB hb); clear HO103; clear HO106; clear HO109; clear HO115; clear HO118; clear HO121; clear HO127; clear HO130; clear HO133; clear HO137; clear HO142; clear HO147; clear HO150; clear HO157; clear HO161; clear HO165; clear BK112; clear BK124; clear BK144; clear HB; have HO103 := n0_; have HO106 := n1_; have HO109 := n2_; have HO115 := n3_; have HO118 := n4_; have HO121 := n5_; have HO127 := n6_; have HO130 := n7_; have HO133 := n8_; have HO137 := n9_; have HO142 := n10_; have HO147 := n11_; have HO150 := n12_; have HO157 := n13_; have HO161 := n14_; have HO165 := n15_; have BK112 := n16_; have BK124 := n17_; have BK144 := n18_; have HB := n19_; clear n0_ n1_ n2_ n3_ n4_ n5_ n6_ n7_ n8_ n9_ n10_ n11_ n12_ n13_ n14_ n15_ n16_ n17_ n18_ n19_; (try clear hb); (try clear hb2); (try clear hk); (try clear hi); refine hK.out _ _ ⟨(zF BK144.out 0).trans rfl, HS1_, HS2_, HS3_, HS4_⟩ (fun hHeld => ?_); clear hK K; refine norm_ (a' := ?_) ?_ ?_; rotate_left
                                    · show Act.put _ (some 129) _ = _
                                      simp only [Act.put, zH, zI, zJ, i64_w, i32_w]; rfl
                                    refine pure_ (i := 67) (N := some 130) #[o1, o1, o1, o1, o1, o1, o1, o1, o1, o1, o1, o1, o1, o1, o1, o1, o1, o1, o1, o1, o1, o1, o1, o1, o1, o1, o1, o1, o1, o1, o1, o1, o1, o1, o1, o1, o1, o1, o1, o1, o1, o1, o1, o1, o1, o1, o1, o1, o1, o1, o1, o1, o1, o1, o1, o1, o1, o1, o1, o1, o1, o1, o1, o1, o1, o1, o1, o1, o0, o0] rfl rfl (any_of HT_.out (by kernel_rfl)) (fun _ _ _ h => h) (Or.inl ⟨by rfl, qy⟩) qz ?_; refine pure_ (i := 68) (N := some 131) #[o1, o1, o1, o1, o1, o1, o1, o1, o1, o1, o1, o1, o1, o1, o1, o1, o1, o1, o1, o1, o1, o1, o1, o1, o1, o1, o1, o1, o1, o1, o1, o1, o1, o1, o1, o1, o1, o1, o1, o1, o1, o1, o1, o1, o1, o1, o1, o1, o1, o1, o1, o1, o1, o1, o1, o1, o1, o1, o1, o1, o1, o1, o1, o1, o1, o1, o1, o1, o1, o0] rfl rfl (any_of HT_.out (by kernel_rfl)) (fun _ _ _ h => h) (Or.inl ⟨by rfl, qy⟩) qz ?_; refine pure_ (i := 69) (N := some 0) #[o1, o1, o1, o1, o1, o1, o1, o1, o1, o1, o1, o1, o1, o1, o1, o1, o1, o1, o1, o1, o1, o1, o1, o1, o1, o1, o1, o1, o1, o1, o1, o1, o1, o1, o1, o1, o1, o1, o1, o1, o1, o1, o1, o1, o1, o1, o1, o1, o1, o1, o1, o1, o1, o1, o1, o1, o1, o1, o1, o1, o1, o1, o1, o1, o1, o1, o1, o1, o1, o1] rfl rfl (any_of HT_.out (by kernel_rfl)) (fun _ _ _ h => h) (Or.inl ⟨by rfl, qy⟩) qz ?_; refine done_ (done_of HT_.out (by kernel_rfl)) ?_; try go_wp2
                                    go_ret; exact ⟨qE, qB⟩
                                  rw [if_neg c34] at H; have c34b0 : (t166 == 0) = false := beq_eq_false_iff_ne.mpr c34; have c34b1 : (t166 != 0) = true := bne_iff_ne.mpr c34; exact absurd H (by simp)
                                replace c31 := Bool.eq_false_iff.mpr c31; subst c31; have H1 : (some false) = some true := by first | (rw [if_neg (show ¬ (false = true) by decide)] at H; exact H) | rfl
                                clear H; have H := H1; clear H1; exact absurd H (by simp)
                              rw [if_neg c30] at H; have c30b0 : (t152.toList == ([121] : List UInt8)) = false := beq_eq_false_iff_ne.mpr c30; have c30b1 : (t152.toList != ([121] : List UInt8)) = true := bne_iff_ne.mpr c30; exact absurd H (by simp)
                            rw [if_neg c29] at H; have c29b0 : (t151 == 0) = false := beq_eq_false_iff_ne.mpr c29; have c29b1 : (t151 != 0) = true := bne_iff_ne.mpr c29; exact absurd H (by simp)
                          rw [if_neg c28] at H; have c28b0 : ((t148.length : Int) == 2) = false := beq_eq_false_iff_ne.mpr c28; have c28b1 : ((t148.length : Int) != 2) = true := bne_iff_ne.mpr c28; exact absurd H (by simp)
                        rw [if_neg c27] at H; have c27b0 : (t143 == 0) = false := beq_eq_false_iff_ne.mpr c27; have c27b1 : (t143 != 0) = true := bne_iff_ne.mpr c27; exact absurd H (by simp)
                      replace c26 := Bool.eq_false_iff.mpr c26; subst c26; have H1 : (some false) = some true := by first | (rw [if_neg (show ¬ (false = true) by decide)] at H; exact H) | rfl
                      clear H; have H := H1; clear H1; exact absurd H (by simp)
                    rw [if_neg c22] at H; have c22b0 : (t139 == 0) = false := beq_eq_false_iff_ne.mpr c22; have c22b1 : (t139 != 0) = true := bne_iff_ne.mpr c22; exact absurd H (by simp)
                  rw [if_neg c21] at H; have c21b0 : (t138.toList == ([2, 1, 0, 0, 0, 5, 0, 1, 120, 0] : List UInt8)) = false := beq_eq_false_iff_ne.mpr c21; have c21b1 : (t138.toList != ([2, 1, 0, 0, 0, 5, 0, 1, 120, 0] : List UInt8)) = true := bne_iff_ne.mpr c21; exact absurd H (by simp)
                rw [if_neg c20] at H; have c20b0 : (((rd_T166 t131 0).f0) == 0 && (((rd_T166 t131 0).f1) == 1 && (((rd_T166 t131 0).f2) == 5 && ((((rd_T166 t131 0).f3).toList) == ([120] : List UInt8))))) = false := by simpa using c20
                (try (have c20b1 : decide (((rd_T166 t131 0).f0) = 0 && (((rd_T166 t131 0).f1) == 1 && (((rd_T166 t131 0).f2) == 5 && ((((rd_T166 t131 0).f3).toList) == ([120] : List UInt8))))) = false := by simpa using c20))
                (try (have c20b2 : (((rd_T166 t131 0).f0) == 0 && (((rd_T166 t131 0).f1) == 1 && (((rd_T166 t131 0).f2) == 5 && ((((rd_T166 t131 0).f3).toList) == ([120] : List UInt8))))) = false := by simpa using c20))
                (try (have c20b3 : ¬ (((rd_T166 t131 0).f0) = 0 && (((rd_T166 t131 0).f1) == 1 && (((rd_T166 t131 0).f2) == 5 && ((((rd_T166 t131 0).f3).toList) == ([120] : List UInt8))))) := by simpa using c20))
                clear c20; exact absurd H (by simp)
              rw [if_neg c19] at H; exact absurd H (by simp)
            rw [if_neg c18] at H; have c18b0 : (t134 == 0) = false := beq_eq_false_iff_ne.mpr c18; have c18b1 : (t134 != 0) = true := bne_iff_ne.mpr c18; exact absurd H (by simp)
          rw [if_neg c17] at H; have c17b0 : ((t131.length : Int) == 1) = false := beq_eq_false_iff_ne.mpr c17; have c17b1 : ((t131.length : Int) != 1) = true := bne_iff_ne.mpr c17; exact absurd H (by simp)
        rw [if_neg c16] at H; have c16b0 : (t123 == 32) = false := beq_eq_false_iff_ne.mpr c16; have c16b1 : (t123 != 32) = true := bne_iff_ne.mpr c16; exact absurd H (by simp)
      rw [if_neg c15] at H; have c15b0 : (t122 == 1) = false := beq_eq_false_iff_ne.mpr c15; have c15b1 : (t122 != 1) = true := bne_iff_ne.mpr c15; exact absurd H (by simp)
    rw [if_neg c14] at H; have c14b0 : (t111 == 0) = false := beq_eq_false_iff_ne.mpr c14; have c14b1 : (t111 != 0) = true := bne_iff_ne.mpr c14; exact absurd H (by simp)
  rw [if_neg c13] at H
  have c13b0 : (t110 == 2) = false := beq_eq_false_iff_ne.mpr c13
  have c13b1 : (t110 != 2) = true := bne_iff_ne.mpr c13
  exact absurd H (by simp)
end Go.Proofs.Ytdpcgigjlcpofaa.F
namespace Go.Proofs.Ytdpcgigjlcpofaa.F
open Go.RowKit Go.Proofs.YtdpcgigjlcpofaaX Go.Proofs.YtdpcgigjlcpofaaW.PrintWords Go.Proofs.YtdpcgigjlcpofaaW.PrintLast Go.Proofs.YtdpcgigjlcpofaaW.PrintMore
attribute [local go_sem] max2_int min2_int max_two min_two max_three min_three max_four min_four   
attribute [local go_sem high] str_geq str_leq str_gtr
set_option linter.unusedVariables false
set_option linter.unusedSimpArgs false
mutual
def backhaullaw15_BatchDiff.j0 : Nat → ByteArray → Bool → List (List (S164)) → List (List (S164)) → Option (Bool)
  | 0, _, _, _, _ => none
  | k + 1, x2, x32, x102000, x103000 => if x32 = true then ((backhaullaw15_awake.f).bind fun t105 => (if t105 = true then (some true) else (some false))) else ((batch_Diff.f k x102000 x103000).bind fun bt106 => (if bt106.2 = 0 then ((batch_Apply.f k x102000 bt106.1).bind fun bt110 => ((backhaullaw15_of.f k x103000).bind fun bt116 => ((backhaullaw15_same.f k bt110.1 bt116.1 bt116.2).bind fun t120 => (if t120 = true then (if bt110.2.1 = (bt106.1.length : Int) then (if bt110.2.2 = 0 then (backhaullaw15_BatchDiff.j1 k x2 x102000) else (some false)) else (some false)) else (some false))))) else (backhaullaw15_BatchDiff.j1 k x2 x102000)))
def backhaullaw15_BatchDiff.j1 : Nat → ByteArray → List (List (S164)) → Option (Bool)
  | 0, _, _ => none
  | k + 1, x2, x102000 => (batch_Put.f k x102000).bind fun bt121 => (if bt121.2 = 0 then ((batch_Take.f k bt121.1).bind fun bt123 => ((backhaullaw15_of.f k x102000).bind fun bt128 => ((backhaullaw15_same.f k bt123.1 bt128.1 bt128.2).bind fun t132 => (if t132 = true then (if bt123.2 = 0 then (backhaullaw15_BatchDiff.j2 k x2) else (some false)) else (some false))))) else (backhaullaw15_BatchDiff.j2 k x2))
def backhaullaw15_BatchDiff.j2 : Nat → ByteArray → Option (Bool)
  | 0, _ => none
  | k + 1, x2 => (batch_Take.f k x2).bind fun bt133 => (if bt133.2 = 0 then ((batch_Put.f k bt133.1).bind fun bt138 => (if bt138.1.toList = x2.toList then (if bt138.2 = 0 then ((backhaullaw15_awake.f).bind fun t140 => (if t140 = true then (some true) else (some false))) else (some false)) else (some false))) else (if (bt133.1.length : Int) = 0 then ((backhaullaw15_awake.f).bind fun t141 => (if t141 = true then (some true) else (some false))) else (some false)))
end
def backhaullaw15_BatchDiff.f (k : Nat) (l0_0 : List (List (S164))) (l1_0 : List (List (S164))) (a2 : ByteArray) : Option (Bool) := (backhaullaw15_few.f k l0_0).bind fun t103 => (if t103 = true then ((backhaullaw15_few.f k l1_0).bind fun t104 => (if t104 = true then (backhaullaw15_BatchDiff.j0 k a2 (decide ((a2.size : Int) > 5000)) l0_0 l1_0) else (backhaullaw15_BatchDiff.j0 k a2 true l0_0 l1_0))) else (backhaullaw15_BatchDiff.j0 k a2 true l0_0 l1_0))
theorem backhaullaw15_BatchDiff.mono_l : ∀ k, (∀ y0 y1 y2 y3, LeO (backhaullaw15_BatchDiff.j0 k y0 y1 y2 y3) (backhaullaw15_BatchDiff.j0 (k + 1) y0 y1 y2 y3)) ∧ (∀ y0 y1, LeO (backhaullaw15_BatchDiff.j1 k y0 y1) (backhaullaw15_BatchDiff.j1 (k + 1) y0 y1)) ∧ (∀ y0, LeO (backhaullaw15_BatchDiff.j2 k y0) (backhaullaw15_BatchDiff.j2 (k + 1) y0))
  | 0 => ⟨fun _ _ _ _ r h => by simp [backhaullaw15_BatchDiff.j0] at h, fun _ _ r h => by simp [backhaullaw15_BatchDiff.j1] at h, fun _ r h => by simp [backhaullaw15_BatchDiff.j2] at h⟩
  | k + 1 => by
    obtain ⟨ih0, ih1, ih2⟩ := backhaullaw15_BatchDiff.mono_l k
    refine ⟨?_, ?_, ?_⟩
    · intro y0 y1 y2 y3
      unfold backhaullaw15_BatchDiff.j0
      repeat' (with_reducible first | exact ih0 _ _ _ _ | exact ih1 _ _ | exact ih2 _ | exact backhaullaw15_few.mono _ _ | exact backhaullaw15_of.mono _ _ | exact backhaullaw15_same.mono _ _ _ _ | exact batch_Apply.mono _ _ _ | exact batch_Diff.mono _ _ _ | exact batch_Put.mono _ _ | exact batch_Take.mono _ _ | exact LeO.refl _ | exact LeO.none _ | refine LeO.ite ?_ ?_ | refine LeO.bind ?_ (fun _ => ?_))
    · intro y0 y1
      unfold backhaullaw15_BatchDiff.j1
      repeat' (with_reducible first | exact ih0 _ _ _ _ | exact ih1 _ _ | exact ih2 _ | exact backhaullaw15_few.mono _ _ | exact backhaullaw15_of.mono _ _ | exact backhaullaw15_same.mono _ _ _ _ | exact batch_Apply.mono _ _ _ | exact batch_Diff.mono _ _ _ | exact batch_Put.mono _ _ | exact batch_Take.mono _ _ | exact LeO.refl _ | exact LeO.none _ | refine LeO.ite ?_ ?_ | refine LeO.bind ?_ (fun _ => ?_))
    intro y0
    unfold backhaullaw15_BatchDiff.j2
    repeat' (with_reducible first | exact ih0 _ _ _ _ | exact ih1 _ _ | exact ih2 _ | exact backhaullaw15_few.mono _ _ | exact backhaullaw15_of.mono _ _ | exact backhaullaw15_same.mono _ _ _ _ | exact batch_Apply.mono _ _ _ | exact batch_Diff.mono _ _ _ | exact batch_Put.mono _ _ | exact batch_Take.mono _ _ | exact LeO.refl _ | exact LeO.none _ | refine LeO.ite ?_ ?_ | refine LeO.bind ?_ (fun _ => ?_))
theorem backhaullaw15_BatchDiff.mono : ∀ a0 a1 a2 k, LeO (backhaullaw15_BatchDiff.f k a0 a1 a2) (backhaullaw15_BatchDiff.f (k + 1) a0 a1 a2) := by
  intro a0 a1 a2 k
  obtain ⟨ih0, ih1, ih2⟩ := backhaullaw15_BatchDiff.mono_l k
  unfold backhaullaw15_BatchDiff.f
  repeat' (with_reducible first | exact ih0 _ _ _ _ | exact ih1 _ _ | exact ih2 _ | exact backhaullaw15_few.mono _ _ | exact backhaullaw15_of.mono _ _ | exact backhaullaw15_same.mono _ _ _ _ | exact batch_Apply.mono _ _ _ | exact batch_Diff.mono _ _ _ | exact batch_Put.mono _ _ | exact batch_Take.mono _ _ | exact LeO.refl _ | exact LeO.none _ | refine LeO.ite ?_ ?_ | refine LeO.bind ?_ (fun _ => ?_))
def backhaullaw15_BatchDiff.T6 : Bool × List (List Nat × List Nat) := (true, [([], []), ([], []), ([1], [1]), ([0, 2, 2], [0, 2]), ([3], [3]), ([4, 3], [4]), ([5], [5]), ([5], [5]), ([7, 5], [5, 7]), ([6, 8, 5], [5, 6, 8]), ([5, 9], [5, 9]), ([10, 5], [10]), ([11], [11]), ([12, 11], [11, 12]), ([11, 13], [11, 13])])
def backhaullaw15_BatchDiff.B6 : List Nat := [0, 0, 2, 7, 15, 31, 63, 63, 191, 511, 1023, 2047, 4095, 8191, 16383]
theorem backhaullaw15_BatchDiff.tab6 : rtab .any (opsOf Try.f12 6) = backhaullaw15_BatchDiff.T6 := by kernel_rfl
theorem backhaullaw15_BatchDiff.bits6 : waitsOk backhaullaw15_BatchDiff.T6.2 backhaullaw15_BatchDiff.B6 = true := by kernel_rfl
def backhaullaw15_BatchDiff.T11 : Bool × List (List Nat × List Nat) := (true, [([], []), ([], []), ([1], [1]), ([0, 2, 2], [0, 2]), ([3], [3]), ([4, 3], [4]), ([5], [5]), ([6, 5], [5, 6]), ([5, 7], [5, 7])])
def backhaullaw15_BatchDiff.B11 : List Nat := [0, 0, 2, 7, 15, 31, 63, 127, 255]
theorem backhaullaw15_BatchDiff.tab11 : rtab .any (opsOf Try.f12 11) = backhaullaw15_BatchDiff.T11 := by kernel_rfl
theorem backhaullaw15_BatchDiff.bits11 : waitsOk backhaullaw15_BatchDiff.T11.2 backhaullaw15_BatchDiff.B11 = true := by kernel_rfl
set_option maxHeartbeats 8000000 in
set_option maxRecDepth 100000 in
theorem backhaullaw15_BatchDiff.calls (k : Nat) (A0_0 : Option Addr) (c0_0 : Nat) (l0_0 : List (List (S164))) (A1_0 : Option Addr) (c1_0 : Nat) (l1_0 : List (List (S164))) (a2 : ByteArray) (w : World) (hr0_0 : Kd.C (Kd.slice 164 k164) w A0_0 l0_0.length l0_0) (hc0_0 : l0_0.length ≤ c0_0) (hr1_0 : Kd.C (Kd.slice 164 k164) w A1_0 l1_0.length l1_0) (hc1_0 : l1_0.length ≤ c1_0) (h : backhaullaw15_BatchDiff.f k l0_0 l1_0 a2 = some true) :
    Calls Try.prog 12 #[.agg #[.slice A0_0 l0_0.length c0_0], .agg #[.slice A1_0 l1_0.length c1_0], .string a2] w fun e w' => e = .returned (.bool true) ∧ Below w.heap.size w w' := by
  have hu75 := Try.underlying75
  have HR0_0 := zA hr0_0
  have HC0_0 := zA hc0_0
  clear hr0_0 hc0_0
  have HR1_0 := zA hr1_0
  have HC1_0 := zA hc1_0
  clear hr1_0 hc1_0
  have HB := zA (Below.refl w.heap.size w)
  have H : ((backhaullaw15_few.f k l0_0).bind fun t103 => (if t103 = true then ((backhaullaw15_few.f k l1_0).bind fun t104 => (if t104 = true then (backhaullaw15_BatchDiff.j0 k a2 (decide ((a2.size : Int) > 5000)) l0_0 l1_0) else (backhaullaw15_BatchDiff.j0 k a2 true l0_0 l1_0))) else (backhaullaw15_BatchDiff.j0 k a2 true l0_0 l1_0))) = some true := h
  clear h
  have HC4 := zA H
  clear H
  go_enter Try.func12, Try.ntmps12
  go_upto_region 1 with (first | ((with_reducible refine gate_dst (N := 3) rfl ?_); (try (refine gate_guard (by rfl) ?_; dsimp only)); refine box_event qr (N := 3) qr (cs := #[.slice A0_0 l0_0.length c0_0]) (t := 75) qg ?_; intro gb101 hg w5 hbox hb; have n0_ := zA (zV qB hb); have n1_ := zA (hbox); have n2_ := zA ((qS : w.heap.size ≤ gb101)); have n3_ := zA ((qS : w.heap.size ≤ gb101)); clear HB; have HB := n0_; have BK101 := n1_; have GW101 := n2_; have GE101 := n3_; clear n0_ n1_ n2_ n3_ hb hbox hg) | ((with_reducible refine gate_dst (N := 4) rfl ?_); (try (refine gate_guard (by rfl) ?_; dsimp only)); refine box_event qr (N := 4) qr (cs := #[.slice A1_0 l1_0.length c1_0]) (t := 75) qg ?_; intro gb102 hg w6 hbox hb; have n0_ := zA (qX BK101.out hb); have n1_ := zA (zV qB hb); have n2_ := zA (hbox); have n3_ := zA ((qS : w.heap.size ≤ gb102)); have n4_ := zA ((qS : w.heap.size ≤ gb102)); have n5_ := zA ((by rw [hg]; exact zLq (qL BK101.out) : gb101 ≠ gb102)); have n6_ := zA ((by rw [hg]; exact zMq (qL BK101.out) : gb102 ≠ gb101)); clear BK101 HB; have BK101 := n0_; have HB := n1_; have BK102 := n2_; have GW102 := n3_; have GE102 := n4_; have NB101_102 := n5_; have NB102_101 := n6_; clear n0_ n1_ n2_ n3_ n4_ n5_ n6_ hb hbox hg))
  (try simp only [Act.put, zH, zI, zJ])
  go_cut [32] (fun v32 wc => ∃ (kq : Nat) (x32_3 : Bool), v32 = .bool x32_3 ∧ Aside0 (backhaullaw15_BatchDiff.j0 kq a2 x32_3 l0_0 l1_0 = some true) ∧ Aside0 (kq ≤ k) ∧ Aside0 (wc.heap[gb101]? = some (.cells #[(.slice A0_0 l0_0.length c0_0)] 75 (0, 0))) ∧ Aside0 (wc.heap[gb102]? = some (.cells #[(.slice A1_0 l1_0.length c1_0)] 75 (0, 0))) ∧ Aside0 (Below w.heap.size w wc))
  case first =>
    have H := HC4.out; clear HC4; replace H := Option.bind_eq_some_iff.mp H; obtain ⟨t103, A70, H⟩ := H; try dsimp only at H
    have A7 := zA A70; clear A70; by_cases c8 : t103 = true
    · subst c8
      have H1 : ((backhaullaw15_few.f k l1_0).bind fun t104 => (if t104 = true then (backhaullaw15_BatchDiff.j0 k a2 (decide ((a2.size : Int) > 5000)) l0_0 l1_0) else (backhaullaw15_BatchDiff.j0 k a2 true l0_0 l1_0))) = some true := by first | (rw [if_pos rfl] at H; exact H) | rfl
      clear H; have H := H1; clear H1; replace H := Option.bind_eq_some_iff.mp H; obtain ⟨t104, A90, H⟩ := H; try dsimp only at H
      have A9 := zA A90; clear A90; by_cases c10 : t104 = true
      · subst c10
        have H1 : (backhaullaw15_BatchDiff.j0 k a2 (decide ((a2.size : Int) > 5000)) l0_0 l1_0) = some true := by first | (rw [if_pos rfl] at H; exact H) | rfl
        clear H; have H := H1; clear H1; have H' := zA H; clear H; have hnb11 := NB101_102.out; have hnc11 := NB102_101.out; have hcz12_0 : w6.cell? ⟨gb101, 0, none⟩ = some (.slice A0_0 l0_0.length c0_0) := (zF BK101.out 0).trans rfl; have hfz12_0 := zG BK101.out 0; go_wp2_with (first | ((with_reducible refine zJq (f := 41) rfl ?_); refine goesL_ (some 21) rfl rfl Try.func41 (by kernel_rfl) rfl #[.agg #[.slice A0_0 l0_0.length c0_0]] rfl qG ?_; (with_reducible refine (backhaullaw15_few.calls k _ _ l0_0 true _ ?side1 ?side2 A7.out).mono ?_); (case side1 => exact qC (Kd.C_below HR0_0.out HB.out)); (case side2 => exact HC0_0.out); rintro e w13 ⟨rfl, hb⟩; refine ⟨_, rfl, ?_⟩; have n0_ := zA (qX BK101.out hb); have n1_ := zA (qX BK102.out hb); have n2_ := zA (zV qB hb); clear BK101 BK102 HB; have BK101 := n0_; have BK102 := n1_; have HB := n2_; clear n0_ n1_ n2_; (try clear hb); have hcz14_0 : w13.cell? ⟨gb102, 0, none⟩ = some (.slice A1_0 l1_0.length c1_0) := (zF BK102.out 0).trans rfl; have hfz14_0 := zG BK102.out 0) | (go_at_call 41; (with_reducible refine (backhaullaw15_few.calls k _ _ l1_0 true _ ?side1 ?side2 A9.out).mono ?_); (case side1 => exact qC (Kd.C_below HR1_0.out HB.out)); (case side2 => exact HC1_0.out); rintro e w15 ⟨rfl, hb⟩; have n0_ := zA (qX BK101.out hb); have n1_ := zA (qX BK102.out hb); have n2_ := zA (zV qB hb); clear BK101 BK102 HB; have BK101 := n0_; have BK102 := n1_; have HB := n2_; clear n0_ n1_ n2_; (try clear hb))); go_meet
        case rel => exact ⟨_, (decide ((a2.size : Int) > 5000)), (by first | rfl | (simp; done) | (simp [*]; done)), H', ⟨by first | omega | exact Nat.le_refl _⟩, ⟨by exact BK101.out⟩, ⟨by exact BK102.out⟩, ⟨qB⟩⟩
      replace c10 := Bool.eq_false_iff.mpr c10; subst c10; have H1 : (backhaullaw15_BatchDiff.j0 k a2 true l0_0 l1_0) = some true := by first | (rw [if_neg (show ¬ (false = true) by decide)] at H; exact H) | rfl
      clear H; have H := H1; clear H1; have H' := zA H; clear H; have hnb16 := NB101_102.out; have hnc16 := NB102_101.out; have hcz17_0 : w6.cell? ⟨gb101, 0, none⟩ = some (.slice A0_0 l0_0.length c0_0) := (zF BK101.out 0).trans rfl; have hfz17_0 := zG BK101.out 0; go_wp2_with (first | ((with_reducible refine zJq (f := 41) rfl ?_); refine goesL_ (some 21) rfl rfl Try.func41 (by kernel_rfl) rfl #[.agg #[.slice A0_0 l0_0.length c0_0]] rfl qG ?_; (with_reducible refine (backhaullaw15_few.calls k _ _ l0_0 true _ ?side1 ?side2 A7.out).mono ?_); (case side1 => exact qC (Kd.C_below HR0_0.out HB.out)); (case side2 => exact HC0_0.out); rintro e w18 ⟨rfl, hb⟩; refine ⟨_, rfl, ?_⟩; have n0_ := zA (qX BK101.out hb); have n1_ := zA (qX BK102.out hb); have n2_ := zA (zV qB hb); clear BK101 BK102 HB; have BK101 := n0_; have BK102 := n1_; have HB := n2_; clear n0_ n1_ n2_; (try clear hb); have hcz19_0 : w18.cell? ⟨gb102, 0, none⟩ = some (.slice A1_0 l1_0.length c1_0) := (zF BK102.out 0).trans rfl; have hfz19_0 := zG BK102.out 0) | (go_at_call 41; (with_reducible refine (backhaullaw15_few.calls k _ _ l1_0 false _ ?side1 ?side2 A9.out).mono ?_); (case side1 => exact qC (Kd.C_below HR1_0.out HB.out)); (case side2 => exact HC1_0.out); rintro e w20 ⟨rfl, hb⟩; have n0_ := zA (qX BK101.out hb); have n1_ := zA (qX BK102.out hb); have n2_ := zA (zV qB hb); clear BK101 BK102 HB; have BK101 := n0_; have BK102 := n1_; have HB := n2_; clear n0_ n1_ n2_; (try clear hb))); go_meet
      case rel => exact ⟨_, (true), (by first | rfl | (simp; done) | (simp [*]; done)), H', ⟨by first | omega | exact Nat.le_refl _⟩, ⟨by exact BK101.out⟩, ⟨by exact BK102.out⟩, ⟨qB⟩⟩
    replace c8 := Bool.eq_false_iff.mpr c8; subst c8; have H1 : (backhaullaw15_BatchDiff.j0 k a2 true l0_0 l1_0) = some true := by first | (rw [if_neg (show ¬ (false = true) by decide)] at H; exact H) | rfl
    clear H; have H := H1; clear H1; have H' := zA H; clear H; have hnb21 := NB101_102.out; have hnc21 := NB102_101.out; have hcz22_0 : w6.cell? ⟨gb101, 0, none⟩ = some (.slice A0_0 l0_0.length c0_0) := (zF BK101.out 0).trans rfl; have hfz22_0 := zG BK101.out 0; go_wp2_with (first | ((with_reducible refine zJq (f := 41) rfl ?_); refine goesL_ (some 21) rfl rfl Try.func41 (by kernel_rfl) rfl #[.agg #[.slice A0_0 l0_0.length c0_0]] rfl qG ?_; (with_reducible refine (backhaullaw15_few.calls k _ _ l0_0 false _ ?side1 ?side2 A7.out).mono ?_); (case side1 => exact qC (Kd.C_below HR0_0.out HB.out)); (case side2 => exact HC0_0.out); rintro e w23 ⟨rfl, hb⟩; refine ⟨_, rfl, ?_⟩; have n0_ := zA (qX BK101.out hb); have n1_ := zA (qX BK102.out hb); have n2_ := zA (zV qB hb); clear BK101 BK102 HB; have BK101 := n0_; have BK102 := n1_; have HB := n2_; clear n0_ n1_ n2_; (try clear hb))); go_meet
    case rel => exact ⟨_, (true), (by first | rfl | (simp; done) | (simp [*]; done)), H', ⟨by first | omega | exact Nat.le_refl _⟩, ⟨by exact BK101.out⟩, ⟨by exact BK102.out⟩, ⟨qB⟩⟩
  case rest =>
    clear HC4; try clear c1
    try clear c2
    try clear p2
    try clear c4
    try clear c8
    try clear c10
    try clear c11
    try clear c12
    try clear c16
    try clear c21
    try clear hcz12_0
    try clear hcz14_0
    try clear hcz17_0
    try clear hcz19_0
    try clear hcz22_0
    try clear hfz12_0
    try clear hfz14_0
    try clear hfz17_0
    try clear hfz19_0
    try clear hfz22_0
    obtain ⟨kq, x32_3, rfl, HA, HJ3, BK101, BK102, HB⟩ := hcut; cases kq with
    | zero => exact absurd HA.out (by simp [backhaullaw15_BatchDiff.j0])
    | succ kj3 =>
      have H := HA.out; clear HA; simp only [backhaullaw15_BatchDiff.j0] at H; by_cases c24 : x32_3 = true
      · subst c24
        have H1 : ((backhaullaw15_awake.f).bind fun t105 => (if t105 = true then (some true) else (some false))) = some true := by first | (rw [if_pos rfl] at H; exact H) | rfl
        clear H; have H := H1; clear H1; replace H := Option.bind_eq_some_iff.mp H; obtain ⟨t105, A250, H⟩ := H; try dsimp only at H
        have A25 := zA A250; clear A250; by_cases c26 : t105 = true
        · subst c26
          have H1 : (some true) = some true := by first | (rw [if_pos rfl] at H; exact H) | rfl
          clear H; have H := H1; clear H1; clear H; go_wp2_with (first | ((with_reducible refine zJq (f := 43) rfl ?_); refine goesL_ (some 33) rfl rfl Try.func43 (by kernel_rfl) rfl #[] rfl qG ?_; (with_reducible refine (backhaullaw15_awake.calls  true _ A25.out).mono ?_); rintro e w27 ⟨rfl, hb⟩; refine ⟨_, rfl, ?_⟩; have n0_ := zA (qX BK101.out hb); have n1_ := zA (qX BK102.out hb); have n2_ := zA (zV qB hb); clear BK101 BK102 HB; have BK101 := n0_; have BK102 := n1_; have HB := n2_; clear n0_ n1_ n2_; (try clear hb))); go_ret; exact ⟨qE, qB⟩
        replace c26 := Bool.eq_false_iff.mpr c26; subst c26; have H1 : (some false) = some true := by first | (rw [if_neg (show ¬ (false = true) by decide)] at H; exact H) | rfl
        clear H; have H := H1; clear H1; exact absurd H (by simp)
      replace c24 := Bool.eq_false_iff.mpr c24; subst c24; have H1 : ((batch_Diff.f kj3 l0_0 l1_0).bind fun bt106 => (if bt106.2 = 0 then ((batch_Apply.f kj3 l0_0 bt106.1).bind fun bt110 => ((backhaullaw15_of.f kj3 l1_0).bind fun bt116 => ((backhaullaw15_same.f kj3 bt110.1 bt116.1 bt116.2).bind fun t120 => (if t120 = true then (if bt110.2.1 = (bt106.1.length : Int) then (if bt110.2.2 = 0 then (backhaullaw15_BatchDiff.j1 kj3 a2 l0_0) else (some false)) else (some false)) else (some false))))) else (backhaullaw15_BatchDiff.j1 kj3 a2 l0_0))) = some true := by first | (rw [if_neg (show ¬ (false = true) by decide)] at H; exact H) | rfl
      clear H; have H := H1; clear H1; replace H := Option.bind_eq_some_iff.mp H; obtain ⟨⟨t106, t109⟩, A280, H⟩ := H; try dsimp only at H
      have A28 := zA A280; clear A280; have HC29 := zA H; clear H; have hnb30 := NB101_102.out; have hnc30 := NB102_101.out; have hcz31_0 : wc.cell? ⟨gb101, 0, none⟩ = some (.slice A0_0 l0_0.length c0_0) := (zF BK101.out 0).trans rfl; have hfz31_0 := zG BK101.out 0; have hcz32_0 : wc.cell? ⟨gb102, 0, none⟩ = some (.slice A1_0 l1_0.length c1_0) := (zF BK102.out 0).trans rfl; have hfz32_0 := zG BK102.out 0; go_upto_if 41 with (first | ((with_reducible refine zJq (f := 60) rfl ?_); refine goesL_ (some 37) rfl rfl Try.func60 (by kernel_rfl) rfl #[.agg #[.slice A0_0 l0_0.length c0_0], .agg #[.slice A1_0 l1_0.length c1_0]] rfl qG ?_; (with_reducible refine (batch_Diff.calls kj3 _ _ l0_0 _ _ l1_0 t106 t109 _ ?side1 ?side2 ?side3 ?side4 A28.out).mono ?_); (case side1 => exact qC (Kd.C_below HR0_0.out HB.out)); (case side2 => exact HC0_0.out); (case side3 => exact qC (Kd.C_below HR1_0.out HB.out)); (case side4 => exact HC1_0.out); rintro e w33 ⟨v107, rfl, ho0, hb⟩; refine ⟨_, rfl, ?_⟩; have n0_ := zA (Kd.R_lower ho0 (zW qB)); have n1_ := zA (qX BK101.out hb); have n2_ := zA (qX BK102.out hb); have n3_ := zA (zV qB hb); clear BK101 BK102 HB; have HO108 := n0_; have BK101 := n1_; have BK102 := n2_; have HB := n3_; clear n0_ n1_ n2_ n3_; (try clear hb); (try clear ho0)))
      (try simp only [Act.put, zH, zI, zJ])
      go_cut [] (fun wc => ∃ (kq : Nat), Aside0 (backhaullaw15_BatchDiff.j1 kq a2 l0_0 = some true) ∧ Aside0 (kq ≤ kj3) ∧ Aside0 (wc.heap[gb101]? = some (.cells #[(.slice A0_0 l0_0.length c0_0)] 75 (0, 0))) ∧ Aside0 (wc.heap[gb102]? = some (.cells #[(.slice A1_0 l1_0.length c1_0)] 75 (0, 0))) ∧ Aside0 (Below w.heap.size w wc))
      case first =>
        have H := HC29.out; clear HC29; by_cases c34 : t109 = 0
        · rw [if_pos c34] at H
          have c34b0 : (t109 == 0) = true := beq_iff_eq.mpr c34; have c34b1 : (t109 != 0) = false := bne_eq_false_iff_eq.mpr c34; clear c34; (first | rw [c34b0] | (simp only [i64_w, i32_w]; rw [c34b0]) | skip)
          replace H := Option.bind_eq_some_iff.mp H; obtain ⟨⟨t110, t113, t114⟩, A350, H⟩ := H; try dsimp only at H
          have A35 := zA A350; clear A350; replace H := Option.bind_eq_some_iff.mp H; obtain ⟨⟨t116, t117⟩, A360, H⟩ := H; try dsimp only at H
          have A36 := zA A360; clear A360; replace H := Option.bind_eq_some_iff.mp H; obtain ⟨t120, A370, H⟩ := H; try dsimp only at H
          have A37 := zA A370; clear A370; by_cases c38 : t120 = true
          · subst c38
            have H1 : (if t113 = (t106.length : Int) then (if t114 = 0 then (backhaullaw15_BatchDiff.j1 kj3 a2 l0_0) else (some false)) else (some false)) = some true := by first | (rw [if_pos rfl] at H; exact H) | rfl
            clear H; have H := H1; clear H1; by_cases c39 : t113 = (t106.length : Int)
            · rw [if_pos c39] at H
              have c39b0 : (t113 == (t106.length : Int)) = true := beq_iff_eq.mpr c39; have c39b1 : (t113 != (t106.length : Int)) = false := bne_eq_false_iff_eq.mpr c39; clear c39; by_cases c40 : t114 = 0
              · rw [if_pos c40] at H
                have c40b0 : (t114 == 0) = true := beq_iff_eq.mpr c40; have c40b1 : (t114 != 0) = false := bne_eq_false_iff_eq.mpr c40; clear c40; have H' := zA H; clear H; have hnb41 := NB101_102.out; have hnc41 := NB102_101.out; have hcz42_0 : w33.cell? ⟨gb101, 0, none⟩ = some (.slice A0_0 l0_0.length c0_0) := (zF BK101.out 0).trans rfl; have hfz42_0 := zG BK101.out 0; obtain ⟨Ao43, co43, eo43⟩ := Kd.R_slice HO108.out; subst eo43; try go_wp2_with (first | ((with_reducible refine zJq (f := 45) rfl ?_); refine goesL_ (some 45) rfl rfl Try.func45 (by kernel_rfl) rfl #[.agg #[.slice A0_0 l0_0.length c0_0], .slice Ao43 t106.length co43] rfl qG ?_; (with_reducible refine (batch_Apply.calls kj3 (fun k_ => k_ < w.heap.size) _ _ l0_0 _ _ t106 t110 t113 t114 _ ?side1 ?side2 ?side3 A35.out).mono ?_); (case side1 => exact Kd.V_mk HC0_0.out (Kd.F_below (Kd.C_F (Kd.heap_slice 164 k164_heap) HR0_0.out) qB)); (case side2 => repeat (first | exact (Kd.R_reads' HO108.out).2.2 | (with_reducible refine Kd.C_alloc ?_ _) | (with_reducible refine Kd.C_drewN ?_ _) | (with_reducible refine Kd.C_drew ?_))); (case side3 => exact (Kd.R_reads' HO108.out).2.1); rintro e w44 ⟨v111, rfl, ho0, hb⟩; refine ⟨_, rfl, ?_⟩; have n0_ := zA (Kd.R_below (by (with_reducible repeat (first | apply Kd.R_alloc | apply Kd.R_drewN | apply Kd.R_drew)); exact HO108.out) hb); have n1_ := zA (Kd.N_lower (Kd.N_mono (ok' := fun k_ => some k_ ≠ (.slice Ao43 t106.length co43 : Value).ownBlock ∧ k_ ≠ gb101 ∧ k_ ≠ gb102) ho0 (fun k_ hk_ => ⟨Or.elim hk_ (fun hs_ => fun e_ => Nat.not_le.2 hs_ (Kd.R_base HO108.out k_ e_.symm)) (fun hn_ => (Kd.fresh' (Kd.R_lt (by (with_reducible repeat (first | apply Kd.R_alloc | apply Kd.R_drewN | apply Kd.R_drew)); exact HO108.out)) k_ hn_)), Or.elim hk_ (fun hs_ => fun e_ => Nat.not_le.2 hs_ (by rw [e_]; exact GW101.out)) (fun hn_ => (Kd.freshB (g := gb101) (o := .cells #[.slice A0_0 l0_0.length c0_0] 75 (0, 0)) (qW BK101.out) k_ hn_)), Or.elim hk_ (fun hs_ => fun e_ => Nat.not_le.2 hs_ (by rw [e_]; exact GW102.out)) (fun hn_ => (Kd.freshB (g := gb102) (o := .cells #[.slice A1_0 l1_0.length c1_0] 75 (0, 0)) (qW BK102.out) k_ hn_))⟩)) (zW qB)); have n2_ := zA (qX BK101.out hb); have n3_ := zA (qX BK102.out hb); have n4_ := zA (zV qB hb); clear HO108 BK101 BK102 HB; have HO108 := n0_; have HO112 := n1_; have BK101 := n2_; have BK102 := n3_; have HB := n4_; clear n0_ n1_ n2_ n3_ n4_; (try clear hb); (try clear ho0)) | ((with_reducible refine gate_dst (N := 9) rfl ?_); (try (refine gate_guard (by rfl) ?_; dsimp only)); refine box_event qr (N := 9) qr (cs := #[.slice none 0 0]) (t := 75) qg ?_; intro gb115 hg w45 hbox hb; have n0_ := zA (Kd.R_below (by (with_reducible repeat (first | apply Kd.R_alloc | apply Kd.R_drewN | apply Kd.R_drew)); exact HO108.out) hb); have n1_ := zA (Kd.N_below (Kd.N_elderB (by (with_reducible repeat (first | apply Kd.N_alloc | apply Kd.N_drewN | apply Kd.N_drew)); exact HO112.out) gb115 (Nat.le_of_eq hg.symm)) hb); have n2_ := zA (qX BK101.out hb); have n3_ := zA (qX BK102.out hb); have n4_ := zA (zV qB hb); have n5_ := zA (hbox); have n6_ := zA ((qS : w.heap.size ≤ gb115)); have n7_ := zA ((qS : w.heap.size ≤ gb115)); have n8_ := zA ((by rw [hg]; exact zLq (qL BK101.out) : gb101 ≠ gb115)); have n9_ := zA ((by rw [hg]; exact zMq (qL BK101.out) : gb115 ≠ gb101)); have n10_ := zA ((by rw [hg]; exact zLq (qL BK102.out) : gb102 ≠ gb115)); have n11_ := zA ((by rw [hg]; exact zMq (qL BK102.out) : gb115 ≠ gb102)); clear HO108 HO112 BK101 BK102 HB; have HO108 := n0_; have HO112 := n1_; have BK101 := n2_; have BK102 := n3_; have HB := n4_; have BK115 := n5_; have GW115 := n6_; have GE115 := n7_; have NB101_115 := n8_; have NB115_101 := n9_; have NB102_115 := n10_; have NB115_102 := n11_; clear n0_ n1_ n2_ n3_ n4_ n5_ n6_ n7_ n8_ n9_ n10_ n11_ hb hbox hg; obtain ⟨Ao46, co46, eo46⟩ := Kd.N_slice HO112.out; subst eo46; have hnb47 := NB115_101.out; have hnc47 := NB101_115.out; have hnb48 := NB115_102.out; have hnc48 := NB102_115.out; have hcz49_0 : w45.cell? ⟨gb115, 0, none⟩ = some (.slice none 0 0) := (zF BK115.out 0).trans rfl; have hfz49_0 := zG BK115.out 0))
                have n0_ : Aside0 (Kd.R k166 166 (w45.setCell ⟨gb115, 0, none⟩ (.slice Ao46 t110.length co46)) w.heap.size (fun _ => True) (.slice Ao43 t106.length co43) t106) := ⟨by (with_reducible repeat (first | apply Kd.R_alloc | apply Kd.R_drewN | apply Kd.R_drew)); exact Kd.R_mono (Kd.R_far (p := ⟨gb115, 0, none⟩) (Kd.R_types HO108.out BK115.out (by decide)) (fun _ hk => hk.2) (.slice Ao46 t110.length co46)) (fun _ hk => trivial)⟩
                have n1_ : Aside0 (Kd.N (Kd.slice 164 k164) 162 (w45.setCell ⟨gb115, 0, none⟩ (.slice Ao46 t110.length co46)) w.heap.size (fun k_ => some k_ ≠ (.slice Ao43 t106.length co43 : Value).ownBlock ∧ k_ ≠ gb101 ∧ k_ ≠ gb102 ∧ k_ ≠ gb115) (.slice Ao46 t110.length co46) t110) := ⟨by (with_reducible repeat (first | apply Kd.N_alloc | apply Kd.N_drewN | apply Kd.N_drew)); exact Kd.N_mono (Kd.N_far (p := ⟨gb115, 0, none⟩) (Kd.N_mono HO112.out (fun k_ hk => (⟨hk, hk.2⟩ : _ ∧ k_ ≠ gb115))) (fun _ hk => hk.2) (.slice Ao46 t110.length co46)) (fun _ hk => ⟨hk.1.1.1, ⟨hk.1.1.2.1, ⟨hk.1.1.2.2, hk.1.2⟩⟩⟩)⟩
                have n2_ : Aside0 ((w45.setCell ⟨gb115, 0, none⟩ (.slice Ao46 t110.length co46)).heap[gb101]? = some (.cells #[.slice A0_0 l0_0.length c0_0] 75 (0, 0))) := ⟨by (with_reducible repeat (first | refine zY ?_ _ | refine zAq ?_ | refine zZ ?_ _)); refine blk_far ?_ NB101_115.out _; exact BK101.out⟩
                have n3_ : Aside0 ((w45.setCell ⟨gb115, 0, none⟩ (.slice Ao46 t110.length co46)).heap[gb102]? = some (.cells #[.slice A1_0 l1_0.length c1_0] 75 (0, 0))) := ⟨by (with_reducible repeat (first | refine zY ?_ _ | refine zAq ?_ | refine zZ ?_ _)); refine blk_far ?_ NB102_115.out _; exact BK102.out⟩
                have n4_ : Aside0 ((w45.setCell ⟨gb115, 0, none⟩ (.slice Ao46 t110.length co46)).heap[gb115]? = some (.cells #[.slice Ao46 t110.length co46] 75 (0, 0))) := ⟨by (with_reducible repeat (first | refine zY ?_ _ | refine zAq ?_ | refine zZ ?_ _)); refine blk_put (cs := #[.slice none 0 0]) ?_ 0 _ rfl; exact BK115.out⟩
                have n5_ : Aside0 (Below w.heap.size w (w45.setCell ⟨gb115, 0, none⟩ (.slice Ao46 t110.length co46))) := ⟨qB⟩
                (try clear HO108); (try clear HO112); (try clear BK101); (try clear BK102); (try clear BK115); (try clear HB)
                generalize (w45.setCell ⟨gb115, 0, none⟩ (.slice Ao46 t110.length co46)) = w50 at n0_ n1_ n2_ n3_ n4_ n5_ ⊢; have HO108 := n0_; have HO112 := n1_; have BK101 := n2_; have BK102 := n3_; have BK115 := n4_; have HB := n5_; clear n0_ n1_ n2_ n3_ n4_ n5_; have n0_ := zA (Kd.R_drew HO108.out); have n1_ := zA (Kd.N_drew HO112.out); have n2_ := zA (zAq BK101.out); have n3_ := zA (zAq BK102.out); have n4_ := zA (zAq BK115.out); have n5_ := zA (zC HB.out); clear HO108; clear HO112; clear BK101; clear BK102; clear BK115; clear HB; have HO108 := n0_; have HO112 := n1_; have BK101 := n2_; have BK102 := n3_; have BK115 := n4_; have HB := n5_; clear n0_ n1_ n2_ n3_ n4_ n5_; refine start_ (n := 15) (S := fun w' => w'.cell? ⟨gb115, 0, none⟩ = some (.slice Ao46 t110.length co46) ∧ w'.cell? ⟨gb102, 0, none⟩ = some (.slice A1_0 l1_0.length c1_0)) (ds := []) #[o0, o0, o0, o0, o0, o0, o0, o0, o0, o0, o0, o0, o0, o0, o0] (by kernel_rfl) rfl rfl ⟨(zF BK115.out 0).trans rfl, (zF BK102.out 0).trans rfl⟩ (fun hHeld => ?_); refine with_tabW backhaullaw15_BatchDiff.tab6 backhaullaw15_BatchDiff.bits6 (fun HT_ HW_ => ?_); generalize w50.drew = w51 at HO108 HO112 BK101 BK102 BK115 HB hHeld ⊢; refine take_ (i := 0) (N := some 49) (v := ?_) (a' := ?_) #[o1, o0, o0, o0, o0, o0, o0, o0, o0, o0, o0, o0, o0, o0, o0] rfl rfl (take_ofW HT_.out HW_.out (by kernel_rfl)) (fun _ _ _ h => h) (Or.inl ⟨by rfl, ?_⟩) hHeld ?_ ?_; rotate_left
                · rintro w' ⟨s0, s1⟩
                  go_simp; with_reducible rfl
                rotate_left
                · simp only [Act.put, zH, zI, zJ, i64_w, i32_w]
                  rfl
                refine take_ (i := 1) (N := some 50) (v := ?_) (a' := ?_) #[o1, o1, o0, o0, o0, o0, o0, o0, o0, o0, o0, o0, o0, o0, o0] rfl rfl (take_ofW HT_.out HW_.out (by kernel_rfl)) (fun _ _ _ h => h) (Or.inl ⟨by rfl, ?_⟩) hHeld ?_ ?_; rotate_left
                · rintro w' ⟨s0, s1⟩
                  go_simp; with_reducible rfl
                rotate_left
                · simp only [Act.put, zH, zI, zJ, i64_w, i32_w]
                  rfl
                refine one_ (i := 2) (N := some 51) #[o1, o1, o1, o0, o0, o0, o0, o0, o0, o0, o0, o0, o0, o0, o0] rfl rfl (one_of HT_.out (by kernel_rfl)) (by decide) (fun K hK => ?_); refine goes_ Try.func44 (by kernel_rfl) rfl #[.agg #[.slice A1_0 l1_0.length c1_0]] (by rfl) rfl rfl qG ?_; with_reducible refine (backhaullaw15_of.calls kj3 _ _ l1_0 t116 t117 _ ?side1 ?side2 A36.out).mono ?_
                (case side1 => exact qC (Kd.C_below HR1_0.out HB.out))
                (case side2 => exact HC1_0.out)
                rintro e w52 ⟨v118, rfl, ho0, hb⟩; refine ⟨_, rfl, ?_⟩; have n0_ := zA (Kd.R_below (by (with_reducible repeat (first | apply Kd.R_alloc | apply Kd.R_drewN | apply Kd.R_drew)); exact HO108.out) hb); have n1_ := zA (Kd.N_elder' (by (with_reducible repeat (first | apply Kd.N_alloc | apply Kd.N_drewN | apply Kd.N_drew)); exact HO112.out) (Kd.R_base ho0) hb); have n2_ := zA (Kd.R_lower ho0 (zW qB)); have n3_ := zA (qX BK101.out hb); have n4_ := zA (qX BK102.out hb); have n5_ := zA (qX BK115.out hb); have n6_ := zA (zV qB hb); clear HO108; clear HO112; clear BK101; clear BK102; clear BK115; clear HB; have HO108 := n0_; have HO112 := n1_; have HO119 := n2_; have BK101 := n3_; have BK102 := n4_; have BK115 := n5_; have HB := n6_; clear n0_ n1_ n2_ n3_ n4_ n5_ n6_; (try clear hb); (try clear hb2); (try clear hk); (try clear hi); (try clear ho0); obtain ⟨Ao53, co53, eo53⟩ := Kd.R_slice HO119.out; (first | subst eo53 | (injection eo53 with f1_ f2_ f3_; have f4_ := f1_.symm; have f5_ := f3_.symm; clear f1_ f2_ f3_; subst f4_; subst f5_))
                refine hK.out _ _ ⟨(zF BK115.out 0).trans rfl, (zF BK102.out 0).trans rfl⟩ (fun hHeld => ?_); clear hK K; refine norm_ (a' := ?_) ?_ ?_; rotate_left
                · show Act.put _ (some 51) _ = _
                  simp only [Act.put, zH, zI, zJ, i64_w, i32_w]; rfl
                refine one_ (i := 3) (N := some 52) #[o1, o1, o1, o1, o0, o0, o0, o0, o0, o0, o0, o0, o0, o0, o0] rfl rfl (one_of HT_.out (by kernel_rfl)) (by decide) (fun K hK => ?_); refine goes_ Try.func54 (by kernel_rfl) rfl #[.agg #[.slice Ao46 t110.length co46], .agg #[.int .i64 t116, .slice Ao53 t117.length co53]] (by rfl) rfl rfl qG ?_; with_reducible refine (backhaullaw15_same.calls kj3 _ _ t110 t116 _ _ t117 true _ ?side1 ?side2 ?side3 ?side4 A37.out).mono ?_
                (case side1 => repeat (first | exact (Kd.N_reads' HO112.out).2.2 | (with_reducible refine Kd.C_alloc ?_ _) | (with_reducible refine Kd.C_drewN ?_ _) | (with_reducible refine Kd.C_drew ?_)))
                (case side2 => exact (Kd.N_reads' HO112.out).2.1)
                (case side3 => repeat (first | exact (Kd.R_reads' HO119.out).2.2 | (with_reducible refine Kd.C_alloc ?_ _) | (with_reducible refine Kd.C_drewN ?_ _) | (with_reducible refine Kd.C_drew ?_)))
                (case side4 => exact (Kd.R_reads' HO119.out).2.1)
                rintro e w54 ⟨rfl, hb⟩; refine ⟨_, rfl, ?_⟩; have n0_ := zA (Kd.R_below (by (with_reducible repeat (first | apply Kd.R_alloc | apply Kd.R_drewN | apply Kd.R_drew)); exact HO108.out) hb); have n1_ := zA (Kd.N_below (by (with_reducible repeat (first | apply Kd.N_alloc | apply Kd.N_drewN | apply Kd.N_drew)); exact HO112.out) hb); have n2_ := zA (Kd.R_below (by (with_reducible repeat (first | apply Kd.R_alloc | apply Kd.R_drewN | apply Kd.R_drew)); exact HO119.out) hb); have n3_ := zA (qX BK101.out hb); have n4_ := zA (qX BK102.out hb); have n5_ := zA (qX BK115.out hb); have n6_ := zA (zV qB hb); clear HO108; clear HO112; clear HO119; clear BK101; clear BK102; clear BK115; clear HB; have HO108 := n0_; have HO112 := n1_; have HO119 := n2_; have BK101 := n3_; have BK102 := n4_; have BK115 := n5_; have HB := n6_; clear n0_ n1_ n2_ n3_ n4_ n5_ n6_; (try clear hb); (try clear hb2); (try clear hk); (try clear hi); refine hK.out _ _ ⟨(zF BK115.out 0).trans rfl, (zF BK102.out 0).trans rfl⟩ (fun hHeld => ?_); clear hK K; refine norm_ (a' := ?_) ?_ ?_; rotate_left
                · show Act.put _ (some 52) _ = _
                  simp only [Act.put, zH, zI, zJ, i64_w, i32_w]; rfl
                refine pure_ (i := 4) (N := some 53) #[o1, o1, o1, o1, o1, o0, o0, o0, o0, o0, o0, o0, o0, o0, o0] rfl rfl (any_of HT_.out (by kernel_rfl)) (fun _ _ _ h => h) (Or.inl ⟨by rfl, qy⟩) qz ?_; refine pure_ (i := 5) (N := some 54) #[o1, o1, o1, o1, o1, o1, o0, o0, o0, o0, o0, o0, o0, o0, o0] rfl rfl (any_of HT_.out (by kernel_rfl)) (fun _ _ _ h => h) (Or.inl ⟨by rfl, qy⟩) qz ?_; refine pure_ (i := 6) (N := some 55) #[o1, o1, o1, o1, o1, o1, o1, o0, o0, o0, o0, o0, o0, o0, o0] rfl rfl (any_of HT_.out (by kernel_rfl)) (fun _ _ _ h => h) (Or.inl ⟨by rfl, qy⟩) qz ?_; refine pure_ (i := 7) (N := some 56) #[o1, o1, o1, o1, o1, o1, o1, o1, o0, o0, o0, o0, o0, o0, o0] rfl rfl (any_of HT_.out (by kernel_rfl)) (fun _ _ _ h => h) (Or.inl ⟨by rfl, qy⟩) qz ?_; refine pure_ (i := 8) (N := some 57) #[o1, o1, o1, o1, o1, o1, o1, o1, o1, o0, o0, o0, o0, o0, o0] rfl rfl (any_of HT_.out (by kernel_rfl)) (fun _ _ _ h => h) (Or.inl ⟨by rfl, qy⟩) qz ?_; refine pure_ (i := 9) (N := some 58) #[o1, o1, o1, o1, o1, o1, o1, o1, o1, o1, o0, o0, o0, o0, o0] rfl rfl (any_of HT_.out (by kernel_rfl)) (fun _ _ _ h => h) (Or.inl ⟨by rfl, qy⟩) qz ?_; refine pure_ (i := 10) (N := some 59) #[o1, o1, o1, o1, o1, o1, o1, o1, o1, o1, o1, o0, o0, o0, o0] rfl rfl (any_of HT_.out (by kernel_rfl)) (fun _ _ _ h => h) (Or.inl ⟨by rfl, qy⟩) qz ?_; refine pure_ (i := 11) (N := some 60) #[o1, o1, o1, o1, o1, o1, o1, o1, o1, o1, o1, o1, o0, o0, o0] rfl rfl (any_of HT_.out (by kernel_rfl)) (fun _ _ _ h => h) (Or.inl ⟨by rfl, qy⟩) qz ?_; refine pure_ (i := 12) (N := some 61) #[o1, o1, o1, o1, o1, o1, o1, o1, o1, o1, o1, o1, o1, o0, o0] rfl rfl (any_of HT_.out (by kernel_rfl)) (fun _ _ _ h => h) (Or.inl ⟨by rfl, qy⟩) qz ?_; refine pure_ (i := 13) (N := some 62) #[o1, o1, o1, o1, o1, o1, o1, o1, o1, o1, o1, o1, o1, o1, o0] rfl rfl (any_of HT_.out (by kernel_rfl)) (fun _ _ _ h => h) (Or.inl ⟨by rfl, qy⟩) qz ?_; refine pure_ (i := 14) (N := some 63) #[o1, o1, o1, o1, o1, o1, o1, o1, o1, o1, o1, o1, o1, o1, o1] rfl rfl (any_of HT_.out (by kernel_rfl)) (fun _ _ _ h => h) (Or.inl ⟨by rfl, qy⟩) qz ?_; refine done_ (done_of HT_.out (by kernel_rfl)) ?_; try go_wp2
                go_meet
                case rel => exact ⟨_, H', ⟨by have := HJ3.out; first | omega | exact Nat.le_refl _⟩, ⟨by exact BK101.out⟩, ⟨by exact BK102.out⟩, ⟨qB⟩⟩
              rw [if_neg c40] at H; have c40b0 : (t114 == 0) = false := beq_eq_false_iff_ne.mpr c40; have c40b1 : (t114 != 0) = true := bne_iff_ne.mpr c40; exact absurd H (by simp)
            rw [if_neg c39] at H; have c39b0 : (t113 == (t106.length : Int)) = false := beq_eq_false_iff_ne.mpr c39; have c39b1 : (t113 != (t106.length : Int)) = true := bne_iff_ne.mpr c39; exact absurd H (by simp)
          replace c38 := Bool.eq_false_iff.mpr c38; subst c38; have H1 : (some false) = some true := by first | (rw [if_neg (show ¬ (false = true) by decide)] at H; exact H) | rfl
          clear H; have H := H1; clear H1; exact absurd H (by simp)
        rw [if_neg c34] at H; have c34b0 : (t109 == 0) = false := beq_eq_false_iff_ne.mpr c34; have c34b1 : (t109 != 0) = true := bne_iff_ne.mpr c34; (first | rw [c34b0] | (simp only [i64_w, i32_w]; rw [c34b0]) | skip)
        have H' := zA H; clear H; go_wp2; go_meet
        case rel => exact ⟨_, H', ⟨by have := HJ3.out; first | omega | exact Nat.le_refl _⟩, ⟨by exact BK101.out⟩, ⟨by exact BK102.out⟩, ⟨qB⟩⟩
      case rest =>
        clear HC29; try clear c1
        try clear c2
        try clear p2
        try clear c3
        try clear c4
        try clear c5
        try clear c6
        try clear c8
        try clear c10
        try clear c11
        try clear c12
        try clear c16
        try clear c21
        try clear c24
        try clear c26
        try clear c30
        try clear c34
        try clear c34b0
        try clear c34b1
        try clear c38
        try clear c39
        try clear c39b0
        try clear c39b1
        try clear c40
        try clear c40b0
        try clear c40b1
        try clear c41
        try clear c43
        try clear c44
        try clear c45
        try clear c47
        try clear c48
        try clear c54
        try clear hcz12_0
        try clear hcz14_0
        try clear hcz17_0
        try clear hcz19_0
        try clear hcz22_0
        try clear hcz31_0
        try clear hcz32_0
        try clear hcz42_0
        try clear hcz49_0
        try clear hfz12_0
        try clear hfz14_0
        try clear hfz17_0
        try clear hfz19_0
        try clear hfz22_0
        try clear hfz31_0
        try clear hfz32_0
        try clear hfz42_0
        try clear hfz49_0
        try clear p2
        obtain ⟨kq, HA, HJ28, BK101, BK102, HB⟩ := hcut; cases kq with
        | zero => exact absurd HA.out (by simp [backhaullaw15_BatchDiff.j1])
        | succ kj28 =>
          have H := HA.out; clear HA; simp only [backhaullaw15_BatchDiff.j1] at H; replace H := Option.bind_eq_some_iff.mp H; obtain ⟨⟨t121, t122⟩, A550, H⟩ := H; try dsimp only at H
          have A55 := zA A550; clear A550; have HC56 := zA H; clear H; have hnb57 := NB101_102.out; have hnc57 := NB102_101.out; have hcz58_0 : wc.cell? ⟨gb101, 0, none⟩ = some (.slice A0_0 l0_0.length c0_0) := (zF BK101.out 0).trans rfl; have hfz58_0 := zG BK101.out 0; go_upto_if 70 with (first | ((with_reducible refine zJq (f := 56) rfl ?_); refine goesL_ (some 66) rfl rfl Try.func56 (by kernel_rfl) rfl #[.agg #[.slice A0_0 l0_0.length c0_0]] rfl qG ?_; (with_reducible refine (batch_Put.calls kj28 _ _ l0_0 t121 t122 _ ?side1 ?side2 A55.out).mono ?_); (case side1 => exact qC (Kd.C_below HR0_0.out HB.out)); (case side2 => exact HC0_0.out); rintro e w59 ⟨rfl, hb⟩; refine ⟨_, rfl, ?_⟩; have n0_ := zA (qX BK101.out hb); have n1_ := zA (qX BK102.out hb); have n2_ := zA (zV qB hb); clear BK101 BK102 HB; have BK101 := n0_; have BK102 := n1_; have HB := n2_; clear n0_ n1_ n2_; (try clear hb)))
          (try simp only [Act.put, zH, zI, zJ])
          go_cut [] (fun wc => ∃ (kq : Nat), Aside0 (backhaullaw15_BatchDiff.j2 kq a2 = some true) ∧ Aside0 (kq ≤ kj28) ∧ Aside0 (wc.heap[gb101]? = some (.cells #[(.slice A0_0 l0_0.length c0_0)] 75 (0, 0))) ∧ Aside0 (wc.heap[gb102]? = some (.cells #[(.slice A1_0 l1_0.length c1_0)] 75 (0, 0))) ∧ Aside0 (Below w.heap.size w wc))
          case first =>
            have H := HC56.out; clear HC56; by_cases c60 : t122 = 0
            · rw [if_pos c60] at H
              have c60b0 : (t122 == 0) = true := beq_iff_eq.mpr c60; have c60b1 : (t122 != 0) = false := bne_eq_false_iff_eq.mpr c60; clear c60; (first | rw [c60b0] | (simp only [i64_w, i32_w]; rw [c60b0]) | skip)
              replace H := Option.bind_eq_some_iff.mp H; obtain ⟨⟨t123, t126⟩, A610, H⟩ := H; try dsimp only at H
              have A61 := zA A610; clear A610; replace H := Option.bind_eq_some_iff.mp H; obtain ⟨⟨t128, t129⟩, A620, H⟩ := H; try dsimp only at H
              have A62 := zA A620; clear A620; replace H := Option.bind_eq_some_iff.mp H; obtain ⟨t132, A630, H⟩ := H; try dsimp only at H
              have A63 := zA A630; clear A630; by_cases c64 : t132 = true
              · subst c64
                have H1 : (if t126 = 0 then (backhaullaw15_BatchDiff.j2 kj28 a2) else (some false)) = some true := by first | (rw [if_pos rfl] at H; exact H) | rfl
                clear H; have H := H1; clear H1; by_cases c65 : t126 = 0
                · rw [if_pos c65] at H
                  have c65b0 : (t126 == 0) = true := beq_iff_eq.mpr c65; have c65b1 : (t126 != 0) = false := bne_eq_false_iff_eq.mpr c65; clear c65; have H' := zA H; clear H; try go_wp2_with (first | ((with_reducible refine zJq (f := 58) rfl ?_); refine goesL_ (some 73) rfl rfl Try.func58 (by kernel_rfl) rfl #[.string t121] rfl qG ?_; (with_reducible refine (batch_Take.calls kj28 t121 t123 t126 _ A61.out).mono ?_); rintro e w66 ⟨v124, rfl, ho0, hb⟩; refine ⟨_, rfl, ?_⟩; have n0_ := zA (Kd.N_lower (Kd.N_mono (ok' := fun k_ => k_ ≠ gb101 ∧ k_ ≠ gb102) (Kd.S_N (Kd.S_bound ho0)) (fun k_ hk_ => ⟨(Kd.freshB (g := gb101) (o := .cells #[.slice A0_0 l0_0.length c0_0] 75 (0, 0)) (qW BK101.out) k_ hk_.2.1), (Kd.freshB (g := gb102) (o := .cells #[.slice A1_0 l1_0.length c1_0] 75 (0, 0)) (qW BK102.out) k_ hk_.2.1)⟩)) (zW qB)); have n1_ := zA (qX BK101.out hb); have n2_ := zA (qX BK102.out hb); have n3_ := zA (zV qB hb); clear BK101 BK102 HB; have HO125 := n0_; have BK101 := n1_; have BK102 := n2_; have HB := n3_; clear n0_ n1_ n2_ n3_; (try clear hb); (try clear ho0)) | ((with_reducible refine gate_dst (N := 14) rfl ?_); (try (refine gate_guard (by rfl) ?_; dsimp only)); refine box_event qr (N := 14) qr (cs := #[.slice none 0 0]) (t := 75) qg ?_; intro gb127 hg w67 hbox hb; have n0_ := zA (Kd.N_below (Kd.N_elderB (by (with_reducible repeat (first | apply Kd.N_alloc | apply Kd.N_drewN | apply Kd.N_drew)); exact HO125.out) gb127 (Nat.le_of_eq hg.symm)) hb); have n1_ := zA (qX BK101.out hb); have n2_ := zA (qX BK102.out hb); have n3_ := zA (zV qB hb); have n4_ := zA (hbox); have n5_ := zA ((qS : w.heap.size ≤ gb127)); have n6_ := zA ((qS : w.heap.size ≤ gb127)); have n7_ := zA ((by rw [hg]; exact zLq (qL BK101.out) : gb101 ≠ gb127)); have n8_ := zA ((by rw [hg]; exact zMq (qL BK101.out) : gb127 ≠ gb101)); have n9_ := zA ((by rw [hg]; exact zLq (qL BK102.out) : gb102 ≠ gb127)); have n10_ := zA ((by rw [hg]; exact zMq (qL BK102.out) : gb127 ≠ gb102)); clear HO125 BK101 BK102 HB; have HO125 := n0_; have BK101 := n1_; have BK102 := n2_; have HB := n3_; have BK127 := n4_; have GW127 := n5_; have GE127 := n6_; have NB101_127 := n7_; have NB127_101 := n8_; have NB102_127 := n9_; have NB127_102 := n10_; clear n0_ n1_ n2_ n3_ n4_ n5_ n6_ n7_ n8_ n9_ n10_ hb hbox hg; obtain ⟨Ao68, co68, eo68⟩ := Kd.N_slice HO125.out; subst eo68; have hnb69 := NB127_101.out; have hnc69 := NB101_127.out; have hnb70 := NB127_102.out; have hnc70 := NB102_127.out; have hcz71_0 : w67.cell? ⟨gb127, 0, none⟩ = some (.slice none 0 0) := (zF BK127.out 0).trans rfl; have hfz71_0 := zG BK127.out 0))
                  have n0_ : Aside0 (Kd.N (Kd.slice 164 k164) 162 (w67.setCell ⟨gb127, 0, none⟩ (.slice Ao68 t123.length co68)) w.heap.size (fun k_ => k_ ≠ gb101 ∧ k_ ≠ gb102 ∧ k_ ≠ gb127) (.slice Ao68 t123.length co68) t123) := ⟨by (with_reducible repeat (first | apply Kd.N_alloc | apply Kd.N_drewN | apply Kd.N_drew)); exact Kd.N_mono (Kd.N_far (p := ⟨gb127, 0, none⟩) (Kd.N_mono HO125.out (fun k_ hk => (⟨hk, hk.2⟩ : _ ∧ k_ ≠ gb127))) (fun _ hk => hk.2) (.slice Ao68 t123.length co68)) (fun _ hk => ⟨hk.1.1.1, ⟨hk.1.1.2, hk.1.2⟩⟩)⟩
                  have n1_ : Aside0 ((w67.setCell ⟨gb127, 0, none⟩ (.slice Ao68 t123.length co68)).heap[gb101]? = some (.cells #[.slice A0_0 l0_0.length c0_0] 75 (0, 0))) := ⟨by (with_reducible repeat (first | refine zY ?_ _ | refine zAq ?_ | refine zZ ?_ _)); refine blk_far ?_ NB101_127.out _; exact BK101.out⟩
                  have n2_ : Aside0 ((w67.setCell ⟨gb127, 0, none⟩ (.slice Ao68 t123.length co68)).heap[gb102]? = some (.cells #[.slice A1_0 l1_0.length c1_0] 75 (0, 0))) := ⟨by (with_reducible repeat (first | refine zY ?_ _ | refine zAq ?_ | refine zZ ?_ _)); refine blk_far ?_ NB102_127.out _; exact BK102.out⟩
                  have n3_ : Aside0 ((w67.setCell ⟨gb127, 0, none⟩ (.slice Ao68 t123.length co68)).heap[gb127]? = some (.cells #[.slice Ao68 t123.length co68] 75 (0, 0))) := ⟨by (with_reducible repeat (first | refine zY ?_ _ | refine zAq ?_ | refine zZ ?_ _)); refine blk_put (cs := #[.slice none 0 0]) ?_ 0 _ rfl; exact BK127.out⟩
                  have n4_ : Aside0 (Below w.heap.size w (w67.setCell ⟨gb127, 0, none⟩ (.slice Ao68 t123.length co68))) := ⟨qB⟩
                  (try clear HO125); (try clear BK101); (try clear BK102); (try clear BK127); (try clear HB)
                  generalize (w67.setCell ⟨gb127, 0, none⟩ (.slice Ao68 t123.length co68)) = w72 at n0_ n1_ n2_ n3_ n4_ ⊢; have HO125 := n0_; have BK101 := n1_; have BK102 := n2_; have BK127 := n3_; have HB := n4_; clear n0_ n1_ n2_ n3_ n4_; have n0_ := zA (Kd.N_drew HO125.out); have n1_ := zA (zAq BK101.out); have n2_ := zA (zAq BK102.out); have n3_ := zA (zAq BK127.out); have n4_ := zA (zC HB.out); clear HO125; clear BK101; clear BK102; clear BK127; clear HB; have HO125 := n0_; have BK101 := n1_; have BK102 := n2_; have BK127 := n3_; have HB := n4_; clear n0_ n1_ n2_ n3_ n4_; refine start_ (n := 9) (S := fun w' => w'.cell? ⟨gb127, 0, none⟩ = some (.slice Ao68 t123.length co68) ∧ w'.cell? ⟨gb101, 0, none⟩ = some (.slice A0_0 l0_0.length c0_0)) (ds := []) #[o0, o0, o0, o0, o0, o0, o0, o0, o0] (by kernel_rfl) rfl rfl ⟨(zF BK127.out 0).trans rfl, (zF BK101.out 0).trans rfl⟩ (fun hHeld => ?_); refine with_tabW backhaullaw15_BatchDiff.tab11 backhaullaw15_BatchDiff.bits11 (fun HT_ HW_ => ?_); generalize w72.drew = w73 at HO125 BK101 BK102 BK127 HB hHeld ⊢; refine take_ (i := 0) (N := some 76) (v := ?_) (a' := ?_) #[o1, o0, o0, o0, o0, o0, o0, o0, o0] rfl rfl (take_ofW HT_.out HW_.out (by kernel_rfl)) (fun _ _ _ h => h) (Or.inl ⟨by rfl, ?_⟩) hHeld ?_ ?_; rotate_left
                  · rintro w' ⟨s0, s1⟩
                    go_simp; with_reducible rfl
                  rotate_left
                  · simp only [Act.put, zH, zI, zJ, i64_w, i32_w]
                    rfl
                  refine take_ (i := 1) (N := some 77) (v := ?_) (a' := ?_) #[o1, o1, o0, o0, o0, o0, o0, o0, o0] rfl rfl (take_ofW HT_.out HW_.out (by kernel_rfl)) (fun _ _ _ h => h) (Or.inl ⟨by rfl, ?_⟩) hHeld ?_ ?_; rotate_left
                  · rintro w' ⟨s0, s1⟩
                    go_simp; with_reducible rfl
                  rotate_left
                  · simp only [Act.put, zH, zI, zJ, i64_w, i32_w]
                    rfl
                  refine one_ (i := 2) (N := some 78) #[o1, o1, o1, o0, o0, o0, o0, o0, o0] rfl rfl (one_of HT_.out (by kernel_rfl)) (by decide) (fun K hK => ?_); refine goes_ Try.func44 (by kernel_rfl) rfl #[.agg #[.slice A0_0 l0_0.length c0_0]] (by rfl) rfl rfl qG ?_; with_reducible refine (backhaullaw15_of.calls kj28 _ _ l0_0 t128 t129 _ ?side1 ?side2 A62.out).mono ?_
                  (case side1 => exact qC (Kd.C_below HR0_0.out HB.out))
                  (case side2 => exact HC0_0.out)
                  rintro e w74 ⟨v130, rfl, ho0, hb⟩; refine ⟨_, rfl, ?_⟩; have n0_ := zA (Kd.N_elder' (by (with_reducible repeat (first | apply Kd.N_alloc | apply Kd.N_drewN | apply Kd.N_drew)); exact HO125.out) (Kd.R_base ho0) hb); have n1_ := zA (Kd.R_lower ho0 (zW qB)); have n2_ := zA (qX BK101.out hb); have n3_ := zA (qX BK102.out hb); have n4_ := zA (qX BK127.out hb); have n5_ := zA (zV qB hb); clear HO125; clear BK101; clear BK102; clear BK127; clear HB; have HO125 := n0_; have HO131 := n1_; have BK101 := n2_; have BK102 := n3_; have BK127 := n4_; have HB := n5_; clear n0_ n1_ n2_ n3_ n4_ n5_; (try clear hb); (try clear hb2); (try clear hk); (try clear hi); (try clear ho0); obtain ⟨Ao75, co75, eo75⟩ := Kd.R_slice HO131.out; (first | subst eo75 | (injection eo75 with f1_ f2_ f3_; have f4_ := f1_.symm; have f5_ := f3_.symm; clear f1_ f2_ f3_; subst f4_; subst f5_))
                  refine hK.out _ _ ⟨(zF BK127.out 0).trans rfl, (zF BK101.out 0).trans rfl⟩ (fun hHeld => ?_); clear hK K; refine norm_ (a' := ?_) ?_ ?_; rotate_left
                  · show Act.put _ (some 78) _ = _
                    simp only [Act.put, zH, zI, zJ, i64_w, i32_w]; rfl
                  refine one_ (i := 3) (N := some 79) #[o1, o1, o1, o1, o0, o0, o0, o0, o0] rfl rfl (one_of HT_.out (by kernel_rfl)) (by decide) (fun K hK => ?_); refine goes_ Try.func54 (by kernel_rfl) rfl #[.agg #[.slice Ao68 t123.length co68], .agg #[.int .i64 t128, .slice Ao75 t129.length co75]] (by rfl) rfl rfl qG ?_; with_reducible refine (backhaullaw15_same.calls kj28 _ _ t123 t128 _ _ t129 true _ ?side1 ?side2 ?side3 ?side4 A63.out).mono ?_
                  (case side1 => repeat (first | exact (Kd.N_reads' HO125.out).2.2 | (with_reducible refine Kd.C_alloc ?_ _) | (with_reducible refine Kd.C_drewN ?_ _) | (with_reducible refine Kd.C_drew ?_)))
                  (case side2 => exact (Kd.N_reads' HO125.out).2.1)
                  (case side3 => repeat (first | exact (Kd.R_reads' HO131.out).2.2 | (with_reducible refine Kd.C_alloc ?_ _) | (with_reducible refine Kd.C_drewN ?_ _) | (with_reducible refine Kd.C_drew ?_)))
                  (case side4 => exact (Kd.R_reads' HO131.out).2.1)
                  rintro e w76 ⟨rfl, hb⟩; refine ⟨_, rfl, ?_⟩; have n0_ := zA (Kd.N_below (by (with_reducible repeat (first | apply Kd.N_alloc | apply Kd.N_drewN | apply Kd.N_drew)); exact HO125.out) hb); have n1_ := zA (Kd.R_below (by (with_reducible repeat (first | apply Kd.R_alloc | apply Kd.R_drewN | apply Kd.R_drew)); exact HO131.out) hb); have n2_ := zA (qX BK101.out hb); have n3_ := zA (qX BK102.out hb); have n4_ := zA (qX BK127.out hb); have n5_ := zA (zV qB hb); clear HO125; clear HO131; clear BK101; clear BK102; clear BK127; clear HB; have HO125 := n0_; have HO131 := n1_; have BK101 := n2_; have BK102 := n3_; have BK127 := n4_; have HB := n5_; clear n0_ n1_ n2_ n3_ n4_ n5_; (try clear hb); (try clear hb2); (try clear hk); (try clear hi); refine hK.out _ _ ⟨(zF BK127.out 0).trans rfl, (zF BK101.out 0).trans rfl⟩ (fun hHeld => ?_); clear hK K; refine norm_ (a' := ?_) ?_ ?_; rotate_left
                  · show Act.put _ (some 79) _ = _
                    simp only [Act.put, zH, zI, zJ, i64_w, i32_w]; rfl
                  refine pure_ (i := 4) (N := some 80) #[o1, o1, o1, o1, o1, o0, o0, o0, o0] rfl rfl (any_of HT_.out (by kernel_rfl)) (fun _ _ _ h => h) (Or.inl ⟨by rfl, qy⟩) qz ?_; refine pure_ (i := 5) (N := some 81) #[o1, o1, o1, o1, o1, o1, o0, o0, o0] rfl rfl (any_of HT_.out (by kernel_rfl)) (fun _ _ _ h => h) (Or.inl ⟨by rfl, qy⟩) qz ?_; refine pure_ (i := 6) (N := some 82) #[o1, o1, o1, o1, o1, o1, o1, o0, o0] rfl rfl (any_of HT_.out (by kernel_rfl)) (fun _ _ _ h => h) (Or.inl ⟨by rfl, qy⟩) qz ?_; refine pure_ (i := 7) (N := some 83) #[o1, o1, o1, o1, o1, o1, o1, o1, o0] rfl rfl (any_of HT_.out (by kernel_rfl)) (fun _ _ _ h => h) (Or.inl ⟨by rfl, qy⟩) qz ?_; refine pure_ (i := 8) (N := some 84) #[o1, o1, o1, o1, o1, o1, o1, o1, o1] rfl rfl (any_of HT_.out (by kernel_rfl)) (fun _ _ _ h => h) (Or.inl ⟨by rfl, qy⟩) qz ?_; refine done_ (done_of HT_.out (by kernel_rfl)) ?_; try go_wp2
                  go_meet
                  case rel => exact ⟨_, H', ⟨by have := HJ3.out; have := HJ28.out; first | omega | exact Nat.le_refl _⟩, ⟨by exact BK101.out⟩, ⟨by exact BK102.out⟩, ⟨qB⟩⟩
                rw [if_neg c65] at H; have c65b0 : (t126 == 0) = false := beq_eq_false_iff_ne.mpr c65; have c65b1 : (t126 != 0) = true := bne_iff_ne.mpr c65; exact absurd H (by simp)
              replace c64 := Bool.eq_false_iff.mpr c64; subst c64; have H1 : (some false) = some true := by first | (rw [if_neg (show ¬ (false = true) by decide)] at H; exact H) | rfl
              clear H; have H := H1; clear H1; exact absurd H (by simp)
            rw [if_neg c60] at H; have c60b0 : (t122 == 0) = false := beq_eq_false_iff_ne.mpr c60; have c60b1 : (t122 != 0) = true := bne_iff_ne.mpr c60; (first | rw [c60b0] | (simp only [i64_w, i32_w]; rw [c60b0]) | skip)
            have H' := zA H; clear H; go_wp2; go_meet
            case rel => exact ⟨_, H', ⟨by have := HJ3.out; have := HJ28.out; first | omega | exact Nat.le_refl _⟩, ⟨by exact BK101.out⟩, ⟨by exact BK102.out⟩, ⟨qB⟩⟩
          case rest =>
            clear HC56; try clear c1
            try clear c2
            try clear p2
            try clear c3
            try clear c4
            try clear c5
            try clear c6
            try clear c7
            try clear c8
            try clear c10
            try clear c11
            try clear c12
            try clear c16
            try clear c21
            try clear c24
            try clear c26
            try clear c30
            try clear c34
            try clear c34b0
            try clear c34b1
            try clear c38
            try clear c39
            try clear c39b0
            try clear c39b1
            try clear c40
            try clear c40b0
            try clear c40b1
            try clear c41
            try clear c43
            try clear c44
            try clear c45
            try clear c47
            try clear c48
            try clear c54
            try clear c56
            try clear c57
            try clear c58
            try clear c60
            try clear c60b0
            try clear c60b1
            try clear c64
            try clear c65
            try clear c65b0
            try clear c65b1
            try clear c69
            try clear c70
            try clear hcz12_0
            try clear hcz14_0
            try clear hcz17_0
            try clear hcz19_0
            try clear hcz22_0
            try clear hcz31_0
            try clear hcz32_0
            try clear hcz42_0
            try clear hcz49_0
            try clear hcz58_0
            try clear hcz71_0
            try clear hfz12_0
            try clear hfz14_0
            try clear hfz17_0
            try clear hfz19_0
            try clear hfz22_0
            try clear hfz31_0
            try clear hfz32_0
            try clear hfz42_0
            try clear hfz49_0
            try clear hfz58_0
            try clear hfz71_0
            try clear p2
            obtain ⟨kq, HA, HJ55, BK101, BK102, HB⟩ := hcut; cases kq with
            | zero => exact absurd HA.out (by simp [backhaullaw15_BatchDiff.j2])
            | succ kj55 =>
              have H := HA.out; clear HA; simp only [backhaullaw15_BatchDiff.j2] at H; replace H := Option.bind_eq_some_iff.mp H; obtain ⟨⟨t133, t136⟩, A770, H⟩ := H; try dsimp only at H
              have A77 := zA A770; clear A770; by_cases c78 : t136 = 0
              · rw [if_pos c78] at H
                have c78b0 : (t136 == 0) = true := beq_iff_eq.mpr c78; have c78b1 : (t136 != 0) = false := bne_eq_false_iff_eq.mpr c78; clear c78; replace H := Option.bind_eq_some_iff.mp H; obtain ⟨⟨t138, t139⟩, A790, H⟩ := H; try dsimp only at H
                have A79 := zA A790; clear A790; by_cases c80 : t138.toList = a2.toList
                · rw [if_pos c80] at H
                  have c80b0 : (t138.toList == a2.toList) = true := beq_iff_eq.mpr c80; have c80b1 : (t138.toList != a2.toList) = false := bne_eq_false_iff_eq.mpr c80; clear c80; by_cases c81 : t139 = 0
                  · rw [if_pos c81] at H
                    have c81b0 : (t139 == 0) = true := beq_iff_eq.mpr c81; have c81b1 : (t139 != 0) = false := bne_eq_false_iff_eq.mpr c81; clear c81; replace H := Option.bind_eq_some_iff.mp H; obtain ⟨t140, A820, H⟩ := H; try dsimp only at H
                    have A82 := zA A820; clear A820; by_cases c83 : t140 = true
                    · subst c83
                      have H1 : (some true) = some true := by first | (rw [if_pos rfl] at H; exact H) | rfl
                      clear H; have H := H1; clear H1; clear H; go_wp2_with (first | ((with_reducible refine zJq (f := 58) rfl ?_); refine goesL_ (some 87) rfl rfl Try.func58 (by kernel_rfl) rfl #[.string a2] rfl qG ?_; (with_reducible refine (batch_Take.calls kj55 a2 t133 t136 _ A77.out).mono ?_); rintro e w84 ⟨v134, rfl, ho0, hb⟩; refine ⟨_, rfl, ?_⟩; have n0_ := zA (Kd.N_lower (Kd.N_mono (ok' := fun k_ => k_ ≠ gb101 ∧ k_ ≠ gb102) (Kd.S_N (Kd.S_bound ho0)) (fun k_ hk_ => ⟨(Kd.freshB (g := gb101) (o := .cells #[.slice A0_0 l0_0.length c0_0] 75 (0, 0)) (qW BK101.out) k_ hk_.2.1), (Kd.freshB (g := gb102) (o := .cells #[.slice A1_0 l1_0.length c1_0] 75 (0, 0)) (qW BK102.out) k_ hk_.2.1)⟩)) (zW qB)); have n1_ := zA (qX BK101.out hb); have n2_ := zA (qX BK102.out hb); have n3_ := zA (zV qB hb); clear BK101 BK102 HB; have HO135 := n0_; have BK101 := n1_; have BK102 := n2_; have HB := n3_; clear n0_ n1_ n2_ n3_; (try clear hb); (try clear ho0)) | ((with_reducible refine gate_dst (N := 16) rfl ?_); (try (refine gate_guard (by rfl) ?_; dsimp only)); refine box_event qr (N := 16) qr (cs := #[.slice none 0 0]) (t := 75) qg ?_; intro gb137 hg w85 hbox hb; have n0_ := zA (Kd.N_below (Kd.N_elderB (by (with_reducible repeat (first | apply Kd.N_alloc | apply Kd.N_drewN | apply Kd.N_drew)); exact HO135.out) gb137 (Nat.le_of_eq hg.symm)) hb); have n1_ := zA (qX BK101.out hb); have n2_ := zA (qX BK102.out hb); have n3_ := zA (zV qB hb); have n4_ := zA (hbox); have n5_ := zA ((qS : w.heap.size ≤ gb137)); have n6_ := zA ((qS : w.heap.size ≤ gb137)); have n7_ := zA ((by rw [hg]; exact zLq (qL BK101.out) : gb101 ≠ gb137)); have n8_ := zA ((by rw [hg]; exact zMq (qL BK101.out) : gb137 ≠ gb101)); have n9_ := zA ((by rw [hg]; exact zLq (qL BK102.out) : gb102 ≠ gb137)); have n10_ := zA ((by rw [hg]; exact zMq (qL BK102.out) : gb137 ≠ gb102)); clear HO135 BK101 BK102 HB; have HO135 := n0_; have BK101 := n1_; have BK102 := n2_; have HB := n3_; have BK137 := n4_; have GW137 := n5_; have GE137 := n6_; have NB101_137 := n7_; have NB137_101 := n8_; have NB102_137 := n9_; have NB137_102 := n10_; clear n0_ n1_ n2_ n3_ n4_ n5_ n6_ n7_ n8_ n9_ n10_ hb hbox hg; obtain ⟨Ao86, co86, eo86⟩ := Kd.N_slice HO135.out; subst eo86; have hnb87 := NB137_101.out; have hnc87 := NB101_137.out; have hnb88 := NB137_102.out; have hnc88 := NB102_137.out; have hcz89_0 : w85.cell? ⟨gb137, 0, none⟩ = some (.slice none 0 0) := (zF BK137.out 0).trans rfl; have hfz89_0 := zG BK137.out 0) | ((with_reducible refine zJq (f := 56) rfl ?_); refine goesL_ (some 101) rfl rfl Try.func56 (by kernel_rfl) rfl #[.agg #[.slice Ao86 t133.length co86]] rfl qG ?_; (with_reducible refine (batch_Put.calls kj55 _ _ t133 t138 t139 _ ?side1 ?side2 A79.out).mono ?_); (case side1 => refine (Kd.N_reads' (e := 162) (base := w.heap.size) (ok := fun k_ => ((k_ ≠ gb101 ∧ k_ ≠ gb102) ∧ k_ ≠ gb137)) (n := t133.length) (c := co86) ?_).2.2; exact (by (with_reducible repeat (first | apply Kd.N_alloc | apply Kd.N_drewN | apply Kd.N_drew)); exact (Kd.N_mono (Kd.N_far (p := ⟨gb137, 0, none⟩) (Kd.N_mono HO135.out (fun k_ hk => (⟨hk, hk.2⟩ : _ ∧ k_ ≠ gb137))) (fun _ hk => hk.2) (.slice Ao86 t133.length co86)) (fun _ h_ => by first | exact h_.1 | (have h2_ := h_.1; simp only [and_assoc, and_left_comm, and_comm] at h2_ ⊢; exact h2_))))); (case side2 => exact (Kd.N_reads' HO135.out).2.1); rintro e w90 ⟨rfl, hb⟩; refine ⟨_, rfl, ?_⟩; have n0_ := zA (Kd.N_below (by (with_reducible repeat (first | apply Kd.N_alloc | apply Kd.N_drewN | apply Kd.N_drew)); exact (Kd.N_mono (Kd.N_far (p := ⟨gb137, 0, none⟩) (Kd.N_mono HO135.out (fun k_ hk => (⟨hk, hk.2⟩ : _ ∧ k_ ≠ gb137))) (fun _ hk => hk.2) (.slice Ao86 t133.length co86)) (fun _ h_ => h_.1))) hb); have n1_ := zA (qX BK101.out hb); have n2_ := zA (qX BK102.out hb); have n3_ := zA (zX (g := gb137) (o := .cells #[.slice Ao86 t133.length co86] 75 (0, 0)) (by (with_reducible repeat (first | refine zY ?_ _ | refine zAq ?_ | refine zZ ?_ _)); refine blk_put (cs := #[.slice none 0 0]) ?_ 0 _ rfl; exact BK137.out) hb); have n4_ := zA (zV qB hb); clear HO135 BK101 BK102 BK137 HB; have HO135 := n0_; have BK101 := n1_; have BK102 := n2_; have BK137 := n3_; have HB := n4_; clear n0_ n1_ n2_ n3_ n4_; (try clear hb)) | (go_at_call 43; (with_reducible refine (backhaullaw15_awake.calls  true _ A82.out).mono ?_); rintro e w91 ⟨rfl, hb⟩; have n0_ := zA (Kd.N_below (by (with_reducible repeat (first | apply Kd.N_alloc | apply Kd.N_drewN | apply Kd.N_drew)); exact HO135.out) hb); have n1_ := zA (qX BK101.out hb); have n2_ := zA (qX BK102.out hb); have n3_ := zA (qX BK137.out hb); have n4_ := zA (zV qB hb); clear HO135 BK101 BK102 BK137 HB; have HO135 := n0_; have BK101 := n1_; have BK102 := n2_; have BK137 := n3_; have HB := n4_; clear n0_ n1_ n2_ n3_ n4_; (try clear hb)))
                      go_ret; exact ⟨qE, qB⟩
                    replace c83 := Bool.eq_false_iff.mpr c83; subst c83; have H1 : (some false) = some true := by first | (rw [if_neg (show ¬ (false = true) by decide)] at H; exact H) | rfl
                    clear H; have H := H1; clear H1; exact absurd H (by simp)
                  rw [if_neg c81] at H; have c81b0 : (t139 == 0) = false := beq_eq_false_iff_ne.mpr c81; have c81b1 : (t139 != 0) = true := bne_iff_ne.mpr c81; exact absurd H (by simp)
                rw [if_neg c80] at H; have c80b0 : (t138.toList == a2.toList) = false := beq_eq_false_iff_ne.mpr c80; have c80b1 : (t138.toList != a2.toList) = true := bne_iff_ne.mpr c80; exact absurd H (by simp)
              rw [if_neg c78] at H; have c78b0 : (t136 == 0) = false := beq_eq_false_iff_ne.mpr c78; have c78b1 : (t136 != 0) = true := bne_iff_ne.mpr c78; by_cases c92 : (t133.length : Int) = 0
              · rw [if_pos c92] at H
                have c92b0 : ((t133.length : Int) == 0) = true := beq_iff_eq.mpr c92; have c92b1 : ((t133.length : Int) != 0) = false := bne_eq_false_iff_eq.mpr c92; clear c92; replace H := Option.bind_eq_some_iff.mp H; obtain ⟨t141, A930, H⟩ := H; try dsimp only at H
                have A93 := zA A930; clear A930; by_cases c94 : t141 = true
                · subst c94
                  have H1 : (some true) = some true := by first | (rw [if_pos rfl] at H; exact H) | rfl
                  clear H; have H := H1; clear H1; clear H; go_wp2_with (first | ((with_reducible refine zJq (f := 58) rfl ?_); refine goesL_ (some 87) rfl rfl Try.func58 (by kernel_rfl) rfl #[.string a2] rfl qG ?_; (with_reducible refine (batch_Take.calls kj55 a2 t133 t136 _ A77.out).mono ?_); rintro e w95 ⟨v134, rfl, ho0, hb⟩; refine ⟨_, rfl, ?_⟩; have n0_ := zA (Kd.N_lower (Kd.N_mono (ok' := fun k_ => k_ ≠ gb101 ∧ k_ ≠ gb102) (Kd.S_N (Kd.S_bound ho0)) (fun k_ hk_ => ⟨(Kd.freshB (g := gb101) (o := .cells #[.slice A0_0 l0_0.length c0_0] 75 (0, 0)) (qW BK101.out) k_ hk_.2.1), (Kd.freshB (g := gb102) (o := .cells #[.slice A1_0 l1_0.length c1_0] 75 (0, 0)) (qW BK102.out) k_ hk_.2.1)⟩)) (zW qB)); have n1_ := zA (qX BK101.out hb); have n2_ := zA (qX BK102.out hb); have n3_ := zA (zV qB hb); clear BK101 BK102 HB; have HO135 := n0_; have BK101 := n1_; have BK102 := n2_; have HB := n3_; clear n0_ n1_ n2_ n3_; (try clear hb); (try clear ho0)) | ((with_reducible refine gate_dst (N := 16) rfl ?_); (try (refine gate_guard (by rfl) ?_; dsimp only)); refine box_event qr (N := 16) qr (cs := #[.slice none 0 0]) (t := 75) qg ?_; intro gb137 hg w96 hbox hb; have n0_ := zA (Kd.N_below (Kd.N_elderB (by (with_reducible repeat (first | apply Kd.N_alloc | apply Kd.N_drewN | apply Kd.N_drew)); exact HO135.out) gb137 (Nat.le_of_eq hg.symm)) hb); have n1_ := zA (qX BK101.out hb); have n2_ := zA (qX BK102.out hb); have n3_ := zA (zV qB hb); have n4_ := zA (hbox); have n5_ := zA ((qS : w.heap.size ≤ gb137)); have n6_ := zA ((qS : w.heap.size ≤ gb137)); have n7_ := zA ((by rw [hg]; exact zLq (qL BK101.out) : gb101 ≠ gb137)); have n8_ := zA ((by rw [hg]; exact zMq (qL BK101.out) : gb137 ≠ gb101)); have n9_ := zA ((by rw [hg]; exact zLq (qL BK102.out) : gb102 ≠ gb137)); have n10_ := zA ((by rw [hg]; exact zMq (qL BK102.out) : gb137 ≠ gb102)); clear HO135 BK101 BK102 HB; have HO135 := n0_; have BK101 := n1_; have BK102 := n2_; have HB := n3_; have BK137 := n4_; have GW137 := n5_; have GE137 := n6_; have NB101_137 := n7_; have NB137_101 := n8_; have NB102_137 := n9_; have NB137_102 := n10_; clear n0_ n1_ n2_ n3_ n4_ n5_ n6_ n7_ n8_ n9_ n10_ hb hbox hg; obtain ⟨Ao97, co97, eo97⟩ := Kd.N_slice HO135.out; subst eo97; have hnb98 := NB137_101.out; have hnc98 := NB101_137.out; have hnb99 := NB137_102.out; have hnc99 := NB102_137.out; have hcz100_0 : w96.cell? ⟨gb137, 0, none⟩ = some (.slice none 0 0) := (zF BK137.out 0).trans rfl; have hfz100_0 := zG BK137.out 0) | (go_at_call 43; (with_reducible refine (backhaullaw15_awake.calls  true _ A93.out).mono ?_); rintro e w101 ⟨rfl, hb⟩; have n0_ := zA (Kd.N_below (by (with_reducible repeat (first | apply Kd.N_alloc | apply Kd.N_drewN | apply Kd.N_drew)); exact (Kd.N_mono (Kd.N_far (p := ⟨gb137, 0, none⟩) (Kd.N_mono HO135.out (fun k_ hk => (⟨hk, hk.2⟩ : _ ∧ k_ ≠ gb137))) (fun _ hk => hk.2) (.slice Ao97 t133.length co97)) (fun _ h_ => h_.1))) hb); have n1_ := zA (qX BK101.out hb); have n2_ := zA (qX BK102.out hb); have n3_ := zA (zX (g := gb137) (o := .cells #[.slice Ao97 t133.length co97] 75 (0, 0)) (by (with_reducible repeat (first | refine zY ?_ _ | refine zAq ?_ | refine zZ ?_ _)); refine blk_put (cs := #[.slice none 0 0]) ?_ 0 _ rfl; exact BK137.out) hb); have n4_ := zA (zV qB hb); clear HO135 BK101 BK102 BK137 HB; have HO135 := n0_; have BK101 := n1_; have BK102 := n2_; have BK137 := n3_; have HB := n4_; clear n0_ n1_ n2_ n3_ n4_; (try clear hb)))
                  go_ret; exact ⟨qE, qB⟩
                replace c94 := Bool.eq_false_iff.mpr c94; subst c94; have H1 : (some false) = some true := by first | (rw [if_neg (show ¬ (false = true) by decide)] at H; exact H) | rfl
                clear H; have H := H1; clear H1; exact absurd H (by simp)
              rw [if_neg c92] at H; have c92b0 : ((t133.length : Int) == 0) = false := beq_eq_false_iff_ne.mpr c92; have c92b1 : ((t133.length : Int) != 0) = true := bne_iff_ne.mpr c92; have c92b2 : ¬ (t133 = []) := fun h_ => c92 (by rw [h_]; rfl)
              exact absurd H (by simp)
def backhaullaw15_BatchDiff.Pure : Prop := ∀ (l0_0 : List (List (S164))) (l1_0 : List (List (S164))) (a2 : ByteArray), (l0_0.length ≤ maxLen ∧ ∀ x ∈ l0_0, (x.length ≤ maxLen ∧ ∀ y ∈ x, ((Lit.int .i64 y.f0).wf = true ∧ y.f1.size ≤ maxLen))) → (l1_0.length ≤ maxLen ∧ ∀ x ∈ l1_0, (x.length ≤ maxLen ∧ ∀ y ∈ x, ((Lit.int .i64 y.f0).wf = true ∧ y.f1.size ≤ maxLen))) → a2.size ≤ maxLen → ∃ k, backhaullaw15_BatchDiff.f k l0_0 l1_0 a2 = some true
end Go.Proofs.Ytdpcgigjlcpofaa.F
set_option linter.unusedVariables false
namespace Go.Proofs.Ytdpcgigjlcpofaa.Q
open Go.RowKit Go.Proofs.YtdpcgigjlcpofaaW.PrintWords Go.Proofs.YtdpcgigjlcpofaaW.PrintLast Go.Proofs.YtdpcgigjlcpofaaW.PrintMore
theorem Ev.ite {α : Type} {c : Prop} [Decidable c] {a b : Nat → Option α} {r : α} (h1 : c → Ev a r) (h2 : ¬ c → Ev b r) : Ev (fun k => if c then a k else b k) r := by
  by_cases h : c
  · simp only [if_pos h]; exact h1 h
  simp only [if_neg h]; exact h2 h
theorem Ev.pos {α : Type} {c : Prop} [Decidable c] {a b : Nat → Option α} {r : α} (h : c) (h1 : Ev a r) : Ev (fun k => if c then a k else b k) r := by
  simp only [if_pos h]; exact h1
theorem Ev.neg {α : Type} {c : Prop} [Decidable c] {a b : Nat → Option α} {r : α} (h : ¬ c) (h1 : Ev b r) : Ev (fun k => if c then a k else b k) r := by
  simp only [if_neg h]; exact h1
theorem Ev.ok {α : Type} {a b : α} (h : a = b) : Ev (fun _ => some a) b := ⟨0, fun _ _ => by rw [h]⟩
theorem Ev.const {α : Type} {o : Option α} {r : α} (h : o = some r) : Ev (fun _ => o) r := ⟨0, fun _ _ => h⟩
theorem Ev.bindc {α β : Type} {o : Option α} {f : Nat → α → Option β} {a : α} {r : β} (h : o = some a) (k : Ev (fun n => f n a) r) : Ev (fun n => o.bind (f n)) r := by
  subst h
  exact k
theorem Ev.eq {α : Type} {g : Nat → Option α} {a b : α} (h : Ev g a) (e : a = b) : Ev g b := e ▸ h
theorem wrap_eq {x : Int} (h0 : -9223372036854775808 ≤ x) (h1 : x ≤ 9223372036854775807) : wrap64 x = x := by
  unfold wrap64; omega
theorem u64_eq {x : Int} (h0 : 0 ≤ x) (h1 : x < 18446744073709551616) : IntKind.u64.wrap x = x := by
  simp [IntKind.wrap, IntKind.signed, IntKind.bits]; omega
theorem countP_split {α : Type} {p : α → Bool} {l : List α} {n : Nat} (hn : n ≤ l.length) (h1 : ∀ j (h : j < l.length), j < n → p l[j] = true) (h2 : ∀ j (h : j < l.length), n ≤ j → p l[j] = false) : l.countP p = n := by
  have e : l = l.take n ++ l.drop n := (List.take_append_drop n l).symm
  have a : (l.take n).countP p = (l.take n).length := by
    rw [List.countP_eq_length]
    intro x hx
    obtain ⟨j, hj, rfl⟩ := List.mem_iff_getElem.1 hx
    rw [List.length_take] at hj
    rw [List.getElem_take]
    exact h1 j (by omega) (by omega)
  have b : (l.drop n).countP p = 0 := by
    rw [List.countP_eq_zero]
    intro x hx
    obtain ⟨j, hj, rfl⟩ := List.mem_iff_getElem.1 hx
    rw [List.length_drop] at hj
    rw [List.getElem_drop, h2 (n + j) (by omega) (by omega)]
    simp
  rw [e, List.countP_append, a, b, List.length_take]
  omega
theorem idxOf_first {α : Type} [BEq α] [LawfulBEq α] {l : List α} {t : α} {i : Nat} (h : i < l.length) (he : l[i] = t) (h1 : ∀ j (h : j < l.length), j < i → l[j] ≠ t) : l.idxOf t = i := by
  unfold List.idxOf
  rw [List.findIdx_eq h]
  exact ⟨by simp [he], fun j hj => by simpa using h1 j (by omega) hj⟩
theorem rd_nat {l : List Int} {i : Nat} (h : i < l.length) : rd l (i : Int) = l[i] := by
  unfold rd; simp [List.getD_eq_getElem?_getD, h]
theorem drop_cons {α : Type} {l : List α} {i : Nat} (h : i < l.length) : l.drop i = l[i] :: l.drop (i + 1) := List.drop_eq_getElem_cons h
theorem bytes_ext {a b : ByteArray} : a.toList = b.toList ↔ a = b := by
  constructor
  · intro h
    rw [ByteArray.toList_eq, ByteArray.toList_eq] at h
    cases a; cases b
    simpa [Array.toList_inj] using h
  rintro rfl; rfl
end Go.Proofs.Ytdpcgigjlcpofaa.Q
set_option linter.unusedVariables false
namespace Go.Proofs.Ytdpcgigjlcpofaa.Q
open Go.RowKit Go.Proofs.Ytdpcgigjlcpofaa.F Go.Proofs.YtdpcgigjlcpofaaW.PrintWords Go.Proofs.YtdpcgigjlcpofaaW.PrintLast Go.Proofs.YtdpcgigjlcpofaaW.PrintMore
def rising (last : Int) : List Int → Int
  | [] => 0
  | x :: xs => if x < 1 ∨ x > 999999 then 31 else if x ≤ last then 32 else rising x xs
theorem rows_Rising_l0 {l : List Int} (hl : l.length < 9223372036854775807) (d : Nat) : ∀ (i : Nat) (last : Int), l.length - i = d → i ≤ l.length →
    Ev (fun k => rows_Rising.l0 k last l (l.length : Int) (i : Int)) (rising last (l.drop i)) := by
  induction d with
  | zero =>
    intro i last hd hi
    refine Ev.step (fun k => by simp only [rows_Rising.l0]; rfl) ?_
    refine Ev.neg (by omega) (Ev.ok ?_)
    rw [List.drop_eq_nil_of_le (by omega)]; rfl
  | succ d ih =>
    intro i last hd hi
    have h : i < l.length := by omega
    refine Ev.step (fun k => by simp only [rows_Rising.l0]; rfl) ?_
    refine Ev.pos (by omega) (Ev.pos (by omega) (Ev.pos (by omega) ?_))
    rw [drop_cons h, rd_nat h]
    have hj : ∀ b : Bool, (b = true ↔ (l[i] < 1 ∨ l[i] > 999999)) → Ev (fun k => rows_Rising.j1 k last l[i] l (l.length : Int) (i : Int) b) (rising last (l[i] :: l.drop (i + 1))) := by
      intro b hb
      refine Ev.step (fun k => by simp only [rows_Rising.j1]; rfl) ?_
      simp only [rising]
      refine Ev.ite (fun h1 => ?_) (fun h1 => ?_)
      · rw [if_pos (hb.1 h1)]; exact Ev.ok rfl
      rw [if_neg (fun h2 => h1 (hb.2 h2))]
      refine Ev.ite (fun h2 => ?_) (fun h2 => ?_)
      · rw [if_pos h2]; exact Ev.ok rfl
      rw [if_neg h2, wrap_eq (by omega) (by omega)]
      exact ih (i + 1) l[i] (by omega) (by omega)
    refine Ev.ite (fun h1 => hj true (by simp [h1])) (fun h1 => hj _ (by simp; omega))
theorem rows_Rising_f {l : List Int} (hl : l.length < 9223372036854775807) : Ev (fun k => rows_Rising.f k l) (rising 0 l) := by
  unfold rows_Rising.f
  exact rows_Rising_l0 hl l.length 0 0 (by omega) (by omega)
def find (l : List Int) (id : Int) : Int × Bool := if id ∈ l then ((l.idxOf id : Int), true) else (if rising 0 l = 0 then (l.countP (fun x => decide (x < id)) : Int) else l.length, false)
theorem rising_zero {last : Int} {l : List Int} (h : rising last l = 0) : (∀ x ∈ l, last < x ∧ 1 ≤ x ∧ x ≤ 999999) ∧ l.Pairwise (· < ·) := by
  induction l generalizing last with
  | nil => simp
  | cons x xs ih =>
    simp only [rising] at h
    split at h
    · cases h
    split at h
    · cases h
    obtain ⟨a, b⟩ := ih h
    refine ⟨fun y hy => ?_, List.pairwise_cons.2 ⟨fun y hy => (a y hy).1, b⟩⟩
    rcases List.mem_cons.1 hy with rfl | hy
    · omega
    have := a y hy; omega
theorem rising_of {last : Int} {l : List Int} (h1 : ∀ x ∈ l, last < x ∧ 1 ≤ x ∧ x ≤ 999999) (h2 : l.Pairwise (· < ·)) : rising last l = 0 := by
  induction l generalizing last with
  | nil => rfl
  | cons x xs ih =>
    have hx := h1 x List.mem_cons_self
    obtain ⟨a, b⟩ := List.pairwise_cons.1 h2
    simp only [rising]
    rw [if_neg (by omega), if_neg (by omega)]
    exact ih (fun y hy => ⟨a y hy, (h1 y (List.mem_cons_of_mem _ hy)).2⟩) b
theorem sorted_get {l : List Int} (h : l.Pairwise (· < ·)) {i j : Nat} (hj : j < l.length) (hij : i < j) : l[i]'(by omega) < l[j] := List.pairwise_iff_getElem.1 h i j _ hj hij
theorem bs_l0 {l : List Int} {t : Int} (hl : l.length < 4611686018427387904) (hs : l.Pairwise (· < ·)) (d : Nat) : ∀ (lo hi : Nat), hi - lo = d → lo ≤ hi → hi ≤ l.length →
    (∀ j (h : j < l.length), j < lo → l[j] < t) → (∀ j (h : j < l.length), hi ≤ j → ¬ l[j] < t) →
    Ev (fun k => slices_BinarySearch_int_int.l0 k l t (l.length : Int) (lo : Int) (hi : Int)) ((l.countP (fun x => decide (x < t)) : Int), decide (t ∈ l)) := by
  induction d using Nat.strongRecOn with
  | _ d ih =>
    intro lo hi hd hlo hhi h1 h2
    refine Ev.step (fun k => by simp only [slices_BinarySearch_int_int.l0]; rfl) ?_
    by_cases hlt : lo < hi
    · have hw : wrap64 ((IntKind.u64.wrap (wrap64 ((lo : Int) + (hi : Int)))) / 2) = (((lo + hi) / 2 : Nat) : Int) := by
        rw [wrap_eq (x := (lo : Int) + (hi : Int)) (by omega) (by omega), u64_eq (x := (lo : Int) + (hi : Int)) (by omega) (by omega), wrap_eq (x := ((lo : Int) + (hi : Int)) / 2) (by omega) (by omega)]; omega
      have hm : (lo + hi) / 2 < l.length := by omega
      rw [hw]
      refine Ev.pos (by omega) (Ev.pos (by omega) (Ev.pos (by omega) ?_))
      rw [rd_nat hm]
      refine Ev.bindc (a := decide (l[(lo + hi) / 2] < t)) (by simp [cmp_Less_int.f, cmp_isNaN_int.f]) ?_
      refine Ev.ite (fun hc => ?_) (fun hc => ?_)
      · have hc' : l[(lo + hi) / 2] < t := by simpa using hc
        rw [wrap_eq (by omega) (by omega)]
        refine ih (hi - ((lo + hi) / 2 + 1)) (by omega) ((lo + hi) / 2 + 1) hi rfl (by omega) hhi (fun j hj hjl => ?_) h2
        rcases Nat.lt_or_ge j ((lo + hi) / 2) with hlt2 | hge
        · have := sorted_get hs hm hlt2; omega
        have : j = (lo + hi) / 2 := by omega
        subst this; exact hc'
      have hc' : ¬ l[(lo + hi) / 2] < t := by simpa using hc
      refine ih ((lo + hi) / 2 - lo) (by omega) lo ((lo + hi) / 2) rfl (by omega) (by omega) h1 (fun j hj hjl => ?_)
      rcases Nat.lt_or_ge ((lo + hi) / 2) j with hlt2 | hge
      · have := sorted_get hs hj hlt2; omega
      have : j = (lo + hi) / 2 := by omega
      subst this; exact hc'
    have he : lo = hi := by omega
    subst he
    have hcount : l.countP (fun x => decide (x < t)) = lo := countP_split hhi (fun j hj hjl => by simpa using h1 j hj hjl) (fun j hj hjl => by simpa using h2 j hj hjl)
    rw [hcount]
    refine Ev.neg (by omega) ?_
    refine Ev.ite (fun hc => ?_) (fun hc => ?_)
    · have hlo' : lo < l.length := by omega
      refine Ev.pos (by omega) (Ev.pos (by omega) ?_)
      rw [rd_nat hlo']
      refine Ev.ite (fun he => ?_) (fun he => ?_)
      · refine Ev.ok ?_
        have : t ∈ l := he ▸ List.getElem_mem hlo'
        simp [this]
      refine Ev.bindc (a := false) (by simp [slices_isNaN_int.f]) ?_
      refine Ev.neg (by simp) (Ev.ok ?_)
      have : ¬ t ∈ l := by
        intro hmem
        obtain ⟨j, hj, hjt⟩ := List.mem_iff_getElem.1 hmem
        rcases Nat.lt_trichotomy j lo with h | h | h
        · have := h1 j hj h; omega
        · subst h; exact he hjt
        have := sorted_get hs hj h; have := h2 lo hlo' (Nat.le_refl _); omega
      simp [this]
    refine Ev.ok ?_
    have : ¬ t ∈ l := by
      intro hmem
      obtain ⟨j, hj, hjt⟩ := List.mem_iff_getElem.1 hmem
      have := h1 j hj (by omega); omega
    simp [this]
theorem bs_f {l : List Int} {t : Int} (hl : l.length < 4611686018427387904) (hs : l.Pairwise (· < ·)) :
    Ev (fun k => slices_BinarySearch_int_int.f k l t) ((l.countP (fun x => decide (x < t)) : Int), decide (t ∈ l)) := by
  unfold slices_BinarySearch_int_int.f
  exact bs_l0 hl hs l.length 0 l.length (by omega) (by omega) (by omega) (fun j hj h => by omega) (fun j hj h => by omega)
theorem index_l0 {l : List Int} {t : Int} (hl : l.length < 9223372036854775807) (d : Nat) : ∀ (i : Nat), l.length - i = d → i ≤ l.length → (∀ j (h : j < l.length), j < i → l[j] ≠ t) →
    Ev (fun k => slices_Index_int_int.l0 k l t (l.length : Int) (i : Int)) (if t ∈ l then (l.idxOf t : Int) else -1) := by
  induction d with
  | zero =>
    intro i hd hi h1
    refine Ev.step (fun k => by simp only [slices_Index_int_int.l0]; rfl) ?_
    refine Ev.neg (by omega) (Ev.ok ?_)
    have : ¬ t ∈ l := by
      intro hmem
      obtain ⟨j, hj, hjt⟩ := List.mem_iff_getElem.1 hmem
      exact h1 j hj (by omega) hjt
    rw [if_neg this]
  | succ d ih =>
    intro i hd hi h1
    have h : i < l.length := by omega
    refine Ev.step (fun k => by simp only [slices_Index_int_int.l0]; rfl) ?_
    refine Ev.pos (by omega) (Ev.pos (by omega) (Ev.pos (by omega) ?_))
    rw [rd_nat h]
    refine Ev.ite (fun he => Ev.ok ?_) (fun he => ?_)
    · rw [if_pos (he ▸ List.getElem_mem h)]
      rw [idxOf_first h he.symm h1]
    rw [wrap_eq (by omega) (by omega)]
    exact ih (i + 1) (by omega) (by omega) (fun j hj hjl => by
      rcases Nat.lt_or_ge j i with h2 | h2
      · exact h1 j hj h2
      have : j = i := by omega
      subst this; exact fun e => he e.symm)
theorem index_f {l : List Int} {t : Int} (hl : l.length < 9223372036854775807) : Ev (fun k => slices_Index_int_int.f k l t) (if t ∈ l then (l.idxOf t : Int) else -1) := by
  unfold slices_Index_int_int.f
  exact index_l0 hl l.length 0 (by omega) (by omega) (fun j hj h => by omega)
theorem idxOf_sorted {l : List Int} {t : Int} (hs : l.Pairwise (· < ·)) (hm : t ∈ l) : l.idxOf t = l.countP (fun x => decide (x < t)) := by
  obtain ⟨i, hi, he⟩ := List.mem_iff_getElem.1 hm
  have h1 : ∀ j (h : j < l.length), j < i → l[j] < t := fun j hj h => he ▸ sorted_get hs hi h
  rw [idxOf_first hi he (fun j hj h => by have := h1 j hj h; omega)]
  refine (countP_split (by omega) (fun j hj h => by simpa using h1 j hj h) (fun j hj h => ?_)).symm
  have : t ≤ l[j] := by
    rcases Nat.lt_or_ge i j with h2 | h2
    · have := sorted_get hs hj h2; omega
    have : j = i := by omega
    subst this; omega
  simpa using this
theorem rows_Find_f {l : List Int} {id : Int} (hl : l.length < 4611686018427387904) : Ev (fun k => rows_Find.f k l id) (find l id) := by
  unfold rows_Find.f find
  refine Ev.bind (rows_Rising_f (by omega)) (Ev.ite (fun h => ?_) (fun h => ?_))
  · have hs := (rising_zero h).2
    refine Ev.bind (bs_f (by omega) hs) (Ev.ok ?_)
    by_cases hm : id ∈ l
    · simp [hm, idxOf_sorted hs hm]
    simp [hm, h]
  refine Ev.bind (index_f (by omega)) ?_
  by_cases hm : id ∈ l
  · rw [if_pos hm, if_pos hm]
    refine Ev.pos (by omega) (Ev.ok rfl)
  rw [if_neg hm, if_neg hm, if_neg h]
  exact Ev.neg (by omega) (Ev.ok rfl)
end Go.Proofs.Ytdpcgigjlcpofaa.Q
set_option linter.unusedVariables false
set_option linter.unusedSimpArgs false
namespace Go.Proofs.Ytdpcgigjlcpofaa.Q
open Go.RowKit Go.Proofs.Ytdpcgigjlcpofaa.F Go.Proofs.YtdpcgigjlcpofaaX Go.Proofs.YtdpcgigjlcpofaaW.PrintWords Go.Proofs.YtdpcgigjlcpofaaW.PrintLast Go.Proofs.YtdpcgigjlcpofaaW.PrintMore
abbrev RwT := S164
abbrev CeT := S169
theorem rw_ext {p q : RwT} (h0 : p.f0 = q.f0) (h1 : p.f1 = q.f1) : p = q := by
  cases p; cases q
  simp only at h0 h1
  rw [h0, h1]
theorem ce_ext {p q : CeT} (h0 : p.f0 = q.f0) (h1 : p.f1 = q.f1) (h2 : p.f2 = q.f2) : p = q := by
  cases p; cases q
  simp only at h0 h1 h2
  rw [h0, h1, h2]
theorem ext_of {α : Type} {lt : α → α → Prop} (irr : ∀ p, ¬ lt p p) (tr : ∀ p q r, lt p q → lt q r → lt p r) : ∀ (l m : List α), l.Pairwise lt → m.Pairwise lt → (∀ p, p ∈ l ↔ p ∈ m) → l = m
  | [], [], _, _, _ => rfl
  | [], b :: m, _, _, h => by have := (h b).2 List.mem_cons_self; simp at this
  | a :: l, [], _, _, h => by have := (h a).1 List.mem_cons_self; simp at this
  | a :: l, b :: m, hl, hm, h => by
    obtain ⟨l1, l2⟩ := List.pairwise_cons.1 hl
    obtain ⟨m1, m2⟩ := List.pairwise_cons.1 hm
    have e : a = b := by
      rcases List.mem_cons.1 ((h a).1 List.mem_cons_self) with e | e
      · exact e
      rcases List.mem_cons.1 ((h b).2 List.mem_cons_self) with g | g
      · exact g.symm
      exact (irr a (tr _ _ _ (l1 b g) (m1 a e))).elim
    subst e
    rw [ext_of irr tr l m l2 m2 fun p => ⟨fun hp => ?_, fun hp => ?_⟩]
    · rcases List.mem_cons.1 ((h p).1 (List.mem_cons_of_mem _ hp)) with e | e
      · exact (irr a (e ▸ l1 p hp)).elim
      exact e
    rcases List.mem_cons.1 ((h p).2 (List.mem_cons_of_mem _ hp)) with e | e
    · exact (irr a (e ▸ m1 p hp)).elim
    exact e
def idsT (l : List RwT) : List Int := l.map fun r => r.f0
def ltR (p q : RwT) : Prop := p.f0 < q.f0
def sortT (l : List RwT) : Prop := l.Pairwise ltR
theorem rows_ext {l m : List RwT} (hl : sortT l) (hm : sortT m) (h : ∀ p, p ∈ l ↔ p ∈ m) : l = m :=
  ext_of (lt := ltR) (fun p => Int.lt_irrefl _) (fun _ _ _ => Int.lt_trans) l m hl hm h
theorem mem_ids {l : List RwT} {id : Int} : id ∈ idsT l ↔ ∃ r ∈ l, r.f0 = id := by unfold idsT; rw [List.mem_map]
theorem sort_one {l : List RwT} (h : sortT l) {p q : RwT} (hp : p ∈ l) (hq : q ∈ l) (e : p.f0 = q.f0) : p = q := by
  obtain ⟨i, hi, rfl⟩ := List.mem_iff_getElem.1 hp
  obtain ⟨j, hj, rfl⟩ := List.mem_iff_getElem.1 hq
  rcases Nat.lt_trichotomy i j with g | g | g
  · have : l[i].f0 < l[j].f0 := List.pairwise_iff_getElem.1 h i j hi hj g
    omega
  · subst g; rfl
  have : l[j].f0 < l[i].f0 := List.pairwise_iff_getElem.1 h j i hj hi g
  omega
def posT (l : List RwT) (id : Int) : Nat := (idsT l).countP fun x => decide (x < id)
theorem sort_ids {l : List RwT} : sortT l ↔ (idsT l).Pairwise (· < ·) := by
  unfold sortT idsT
  rw [List.pairwise_map]
  exact Iff.rfl
theorem pos_of {A B : List RwT} {id : Int} (hA : ∀ r ∈ A, r.f0 < id) (hB : ∀ r ∈ B, id ≤ r.f0) : posT (A ++ B) id = A.length := by
  unfold posT idsT
  rw [List.map_append, List.countP_append]
  have a : (A.map fun r : RwT => r.f0).countP (fun x => decide (x < id)) = A.length := by
    have := List.countP_eq_length (p := fun x => decide (x < id)) (l := A.map fun r : RwT => r.f0)
    rw [this.2 (fun x hx => ?_), List.length_map]
    obtain ⟨r, hr, rfl⟩ := List.mem_map.1 hx
    exact decide_eq_true (hA r hr)
  have b : (B.map fun r : RwT => r.f0).countP (fun x => decide (x < id)) = 0 := by
    rw [List.countP_eq_zero]
    intro x hx
    obtain ⟨r, hr, rfl⟩ := List.mem_map.1 hx
    have := hB r hr
    simp
    omega
  rw [a, b]
  omega
theorem split_T : ∀ {l : List RwT} (h : sortT l) (id : Int), ∃ A B, l = A ++ B ∧ (∀ r ∈ A, r.f0 < id) ∧ ∀ r ∈ B, id ≤ r.f0
  | [], _, _ => ⟨[], [], rfl, by simp, by simp⟩
  | p :: l, h, id => by
    obtain ⟨h1, h2⟩ := List.pairwise_cons.1 h
    by_cases c : p.f0 < id
    · obtain ⟨A, B, rfl, hA, hB⟩ := split_T (l := l) h2 id
      refine ⟨p :: A, B, rfl, fun r hr => ?_, hB⟩
      rcases List.mem_cons.1 hr with rfl | hr
      · exact c
      exact hA r hr
    refine ⟨[], p :: l, rfl, by simp, fun r hr => ?_⟩
    rcases List.mem_cons.1 hr with rfl | hr
    · omega
    have : p.f0 < r.f0 := h1 r hr
    omega
def putT (l : List RwT) (r : RwT) : List RwT := l.take (posT l r.f0) ++ r :: l.drop (posT l r.f0)
def setT (l : List RwT) (r : RwT) : List RwT := l.take (posT l r.f0) ++ r :: l.drop (posT l r.f0 + 1)
def cutT (l : List RwT) (id : Int) : List RwT := l.take (posT l id) ++ l.drop (posT l id + 1)
theorem split_out {l : List RwT} (h : sortT l) {id : Int} (hn : id ∉ idsT l) : ∃ A B, l = A ++ B ∧ posT l id = A.length ∧ (∀ r ∈ A, r.f0 < id) ∧ ∀ r ∈ B, id < r.f0 := by
  obtain ⟨A, B, rfl, hA, hB⟩ := split_T h id
  refine ⟨A, B, rfl, pos_of hA hB, hA, fun r hr => ?_⟩
  have h1 := hB r hr
  have h2 : r.f0 ≠ id := fun e => hn (mem_ids.2 ⟨r, List.mem_append.2 (.inr hr), e⟩)
  omega
theorem split_in {l : List RwT} (h : sortT l) {id : Int} (hm : id ∈ idsT l) : ∃ A r B, l = A ++ r :: B ∧ r.f0 = id ∧ posT l id = A.length ∧ (∀ r ∈ A, r.f0 < id) ∧ ∀ r ∈ B, id < r.f0 := by
  obtain ⟨A, B, rfl, hA, hB⟩ := split_T h id
  have hp := pos_of hA hB
  obtain ⟨r, hr, e⟩ := mem_ids.1 hm
  cases B with
  | nil =>
    rw [List.append_nil] at hr
    have := hA r hr
    omega
  | cons p B =>
    have h2 := List.pairwise_cons.1 (List.pairwise_append.1 h).2.1
    have e2 : p.f0 = id := by
      rcases List.mem_append.1 hr with hr | hr
      · have := hA r hr
        omega
      rcases List.mem_cons.1 hr with rfl | hr
      · exact e
      have g1 : p.f0 < r.f0 := h2.1 r hr
      have g2 := hB p List.mem_cons_self
      omega
    exact ⟨A, p, B, rfl, e2, hp, hA, fun r hr => by have : p.f0 < r.f0 := h2.1 r hr; omega⟩
theorem put_split {A B : List RwT} {r : RwT} (e : posT (A ++ B) r.f0 = A.length) : putT (A ++ B) r = A ++ r :: B := by
  unfold putT
  rw [e, List.take_left, List.drop_left]
theorem set_split {A B : List RwT} {r x : RwT} (e : posT (A ++ x :: B) r.f0 = A.length) : setT (A ++ x :: B) r = A ++ r :: B := by
  unfold setT
  rw [e, List.take_left, ← List.drop_drop, List.drop_left]
  rfl
theorem cut_split {A B : List RwT} {x : RwT} {id : Int} (e : posT (A ++ x :: B) id = A.length) : cutT (A ++ x :: B) id = A ++ B := by
  unfold cutT
  rw [e, List.take_left, ← List.drop_drop, List.drop_left]
  rfl
theorem sort_mid {A B : List RwT} {r : RwT} (hA : sortT A) (hB : sortT B) (h1 : ∀ x ∈ A, x.f0 < r.f0) (h2 : ∀ x ∈ B, r.f0 < x.f0) : sortT (A ++ r :: B) := by
  refine List.pairwise_append.2 ⟨hA, List.pairwise_cons.2 ⟨h2, hB⟩, fun x hx y hy => ?_⟩
  have g1 := h1 x hx
  show x.f0 < y.f0
  rcases List.mem_cons.1 hy with rfl | hy
  · exact g1
  have := h2 y hy
  omega
theorem mem_mid {A B : List RwT} {r x : RwT} : x ∈ A ++ r :: B ↔ x = r ∨ x ∈ A ++ B := by
  rw [List.mem_append, List.mem_cons, List.mem_append]
  constructor
  · rintro (h | h | h)
    · exact .inr (.inl h)
    · exact .inl h
    exact .inr (.inr h)
  rintro (h | h | h)
  · exact .inr (.inl h)
  · exact .inl h
  exact .inr (.inr h)
def doT (l : List RwT) (k id : Int) (t : ByteArray) : List RwT := if k = 1 then putT l ⟨id, t⟩ else if k = 2 then setT l ⟨id, t⟩ else cutT l id
def whyT (l : List RwT) (k id : Int) : Int := if k = 1 ∧ id ∈ idsT l then 32 else if k = 1 ∧ 60 ≤ l.length then 37 else if k ≠ 1 ∧ id ∉ idsT l then 31 else 0
theorem why_T {l : List RwT} {k id : Int} (h : whyT l k id = 0) : (k = 1 → id ∉ idsT l ∧ l.length < 60) ∧ (k ≠ 1 → id ∈ idsT l) := by
  unfold whyT at h
  by_cases c1 : k = 1 ∧ id ∈ idsT l
  · rw [if_pos c1] at h; omega
  rw [if_neg c1] at h
  by_cases c2 : k = 1 ∧ 60 ≤ l.length
  · rw [if_pos c2] at h; omega
  rw [if_neg c2] at h
  by_cases c3 : k ≠ 1 ∧ id ∉ idsT l
  · rw [if_pos c3] at h; omega
  exact ⟨fun e => ⟨fun g => c1 ⟨e, g⟩, by have := fun g => c2 ⟨e, g⟩; omega⟩, fun e => Classical.byContradiction fun g => c3 ⟨e, g⟩⟩
theorem why_of {l : List RwT} {k id : Int} (h1 : k = 1 → id ∉ idsT l ∧ l.length < 60) (h2 : k ≠ 1 → id ∈ idsT l) : whyT l k id = 0 := by
  unfold whyT
  rw [if_neg (fun c => (h1 c.1).1 c.2), if_neg (fun c => by have := (h1 c.1).2; omega), if_neg (fun c => c.2 (h2 c.1))]
theorem do_T {l : List RwT} {k id : Int} {t : ByteArray} (h : sortT l) (hk : k = 1 ∨ k = 2 ∨ k = 3) (hw : whyT l k id = 0) :
    sortT (doT l k id t) ∧ (∀ r, r ∈ doT l k id t ↔ (k ≠ 3 ∧ r = ⟨id, t⟩) ∨ (r ∈ l ∧ r.f0 ≠ id)) ∧ ((doT l k id t).length : Int) = l.length + (if k = 1 then 1 else if k = 3 then -1 else 0) := by
  obtain ⟨h1, h2⟩ := why_T hw
  rcases hk with rfl | rfl | rfl
  · obtain ⟨A, B, rfl, hp, hA, hB⟩ := split_out h (h1 rfl).1
    obtain ⟨q1, q2, q3⟩ := List.pairwise_append.1 h
    have e : doT (A ++ B) 1 id t = A ++ (⟨id, t⟩ : RwT) :: B := by
      unfold doT
      rw [if_pos rfl, put_split hp]
    rw [e]
    refine ⟨sort_mid q1 q2 hA hB, fun r => ?_, by simp; omega⟩
    rw [mem_mid]
    constructor
    · rintro (g | g)
      · exact .inl ⟨by decide, g⟩
      exact .inr ⟨g, fun q => (h1 rfl).1 (mem_ids.2 ⟨r, g, q⟩)⟩
    rintro (g | g)
    · exact .inl g.2
    exact .inr g.1
  · obtain ⟨A, x, B, rfl, hx, hp, hA, hB⟩ := split_in h (h2 (by decide))
    obtain ⟨q1, q2, q3⟩ := List.pairwise_append.1 h
    obtain ⟨q4, q5⟩ := List.pairwise_cons.1 q2
    have e : doT (A ++ x :: B) 2 id t = A ++ (⟨id, t⟩ : RwT) :: B := by
      unfold doT
      rw [if_neg (by decide), if_pos rfl, set_split hp]
    rw [e]
    refine ⟨sort_mid q1 q5 hA hB, fun r => ?_, by simp⟩
    rw [mem_mid, mem_mid]
    constructor
    · rintro (g | g)
      · exact .inl ⟨by decide, g⟩
      refine .inr ⟨.inr g, fun q => ?_⟩
      rcases List.mem_append.1 g with g | g
      · have := hA r g; omega
      have := hB r g; omega
    rintro (g | ⟨g | g, q⟩)
    · exact .inl g.2
    · exact (q (by rw [g, hx])).elim
    exact .inr g
  obtain ⟨A, x, B, rfl, hx, hp, hA, hB⟩ := split_in h (h2 (by decide))
  obtain ⟨q1, q2, q3⟩ := List.pairwise_append.1 h
  obtain ⟨q4, q5⟩ := List.pairwise_cons.1 q2
  have e : doT (A ++ x :: B) 3 id t = A ++ B := by
    unfold doT
    rw [if_neg (by decide), if_neg (by decide), cut_split hp]
  rw [e]
  refine ⟨List.pairwise_append.2 ⟨q1, q5, fun a ha b hb => q3 a ha b (List.mem_cons_of_mem _ hb)⟩, fun r => ?_, by simp; omega⟩
  rw [mem_mid]
  constructor
  · intro g
    refine .inr ⟨.inr g, fun q => ?_⟩
    rcases List.mem_append.1 g with g | g
    · have := hA r g; omega
    have := hB r g; omega
  rintro (g | ⟨g | g, q⟩)
  · exact (g.1 rfl).elim
  · exact (q (by rw [g, hx])).elim
  exact g
def okT (l : List RwT) : Prop := l.length ≤ 60 ∧ rising 0 (idsT l) = 0 ∧ ∀ r ∈ l, r.f1.size ≤ 200
theorem okT.sort {l : List RwT} (h : okT l) : sortT l := sort_ids.2 (rising_zero h.2.1).2
theorem okT.ids {l : List RwT} (h : okT l) {r : RwT} (hr : r ∈ l) : 1 ≤ r.f0 ∧ r.f0 ≤ 999999 := by
  have := (rising_zero h.2.1).1 r.f0 (mem_ids.2 ⟨r, hr, rfl⟩)
  omega
theorem okT_of {l : List RwT} (h1 : l.length ≤ 60) (h2 : sortT l) (h3 : ∀ r ∈ l, (1 ≤ r.f0 ∧ r.f0 ≤ 999999) ∧ r.f1.size ≤ 200) : okT l := by
  refine ⟨h1, rising_of (fun x hx => ?_) (sort_ids.1 h2), fun r hr => (h3 r hr).2⟩
  obtain ⟨r, hr, rfl⟩ := mem_ids.1 hx
  have := (h3 r hr).1
  omega
theorem do_ok {l : List RwT} {k id : Int} {t : ByteArray} (h : okT l) (hk : k = 1 ∨ k = 2 ∨ k = 3) (hw : whyT l k id = 0) (hi : 1 ≤ id ∧ id ≤ 999999) (ht : k ≠ 3 → t.size ≤ 200) : okT (doT l k id t) := by
  obtain ⟨h1, h2, h3⟩ := do_T (t := t) h.sort hk hw
  refine okT_of ?_ h1 fun r hr => ?_
  · have := h.1
    have := fun e => ((why_T hw).1 e).2
    rcases hk with rfl | rfl | rfl
    · have := this rfl
      simp at h3
      omega
    · simp at h3; omega
    simp at h3; omega
  rcases (h2 r).1 hr with ⟨g, rfl⟩ | ⟨g, _⟩
  · exact ⟨hi, ht g⟩
  exact ⟨h.ids g, h.2.2 r g⟩
def cellsF (i : Int) : List (List RwT) → List CeT
  | [] => []
  | l :: s => l.map (fun r => (⟨i, r.f0, r.f1⟩ : CeT)) ++ cellsF (i + 1) s
def ltC (p q : CeT) : Prop := p.f0 < q.f0 ∨ (p.f0 = q.f0 ∧ p.f1 < q.f1)
def sortC (l : List CeT) : Prop := l.Pairwise ltC
theorem mem_cells {c : CeT} : ∀ (s : List (List RwT)) (i : Int), c ∈ cellsF i s ↔ ∃ (j : Nat) (h : j < s.length), c.f0 = i + j ∧ (⟨c.f1, c.f2⟩ : RwT) ∈ s[j]
  | [], i => by simp [cellsF]
  | l :: s, i => by
    simp only [cellsF]
    rw [List.mem_append, mem_cells s (i + 1), List.mem_map]
    constructor
    · rintro (⟨r, hr, rfl⟩ | ⟨j, h, h1, h2⟩)
      · exact ⟨0, by simp, by simp, by simpa using hr⟩
      exact ⟨j + 1, by simp; omega, by omega, by simpa using h2⟩
    rintro ⟨j, h, h1, h2⟩
    cases j with
    | zero => exact .inl ⟨⟨c.f1, c.f2⟩, by simpa using h2, ce_ext (by simp only; omega) rfl rfl⟩
    | succ j => exact .inr ⟨j, by simp at h; omega, by omega, by simpa using h2⟩
theorem sort_cells : ∀ (s : List (List RwT)) (i : Int), (∀ l ∈ s, sortT l) → sortC (cellsF i s)
  | [], i, _ => List.Pairwise.nil
  | l :: s, i, h => by
    simp only [cellsF]
    refine List.pairwise_append.2 ⟨?_, sort_cells s (i + 1) fun x hx => h x (List.mem_cons_of_mem _ hx), fun x hx y hy => ?_⟩
    · rw [List.pairwise_map]
      exact (h l List.mem_cons_self).imp fun g => .inr ⟨rfl, g⟩
    obtain ⟨r, _, rfl⟩ := List.mem_map.1 hx
    obtain ⟨j, _, e, _⟩ := (mem_cells s (i + 1)).1 hy
    exact .inl (by simp only; omega)
def okS (s : List (List RwT)) : Prop := s.length ≤ 8 ∧ ∀ l ∈ s, okT l
theorem okS.sort {s : List (List RwT)} (h : okS s) : sortC (cellsF 0 s) := sort_cells s 0 fun l hl => (h.2 l hl).sort
structure OpX where
  tb : Int
  k : Int
  id : Int
  tx : ByteArray
def whyS (s : List (List RwT)) (o : OpX) : Int :=
  if o.k < 1 ∨ 3 < o.k then 30 else if o.tb < 0 ∨ (s.length : Int) ≤ o.tb then 2 else if o.id < 1 ∨ 999999 < o.id then 31 else if o.k ≠ 3 ∧ 200 < o.tx.size then 3 else whyT (s.getD o.tb.toNat []) o.k o.id
def doS (s : List (List RwT)) (o : OpX) : List (List RwT) := s.set o.tb.toNat (doT (s.getD o.tb.toNat []) o.k o.id o.tx)
structure Goes (s : List (List RwT)) (o : OpX) : Prop where
  k : o.k = 1 ∨ o.k = 2 ∨ o.k = 3
  t0 : 0 ≤ o.tb
  t1 : o.tb.toNat < s.length
  i : 1 ≤ o.id ∧ o.id ≤ 999999
  x : o.k ≠ 3 → o.tx.size ≤ 200
  w : whyT (s.getD o.tb.toNat []) o.k o.id = 0
theorem why_S {s : List (List RwT)} {o : OpX} : whyS s o = 0 ↔ Goes s o := by
  unfold whyS
  constructor
  · intro h
    by_cases c1 : o.k < 1 ∨ 3 < o.k
    · rw [if_pos c1] at h; omega
    rw [if_neg c1] at h
    by_cases c2 : o.tb < 0 ∨ (s.length : Int) ≤ o.tb
    · rw [if_pos c2] at h; omega
    rw [if_neg c2] at h
    by_cases c3 : o.id < 1 ∨ 999999 < o.id
    · rw [if_pos c3] at h; omega
    rw [if_neg c3] at h
    by_cases c4 : o.k ≠ 3 ∧ 200 < o.tx.size
    · rw [if_pos c4] at h; omega
    rw [if_neg c4] at h
    exact ⟨by omega, by omega, by omega, by omega, fun e => by have := fun g => c4 ⟨e, g⟩; omega, h⟩
  intro h
  have := h.k; have := h.t0; have := h.t1; have := h.i
  rw [if_neg (by omega), if_neg (by omega), if_neg (by omega), if_neg (fun c => by have := h.x c.1; omega)]
  exact h.w
theorem do_okS {s : List (List RwT)} {o : OpX} (h : okS s) (g : Goes s o) : okS (doS s o) := by
  unfold doS
  refine ⟨by rw [List.length_set]; exact h.1, fun l hl => ?_⟩
  rcases List.mem_or_eq_of_mem_set hl with hl | rfl
  · exact h.2 l hl
  have e : s.getD o.tb.toNat [] = s[o.tb.toNat]'g.t1 := by simp [g.t1]
  have := g.w
  rw [e] at this ⊢
  exact do_ok (h.2 _ (List.getElem_mem _)) g.k this g.i g.x
def runS (s : List (List RwT)) : List OpX → Int → List (List RwT) × Int × Int
  | [], i => (s, i, 0)
  | o :: l, i => if whyS s o = 0 then runS (doS s o) l (i + 1) else ([], i, whyS s o)
def textT (l : List RwT) (id : Int) : ByteArray := match l.find? (fun r => r.f0 == id) with | some r => r.f1 | none => ⟨#[]⟩
theorem text_in {l : List RwT} (h : sortT l) {r : RwT} (hr : r ∈ l) : textT l r.f0 = r.f1 := by
  unfold textT
  cases e : l.find? (fun x => x.f0 == r.f0) with
  | none =>
    have := List.find?_eq_none.1 e r hr
    simp at this
  | some x =>
    have h1 := List.mem_of_find?_eq_some e
    have h2 := List.find?_some e
    have h3 : x.f0 = r.f0 := by simpa using h2
    rw [sort_one h h1 hr h3]
end Go.Proofs.Ytdpcgigjlcpofaa.Q
