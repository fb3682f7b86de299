-- merged and pruned by prune.py (the session's own program); its words go back to the kit's print
import Derived.Test.YtefhljhpcpajgaaProg
import Derived.Below
import Derived.Deep.Draws
import Derived.Deep.AppendLies
import Derived.Maps.AppendAt
import Derived.OwnWalk
import Derived.Laws.BytesArg
import Derived.Laws.MakeOwn
import Derived.Laws.OwnMore
import Derived.Deep.OwnRows
import Derived.Tactics
import Derived.Lib.ConvBytes
import Derived.Laws.Slices
import Derived.WalkKit
import Derived.KernelRfl
import Derived.RowKit3
import Derived.Deep.LoopGhost
import Derived.Deep.QuietTactic
import Derived.BigQuiet
import Derived.WideLaws
import Derived.Deep.DeepCutAuto
import Derived.Deep.CutBlock
import Derived.Deep.RegionHeld3
import Derived.Laws.Rows
import Derived.Lib.AppendStr
import Derived.ArgAppend
import Derived.Laws.IdiomCopy
import Derived.OrdersHeld
import Derived.Laws.BitsLemmas
import Derived.RowKit
import Derived.Laws.StructEq
import Derived.Deep.RegionLawGrows
import Derived.Lib.SliceRun
import Derived.Lib.OthersKept
import Derived.Lib.RuneCount
import Derived.Laws.Cover4
import Derived.Outline
import Derived.Shelf.Small.Bits
import Derived.Shelf.Utf8.RuneCount
import Derived.Shelf.Strconv.Itoa0
import Derived.Shelf.Strings.Prefix
import Derived.Shelf.Strings.RuneCount
import Derived.Shelf.Bits.Mul64
import Derived.Ground.Names2Prog
import Derived.Shelf.Slices.SearchI
import Derived.Ground.SlsfProg
import Derived.Shelf.SlSortCmp.Insertion
import Derived.Shelf.SlSortCmp.Insertion1
import Derived.Test.YtefhljhpcpajgaaZLineDeals1
namespace Go.Proofs.Ytefhljhpcpajgaa.F
open Go.RowKit Go.Proofs.YtefhljhpcpajgaaX Go.Proofs.YtefhljhpcpajgaaW.PrintWords Go.Proofs.YtefhljhpcpajgaaW.PrintLast Go.Proofs.YtefhljhpcpajgaaW.PrintMore
attribute [local go_sem] max2_int min2_int max_two min_two max_three min_three max_four min_four   
attribute [local go_sem high] str_geq str_leq str_gtr
set_option linter.unusedVariables false
set_option linter.unusedSimpArgs false
mutual
def backhaullaw21_Few.l0 : Nat → List (S71) → Int → Option (Bool)
  | 0, _, _ => none
  | k + 1, x0, x3 => if x3 < (x0.length : Int) then (if 0 ≤ x3 then (if (((rd_T71 x0 x3).f4).length : Int) > 40 then (some false) else (backhaullaw21_Few.l1 k x0 x3 0)) else (none)) else (some true)
def backhaullaw21_Few.l1 : Nat → List (S71) → Int → Int → Option (Bool)
  | 0, _, _, _ => none
  | k + 1, x0, x3, x4 => if 0 ≤ x3 then (if x3 < (x0.length : Int) then (if x4 < (((rd_T71 x0 x3).f4).length : Int) then (if 0 ≤ x4 then (if ((rdOf ByteArray.empty ((rd_T71 x0 x3).f4) x4).size : Int) > 100 then (some false) else (backhaullaw21_Few.l1 k x0 x3 (wrap64 (x4 + 1)))) else (none)) else (backhaullaw21_Few.l0 k x0 (wrap64 (x3 + 1)))) else (none)) else (none)
end
def backhaullaw21_Few.f (k : Nat) (l0 : List (S71)) : Option (Bool) := if (l0.length : Int) > 20 then (some false) else (backhaullaw21_Few.l0 k l0 0)
theorem backhaullaw21_Few.mono_l : ∀ k, (∀ y0 y1, LeO (backhaullaw21_Few.l0 k y0 y1) (backhaullaw21_Few.l0 (k + 1) y0 y1)) ∧ (∀ y0 y1 y2, LeO (backhaullaw21_Few.l1 k y0 y1 y2) (backhaullaw21_Few.l1 (k + 1) y0 y1 y2))
  | 0 => ⟨fun _ _ r h => by simp [backhaullaw21_Few.l0] at h, fun _ _ _ r h => by simp [backhaullaw21_Few.l1] at h⟩
  | k + 1 => by
    obtain ⟨ih0, ih1⟩ := backhaullaw21_Few.mono_l k
    refine ⟨?_, ?_⟩
    · intro y0 y1
      unfold backhaullaw21_Few.l0
      repeat' (with_reducible first | exact ih0 _ _ | exact ih1 _ _ _ | exact LeO.refl _ | exact LeO.none _ | refine LeO.ite ?_ ?_ | refine LeO.bind ?_ (fun _ => ?_))
    intro y0 y1 y2
    unfold backhaullaw21_Few.l1
    repeat' (with_reducible first | exact ih0 _ _ | exact ih1 _ _ _ | exact LeO.refl _ | exact LeO.none _ | refine LeO.ite ?_ ?_ | refine LeO.bind ?_ (fun _ => ?_))
theorem backhaullaw21_Few.mono : ∀ a0 k, LeO (backhaullaw21_Few.f k a0) (backhaullaw21_Few.f (k + 1) a0) := by
  intro a0 k
  obtain ⟨ih0, ih1⟩ := backhaullaw21_Few.mono_l k
  unfold backhaullaw21_Few.f
  repeat' (with_reducible first | exact ih0 _ _ | exact ih1 _ _ _ | exact LeO.refl _ | exact LeO.none _ | refine LeO.ite ?_ ?_ | refine LeO.bind ?_ (fun _ => ?_))
set_option maxHeartbeats 8000000 in
set_option maxRecDepth 100000 in
theorem backhaullaw21_Few.calls (k : Nat) (A0 : Option Addr) (c0 : Nat) (l0 : List (S71)) (r : Bool) (w : World) (hr0 : Kd.C k71 w A0 l0.length l0) (hc0 : l0.length ≤ c0) (h : backhaullaw21_Few.f k l0 = some r) :
    Calls Try.prog 60 #[.slice A0 l0.length c0] w fun e w' => e = .returned (.bool r) ∧ Drawn0 w w' := by
  have HR0 := zA hr0
  have HC0 := zA hc0
  clear hr0 hc0
  have H : (if (l0.length : Int) > 20 then (some false) else (backhaullaw21_Few.l0 k l0 0)) = some r := h
  clear h
  by_cases c2 : (l0.length : Int) > 20
  · rw [if_pos c2] at H
    have c2b0 : decide (20 < (l0.length : Int)) = true := zFq c2; have c2b1 : decide (20 < l0.length) = true := zFq (by omega); clear c2; obtain rfl := zKq H; go_enter Try.func60, Try.ntmps60; go_wp2; go_ret; exact ⟨by first | rfl | (simp; done) | (simp [*]; done), by repeat (first | exact Drawn0.refl _ | apply Drawn0.step)⟩
  rw [if_neg c2] at H
  have c2b0 : decide (20 < (l0.length : Int)) = false := zGq c2
  have c2b1 : decide (20 < l0.length) = false := zGq (by omega)
  clear c2
  have H' := zA H
  clear H
  go_enter Try.func60, Try.ntmps60
  go_wp2
  go_loopg [3] k (fun kq v3 w' => ∃ (x3_1 : Int), v3 = .int .i64 x3_1 ∧ Aside0 (backhaullaw21_Few.l0 kq l0 x3_1 = some r) ∧ Aside0 (kq ≤ k) ∧ Drawn0 w w')
  case atStart => exact ⟨(0), (by first | rfl | (simp; done) | (simp [*]; done)), H', ⟨Nat.le_refl _⟩, by repeat (first | exact Drawn0.refl _ | apply Drawn0.step)⟩
  case round =>
    clear H'; try clear c2
    try clear c2b0
    try clear c2b1
    try clear p2
    obtain ⟨x3_1, rfl, HA, HK1, ⟨m1, rfl⟩⟩ := hrel; cases gk with
    | zero => exact absurd HA.out (by simp [backhaullaw21_Few.l0])
    | succ k1 =>
      have H := HA.out; clear HA; simp only [backhaullaw21_Few.l0] at H; by_cases c3 : x3_1 < (l0.length : Int)
      · rw [if_pos c3] at H
        have c3b0 : decide (x3_1 < (l0.length : Int)) = true := zFq c3; clear c3; by_cases c4 : 0 ≤ x3_1
        · rw [if_pos c4] at H
          have c4b0 : decide (0 ≤ x3_1) = true := zFq c4; clear c4; by_cases c5 : (((rd_T71 l0 x3_1).f4).length : Int) > 40
          · rw [if_pos c5] at H
            have c5b0 : decide (40 < (((rd_T71 l0 x3_1).f4).length : Int)) = true := zFq c5; have c5b1 : decide (40 < ((rd_T71 l0 x3_1).f4).length) = true := zFq (by omega); clear c5; obtain rfl := zKq H; have p101 : 0 ≤ (x3_1 : Int) := of_decide_eq_true qA; have q101 : x3_1 < (l0.length : Int) := of_decide_eq_true qA; obtain ⟨ad101, A101_4, c101_4, e101, hx101_0, hx101_1, hx101_2, hx101_3, hx101_4, hl101_4, hi101_4⟩ := at_T71 HR0.out x3_1 p101 q101; cases e101
            have HR101_4 := zA hi101_4; have HC101_4 := zA hl101_4; clear hi101_4 hl101_4; replace p101 := eq_true p101; replace q101 := eq_true q101; go_wp2; go_ret; exact ⟨by first | rfl | (simp; done) | (simp [*]; done), by repeat (first | exact Drawn0.refl _ | apply Drawn0.step)⟩
          rw [if_neg c5] at H; have c5b0 : decide (40 < (((rd_T71 l0 x3_1).f4).length : Int)) = false := zGq c5; have c5b1 : decide (40 < ((rd_T71 l0 x3_1).f4).length) = false := zGq (by omega); clear c5; have H' := zA H; clear H; have p101 : 0 ≤ (x3_1 : Int) := of_decide_eq_true qA; have q101 : x3_1 < (l0.length : Int) := of_decide_eq_true qA; obtain ⟨ad101, A101_4, c101_4, e101, hx101_0, hx101_1, hx101_2, hx101_3, hx101_4, hl101_4, hi101_4⟩ := at_T71 HR0.out x3_1 p101 q101; cases e101
          have HR101_4 := zA hi101_4; have HC101_4 := zA hl101_4; clear hi101_4 hl101_4; replace p101 := eq_true p101; replace q101 := eq_true q101; go_wp2; go_loopg [4] k1 (fun kq v4 w' => ∃ (x4_2 : Int), v4 = .int .i64 x4_2 ∧ Aside0 (backhaullaw21_Few.l1 kq l0 x3_1 x4_2 = some r) ∧ Aside0 (kq ≤ k1) ∧ Drawn0 w w')
          case atStart => exact ⟨(0), (by first | rfl | (simp; done) | (simp [*]; done)), H', ⟨Nat.le_refl _⟩, by repeat (first | exact Drawn0.refl _ | apply Drawn0.step)⟩
          case round =>
            clear H'; try clear c1
            try clear p1
            try clear q1
            try clear hx1
            try clear c2
            try clear c2b0
            try clear c2b1
            try clear p2
            try clear c3
            try clear c3b0
            try clear c4
            try clear c4b0
            try clear c5
            try clear c5b0
            try clear c5b1
            try clear hx101_0
            try clear hx101_1
            try clear hx101_2
            try clear hx101_3
            try clear hx101_4
            try clear p101
            try clear p2
            try clear q101
            obtain ⟨x4_2, rfl, HA, HK2, ⟨m2, rfl⟩⟩ := hrel; cases gk with
            | zero => exact absurd HA.out (by simp [backhaullaw21_Few.l1])
            | succ k2 =>
              have H := HA.out; clear HA; simp only [backhaullaw21_Few.l1] at H; by_cases c6 : 0 ≤ x3_1
              · rw [if_pos c6] at H
                have c6b0 : decide (0 ≤ x3_1) = true := zFq c6; clear c6; by_cases c7 : x3_1 < (l0.length : Int)
                · rw [if_pos c7] at H
                  have c7b0 : decide (x3_1 < (l0.length : Int)) = true := zFq c7; clear c7; by_cases c8 : x4_2 < (((rd_T71 l0 x3_1).f4).length : Int)
                  · rw [if_pos c8] at H
                    have c8b0 : decide (x4_2 < (((rd_T71 l0 x3_1).f4).length : Int)) = true := zFq c8; clear c8; by_cases c9 : 0 ≤ x4_2
                    · rw [if_pos c9] at H
                      have c9b0 : decide (0 ≤ x4_2) = true := zFq c9; clear c9; by_cases c10 : ((rdOf ByteArray.empty ((rd_T71 l0 x3_1).f4) x4_2).size : Int) > 100
                      · rw [if_pos c10] at H
                        have c10b0 : decide (100 < ((rdOf ByteArray.empty ((rd_T71 l0 x3_1).f4) x4_2).size : Int)) = true := zFq c10; have c10b1 : decide (100 < (rdOf ByteArray.empty ((rd_T71 l0 x3_1).f4) x4_2).size) = true := zFq (by omega); clear c10; obtain rfl := zKq H; have p102 : 0 ≤ (x3_1 : Int) := of_decide_eq_true qA; have q102 : x3_1 < (l0.length : Int) := of_decide_eq_true qA; obtain ⟨ad102, A102_4, c102_4, e102, hx102_0, hx102_1, hx102_2, hx102_3, hx102_4, hl102_4, hi102_4⟩ := at_T71 HR0.out x3_1 p102 q102; obtain rfl : ad101 = ad102 := (by injection e102)
                        have HR102_4 := zA hi102_4; have HC102_4 := zA hl102_4; clear hi102_4 hl102_4; replace p102 := eq_true p102; replace q102 := eq_true q102; have p103 : 0 ≤ (x3_1 : Int) := of_decide_eq_true qA; have q103 : x3_1 < (l0.length : Int) := of_decide_eq_true qA; obtain ⟨ad103, A103_4, c103_4, e103, hx103_0, hx103_1, hx103_2, hx103_3, hx103_4, hl103_4, hi103_4⟩ := at_T71 HR0.out x3_1 p103 q103; obtain rfl : ad101 = ad103 := (by injection e103)
                        have HR103_4 := zA hi103_4; have HC103_4 := zA hl103_4; clear hi103_4 hl103_4; replace p103 := eq_true p103; replace q103 := eq_true q103; have ea_ := zKq (hx102_4.symm.trans hx103_4); injection ea_ with ea_ en_ ec_
                        subst ea_; subst ec_; clear en_; have p104 : 0 ≤ (x4_2 : Int) := of_decide_eq_true qA; have q104 : x4_2 < (((rd_T71 l0 x3_1).f4).length : Int) := of_decide_eq_true qA; obtain ⟨ad104, e104, hx104_0⟩ := Kd.at_string HR103_4.out x4_2 p104 q104; cases e104
                        replace p104 := eq_true p104; replace q104 := eq_true q104; go_wp2; go_ret; exact ⟨by first | rfl | (simp; done) | (simp [*]; done), by repeat (first | exact Drawn0.refl _ | apply Drawn0.step)⟩
                      rw [if_neg c10] at H; have c10b0 : decide (100 < ((rdOf ByteArray.empty ((rd_T71 l0 x3_1).f4) x4_2).size : Int)) = false := zGq c10; have c10b1 : decide (100 < (rdOf ByteArray.empty ((rd_T71 l0 x3_1).f4) x4_2).size) = false := zGq (by omega); clear c10; have H' := zA H; clear H; have p102 : 0 ≤ (x3_1 : Int) := of_decide_eq_true qA; have q102 : x3_1 < (l0.length : Int) := of_decide_eq_true qA; obtain ⟨ad102, A102_4, c102_4, e102, hx102_0, hx102_1, hx102_2, hx102_3, hx102_4, hl102_4, hi102_4⟩ := at_T71 HR0.out x3_1 p102 q102; obtain rfl : ad101 = ad102 := (by injection e102)
                      have HR102_4 := zA hi102_4; have HC102_4 := zA hl102_4; clear hi102_4 hl102_4; replace p102 := eq_true p102; replace q102 := eq_true q102; have p103 : 0 ≤ (x3_1 : Int) := of_decide_eq_true qA; have q103 : x3_1 < (l0.length : Int) := of_decide_eq_true qA; obtain ⟨ad103, A103_4, c103_4, e103, hx103_0, hx103_1, hx103_2, hx103_3, hx103_4, hl103_4, hi103_4⟩ := at_T71 HR0.out x3_1 p103 q103; obtain rfl : ad101 = ad103 := (by injection e103)
                      have HR103_4 := zA hi103_4; have HC103_4 := zA hl103_4; clear hi103_4 hl103_4; replace p103 := eq_true p103; replace q103 := eq_true q103; have ea_ := zKq (hx102_4.symm.trans hx103_4); injection ea_ with ea_ en_ ec_
                      subst ea_; subst ec_; clear en_; have p104 : 0 ≤ (x4_2 : Int) := of_decide_eq_true qA; have q104 : x4_2 < (((rd_T71 l0 x3_1).f4).length : Int) := of_decide_eq_true qA; obtain ⟨ad104, e104, hx104_0⟩ := Kd.at_string HR103_4.out x4_2 p104 q104; cases e104
                      replace p104 := eq_true p104; replace q104 := eq_true q104; go_wp2; go_roundg k2
                      case measure => have := HK1.out; have := HK2.out; omega
                      case rel => exact ⟨(wrap64 (x4_2 + 1)), (by first | rfl | (simp; done) | (simp [*]; done)), H', ⟨by have := HK1.out; have := HK2.out; omega⟩, by repeat (first | exact Drawn0.refl _ | apply Drawn0.step)⟩
                    rw [if_neg c9] at H; exact absurd H (by simp)
                  rw [if_neg c8] at H; have c8b0 : decide (x4_2 < (((rd_T71 l0 x3_1).f4).length : Int)) = false := zGq c8; clear c8; have H' := zA H; clear H; have p102 : 0 ≤ (x3_1 : Int) := of_decide_eq_true qA; have q102 : x3_1 < (l0.length : Int) := of_decide_eq_true qA; obtain ⟨ad102, A102_4, c102_4, e102, hx102_0, hx102_1, hx102_2, hx102_3, hx102_4, hl102_4, hi102_4⟩ := at_T71 HR0.out x3_1 p102 q102; obtain rfl : ad101 = ad102 := (by injection e102)
                  have HR102_4 := zA hi102_4; have HC102_4 := zA hl102_4; clear hi102_4 hl102_4; replace p102 := eq_true p102; replace q102 := eq_true q102; go_wp2; go_roundg k2
                  case measure => have := HK1.out; have := HK2.out; omega
                  case rel => exact ⟨(wrap64 (x3_1 + 1)), (by first | rfl | (simp; done) | (simp [*]; done)), H', ⟨by have := HK1.out; have := HK2.out; omega⟩, by repeat (first | exact Drawn0.refl _ | apply Drawn0.step)⟩
                rw [if_neg c7] at H; exact absurd H (by simp)
              rw [if_neg c6] at H; exact absurd H (by simp)
        rw [if_neg c4] at H; exact absurd H (by simp)
      rw [if_neg c3] at H; have c3b0 : decide (x3_1 < (l0.length : Int)) = false := zGq c3; clear c3; obtain rfl := zKq H; go_wp2; go_ret; exact ⟨by first | rfl | (simp; done) | (simp [*]; done), by repeat (first | exact Drawn0.refl _ | apply Drawn0.step)⟩
def backhaullaw21_two.f  : Option ((List (S71))) := some (([(⟨1, 100, 0, 0, (([(⟨#[65]⟩ : ByteArray)] : List ByteArray))⟩ : S71), (⟨2, 200, 0, 0, (([(⟨#[66]⟩ : ByteArray), (⟨#[67]⟩ : ByteArray), (⟨#[68]⟩ : ByteArray)] : List ByteArray))⟩ : S71)] : List (S71)))
set_option maxHeartbeats 8000000 in
set_option maxRecDepth 100000 in
theorem backhaullaw21_two.calls  (r : List (S71)) (w : World) (h : backhaullaw21_two.f  = some r) :
    Calls Try.prog 110 #[] w fun e w' => ∃ v0_ : Value, e = .returned (v0_) ∧ Kd.N k71 71 w' w.heap.size (fun k_ => (w.heap.size ≤ k_)) v0_ r ∧ Below w.heap.size w w' := by
  have hu71 := Try.underlying71
  have HB := zA (Below.refl w.heap.size w)
  have H : (some (([(⟨1, 100, 0, 0, (([(⟨#[65]⟩ : ByteArray)] : List ByteArray))⟩ : S71), (⟨2, 200, 0, 0, (([(⟨#[66]⟩ : ByteArray), (⟨#[67]⟩ : ByteArray), (⟨#[68]⟩ : ByteArray)] : List ByteArray))⟩ : S71)] : List (S71)))) = some r := h
  clear h
  obtain ⟨y101, hy101⟩ : ∃ y_ : List ByteArray, y_ = (([(⟨#[65]⟩ : ByteArray)] : List ByteArray)) := ⟨_, rfl⟩
  replace H : (some (([(⟨1, 100, 0, 0, y101⟩ : S71), (⟨2, 200, 0, 0, (([(⟨#[66]⟩ : ByteArray), (⟨#[67]⟩ : ByteArray), (⟨#[68]⟩ : ByteArray)] : List ByteArray))⟩ : S71)] : List (S71)))) = some r := by first | (rw [hy101]; with_reducible exact H) | (have H2_ := (Option.bind_some _ _).symm.trans H; rw [hy101]; with_reducible exact H2_) | (have H2_ := (Option.bind_some _ _).symm.trans H; with_reducible exact H2_) | with_reducible exact H | (rw [hy101]; exact H) | exact H
  have Ny101 := zA hy101
  clear hy101
  obtain ⟨y104, hy104⟩ : ∃ y_ : List ByteArray, y_ = (([(⟨#[66]⟩ : ByteArray), (⟨#[67]⟩ : ByteArray), (⟨#[68]⟩ : ByteArray)] : List ByteArray)) := ⟨_, rfl⟩
  replace H : (some (([(⟨1, 100, 0, 0, y101⟩ : S71), (⟨2, 200, 0, 0, y104⟩ : S71)] : List (S71)))) = some r := by first | (rw [hy104]; with_reducible exact H) | (have H2_ := (Option.bind_some _ _).symm.trans H; rw [hy104]; with_reducible exact H2_) | (have H2_ := (Option.bind_some _ _).symm.trans H; with_reducible exact H2_) | with_reducible exact H | (rw [hy104]; exact H) | exact H
  have Ny104 := zA hy104
  clear hy104
  obtain ⟨y107, hy107⟩ : ∃ y_ : List (S71), y_ = (([(⟨1, 100, 0, 0, y101⟩ : S71), (⟨2, 200, 0, 0, y104⟩ : S71)] : List (S71))) := ⟨_, rfl⟩
  replace H : (some y107) = some r := by first | (rw [hy107]; with_reducible exact H) | (have H2_ := (Option.bind_some _ _).symm.trans H; rw [hy107]; with_reducible exact H2_) | (have H2_ := (Option.bind_some _ _).symm.trans H; with_reducible exact H2_) | with_reducible exact H | (rw [hy107]; exact H) | exact H
  have Ny107 := zA hy107
  clear hy107
  obtain rfl := zKq H
  go_enter Try.func110, Try.ntmps110
  go_wp2_with (first | ((with_reducible refine gate_dst (N := 1) rfl ?_); refine Kd.R_lit Kd.string _ 9 ?hg (N := 1) ?hd (xs := ([(⟨#[65]⟩ : ByteArray)] : List ByteArray)) (inner := [.string (⟨#[65]⟩ : ByteArray)]) (ok := fun _ => True) (okp := fun _ => True) ?hr ?hp (fun _ hk => hk) trivial (Below.refl _ _) (Nat.le_refl _) (by simp) ?_; (case hd => rfl); (case hg => rfl); (case hr => first | (go_simp; done) | (go_simp; rfl)); (case hp => exact (Reps.one (show Kd.M Kd.string _ _ _ (⟨#[65]⟩ : ByteArray) [.string (⟨#[65]⟩ : ByteArray)] from rfl) (Reps.none _ _))); intro v102 w1 ho2 hb hg_ hnew_; clear hg_ hnew_; (first | rw [← Ny101.out] at ho2 | (simp only [Int.reduceToNat] at ho2; rw [← Ny101.out] at ho2)); have n0_ := zA (Kd.R_lower (Kd.R_newM (M := fun k_ => (w.heap.size ≤ k_)) ho2 (zW qB) (fun k_ h_ => h_)) (zW qB)); have n1_ := zA (zV qB hb); clear HB; have HO103 := n0_; have HB := n1_; clear n0_ n1_ hb ho2; obtain ⟨Ao3, co3, eo3⟩ := Kd.R_slice HO103.out; subst eo3) | ((with_reducible refine gate_dst (N := 3) rfl ?_); refine Kd.R_lit Kd.string _ 9 ?hg (N := 3) ?hd (xs := ([(⟨#[66]⟩ : ByteArray), (⟨#[67]⟩ : ByteArray), (⟨#[68]⟩ : ByteArray)] : List ByteArray)) (inner := [.string (⟨#[66]⟩ : ByteArray), .string (⟨#[67]⟩ : ByteArray), .string (⟨#[68]⟩ : ByteArray)]) (ok := fun _ => True) (okp := fun _ => True) ?hr ?hp (fun _ hk => hk) trivial (Below.refl _ _) (Nat.le_refl _) (by simp) ?_; (case hd => rfl); (case hg => rfl); (case hr => first | (go_simp; done) | (go_simp; rfl)); (case hp => exact (Reps.one (show Kd.M Kd.string _ _ _ (⟨#[66]⟩ : ByteArray) [.string (⟨#[66]⟩ : ByteArray)] from rfl) (Reps.one (show Kd.M Kd.string _ _ _ (⟨#[67]⟩ : ByteArray) [.string (⟨#[67]⟩ : ByteArray)] from rfl) (Reps.one (show Kd.M Kd.string _ _ _ (⟨#[68]⟩ : ByteArray) [.string (⟨#[68]⟩ : ByteArray)] from rfl) (Reps.none _ _))))); intro v105 w4 ho5 hb hg_ hnew_; clear hg_ hnew_; (first | rw [← Ny104.out] at ho5 | (simp only [Int.reduceToNat] at ho5; rw [← Ny104.out] at ho5)); have n0_ := zA (Kd.R_elder' (by (with_reducible repeat (first | apply Kd.R_alloc | apply Kd.R_drewN | apply Kd.R_drew)); exact HO103.out) (Kd.R_base ho5) hb); have n1_ := zA (Kd.R_lower (Kd.R_new' (Kd.R_newM (M := fun k_ => (w.heap.size ≤ k_)) ho5 (zW qB) (fun k_ h_ => h_)) (Kd.R_lt (by (with_reducible repeat (first | apply Kd.R_alloc | apply Kd.R_drewN | apply Kd.R_drew)); exact HO103.out))) (zW qB)); have n2_ := zA (zV qB hb); clear HO103 HB; have HO103 := n0_; have HO106 := n1_; have HB := n2_; clear n0_ n1_ n2_ hb ho5; obtain ⟨Ao6, co6, eo6⟩ := Kd.R_slice HO106.out; subst eo6) | ((with_reducible refine gate_dst (N := 5) rfl ?_); refine Kd.N_lit k71 _ 71 ?hg (N' := 5) ?hd (xs := ([(⟨1, 100, 0, 0, y101⟩ : S71), (⟨2, 200, 0, 0, y104⟩ : S71)] : List (S71))) (inner := [.int .i64 1, .int .i64 100, .int .i64 0, .int .i64 0, .slice Ao3 y101.length co3, .int .i64 2, .int .i64 200, .int .i64 0, .int .i64 0, .slice Ao6 y104.length co6]) (ok := (fun k_ => (w.heap.size ≤ k_))) (okp := (fun k_ => (w.heap.size ≤ k_))) ?hr ?hp (fun _ hk => hk) ((show ∀ k_, w4.heap.size ≤ k_ → (fun k_ => (w.heap.size ≤ k_)) k_ from fun k_ hk => (Nat.le_trans (zW qB) hk)) _ (Nat.le_refl _)) (Below.refl _ _) (Nat.le_refl _) (by simp) ?_; (case hd => rfl); (case hg => rfl); (case hr => first | (go_simp; done) | (go_simp; rfl)); (case hp => exact (Reps.c5 (show Kd.FK k71 _ _ (⟨1, 100, 0, 0, y101⟩ : S71) [.int .i64 1, .int .i64 100, .int .i64 0, .int .i64 0, .slice Ao3 y101.length co3] from (k71_mkF _ _ (⟨1, 100, 0, 0, y101⟩ : S71) (Kd.R_reads' (Kd.R_mono (ok' := (fun k_ => (w.heap.size ≤ k_))) (HO103.out) (fun k_ hk => hk.1.1))).2.1 (Kd.R_F (Kd.R_mono (ok' := (fun k_ => (w.heap.size ≤ k_))) (HO103.out) (fun k_ hk => hk.1.1))))) (Reps.c5 (show Kd.FK k71 _ _ (⟨2, 200, 0, 0, y104⟩ : S71) [.int .i64 2, .int .i64 200, .int .i64 0, .int .i64 0, .slice Ao6 y104.length co6] from (k71_mkF _ _ (⟨2, 200, 0, 0, y104⟩ : S71) (Kd.R_reads' (Kd.R_mono (ok' := (fun k_ => (w.heap.size ≤ k_))) (HO106.out) (fun k_ hk => hk.1.1))).2.1 (Kd.R_F (Kd.R_mono (ok' := (fun k_ => (w.heap.size ≤ k_))) (HO106.out) (fun k_ hk => hk.1.1))))) (Reps.none _ _)))); intro v108 w7 ho8 hb hg_ hnew_; clear hg_ hnew_; (first | rw [← Ny107.out] at ho8 | (simp only [Int.reduceToNat] at ho8; rw [← Ny107.out] at ho8)); have n0_ := zA (Kd.N_lower ho8 (zW qB)); have n1_ := zA (zV qB hb); clear HB HO103 HO106; have HO109 := n0_; have HB := n1_; clear n0_ n1_ hb ho8))
  go_ret
  exact ⟨_, qE, by (with_reducible repeat (first | apply Kd.N_alloc | apply Kd.N_drewN | apply Kd.N_drew)); exact HO109.out, qB⟩
def api_Line.f (l0 : List (S71)) : Option (List (S71)) := if l0.length < 2513169434916 then some l0 else none
set_option maxHeartbeats 1000000 in
theorem api_Line.calls (P0_ : Nat → Prop) (A0 : Option Addr) (c0 : Nat) (l0 : List (S71)) (r : List (S71)) (w : World) (hs0 : Kd.V k71 71 w w.heap.size (fun k_ => P0_ k_) (.slice A0 l0.length c0) l0) (h : api_Line.f l0 = some r) :
    Calls Try.prog 141 #[.slice A0 l0.length c0] w fun e w' => ∃ v0_ : Value, e = .returned (v0_) ∧ Kd.N k71 71 w' w.heap.size (fun k_ => (P0_ k_ ∨ w.heap.size ≤ k_)) v0_ r ∧ Below w.heap.size w w' := by
  unfold api_Line.f at h
  by_cases h3 : l0.length < 2513169434916
  · rw [if_pos h3] at h
    simp only [zNq] at h; subst h; have hinf := info71; have hn := fun (W : World) => Lib.run_eql_slice_nil (P := Try.prog) W 59 71 A0 l0.length c0 0 0 Try.underlying59
    have hv := Kd.V_reads' hs0; have HR0 := zA (Kd.F_bound (Kd.V_F hs0)); have H3 := zA h3; have HI := zA hinf; have HE : Aside0 (Kd.N k71 71 (w.alloc (.cells #[] 71)) w.heap.size (fun k_ => (P0_ k_ ∨ w.heap.size ≤ k_)) (.slice (some ⟨w.heap.size, 0, none⟩) 0 0) []) := ⟨⟨fun k hk => .inr (Nat.le_of_eq (by simpa [Value.ownBlock] using hk)), [], rfl, Kd.raw_tight (R_empty_lit (Kd.raw (k71).sz) 71 w), fun j x c hx => by simp at hx⟩⟩
    have h0 : A0 = none → l0 = [] := fun hA => by
      rcases Nat.eq_zero_or_pos l0.length with h0 | h0
      · exact List.eq_nil_of_length_eq_zero h0
      obtain ⟨ad, h, _⟩ := hv.2.2.2.2 h0; rw [hA] at h; cases h
    have H0 := zA h0; clear hs0 h3 hinf hv h0; cases A0 with
    | none =>
      have H00 := zA (H0.out rfl); clear H0; go_enter Try.func141, Try.ntmps141; go_wp2; go_ret; exact ⟨_, rfl, by rw [H00.out]; exact Kd.N_nil _ _ _ _ _, by first | exact Below.refl _ _ | exact zB (Below.refl _ _) _⟩
    | some ad =>
      go_enter Try.func141, Try.ntmps141; go_wp2_with (first
        | (at_builtin; refine Kd.N_append_rows k71 (w0 := w) w.heap.size rfl (.tmp 5) (.tmp 6) 59 71 _ _ rfl Try.underlying59 HI.out rfl (by decide) (by decide) (.slice (some ⟨w.heap.size, 0, none⟩) 0 0) [] l0 (some ad) l0.length c0 (fun k_ => (P0_ k_ ∨ w.heap.size ≤ k_)) (fun k_ => P0_ k_ ∧ k_ < w.heap.size) rfl rfl ?d0 ?d1 ?d2 ?d5 ?d6 ?d7 ?d3 ?d4; (case d0 => exact HE.out); (case d1 => exact Kd.F_alloc HR0.out _); (case d2 => exact fun k hk => ⟨.inl hk.1, fun he => absurd (show k = w.heap.size by simpa [Value.ownBlock] using he) (zLq hk.2)⟩); (case d5 => exact fun k hk => .inr (Nat.le_trans (Nat.le_succ _) (by simpa using hk))); (case d6 => exact zD (Below.refl _ _) _); (case d7 => simp); (case d3 => simp only [List.length_nil]; have := H3.out; omega); intro v2 w2 ho2 hb2 hg2 ha2; have HO2 := zA ho2; have HB2 := zA hb2; clear ho2 hb2 hg2 ha2))
      go_ret; exact ⟨v2, by first | rfl | (simp; rfl), by simpa using HO2.out, HB2.out⟩
  rw [if_neg h3] at h; cases h
def cents_In.f (a0 : Int) : Option (Bool) := if a0 ≥ (-1000000000000) then (some (decide (a0 ≤ 1000000000000))) else (some false)
set_option maxHeartbeats 8000000 in
set_option maxRecDepth 100000 in
theorem cents_In.calls (a0 : Int) (r : Bool) (w : World) (h : cents_In.f a0 = some r) :
    Calls Try.prog 31 #[.int .i64 a0] w fun e w' => e = .returned (.bool r) ∧ Drawn0 w w' := by
  have H : (if a0 ≥ (-1000000000000) then (some (decide (a0 ≤ 1000000000000))) else (some false)) = some r := h
  clear h
  by_cases c2 : a0 ≥ (-1000000000000)
  · rw [if_pos c2] at H
    have c2b0 : decide ((-1000000000000) ≤ a0) = true := zFq c2; clear c2; obtain rfl := zKq H; go_enter Try.func31, Try.ntmps31; go_wp2; go_ret; exact ⟨by first | rfl | (simp; done) | (simp [*]; done), by repeat (first | exact Drawn0.refl _ | apply Drawn0.step)⟩
  rw [if_neg c2] at H
  have c2b0 : decide ((-1000000000000) ≤ a0) = false := zGq c2
  clear c2
  obtain rfl := zKq H
  go_enter Try.func31, Try.ntmps31
  go_wp2
  go_ret
  exact ⟨by first | rfl | (simp; done) | (simp [*]; done), by repeat (first | exact Drawn0.refl _ | apply Drawn0.step)⟩
def line_paid.f (a0 : Int) : Option (Bool) := if a0 ≥ 0 then ((cents_In.f a0).bind fun t101 => (some t101)) else (some false)
set_option maxHeartbeats 8000000 in
set_option maxRecDepth 100000 in
theorem line_paid.calls (a0 : Int) (r : Bool) (w : World) (h : line_paid.f a0 = some r) :
    Calls Try.prog 114 #[.int .i64 a0] w fun e w' => e = .returned (.bool r) ∧ Drawn0 w w' := by
  have H : (if a0 ≥ 0 then ((cents_In.f a0).bind fun t101 => (some t101)) else (some false)) = some r := h
  clear h
  by_cases c2 : a0 ≥ 0
  · rw [if_pos c2] at H
    have c2b0 : decide (0 ≤ a0) = true := zFq c2; clear c2; replace H := Option.bind_eq_some_iff.mp H; obtain ⟨t101, A30, H⟩ := H; try dsimp only at H
    have A3 := zA A30; clear A30; obtain rfl := zKq H; go_enter Try.func114, Try.ntmps114; go_wp2_with (first | (go_at_call 31; (with_reducible refine (cents_In.calls a0 t101 _ A3.out).mono ?_); rintro e w' ⟨rfl, ⟨nd, rfl⟩⟩)); go_ret; exact ⟨by first | rfl | (simp; done) | (simp [*]; done), by repeat (first | exact Drawn0.refl _ | apply Drawn0.step)⟩
  rw [if_neg c2] at H
  have c2b0 : decide (0 ≤ a0) = false := zGq c2
  clear c2
  obtain rfl := zKq H
  go_enter Try.func114, Try.ntmps114
  go_wp2
  go_ret
  exact ⟨by first | rfl | (simp; done) | (simp [*]; done), by repeat (first | exact Drawn0.refl _ | apply Drawn0.step)⟩
def line_price_may.f (a0_0 : Int) (a0_1 : Int) (a0_2 : Int) (a0_3 : Int) (l0_4 : List ByteArray) : Option (Bool) := (line_paid.f a0_1).bind fun t102 => (if t102 = true then ((line_paid.f a0_2).bind fun t103 => (if t103 = true then ((line_paid.f a0_3).bind fun t104 => (if t104 = true then (if a0_2 ≤ a0_1 then ((cents_In.f (wrap64 (a0_2 + a0_3))).bind fun t105 => (some t105)) else (some false)) else (some false))) else (some false))) else (some false))
set_option maxHeartbeats 8000000 in
set_option maxRecDepth 100000 in
theorem line_price_may.calls (a0_0 : Int) (a0_1 : Int) (a0_2 : Int) (a0_3 : Int) (A0_4 : Option Addr) (c0_4 : Nat) (l0_4 : List ByteArray) (r : Bool) (w : World) (hr0_4 : Kd.C Kd.string w A0_4 l0_4.length l0_4) (hc0_4 : l0_4.length ≤ c0_4) (h : line_price_may.f a0_0 a0_1 a0_2 a0_3 l0_4 = some r) :
    Calls Try.prog 118 #[.agg #[.int .i64 a0_0, .int .i64 a0_1, .int .i64 a0_2, .int .i64 a0_3, .slice A0_4 l0_4.length c0_4]] w fun e w' => e = .returned (.bool r) ∧ Below w.heap.size w w' := by
  have hu136 := Try.underlying136
  have HR0_4 := zA hr0_4
  have HC0_4 := zA hc0_4
  clear hr0_4 hc0_4
  have HB := zA (Below.refl w.heap.size w)
  have H : ((line_paid.f a0_1).bind fun t102 => (if t102 = true then ((line_paid.f a0_2).bind fun t103 => (if t103 = true then ((line_paid.f a0_3).bind fun t104 => (if t104 = true then (if a0_2 ≤ a0_1 then ((cents_In.f (wrap64 (a0_2 + a0_3))).bind fun t105 => (some t105)) else (some false)) else (some false))) else (some false))) else (some false))) = some r := h
  clear h
  replace H := Option.bind_eq_some_iff.mp H
  obtain ⟨t102, A20, H⟩ := H
  try dsimp only at H
  have A2 := zA A20
  clear A20
  by_cases c3 : t102 = true
  · subst c3
    have H1 : ((line_paid.f a0_2).bind fun t103 => (if t103 = true then ((line_paid.f a0_3).bind fun t104 => (if t104 = true then (if a0_2 ≤ a0_1 then ((cents_In.f (wrap64 (a0_2 + a0_3))).bind fun t105 => (some t105)) else (some false)) else (some false))) else (some false))) = some r := by first | (rw [if_pos rfl] at H; exact H) | rfl
    clear H; have H := H1; clear H1; replace H := Option.bind_eq_some_iff.mp H; obtain ⟨t103, A40, H⟩ := H; try dsimp only at H
    have A4 := zA A40; clear A40; by_cases c5 : t103 = true
    · subst c5
      have H1 : ((line_paid.f a0_3).bind fun t104 => (if t104 = true then (if a0_2 ≤ a0_1 then ((cents_In.f (wrap64 (a0_2 + a0_3))).bind fun t105 => (some t105)) else (some false)) else (some false))) = some r := by first | (rw [if_pos rfl] at H; exact H) | rfl
      clear H; have H := H1; clear H1; replace H := Option.bind_eq_some_iff.mp H; obtain ⟨t104, A60, H⟩ := H; try dsimp only at H
      have A6 := zA A60; clear A60; by_cases c7 : t104 = true
      · subst c7
        have H1 : (if a0_2 ≤ a0_1 then ((cents_In.f (wrap64 (a0_2 + a0_3))).bind fun t105 => (some t105)) else (some false)) = some r := by first | (rw [if_pos rfl] at H; exact H) | rfl
        clear H; have H := H1; clear H1; by_cases c8 : a0_2 ≤ a0_1
        · rw [if_pos c8] at H
          have c8b0 : decide (a0_2 ≤ a0_1) = true := zFq c8; clear c8; replace H := Option.bind_eq_some_iff.mp H; obtain ⟨t105, A90, H⟩ := H; try dsimp only at H
          have A9 := zA A90; clear A90; obtain rfl := zKq H; go_enter Try.func118, Try.ntmps118; go_wp2_with (first | ((with_reducible refine gate_dst (N := 1) rfl ?_); refine box_event qr (N := 1) qr (cs := #[.int .i64 a0_0, .int .i64 a0_1, .int .i64 a0_2, .int .i64 a0_3, .slice A0_4 l0_4.length c0_4]) (t := 136) qg ?_; intro gb101 hg w10 hbox hb; have n0_ := zA (zV qB hb); have n1_ := zA (hbox); have n2_ := zA ((qS : w.heap.size ≤ gb101)); have n3_ := zA ((qS : w.heap.size ≤ gb101)); clear HB; have HB := n0_; have BK101 := n1_; have GW101 := n2_; have GE101 := n3_; clear n0_ n1_ n2_ n3_ hb hbox hg; obtain ⟨_, _, _, _, _, _, _, _, _, _⟩ := qc5f BK101.out) | ((with_reducible refine zJq (f := 114) rfl ?_); refine goesL_ (some 5) rfl rfl Try.func114 (by kernel_rfl) rfl #[.int .i64 a0_1] rfl qG ?_; (with_reducible refine (line_paid.calls a0_1 true _ A2.out).mono ?_); rintro e w' ⟨rfl, ⟨nd, rfl⟩⟩; refine ⟨_, rfl, ?_⟩) | (go_at_call 114; (with_reducible refine (line_paid.calls a0_2 true _ A4.out).mono ?_); rintro e w' ⟨rfl, ⟨nd, rfl⟩⟩) | (go_at_call 114; (with_reducible refine (line_paid.calls a0_3 true _ A6.out).mono ?_); rintro e w' ⟨rfl, ⟨nd, rfl⟩⟩) | (go_at_call 31; (with_reducible refine (cents_In.calls (wrap64 (a0_2 + a0_3)) t105 _ A9.out).mono ?_); rintro e w' ⟨rfl, ⟨nd, rfl⟩⟩)); go_ret; exact ⟨qE, qB⟩
        rw [if_neg c8] at H; have c8b0 : decide (a0_2 ≤ a0_1) = false := zGq c8; clear c8; obtain rfl := zKq H; go_enter Try.func118, Try.ntmps118; go_wp2_with (first | ((with_reducible refine gate_dst (N := 1) rfl ?_); refine box_event qr (N := 1) qr (cs := #[.int .i64 a0_0, .int .i64 a0_1, .int .i64 a0_2, .int .i64 a0_3, .slice A0_4 l0_4.length c0_4]) (t := 136) qg ?_; intro gb101 hg w12 hbox hb; have n0_ := zA (zV qB hb); have n1_ := zA (hbox); have n2_ := zA ((qS : w.heap.size ≤ gb101)); have n3_ := zA ((qS : w.heap.size ≤ gb101)); clear HB; have HB := n0_; have BK101 := n1_; have GW101 := n2_; have GE101 := n3_; clear n0_ n1_ n2_ n3_ hb hbox hg; obtain ⟨_, _, _, _, _, _, _, _, _, _⟩ := qc5f BK101.out) | ((with_reducible refine zJq (f := 114) rfl ?_); refine goesL_ (some 5) rfl rfl Try.func114 (by kernel_rfl) rfl #[.int .i64 a0_1] rfl qG ?_; (with_reducible refine (line_paid.calls a0_1 true _ A2.out).mono ?_); rintro e w' ⟨rfl, ⟨nd, rfl⟩⟩; refine ⟨_, rfl, ?_⟩) | (go_at_call 114; (with_reducible refine (line_paid.calls a0_2 true _ A4.out).mono ?_); rintro e w' ⟨rfl, ⟨nd, rfl⟩⟩) | (go_at_call 114; (with_reducible refine (line_paid.calls a0_3 true _ A6.out).mono ?_); rintro e w' ⟨rfl, ⟨nd, rfl⟩⟩)); go_ret; exact ⟨qE, qB⟩
      replace c7 := Bool.eq_false_iff.mpr c7; subst c7; have H1 : (some false) = some r := by first | (rw [if_neg (show ¬ (false = true) by decide)] at H; exact H) | rfl
      clear H; have H := H1; clear H1; obtain rfl := zKq H; go_enter Try.func118, Try.ntmps118; go_wp2_with (first | ((with_reducible refine gate_dst (N := 1) rfl ?_); refine box_event qr (N := 1) qr (cs := #[.int .i64 a0_0, .int .i64 a0_1, .int .i64 a0_2, .int .i64 a0_3, .slice A0_4 l0_4.length c0_4]) (t := 136) qg ?_; intro gb101 hg w14 hbox hb; have n0_ := zA (zV qB hb); have n1_ := zA (hbox); have n2_ := zA ((qS : w.heap.size ≤ gb101)); have n3_ := zA ((qS : w.heap.size ≤ gb101)); clear HB; have HB := n0_; have BK101 := n1_; have GW101 := n2_; have GE101 := n3_; clear n0_ n1_ n2_ n3_ hb hbox hg; obtain ⟨_, _, _, _, _, _, _, _, _, _⟩ := qc5f BK101.out) | ((with_reducible refine zJq (f := 114) rfl ?_); refine goesL_ (some 5) rfl rfl Try.func114 (by kernel_rfl) rfl #[.int .i64 a0_1] rfl qG ?_; (with_reducible refine (line_paid.calls a0_1 true _ A2.out).mono ?_); rintro e w' ⟨rfl, ⟨nd, rfl⟩⟩; refine ⟨_, rfl, ?_⟩) | (go_at_call 114; (with_reducible refine (line_paid.calls a0_2 true _ A4.out).mono ?_); rintro e w' ⟨rfl, ⟨nd, rfl⟩⟩) | (go_at_call 114; (with_reducible refine (line_paid.calls a0_3 false _ A6.out).mono ?_); rintro e w' ⟨rfl, ⟨nd, rfl⟩⟩)); go_ret; exact ⟨qE, qB⟩
    replace c5 := Bool.eq_false_iff.mpr c5; subst c5; have H1 : (some false) = some r := by first | (rw [if_neg (show ¬ (false = true) by decide)] at H; exact H) | rfl
    clear H; have H := H1; clear H1; obtain rfl := zKq H; go_enter Try.func118, Try.ntmps118; go_wp2_with (first | ((with_reducible refine gate_dst (N := 1) rfl ?_); refine box_event qr (N := 1) qr (cs := #[.int .i64 a0_0, .int .i64 a0_1, .int .i64 a0_2, .int .i64 a0_3, .slice A0_4 l0_4.length c0_4]) (t := 136) qg ?_; intro gb101 hg w16 hbox hb; have n0_ := zA (zV qB hb); have n1_ := zA (hbox); have n2_ := zA ((qS : w.heap.size ≤ gb101)); have n3_ := zA ((qS : w.heap.size ≤ gb101)); clear HB; have HB := n0_; have BK101 := n1_; have GW101 := n2_; have GE101 := n3_; clear n0_ n1_ n2_ n3_ hb hbox hg; obtain ⟨_, _, _, _, _, _, _, _, _, _⟩ := qc5f BK101.out) | ((with_reducible refine zJq (f := 114) rfl ?_); refine goesL_ (some 5) rfl rfl Try.func114 (by kernel_rfl) rfl #[.int .i64 a0_1] rfl qG ?_; (with_reducible refine (line_paid.calls a0_1 true _ A2.out).mono ?_); rintro e w' ⟨rfl, ⟨nd, rfl⟩⟩; refine ⟨_, rfl, ?_⟩) | (go_at_call 114; (with_reducible refine (line_paid.calls a0_2 false _ A4.out).mono ?_); rintro e w' ⟨rfl, ⟨nd, rfl⟩⟩)); go_ret; exact ⟨qE, qB⟩
  replace c3 := Bool.eq_false_iff.mpr c3
  subst c3
  have H1 : (some false) = some r := by first | (rw [if_neg (show ¬ (false = true) by decide)] at H; exact H) | rfl
  clear H
  have H := H1
  clear H1
  obtain rfl := zKq H
  go_enter Try.func118, Try.ntmps118
  go_wp2_with (first | ((with_reducible refine gate_dst (N := 1) rfl ?_); refine box_event qr (N := 1) qr (cs := #[.int .i64 a0_0, .int .i64 a0_1, .int .i64 a0_2, .int .i64 a0_3, .slice A0_4 l0_4.length c0_4]) (t := 136) qg ?_; intro gb101 hg w18 hbox hb; have n0_ := zA (zV qB hb); have n1_ := zA (hbox); have n2_ := zA ((qS : w.heap.size ≤ gb101)); have n3_ := zA ((qS : w.heap.size ≤ gb101)); clear HB; have HB := n0_; have BK101 := n1_; have GW101 := n2_; have GE101 := n3_; clear n0_ n1_ n2_ n3_ hb hbox hg; obtain ⟨_, _, _, _, _, _, _, _, _, _⟩ := qc5f BK101.out) | ((with_reducible refine zJq (f := 114) rfl ?_); refine goesL_ (some 5) rfl rfl Try.func114 (by kernel_rfl) rfl #[.int .i64 a0_1] rfl qG ?_; (with_reducible refine (line_paid.calls a0_1 false _ A2.out).mono ?_); rintro e w' ⟨rfl, ⟨nd, rfl⟩⟩; refine ⟨_, rfl, ?_⟩))
  go_ret
  exact ⟨qE, qB⟩
def serial_folded.f (a0 : Int) : Option (Int) := if a0 ≥ 97 then (if a0 ≤ 122 then (some (wrap32 ((wrap32 (a0 - 97)) + 65))) else (some a0)) else (some a0)
set_option maxHeartbeats 8000000 in
set_option maxRecDepth 100000 in
theorem serial_folded.calls (a0 : Int) (r : Int) (w : World) (h : serial_folded.f a0 = some r) :
    Calls Try.prog 160 #[.int .i32 a0] w fun e w' => e = .returned (.int .i32 r) ∧ Drawn0 w w' := by
  have H : (if a0 ≥ 97 then (if a0 ≤ 122 then (some (wrap32 ((wrap32 (a0 - 97)) + 65))) else (some a0)) else (some a0)) = some r := h
  clear h
  by_cases c2 : a0 ≥ 97
  · rw [if_pos c2] at H
    have c2b0 : decide (97 ≤ a0) = true := zFq c2; clear c2; by_cases c3 : a0 ≤ 122
    · rw [if_pos c3] at H
      have c3b0 : decide (a0 ≤ 122) = true := zFq c3; clear c3; obtain rfl := zKq H; go_enter Try.func160, Try.ntmps160; go_wp2; go_ret; exact ⟨by first | rfl | (simp; done) | (simp [*]; done), by repeat (first | exact Drawn0.refl _ | apply Drawn0.step)⟩
    rw [if_neg c3] at H; have c3b0 : decide (a0 ≤ 122) = false := zGq c3; clear c3; obtain rfl := zKq H; go_enter Try.func160, Try.ntmps160; go_wp2; go_ret; exact ⟨by first | rfl | (simp; done) | (simp [*]; done), by repeat (first | exact Drawn0.refl _ | apply Drawn0.step)⟩
  rw [if_neg c2] at H
  have c2b0 : decide (97 ≤ a0) = false := zGq c2
  clear c2
  obtain rfl := zKq H
  go_enter Try.func160, Try.ntmps160
  go_wp2
  go_ret
  exact ⟨by first | rfl | (simp; done) | (simp [*]; done), by repeat (first | exact Drawn0.refl _ | apply Drawn0.step)⟩
mutual
def serial_Class.j0 : Nat → Int → Bool → Option (Int)
  | 0, _, _ => none
  | k + 1, x0, x3 => if x3 = true then (some 1) else (if x0 ≥ 48 then (serial_Class.j1 k x0 (decide (x0 ≤ 57))) else (serial_Class.j1 k x0 false))
def serial_Class.j1 : Nat → Int → Bool → Option (Int)
  | 0, _, _ => none
  | k + 1, x0, x18 => if x18 = true then (some 2) else (if x0 = 45 then (some 3) else (some 0))
end
def serial_Class.f (k : Nat) (a0 : Int) : Option (Int) := if a0 ≥ 97 then (if a0 ≤ 122 then (serial_Class.j0 k a0 true) else (if a0 ≥ 65 then (serial_Class.j0 k a0 (decide (a0 ≤ 90))) else (serial_Class.j0 k a0 false))) else (if a0 ≥ 65 then (serial_Class.j0 k a0 (decide (a0 ≤ 90))) else (serial_Class.j0 k a0 false))
set_option maxHeartbeats 8000000 in
set_option maxRecDepth 100000 in
theorem serial_Class.calls (k : Nat) (a0 : Int) (r : Int) (w : World) (h : serial_Class.f k a0 = some r) :
    Calls Try.prog 166 #[.int .i32 a0] w fun e w' => e = .returned (.int .i64 r) ∧ Drawn0 w w' := by
  have H : (if a0 ≥ 97 then (if a0 ≤ 122 then (serial_Class.j0 k a0 true) else (if a0 ≥ 65 then (serial_Class.j0 k a0 (decide (a0 ≤ 90))) else (serial_Class.j0 k a0 false))) else (if a0 ≥ 65 then (serial_Class.j0 k a0 (decide (a0 ≤ 90))) else (serial_Class.j0 k a0 false))) = some r := h
  clear h
  have HC2 := zA H
  clear H
  go_enter Try.func166, Try.ntmps166
  go_upto_region 1 with (fail)
  go_cut [3] (fun v3 wc => ∃ (kq : Nat) (x3_1 : Bool), v3 = .bool x3_1 ∧ Aside0 (serial_Class.j0 kq a0 x3_1 = some r) ∧ Aside0 (kq ≤ k) ∧ Drawn0 w wc)
  case first =>
    have H := HC2.out; clear HC2; by_cases c3 : a0 ≥ 97
    · rw [if_pos c3] at H
      have c3b0 : decide (97 ≤ a0) = true := zFq c3; clear c3; (first | rw [c3b0] | (simp only [i64_w, i32_w]; rw [c3b0]) | skip)
      by_cases c4 : a0 ≤ 122
      · rw [if_pos c4] at H
        have c4b0 : decide (a0 ≤ 122) = true := zFq c4; clear c4; have H' := zA H; clear H; go_wp2; go_meet
        case rel => exact ⟨_, (true), (by first | rfl | (simp; done) | (simp [*]; done)), H', ⟨by first | omega | exact Nat.le_refl _⟩, by repeat (first | exact Drawn0.refl _ | apply Drawn0.step)⟩
      rw [if_neg c4] at H; have c4b0 : decide (a0 ≤ 122) = false := zGq c4; clear c4; by_cases c5 : a0 ≥ 65
      · rw [if_pos c5] at H
        have c5b0 : decide (65 ≤ a0) = true := zFq c5; clear c5; have H' := zA H; clear H; go_wp2; go_meet
        case rel => exact ⟨_, (decide (a0 ≤ 90)), (by first | rfl | (simp; done) | (simp [*]; done)), H', ⟨by first | omega | exact Nat.le_refl _⟩, by repeat (first | exact Drawn0.refl _ | apply Drawn0.step)⟩
      rw [if_neg c5] at H; have c5b0 : decide (65 ≤ a0) = false := zGq c5; clear c5; have H' := zA H; clear H; go_wp2; go_meet
      case rel => exact ⟨_, (false), (by first | rfl | (simp; done) | (simp [*]; done)), H', ⟨by first | omega | exact Nat.le_refl _⟩, by repeat (first | exact Drawn0.refl _ | apply Drawn0.step)⟩
    rw [if_neg c3] at H; have c3b0 : decide (97 ≤ a0) = false := zGq c3; clear c3; (first | rw [c3b0] | (simp only [i64_w, i32_w]; rw [c3b0]) | skip)
    by_cases c6 : a0 ≥ 65
    · rw [if_pos c6] at H
      have c6b0 : decide (65 ≤ a0) = true := zFq c6; clear c6; have H' := zA H; clear H; go_wp2; go_meet
      case rel => exact ⟨_, (decide (a0 ≤ 90)), (by first | rfl | (simp; done) | (simp [*]; done)), H', ⟨by first | omega | exact Nat.le_refl _⟩, by repeat (first | exact Drawn0.refl _ | apply Drawn0.step)⟩
    rw [if_neg c6] at H; have c6b0 : decide (65 ≤ a0) = false := zGq c6; clear c6; have H' := zA H; clear H; go_wp2; go_meet
    case rel => exact ⟨_, (false), (by first | rfl | (simp; done) | (simp [*]; done)), H', ⟨by first | omega | exact Nat.le_refl _⟩, by repeat (first | exact Drawn0.refl _ | apply Drawn0.step)⟩
  case rest =>
    clear HC2; try clear c1
    try clear p2
    try clear c3
    try clear c3b0
    try clear c4
    try clear c4b0
    try clear c5
    try clear c5b0
    try clear c6
    try clear c6b0
    obtain ⟨kq, x3_1, rfl, HA, HJ1, ⟨mc1, rfl⟩⟩ := hcut; cases kq with
    | zero => exact absurd HA.out (by simp [serial_Class.j0])
    | succ kj1 =>
      have H := HA.out; clear HA; simp only [serial_Class.j0] at H; by_cases c7 : x3_1 = true
      · subst c7
        have H1 : (some 1) = some r := by first | (rw [if_pos rfl] at H; exact H) | rfl
        clear H; have H := H1; clear H1; obtain rfl := zKq H; go_wp2; go_ret; exact ⟨by first | rfl | (simp; done) | (simp [*]; done), by repeat (first | exact Drawn0.refl _ | apply Drawn0.step)⟩
      replace c7 := Bool.eq_false_iff.mpr c7; subst c7; have H1 : (if a0 ≥ 48 then (serial_Class.j1 kj1 a0 (decide (a0 ≤ 57))) else (serial_Class.j1 kj1 a0 false)) = some r := by first | (rw [if_neg (show ¬ (false = true) by decide)] at H; exact H) | rfl
      clear H; have H := H1; clear H1; have HC8 := zA H; clear H; go_upto_region 3 with (fail)
      go_cut [18] (fun v18 wc => ∃ (kq : Nat) (x18_7 : Bool), v18 = .bool x18_7 ∧ Aside0 (serial_Class.j1 kq a0 x18_7 = some r) ∧ Aside0 (kq ≤ kj1) ∧ Drawn0 w wc)
      case first =>
        have H := HC8.out; clear HC8; by_cases c9 : a0 ≥ 48
        · rw [if_pos c9] at H
          have c9b0 : decide (48 ≤ a0) = true := zFq c9; clear c9; (first | rw [c9b0] | (simp only [i64_w, i32_w]; rw [c9b0]) | skip)
          have H' := zA H; clear H; go_wp2; go_meet
          case rel => exact ⟨_, (decide (a0 ≤ 57)), (by first | rfl | (simp; done) | (simp [*]; done)), H', ⟨by have := HJ1.out; first | omega | exact Nat.le_refl _⟩, by repeat (first | exact Drawn0.refl _ | apply Drawn0.step)⟩
        rw [if_neg c9] at H; have c9b0 : decide (48 ≤ a0) = false := zGq c9; clear c9; (first | rw [c9b0] | (simp only [i64_w, i32_w]; rw [c9b0]) | skip)
        have H' := zA H; clear H; go_wp2; go_meet
        case rel => exact ⟨_, (false), (by first | rfl | (simp; done) | (simp [*]; done)), H', ⟨by have := HJ1.out; first | omega | exact Nat.le_refl _⟩, by repeat (first | exact Drawn0.refl _ | apply Drawn0.step)⟩
      case rest =>
        clear HC8; try clear c1
        try clear p2
        try clear c3
        try clear c3b0
        try clear c4
        try clear c4b0
        try clear c5
        try clear c5b0
        try clear c6
        try clear c6b0
        try clear c7
        try clear c9
        try clear c9b0
        try clear p2
        obtain ⟨kq, x18_7, rfl, HA, HJ7, ⟨mc7, rfl⟩⟩ := hcut; cases kq with
        | zero => exact absurd HA.out (by simp [serial_Class.j1])
        | succ kj7 =>
          have H := HA.out; clear HA; simp only [serial_Class.j1] at H; by_cases c10 : x18_7 = true
          · subst c10
            have H1 : (some 2) = some r := by first | (rw [if_pos rfl] at H; exact H) | rfl
            clear H; have H := H1; clear H1; obtain rfl := zKq H; go_wp2; go_ret; exact ⟨by first | rfl | (simp; done) | (simp [*]; done), by repeat (first | exact Drawn0.refl _ | apply Drawn0.step)⟩
          replace c10 := Bool.eq_false_iff.mpr c10; subst c10; have H1 : (if a0 = 45 then (some 3) else (some 0)) = some r := by first | (rw [if_neg (show ¬ (false = true) by decide)] at H; exact H) | rfl
          clear H; have H := H1; clear H1; by_cases c11 : a0 = 45
          · rw [if_pos c11] at H
            have c11b0 : (a0 == 45) = true := beq_iff_eq.mpr c11; have c11b1 : (a0 != 45) = false := bne_eq_false_iff_eq.mpr c11; clear c11; obtain rfl := zKq H; go_wp2; go_ret; exact ⟨by first | rfl | (simp; done) | (simp [*]; done), by repeat (first | exact Drawn0.refl _ | apply Drawn0.step)⟩
          rw [if_neg c11] at H; have c11b0 : (a0 == 45) = false := beq_eq_false_iff_ne.mpr c11; have c11b1 : (a0 != 45) = true := bne_iff_ne.mpr c11; obtain rfl := zKq H; go_wp2; go_ret; exact ⟨by first | rfl | (simp; done) | (simp [*]; done), by repeat (first | exact Drawn0.refl _ | apply Drawn0.step)⟩
end Go.Proofs.Ytefhljhpcpajgaa.F
set_option linter.unusedVariables false
set_option linter.unusedSimpArgs false
namespace Go.Proofs.YtefhljhpcpajgaaX
open Go.RowKit
def clsI (r : Int) : Int := if (97 ≤ r ∧ r ≤ 122) ∨ (65 ≤ r ∧ r ≤ 90) then 1 else if 48 ≤ r ∧ r ≤ 57 then 2 else if r = 45 then 3 else 0
def upI (r : Int) : Int := if 97 ≤ r ∧ r ≤ 122 then r - 32 else r
def mayB (c last : Int) : Bool := c != 0 && (c != 3 || last != 3)
def okL : Int → List Int → Bool
  | _, [] => true
  | last, r :: rs => mayB (clsI r) last && okL (clsI r) rs
def runes (l : List UInt8) : List Int := l.map fun b => (b.toNat : Int)
def foldS (s : ByteArray) : ByteArray × Int :=
  if s.size < 1 ∨ s.size > 16 ∨ s.data.toList.getLast? = some 45 ∨ okL 3 (runes s.data.toList) = false then (⟨#[]⟩, 9)
  else (⟨((runes s.data.toList).map fun r => UInt8.ofNat (upI r).toNat).toArray⟩, 0)
def checkS (s : ByteArray) : Int := if (foldS s).2 = 0 ∧ (foldS s).1 = s then 0 else 9
theorem okL_bad {last r : Int} {rs : List Int} (h : mayB (clsI r) last = false) : okL last (r :: rs) = false := by simp [okL, h]
theorem okL_go {last r : Int} {rs : List Int} (h : mayB (clsI r) last = true) : okL last (r :: rs) = okL (clsI r) rs := by simp [okL, h]
theorem cls_high {r : Int} (h : 128 ≤ r) : clsI r = 0 := by unfold clsI; rw [if_neg (by omega), if_neg (by omega), if_neg (by omega)]
theorem mayB_zero {last : Int} : mayB 0 last = false := by simp [mayB]
theorem decode_high' (s : ByteArray) (i : Nat) (h : ¬ (s.get! i).toNat < 128) : 128 ≤ (Utf8.decode s i).1 := by
  unfold Utf8.decode
  simp only [Nat.add_zero]
  rw [if_neg (by omega)]
  have he : Utf8.runeError = 65533 := rfl
  (repeat' split) <;> simp_all <;> omega
theorem size_list (s : ByteArray) : s.data.toList.length = s.size := by rw [Array.length_toList]; rfl
theorem runes_length (l : List UInt8) : (runes l).length = l.length := by simp [runes]
theorem runes_drop (s : ByteArray) (i : Nat) (h : i < s.size) : (runes s.data.toList).drop i = ((s[i]'h).toNat : Int) :: (runes s.data.toList).drop (i + 1) := by
  rw [List.drop_eq_getElem_cons (by rw [runes_length, size_list]; exact h)]
  congr 1
  simp [runes]; rfl
theorem runes_take (s : ByteArray) (i : Nat) (h : i < s.size) : (runes s.data.toList).take (i + 1) = (runes s.data.toList).take i ++ [((s[i]'h).toNat : Int)] := by
  rw [List.take_succ_eq_append_getElem (by rw [runes_length, size_list]; exact h)]
  congr 1
  simp [runes]; rfl
theorem encode_ascii {n : Int} (h0 : 0 ≤ n) (h : n < 128) : Utf8.encode n = ⟨#[UInt8.ofNat n.toNat]⟩ := by
  unfold Utf8.encode
  have hv : Utf8.valid n = true := by simp [Utf8.valid]; omega
  simp only [hv, if_true]
  rw [if_pos (by omega)]
theorem foldl_ascii (ns : List Int) (h : ∀ n ∈ ns, 0 ≤ n ∧ n < 128) : ∀ s : ByteArray, ns.foldl (fun r n => r ++ Utf8.encode n) s = s ++ ⟨(ns.map fun n => UInt8.ofNat n.toNat).toArray⟩ := by
  induction ns with
  | nil => intro s; simp only [List.foldl_nil, List.map_nil]; exact (ByteArray.append_empty).symm
  | cons n ns ih =>
    intro s
    obtain ⟨h0, h1⟩ := h n List.mem_cons_self
    simp only [List.foldl_cons]
    rw [ih (fun m hm => h m (List.mem_cons_of_mem _ hm)), encode_ascii h0 h1]
    ext1
    simp [ByteArray.data_append]
theorem runes_ascii (ns : List Int) (h : ∀ n ∈ ns, 0 ≤ n ∧ n < 128) : runesBytes ns = ⟨(ns.map fun n => UInt8.ofNat n.toNat).toArray⟩ := by
  unfold runesBytes
  rw [foldl_ascii ns h]
  ext1
  simp [ByteArray.data_append]
end Go.Proofs.YtefhljhpcpajgaaX
set_option linter.unusedVariables false
namespace Go.Proofs
open Go.Shelf
def Try.laysSlF20_f155_ren : Go.Shelf.Ren := ⟨fun | 20 => 155 | n => n, fun | 24 => 3 | 22 => 22 | 3 => 3 | 25 => 155 | 4 => 4 | 0 => 0 | n => n, fun | n => n⟩
theorem Try.laysSlF20_f155 : Go.Proofs.SlLaysF.n20 Try.prog Try.laysSlF20_f155_ren := {
  mixed := by kernel_rfl
  f20 := ⟨Try.f155.name, by decide, Try.func155.trans (congrArg some (by kernel_rfl))⟩
  t0 := Try.underlying0
  a0 := Try.isAgg0
  z0 := Try.sizeOf0
  v0 := Try.zeroValue0
  t3 := Try.underlying3
  a3 := Try.isAgg3
  z3 := Try.sizeOf3
  v3 := Try.zeroValue3
  t4 := Try.underlying4
  a4 := Try.isAgg4
  z4 := Try.sizeOf4
  v4 := Try.zeroValue4
  t22 := Try.underlying22
  a22 := Try.isAgg22
  z22 := Try.sizeOf22
  v22 := Try.zeroValue22
  a24 := Try.isAgg3
  z24 := Try.sizeOf3
  t25 := Try.underlying155
  a25 := Try.isAgg155
  z25 := Try.sizeOf155
  v25 := Try.zeroValue155 }
open Go.RowKit Go.Lib Go.Sort in
theorem Try.insertionSortCmpFunc_s {α : Type} [Inhabited α] (enc : α → Value) (cf : α → α → Int) (g : Nat) (cb : Array Value) (blk off cap a b : Nat) (d0 d : Array α) (w0 w : World) (eg : ∀ args w, (callFunc g args).run Try.prog w = .ok (.enter g args) w) (hcmp : CmpLays1 Try.prog g cb enc cf blk off d0.size w0) (R : Row1 enc w0 blk off d0) (hs : d0.size = d.size) (S : SW enc w0 blk off d w) (hab : a ≤ b) (hb : b ≤ d.size) (hsz : d.size < 4611686018427387904) :
    Calls Try.prog 155 #[.slice (some ⟨blk, off, none⟩) d.size cap, .int .i64 a, .int .i64 b, .func (.func g) #[] cb] w fun e w' => e = .returned (.tuple #[]) ∧ SW enc w0 blk off (Sort.insertionSort (ltOf cf) d a b) w' := Any.insertionSortCmpFunc_s Try.laysSlF20_f155 enc cf g cb blk off cap a b d0 d w0 w eg hcmp R hs S hab hb hsz
def Try.lays100_ren : Go.Shelf.Ren := ⟨fun | 100 => 158 | 207 => 164 | n => n, fun | 9 => 9 | 4 => 4 | 3 => 3 | n => n, fun | n => n⟩
theorem Try.lays100 : Go.Proofs.Lays.n100 Try.prog Try.lays100_ren := {
  mixed := by kernel_rfl
  f100 := Try.func158.trans (congrArg some (by kernel_rfl))
  f207 := Try.func164.trans (congrArg some (by kernel_rfl))
  t3 := Try.underlying3
  a3 := Try.isAgg3
  z3 := Try.sizeOf3
  v3 := Try.zeroValue3
  t4 := Try.underlying4
  a4 := Try.isAgg4
  z4 := Try.sizeOf4
  v4 := Try.zeroValue4
  t9 := Try.underlying9
  a9 := Try.isAgg9
  z9 := Try.sizeOf9
  v9 := Try.zeroValue9 }
open Go.RowKit Go.Lib in
theorem Try.strings_HasSuffix (s p : ByteArray) (w : World) (hs : s.size ≤ 9223372036854775807) :
    Calls Try.prog 158 #[.string s, .string p] w fun e w' => e = .returned (.bool (Lib.hasSuffix s.data.toList p.data.toList)) ∧ w' = w := Any.strings_HasSuffix Try.lays100 s p w hs
def Try.lays195_ren : Go.Shelf.Ren := ⟨fun | 195 => 157 | n => n, fun | 9 => 9 | 3 => 3 | 0 => 0 | 4 => 4 | n => n, fun | n => n⟩
theorem Try.lays195 : Go.Proofs.Lays.n195 Try.prog Try.lays195_ren := {
  mixed := by kernel_rfl
  f195 := Try.func157.trans (congrArg some (by kernel_rfl))
  t0 := Try.underlying0
  a0 := Try.isAgg0
  z0 := Try.sizeOf0
  v0 := Try.zeroValue0
  t3 := Try.underlying3
  a3 := Try.isAgg3
  z3 := Try.sizeOf3
  v3 := Try.zeroValue3
  t4 := Try.underlying4
  a4 := Try.isAgg4
  z4 := Try.sizeOf4
  v4 := Try.zeroValue4
  t9 := Try.underlying9
  a9 := Try.isAgg9
  z9 := Try.sizeOf9
  v9 := Try.zeroValue9 }
open Go.RowKit in
theorem Try.utf8_RuneCountInString (s : ByteArray) (w : World) (hs : s.size < 9223372036854775807) :
    Calls Try.prog 157 #[.string s] w fun e w' => e = .returned (.int .i64 (Lib.runeCount s)) ∧ ∃ pos, w' = w.iter s pos := Any.utf8_RuneCountInString Try.lays195 s w hs
end Go.Proofs
namespace Go.Proofs.Ytefhljhpcpajgaa.F
open Go.RowKit Go.Proofs.YtefhljhpcpajgaaX Go.Proofs.YtefhljhpcpajgaaW.PrintWords Go.Proofs.YtefhljhpcpajgaaW.PrintLast Go.Proofs.YtefhljhpcpajgaaW.PrintMore
attribute [local go_sem] max2_int min2_int max_two min_two max_three min_three max_four min_four   
attribute [local go_sem high] str_geq str_leq str_gtr
set_option linter.unusedVariables false
set_option linter.unusedSimpArgs false
set_option maxHeartbeats 1000000 in
theorem stands1 (k : Nat) (r c last : Int) (b : Nat) (w : World) (hc : serial_Class.f k r = some c) (hb : w.heap[b]? = some (.cells #[.int .i64 last] 3 (0, 0))) :
    Calls Try.prog 165 #[.int .i32 r, .pointer (some ⟨b, 0, none⟩)] w fun e w' => e = .returned (.bool (mayB c last)) ∧ ∃ n, w' = (w.drewN n).setCell ⟨b, 0, none⟩ (.int .i64 c) := by
  have HC := zA hc
  have h0 : w.cell? ⟨b, 0, none⟩ = some (.int .i64 last) := by simp [World.cell?, hb]
  have hf : w.frozen? ⟨b, 0, none⟩ = false := by simp [World.frozen?, hb]
  clear hc hb
  by_cases c0 : c = 0
  · subst c0
    go_enter Try.func165, Try.ntmps165; go_wp2_with (go_at_call 166; refine (serial_Class.calls k _ _ _ HC.out).mono ?_; rintro e w' ⟨rfl, ⟨nd, rfl⟩⟩); go_ret; exact ⟨by simp [mayB], nd, by simp⟩
  have e0 : (c != 0) = true := bne_iff_ne.2 c0
  by_cases c3 : c = 3
  · subst c3
    clear c0 e0; by_cases l3 : last = 3
    · subst l3
      go_enter Try.func165, Try.ntmps165; go_wp2_with (go_at_call 166; refine (serial_Class.calls k _ _ _ HC.out).mono ?_; rintro e w' ⟨rfl, ⟨nd, rfl⟩⟩); go_ret; exact ⟨by simp [mayB], nd, by simp⟩
    have e1 : (last != 3) = true := bne_iff_ne.2 l3; clear l3; go_enter Try.func165, Try.ntmps165; go_wp2_with (go_at_call 166; refine (serial_Class.calls k _ _ _ HC.out).mono ?_; rintro e w' ⟨rfl, ⟨nd, rfl⟩⟩); go_ret; exact ⟨by simp [mayB, e1], nd, by simp⟩
  have e1 : (c != 3) = true := bne_iff_ne.2 c3
  clear c0 c3
  go_enter Try.func165, Try.ntmps165
  go_wp2_with (go_at_call 166; refine (serial_Class.calls k _ _ _ HC.out).mono ?_; rintro e w' ⟨rfl, ⟨nd, rfl⟩⟩)
  go_ret
  exact ⟨by simp [mayB, e0, e1], nd, by simp⟩
theorem runeCount_pos (s : ByteArray) (h : 0 < s.size) : 1 ≤ Lib.runeCount s := by
  unfold Lib.runeCount
  obtain ⟨n, hn⟩ : ∃ n, s.size = n + 1 := ⟨s.size - 1, by omega⟩
  rw [hn]
  unfold Lib.runeCountFrom
  rw [if_pos h]; omega
theorem runeCount_step {s : ByteArray} {i : Nat} (h : Lib.runeCountFrom s (s.size - i) i + i = Lib.runeCount s) (hp : i < s.size) (ha : (s[i]'hp).toNat < 128) : Lib.runeCountFrom s (s.size - (i + 1)) (i + 1) + (i + 1) = Lib.runeCount s := by
  rw [show s.size - i = (s.size - (i + 1)) + 1 by omega] at h
  have h2 : Lib.runeCountFrom s (s.size - (i + 1) + 1) i = 1 + Lib.runeCountFrom s (s.size - (i + 1)) (i + 1) := by
    rw [Lib.runeCountFrom, if_pos hp, decode_ascii s i hp ha]
  rw [h2] at h
  omega
theorem suffix_last {l : List UInt8} : Lib.hasSuffix l [45] = true ↔ l.getLast? = some 45 := by
  unfold Lib.hasSuffix
  rw [List.isSuffixOf_iff_suffix]
  constructor
  · rintro ⟨t, rfl⟩; simp
  intro h
  rw [List.getLast?_eq_some_iff] at h
  obtain ⟨t, rfl⟩ := h
  exact ⟨t, rfl⟩
theorem runeCount_ascii (s : ByteArray) (h : ∀ i (hi : i < s.size), (s[i]'hi).toNat < 128) : ∀ (d b pos : Nat), s.size - pos = d → pos ≤ s.size → d ≤ b → Lib.runeCountFrom s b pos = d := by
  intro d
  induction d with
  | zero =>
    intro b pos hd hp hb
    exact Lib.runeCountFrom_end s b pos (by omega)
  | succ d ih =>
    intro b pos hd hp hb
    obtain ⟨b, rfl⟩ : ∃ c, b = c + 1 := ⟨b - 1, by omega⟩
    have hlt : pos < s.size := by omega
    unfold Lib.runeCountFrom
    rw [if_pos hlt, decode_ascii s pos hlt (h pos hlt)]
    show 1 + Lib.runeCountFrom s b (pos + 1) = d + 1
    rw [ih b (pos + 1) (by omega) (by omega) (by omega)]
    omega
theorem okL_all (l : List Int) : ∀ last, okL last l = true → ∀ r ∈ l, r < 128 := by
  induction l with
  | nil => intro _ _ r h; cases h
  | cons a l ih =>
    intro last h r hr
    simp only [okL, Bool.and_eq_true] at h
    rcases List.mem_cons.1 hr with rfl | hr
    · apply Classical.byContradiction
      intro hn
      rw [cls_high (by omega), mayB_zero] at h
      exact absurd h.1 (by decide)
    exact ih _ h.2 r hr
theorem okL_size {s : ByteArray} (h : okL 3 (runes s.data.toList) = true) : Lib.runeCount s = s.size := by
  unfold Lib.runeCount
  refine runeCount_ascii s (fun i hi => ?_) s.size s.size 0 (by omega) (by omega) (Nat.le_refl _)
  have := okL_all _ _ h (((s[i]'hi).toNat : Nat) : Int) (List.mem_map.2 ⟨s[i]'hi, ?_, rfl⟩)
  · omega
  rw [List.mem_iff_getElem]
  exact ⟨i, by rw [size_list]; exact hi, rfl⟩
theorem own_keep {k : IntKind} {e base : Nat} {ok : Nat → Prop} {w w1 : World} {v : Value} {xs : List Int} (h : Kd.R (Kd.int k) e w base ok v xs) (hk : ∀ g, v.ownBlock = some g → w1.heap[g]? = w.heap[g]?) : Kd.R (Kd.int k) e w1 base ok v xs := by
  obtain ⟨h0, inner, ho, hr⟩ := h
  refine ⟨h0, inner, ⟨ho.1, ?_⟩, hr⟩
  rcases ho.2 with hn | ⟨g, cap, cur, hv, hb, hg, rest⟩
  · exact .inl hn
  exact .inr ⟨g, cap, cur, hv, hb, (hk g (by rw [hv]; rfl)).trans hg, rest⟩
theorem infoRune : (Try.prog.info? 21).map (fun i => (i.zero, i.size, i.bytes)) = some (some (.int .i32 0), 1, 4) := by kernel_rfl
theorem class_f (r : Int) : serial_Class.f 20 r = some (clsI r) := by
  unfold serial_Class.f clsI
  simp only [serial_Class.j0, serial_Class.j1]
  (repeat' split) <;> simp_all <;> omega
theorem folded_f {r : Int} (h0 : 0 ≤ r) (h : r < 128) : serial_folded.f r = some (upI r) := by
  unfold serial_folded.f upI wrap32
  (repeat' split) <;> simp_all <;> omega
theorem stands_made (w : World) : Calls Try.prog 159 #[] w fun e w' => e = .returned (.func (.func 165) #[] #[.pointer (some ⟨w.heap.size, 0, none⟩)]) ∧ w' = w.alloc (.cells #[.int .i64 3] 3) := by
  have hmf : ∀ (fn : Fn) (first cap : Array Value) (w : World), (Instr.makeFunc fn first cap).run Try.prog w = .ok (.func fn first cap) w := fun _ _ _ _ => rfl
  go_enter Try.func159, Try.ntmps159
  go_wp2
  go_ret
  exact ⟨rfl, rfl⟩
def serial_Fold.f (s : ByteArray) : Option (ByteArray × Int) := if s.size < 9223372036854775807 then some (foldS s) else none
set_option maxHeartbeats 4000000 in
set_option maxRecDepth 100000 in
theorem serial_Fold.calls (s : ByteArray) (r1 : ByteArray) (r2 : Int) (w : World) (h : serial_Fold.f s = some (r1, r2)) :
    Calls Try.prog 150 #[.string s] w fun e w' => e = .returned (.tuple #[.string r1, .int .i64 r2]) ∧ Below w.heap.size w w' := by
  unfold serial_Fold.f at h
  by_cases hs : s.size < 9223372036854775807
  · rw [if_pos hs] at h
    have H := zA (zKq h); have HS := zA hs; clear h; have hrc := Lib.runeCount_le s; by_cases hbad : Lib.runeCount s < 1 ∨ 16 < Lib.runeCount s
    · have hr : foldS s = (⟨#[]⟩, 9) := by
        unfold foldS
        by_cases hok : okL 3 (runes s.data.toList) = false
        · rw [if_pos (.inr (.inr (.inr hok)))]
        rcases hbad with hb | hb
        · by_cases h0 : s.size < 1
          · rw [if_pos (.inl h0)]
          exact absurd (runeCount_pos s (by omega)) (by omega)
        rw [if_pos (.inr (.inl (by omega)))]
      have hH := H.out; rw [hr] at hH; simp only [zOq] at hH; obtain ⟨rfl, rfl⟩ := hH; rcases hbad with hb | hb
      · have t1 : decide ((Lib.runeCount s : Int) < 1) = true := zFq (by omega)
        clear hb hs; go_enter Try.func150, Try.ntmps150; go_wp2_with (first
          | (go_at_call 157; refine (Try.utf8_RuneCountInString _ _ (by have := HS.out; omega)).mono ?_; rintro e w1 ⟨rfl, ⟨pos, rfl⟩⟩))
        go_ret2; exact ⟨rfl, zD (Below.refl _ _) _⟩
      have t1 : decide ((Lib.runeCount s : Int) < 1) = false := zGq (by omega); have t2 : decide (16 < (Lib.runeCount s : Int)) = true := zFq (by omega); clear hb hs; go_enter Try.func150, Try.ntmps150; go_wp2_with (first
        | (go_at_call 157; refine (Try.utf8_RuneCountInString _ _ (by have := HS.out; omega)).mono ?_; rintro e w1 ⟨rfl, ⟨pos, rfl⟩⟩))
      go_ret2; exact ⟨rfl, zD (Below.refl _ _) _⟩
    have t1 : decide ((Lib.runeCount s : Int) < 1) = false := zGq (by omega); have t2 : decide (16 < (Lib.runeCount s : Int)) = false := zGq (by omega); by_cases hsuf : Lib.hasSuffix s.data.toList [45] = true
    · have hr : foldS s = (⟨#[]⟩, 9) := by
        unfold foldS
        rw [if_pos (.inr (.inr (.inl (suffix_last.1 hsuf))))]
      have hH := H.out; rw [hr] at hH; simp only [zOq] at hH; obtain ⟨rfl, rfl⟩ := hH; have HSf := zA hsuf; clear hs hbad hsuf hr hrc; go_enter Try.func150, Try.ntmps150; go_wp2_with (first
        | (go_at_call 157; refine (Try.utf8_RuneCountInString _ _ (by have := HS.out; omega)).mono ?_; rintro e w1 ⟨rfl, ⟨pos, rfl⟩⟩)
        | (go_at_call 158; refine (Try.strings_HasSuffix _ _ _ (by have := HS.out; omega)).mono ?_; rintro e w2 ⟨rfl, rfl⟩; rw [show Lib.hasSuffix s.data.toList (ByteArray.mk #[45]).data.toList = true from HSf.out]))
      go_ret2; exact ⟨rfl, zD (Below.refl _ _) _⟩
    have HSf := zA (Bool.eq_false_iff.2 hsuf); have HN := zA (show 1 ≤ Lib.runeCount s ∧ Lib.runeCount s ≤ 16 by omega); have hmk : ∀ W, (Instr.makeSlice 177 (.int .i64 0) (.int .i64 (Lib.runeCount s : Int))).run Try.prog W = .ok (.slice (some ⟨W.heap.size, 0, none⟩) 0 (Lib.runeCount s)) (W.alloc (.cells (madeCells (Value.int .i32 0).cells (Lib.runeCount s)) 21)) := by
      intro W; obtain ⟨i0, hi, hzz⟩ := Option.map_eq_some_iff.1 infoRune; simp only [zOq] at hzz; have := run_makeSlice (P := Try.prog) W 177 21 i0 (.int .i32 0) Try.underlying177 hi hzz.1 .i64 .i64 0 (Lib.runeCount s) (by omega) (by omega) (by rw [hzz.2.1]; simp; omega) (by rw [hzz.2.2]; omega) (by omega); rw [hzz.2.1] at this; simpa using this
    clear hs hbad hsuf hrc; go_enter Try.func150, Try.ntmps150; go_wp2_with (first
      | (go_at_call 157; refine (Try.utf8_RuneCountInString _ _ (by have := HS.out; omega)).mono ?_; rintro e w1 ⟨rfl, ⟨pos, rfl⟩⟩)
      | (go_at_call 158; refine (Try.strings_HasSuffix _ _ _ (by have := HS.out; omega)).mono ?_; rintro e w2 ⟨rfl, rfl⟩; rw [show Lib.hasSuffix s.data.toList (ByteArray.mk #[45]).data.toList = false from HSf.out])
      | (go_at_call 159; refine (stands_made _).mono ?_; rintro e w2 ⟨rfl, rfl⟩))
    obtain ⟨W0, hW0⟩ : ∃ W0, W0 = w.iter s pos := ⟨_, rfl⟩
    rw [← hW0]; have HB0 := zA (show Below w.heap.size w W0 by rw [hW0]; exact zD (Below.refl _ _) _); clear hW0; clear hmk t1 t2; go_loopw [6] (fun v6 wr => ∃ (i : Nat) (last : Int), i ≤ s.size ∧ Aside0 (Kd.R (Kd.int .i32) 21 wr W0.heap.size (fun k => k ≠ W0.heap.size ∧ k ≠ W0.heap.size + 1 + 1) v6 (((runes s.data.toList).take i).map upI)) ∧ Aside0 (wr.heap[W0.heap.size + 1 + 1]? = some (.stringIter s i)) ∧ Aside0 (wr.heap[W0.heap.size]? = some (.cells #[.int .i64 last] 3 (0, 0))) ∧ Aside0 (okL 3 (runes s.data.toList) = okL last ((runes s.data.toList).drop i)) ∧ Aside0 (Below W0.heap.size W0 wr) ∧ Aside0 (Lib.runeCountFrom s (s.size - i) i + i = Lib.runeCount s)) (fun _ wr => s.size - wr.iterPos (W0.heap.size + 1 + 1))
    case atStart =>
      refine ⟨0, 3, by omega, ⟨?_⟩, ⟨?_⟩, ⟨?_⟩, ⟨rfl⟩, ⟨?_⟩, ⟨rfl⟩⟩
      · refine own_keep (w := (W0.alloc (.cells #[.int .i64 3] 3)).alloc (.cells (madeCells (Value.int .i32 0).cells (Lib.runeCount s)) 21)) ⟨fun k hk => ?_, [], ?_, Reps.none _ _⟩ (fun g hg => ?_)
        · simp only [Value.ownBlock, zNq] at hk
          omega
        · have := World.ownsRow_made (e := 21) (size := (Kd.int .i32).sz) (base := W0.heap.size) (W0.alloc (.cells #[.int .i64 3] 3)) (madeCells (Value.int .i32 0).cells (Lib.runeCount s)) (Lib.runeCount s) (by simp) (by unfold maxLen; have := HN.out; omega) (by rw [size_madeCells]; exact (Nat.mul_one _).symm)
          simpa using this
        simp only [Value.ownBlock, zNq] at hg; subst hg; exact Below.heap_alloc _ _ _ (by simp)
      · have := World.iter_heap ((W0.alloc (.cells #[.int .i64 3] 3)).alloc (.cells (madeCells (Value.int .i32 0).cells (Lib.runeCount s)) 21)) s 0
        have e : ((W0.alloc (.cells #[.int .i64 3] 3)).alloc (.cells (madeCells (Value.int .i32 0).cells (Lib.runeCount s)) 21)).heap.size = W0.heap.size + 1 + 1 := by simp
        rw [e] at this; exact this
      · exact zZ (zZ (blk_new _ _) _) _
      exact zD (zD (zD (Below.refl _ _) _) _) _
    case round =>
      obtain ⟨i, last, hi, HO, HI, HL, HK, HB, HRC⟩ := hrel; have hlt2 : W0.heap.size + 1 + 1 < wr.heap.size := blk_lt HI.out; by_cases hp : i < s.size
      · have hd := runes_drop s i hp
        by_cases ha : (s[i]'hp).toNat < 128
        · obtain ⟨Wn, hWn⟩ : ∃ Wn, Wn = wr.iterAt (W0.heap.size + 1 + 1) s (i + 1) := ⟨_, rfl⟩
          have hnx : ∀ ty, (Instr.next (.pointer (some ⟨W0.heap.size + 1 + 1, 0, none⟩)) true ty).run Try.prog wr = .ok (.tuple #[.bool true, .int .i64 i, .int .i32 (s[i]'hp).toNat]) Wn := fun ty => by rw [hWn]; exact Lib.run_next_ascii_at wr _ s i ty HI.out hp ha
          have HI1 := zA (show Wn.heap[W0.heap.size + 1 + 1]? = some (.stringIter s (i + 1)) by rw [hWn]; exact Lib.iterAt_heap wr _ s i (i + 1) HI.out); have HL1 := zA (show Wn.heap[W0.heap.size]? = some (.cells #[.int .i64 last] 3 (0, 0)) by rw [hWn, Lib.iterAt_other _ _ _ _ _ (by omega)]; exact HL.out); have HB1 := zA (show Below W0.heap.size W0 Wn by rw [hWn]; exact Lib.below_iterAt HB.out (by omega) s (i + 1)); have HO1 := zA (show Kd.R (Kd.int .i32) 21 Wn W0.heap.size (fun k => k ≠ W0.heap.size ∧ k ≠ W0.heap.size + 1 + 1) u6 (((runes s.data.toList).take i).map upI) by rw [hWn]; exact own_keep HO.out (fun g hg => Lib.iterAt_other _ _ _ _ _ (HO.out.1 g hg).2)); clear hWn; obtain ⟨r, hr⟩ : ∃ r : Int, r = ((s[i]'hp).toNat : Int) := ⟨_, rfl⟩
          rw [← hr] at hd hnx; have hr0 : 0 ≤ r ∧ r < 128 := by omega
          have HK2 := zA (HK.out.trans (congrArg (okL last) hd)); have HR := zA hr0; have HT := zA (show (runes s.data.toList).take (i + 1) = (runes s.data.toList).take i ++ [r] by rw [hr]; exact runes_take s i hp); have HP := zA hp; clear hd hr hr0; cases hm : mayB (clsI r) last with
          | false =>
            have hH := H.out; have hf : foldS s = (⟨#[]⟩, 9) := by
              unfold foldS
              rw [if_pos (.inr (.inr (.inr (HK2.out.trans (okL_bad hm)))))]
            rw [hf] at hH; simp only [zOq] at hH; obtain ⟨rfl, rfl⟩ := hH; have HM := zA hm; clear hm hf; go_wp2_with (first
              | (go_at_call 165; refine (stands1 20 r (clsI r) last W0.heap.size _ (class_f _) HL1.out).mono ?_; rintro e w2 ⟨rfl, ⟨nd, rfl⟩⟩; rw [HM.out]))
            go_ret2; exact ⟨rfl, below_then HB0.out HB0.out.size (Below.setCell (zB HB1.out _) (Nat.le_refl _) _)⟩
          | true =>
            have HM := zA hm; clear hm; have HL3 : Aside0 ((((runes s.data.toList).take i).map upI).length ≤ i) := ⟨by simp; omega⟩
            have HSM := zA (show i < 1099511627776 by have := HRC.out; have := HN.out; omega); have HRC2 := zA (show Lib.runeCountFrom s (s.size - (i + 1)) (i + 1) + (i + 1) = Lib.runeCount s from runeCount_step HRC.out hp ha); go_wp2_with (first
              | (go_at_call 165; refine (stands1 20 r (clsI r) last W0.heap.size _ (class_f _) HL1.out).mono ?_; rintro e w2 ⟨rfl, ⟨nd, hw2⟩⟩; rw [HM.out]; have HI2 := zA (show w2.heap[W0.heap.size + 1 + 1]? = some (.stringIter s (i + 1)) by rw [hw2, Below.heap_setCell _ _ _ _ (show W0.heap.size + 1 + 1 ≠ W0.heap.size by omega)]; exact HI1.out); have HL2 := zA (show w2.heap[W0.heap.size]? = some (.cells #[.int .i64 (clsI r)] 3 (0, 0)) by rw [hw2]; exact blk_put (zY HL1.out nd) 0 _ rfl); have HB2 := zA (show Below W0.heap.size W0 w2 by rw [hw2]; exact Below.setCell (zB HB1.out _) (Nat.le_refl _) _); have HO2 := zA (own_keep (w1 := w2) HO1.out (fun g hg => by rw [hw2, Below.heap_setCell _ _ _ _ (HO1.out.1 g hg).1]; rfl)); clear hw2)
              | (go_at_call 160; refine (serial_folded.calls r (upI r) _ (folded_f HR.out.1 HR.out.2)).mono ?_; rintro e w3 ⟨rfl, ⟨nd2, rfl⟩⟩)
              | (at_builtin; refine Kd.R_append (Kd.int .i32) (w0 := W0) W0.heap.size rfl (.tmp 33) (.tmp 36) 177 21 (.int .i32 0) 4 rfl Try.underlying177 infoRune rfl (by decide) (by omega) _ (((runes s.data.toList).take i).map upI) (upI r) [.int .i32 (upI r)] (fun k => k ≠ W0.heap.size ∧ k ≠ W0.heap.size + 1 + 1) (fun _ => False) rfl rfl ?aP (fun _ hk => hk.elim) ?aF ?aO ?aB ?aS ?aL ?_; (case aP => exact rfl); (case aB => exact zB HB2.out _); (case aF => exact (fun k hk => by have h1 := blk_lt HI2.out; have h2 : w2.heap.size ≤ k := hk; omega)); (case aO => exact own_keep HO2.out (fun _ _ => rfl)); (case aS => exact HB2.out.size); (case aL => have := HL3.out; have := HSM.out; omega); intro v1 w4 ho hb hg hat; have HO4 := zA ho; have HB4 := zA hb; have HI4 := zA (blk_grown (zY HI2.out nd2) hg (fun e => (HO2.out.1 _ e.symm).2 rfl)); have HL4 := zA (blk_grown (zY HL2.out nd2) hg (fun e => (HO2.out.1 _ e.symm).1 rfl)); clear ho hb hg hat))
            go_roundw
            case rel =>
              refine ⟨i + 1, clsI r, by have := HP.out; omega, ⟨?_⟩, HI4, HL4, ⟨HK2.out.trans (okL_go HM.out)⟩, HB4, HRC2⟩; have := HO4.out; rw [HT.out, List.map_append]; exact this
            case measure =>
              have h1 : ∀ (W : World) (p : Nat), W.heap[W0.heap.size + 1 + 1]? = some (.stringIter s p) → W.iterPos (W0.heap.size + 1 + 1) = p := fun W p h => by unfold World.iterPos; rw [h]
              rw [h1 _ _ HI4.out, h1 _ _ HI.out]; have := HP.out; omega
        obtain ⟨Wn, hWn⟩ : ∃ Wn, Wn = wr.iterAt (W0.heap.size + 1 + 1) s (i + (Utf8.decode s i).2) := ⟨_, rfl⟩
        have hnx : ∀ ty, (Instr.next (.pointer (some ⟨W0.heap.size + 1 + 1, 0, none⟩)) true ty).run Try.prog wr = .ok (.tuple #[.bool true, .int .i64 i, .int .i32 (Utf8.decode s i).1]) Wn := fun ty => by rw [hWn]; exact Lib.run_next_any_at wr _ s i ty HI.out hp
        have HL1 := zA (show Wn.heap[W0.heap.size]? = some (.cells #[.int .i64 last] 3 (0, 0)) by rw [hWn, Lib.iterAt_other _ _ _ _ _ (by omega)]; exact HL.out); have HB1 := zA (show Below W0.heap.size W0 Wn by rw [hWn]; exact Lib.below_iterAt HB.out (by omega) s _); clear hWn; have hg : s.get! i = s[i]'hp := by simp [ByteArray.get!, hp]; rfl
        have hhi := decode_high' s i (by rw [hg]; exact ha); obtain ⟨r, hr⟩ : ∃ r : Int, r = ((Utf8.decode s i).1 : Int) := ⟨_, rfl⟩
        rw [← hr] at hnx; have hc0 : clsI r = 0 := cls_high (by omega); have hH := H.out; have hf : foldS s = (⟨#[]⟩, 9) := by
          unfold foldS
          exact if_pos (.inr (.inr (.inr (by rw [HK.out, hd]; exact okL_bad (by rw [cls_high (by omega)]; rfl)))))
        rw [hf] at hH; simp only [zOq] at hH; obtain ⟨rfl, rfl⟩ := hH; have HC0 := zA (show serial_Class.f 20 r = some 0 by rw [class_f, hc0]); clear hhi hr hf hd hg hc0; go_wp2_with (first
          | (go_at_call 165; refine (stands1 20 r 0 last W0.heap.size _ HC0.out HL1.out).mono ?_; rintro e w2 ⟨rfl, ⟨nd, rfl⟩⟩; rw [show mayB 0 last = false from mayB_zero]))
        go_ret2; exact ⟨rfl, below_then HB0.out HB0.out.size (Below.setCell (zB HB1.out _) (Nat.le_refl _) _)⟩
      have hnx : ∀ ty, (Instr.next (.pointer (some ⟨W0.heap.size + 1 + 1, 0, none⟩)) true ty).run Try.prog wr = .ok (.tuple #[.bool false]) wr := fun ty => Lib.run_next_end_at wr _ s i ty HI.out hp
      have hi' : i = s.size := by omega
      subst hi'; have hok : okL 3 (runes s.data.toList) = true := by
        rw [HK.out, List.drop_eq_nil_of_le (by rw [runes_length, size_list]; exact Nat.le_refl _)]; rfl
      have hsz := okL_size hok; have hN := HN.out; have hf : foldS s = (⟨((runes s.data.toList).map fun r => UInt8.ofNat (upI r).toNat).toArray⟩, 0) := by
        unfold foldS
        rw [if_neg]; rintro (h | h | h | h)
        · omega
        · omega
        · rw [← suffix_last, HSf.out] at h; cases h
        rw [hok] at h; cases h
      have hH := H.out; rw [hf] at hH; simp only [zOq] at hH; obtain ⟨hH1, rfl⟩ := hH; have hrb : runesBytes ((runes s.data.toList).map upI) = r1 := by
        rw [← hH1, runes_ascii]
        · rw [List.map_map]; rfl
        intro n hn; obtain ⟨m, hm, rfl⟩ := List.mem_map.1 hn; have h1 := okL_all _ _ hok m hm; obtain ⟨b, _, rfl⟩ := List.mem_map.1 hm; unfold upI
        split <;> omega
      have hcv : ∃ A l c, u6 = .slice A l c ∧ (convert 177 9 (.slice A l c)).run Try.prog wr = .ok (.string r1) wr := by
        have hO := HO.out; rw [List.take_of_length_le (by rw [runes_length, size_list]; exact Nat.le_refl _)] at hO; obtain ⟨A, c, rfl⟩ := Kd.R_slice hO; refine ⟨A, _, c, rfl, ?_⟩; obtain ⟨h1, h2, h3⟩ := Kd.R_reads' hO; have hl : 0 < ((runes s.data.toList).map upI).length := by rw [List.length_map, runes_length, size_list]; omega
        obtain ⟨ad, e1, _⟩ := Kd.at_int h3 (0 : Int) (by omega) (by omega); subst e1; have := run_convert_runes (P := Try.prog) wr 177 9 21 ad ((runes s.data.toList).map upI).length c ((runes s.data.toList).map upI) (Nat.le_refl _) Try.underlying177 Try.underlying21 Try.underlying9 (fun j hj => by
          obtain ⟨ad2, e2, hx⟩ := Kd.at_int h3 (j : Int) (by omega) (by omega); cases e2
          rw [Int.toNat_natCast] at hx; rw [hx]; rfl)
        rw [List.take_length, hrb] at this; exact this
      obtain ⟨A, l, c, rfl, hcv⟩ := hcv; have HCV := zA hcv; clear hf hrb hH1 hok hsz hN hcv; have hcv2 := HCV.out; go_wp2; go_ret2; exact ⟨rfl, below_then HB0.out HB0.out.size HB.out⟩
  rw [if_neg hs] at h; cases h
def serial_Check.f (a0 : ByteArray) : Option (Int) := (serial_Fold.f a0).bind fun bt101 => (if bt101.2 = 0 then (if bt101.1.toList = a0.toList then (some 0) else (some 9)) else (some 9))
set_option maxHeartbeats 8000000 in
set_option maxRecDepth 100000 in
theorem serial_Check.calls (a0 : ByteArray) (r : Int) (w : World) (h : serial_Check.f a0 = some r) :
    Calls Try.prog 142 #[.string a0] w fun e w' => e = .returned (.int .i64 r) ∧ Below w.heap.size w w' := by
  have HB := zA (Below.refl w.heap.size w)
  have H : ((serial_Fold.f a0).bind fun bt101 => (if bt101.2 = 0 then (if bt101.1.toList = a0.toList then (some 0) else (some 9)) else (some 9))) = some r := h
  clear h
  replace H := Option.bind_eq_some_iff.mp H
  obtain ⟨⟨t101, t102⟩, A20, H⟩ := H
  try dsimp only at H
  have A2 := zA A20
  clear A20
  by_cases c3 : t102 = 0
  · rw [if_pos c3] at H
    have c3b0 : (t102 == 0) = true := beq_iff_eq.mpr c3; have c3b1 : (t102 != 0) = false := bne_eq_false_iff_eq.mpr c3; clear c3; by_cases c4 : t101.toList = a0.toList
    · rw [if_pos c4] at H
      have c4b0 : (t101.toList == a0.toList) = true := beq_iff_eq.mpr c4; have c4b1 : (t101.toList != a0.toList) = false := bne_eq_false_iff_eq.mpr c4; clear c4; obtain rfl := zKq H; go_enter Try.func142, Try.ntmps142; go_wp2_with (first | ((with_reducible refine zJq (f := 150) rfl ?_); refine goesL_ (some 7) rfl rfl Try.func150 (by kernel_rfl) rfl #[.string a0] rfl qG ?_; (with_reducible refine (serial_Fold.calls a0 t101 t102 _ A2.out).mono ?_); rintro e w5 ⟨rfl, hb⟩; refine ⟨_, rfl, ?_⟩; have n0_ := zA (zV qB hb); clear HB; have HB := n0_; clear n0_; (try clear hb))); go_ret; exact ⟨qE, qB⟩
    rw [if_neg c4] at H; have c4b0 : (t101.toList == a0.toList) = false := beq_eq_false_iff_ne.mpr c4; have c4b1 : (t101.toList != a0.toList) = true := bne_iff_ne.mpr c4; obtain rfl := zKq H; go_enter Try.func142, Try.ntmps142; go_wp2_with (first | ((with_reducible refine zJq (f := 150) rfl ?_); refine goesL_ (some 7) rfl rfl Try.func150 (by kernel_rfl) rfl #[.string a0] rfl qG ?_; (with_reducible refine (serial_Fold.calls a0 t101 t102 _ A2.out).mono ?_); rintro e w6 ⟨rfl, hb⟩; refine ⟨_, rfl, ?_⟩; have n0_ := zA (zV qB hb); clear HB; have HB := n0_; clear n0_; (try clear hb))); go_ret; exact ⟨qE, qB⟩
  rw [if_neg c3] at H
  have c3b0 : (t102 == 0) = false := beq_eq_false_iff_ne.mpr c3
  have c3b1 : (t102 != 0) = true := bne_iff_ne.mpr c3
  obtain rfl := zKq H
  go_enter Try.func142, Try.ntmps142
  go_wp2_with (first | ((with_reducible refine zJq (f := 150) rfl ?_); refine goesL_ (some 7) rfl rfl Try.func150 (by kernel_rfl) rfl #[.string a0] rfl qG ?_; (with_reducible refine (serial_Fold.calls a0 t101 t102 _ A2.out).mono ?_); rintro e w7 ⟨rfl, hb⟩; refine ⟨_, rfl, ?_⟩; have n0_ := zA (zV qB hb); clear HB; have HB := n0_; clear n0_; (try clear hb)))
  go_ret
  exact ⟨qE, qB⟩
def serial_Row.l0 : Nat → List ByteArray → List ByteArray → Int → Int → Option (Int)
  | 0, _, _, _, _ => none
  | k + 1, x0, x6, x7, x8 => if x8 < x7 then (if 0 ≤ x8 then (if x8 < (x6.length : Int) then ((serial_Check.f (rdOf ByteArray.empty x6 x8)).bind fun t102 => (if t102 = 0 then (if x8 > 0 then (if 0 ≤ (wrap64 (x8 - 1)) then (if (wrap64 (x8 - 1)) < (x0.length : Int) then (if ((Op.bytesLess ((rdOf ByteArray.empty x0 (wrap64 (x8 - 1))).toList) ((rdOf ByteArray.empty x6 x8).toList)) = true) then (serial_Row.l0 k x0 x6 x7 (wrap64 (x8 + 1))) else (some 32)) else (none)) else (none)) else (serial_Row.l0 k x0 x6 x7 (wrap64 (x8 + 1)))) else (some t102))) else (none)) else (none)) else (some 0)
def serial_Row.f (k : Nat) (l0 : List ByteArray) : Option (Int) := serial_Row.l0 k l0 l0 (l0.length : Int) 0
theorem serial_Row.mono_l : ∀ k, (∀ y0 y1 y2 y3, LeO (serial_Row.l0 k y0 y1 y2 y3) (serial_Row.l0 (k + 1) y0 y1 y2 y3))
  | 0 => fun _ _ _ _ r h => by simp [serial_Row.l0] at h
  | k + 1 => by
    have ih0 := serial_Row.mono_l k
    intro y0 y1 y2 y3
    unfold serial_Row.l0
    repeat' (with_reducible first | exact ih0 _ _ _ _ | exact LeO.refl _ | exact LeO.none _ | refine LeO.ite ?_ ?_ | refine LeO.bind ?_ (fun _ => ?_))
theorem serial_Row.mono : ∀ a0 k, LeO (serial_Row.f k a0) (serial_Row.f (k + 1) a0) := by
  intro a0 k
  have ih0 := serial_Row.mono_l k
  unfold serial_Row.f
  repeat' (with_reducible first | exact ih0 _ _ _ _ | exact LeO.refl _ | exact LeO.none _ | refine LeO.ite ?_ ?_ | refine LeO.bind ?_ (fun _ => ?_))
set_option maxHeartbeats 8000000 in
set_option maxRecDepth 100000 in
theorem serial_Row.calls (k : Nat) (A0 : Option Addr) (c0 : Nat) (l0 : List ByteArray) (r : Int) (w : World) (hr0 : Kd.C Kd.string w A0 l0.length l0) (hc0 : l0.length ≤ c0) (h : serial_Row.f k l0 = some r) :
    Calls Try.prog 119 #[.slice A0 l0.length c0] w fun e w' => e = .returned (.int .i64 r) ∧ Below w.heap.size w w' := by
  have HR0 := zA hr0
  have HC0 := zA hc0
  clear hr0 hc0
  have HB := zA (Below.refl w.heap.size w)
  have H : (serial_Row.l0 k l0 l0 (l0.length : Int) 0) = some r := h
  clear h
  have H' := zA H
  clear H
  go_enter Try.func119, Try.ntmps119
  go_wp2
  go_loopg [8] k (fun kq v8 w' => ∃ (x8_1 : Int), v8 = .int .i64 x8_1 ∧ Aside0 (serial_Row.l0 kq l0 l0 (l0.length : Int) x8_1 = some r) ∧ Aside0 (kq ≤ k) ∧ Aside0 (Below w.heap.size w w'))
  case atStart => exact ⟨(0), (by first | rfl | (simp; done) | (simp [*]; done)), H', ⟨Nat.le_refl _⟩, ⟨qB⟩⟩
  case round =>
    clear H'; try clear c1
    obtain ⟨x8_1, rfl, HA, HK1, HB⟩ := hrel; cases gk with
    | zero => exact absurd HA.out (by simp [serial_Row.l0])
    | succ k1 =>
      have H := HA.out; clear HA; simp only [serial_Row.l0] at H; by_cases c2 : x8_1 < (l0.length : Int)
      · rw [if_pos c2] at H
        have c2b0 : decide (x8_1 < (l0.length : Int)) = true := zFq c2; clear c2; by_cases c3 : 0 ≤ x8_1
        · rw [if_pos c3] at H
          have c3b0 : decide (0 ≤ x8_1) = true := zFq c3; clear c3; by_cases c4 : x8_1 < (l0.length : Int)
          · rw [if_pos c4] at H
            have c4b0 : decide (x8_1 < (l0.length : Int)) = true := zFq c4; clear c4; replace H := Option.bind_eq_some_iff.mp H; obtain ⟨t102, A50, H⟩ := H; try dsimp only at H
            have A5 := zA A50; clear A50; by_cases c6 : t102 = 0
            · rw [if_pos c6] at H
              have c6b0 : (t102 == 0) = true := beq_iff_eq.mpr c6; have c6b1 : (t102 != 0) = false := bne_eq_false_iff_eq.mpr c6; clear c6; by_cases c7 : x8_1 > 0
              · rw [if_pos c7] at H
                have c7b0 : decide (0 < x8_1) = true := zFq c7; clear c7; obtain ⟨ji8, hji8⟩ : ∃ j_ : Int, (wrap64 (x8_1 - 1)) = j_ := ⟨_, rfl⟩
                replace H : (if 0 ≤ (ji8) then (if (ji8) < (l0.length : Int) then (if ((Op.bytesLess ((rdOf ByteArray.empty l0 (ji8)).toList) ((rdOf ByteArray.empty l0 x8_1).toList)) = true) then (serial_Row.l0 k1 l0 l0 (l0.length : Int) (wrap64 (x8_1 + 1))) else (some 32)) else (none)) else (none)) = some r := by first | (rw [hji8] at H; exact H) | (simp only [hji8] at H ⊢; exact H)
                (try rw [hji8] at A5)
                have hji8w : (IntKind.i64.wrap (x8_1 - 1)) = ji8 := (i64_w _).trans hji8; by_cases c9 : 0 ≤ (ji8)
                · rw [if_pos c9] at H
                  have c9b0 : decide (0 ≤ (ji8)) = true := zFq c9; clear c9; by_cases c10 : (ji8) < (l0.length : Int)
                  · rw [if_pos c10] at H
                    have c10b0 : decide ((ji8) < (l0.length : Int)) = true := zFq c10; clear c10; by_cases c11 : ((Op.bytesLess ((rdOf ByteArray.empty l0 (ji8)).toList) ((rdOf ByteArray.empty l0 x8_1).toList)) = true)
                    · rw [if_pos c11] at H
                      have c11b0 : (Op.bytesLess ((rdOf ByteArray.empty l0 (ji8)).toList) ((rdOf ByteArray.empty l0 x8_1).toList)) = true := c11; clear c11; have H' := zA H; clear H; have p101 : 0 ≤ (x8_1 : Int) := of_decide_eq_true qA; have q101 : x8_1 < (l0.length : Int) := of_decide_eq_true qA; obtain ⟨ad101, e101, hx101_0⟩ := Kd.at_string HR0.out x8_1 p101 q101; cases e101
                      replace hx101_0 := (HB.out.cell (zCq w _ hx101_0)).trans hx101_0; replace p101 := eq_true p101; replace q101 := eq_true q101; go_wp2_with (first | ((with_reducible refine zJq (f := 142) rfl ?_); refine goesL_ (some 14) rfl rfl Try.func142 (by kernel_rfl) rfl #[.string (rdOf ByteArray.empty l0 x8_1)] rfl qG ?_; (with_reducible refine (serial_Check.calls (rdOf ByteArray.empty l0 x8_1) t102 _ A5.out).mono ?_); rintro e w12 ⟨rfl, hb⟩; refine ⟨_, rfl, ?_⟩; have n0_ := zA (zV qB hb); clear HB; have HB := n0_; clear n0_; (try clear hb); have p103 : 0 ≤ ((ji8) : Int) := of_decide_eq_true qA; have q103 : (ji8) < (l0.length : Int) := of_decide_eq_true qA; obtain ⟨ad103, e103, hx103_0⟩ := Kd.at_string HR0.out (ji8) p103 q103; obtain rfl : ad101 = ad103 := (by injection e103); replace hx103_0 := (HB.out.cell (zCq w _ hx103_0)).trans hx103_0; replace p103 := eq_true p103; replace q103 := eq_true q103)); go_roundg k1
                      case measure => have := HK1.out; omega
                      case rel => exact ⟨(wrap64 (x8_1 + 1)), (by first | rfl | (simp; done) | (simp [*]; done)), H', ⟨by have := HK1.out; omega⟩, ⟨qB⟩⟩
                    rw [if_neg c11] at H; have c11b0 : (Op.bytesLess ((rdOf ByteArray.empty l0 (ji8)).toList) ((rdOf ByteArray.empty l0 x8_1).toList)) = false := by simpa using c11
                    clear c11; obtain rfl := zKq H; have p101 : 0 ≤ (x8_1 : Int) := of_decide_eq_true qA; have q101 : x8_1 < (l0.length : Int) := of_decide_eq_true qA; obtain ⟨ad101, e101, hx101_0⟩ := Kd.at_string HR0.out x8_1 p101 q101; cases e101
                    replace hx101_0 := (HB.out.cell (zCq w _ hx101_0)).trans hx101_0; replace p101 := eq_true p101; replace q101 := eq_true q101; go_wp2_with (first | ((with_reducible refine zJq (f := 142) rfl ?_); refine goesL_ (some 14) rfl rfl Try.func142 (by kernel_rfl) rfl #[.string (rdOf ByteArray.empty l0 x8_1)] rfl qG ?_; (with_reducible refine (serial_Check.calls (rdOf ByteArray.empty l0 x8_1) t102 _ A5.out).mono ?_); rintro e w13 ⟨rfl, hb⟩; refine ⟨_, rfl, ?_⟩; have n0_ := zA (zV qB hb); clear HB; have HB := n0_; clear n0_; (try clear hb); have p103 : 0 ≤ ((ji8) : Int) := of_decide_eq_true qA; have q103 : (ji8) < (l0.length : Int) := of_decide_eq_true qA; obtain ⟨ad103, e103, hx103_0⟩ := Kd.at_string HR0.out (ji8) p103 q103; obtain rfl : ad101 = ad103 := (by injection e103); replace hx103_0 := (HB.out.cell (zCq w _ hx103_0)).trans hx103_0; replace p103 := eq_true p103; replace q103 := eq_true q103)); go_ret; exact ⟨by first | rfl | (simp [errW_none, errW_some] <;> rfl) | (simp only [← hji8]; first | rfl | (simp [errW_none, errW_some] <;> rfl)) | (simp [*, errW_none, errW_some] <;> rfl), qB⟩
                  rw [if_neg c10] at H; exact absurd H (by simp)
                rw [if_neg c9] at H; exact absurd H (by simp)
              rw [if_neg c7] at H; have c7b0 : decide (0 < x8_1) = false := zGq c7; clear c7; have H' := zA H; clear H; have p101 : 0 ≤ (x8_1 : Int) := of_decide_eq_true qA; have q101 : x8_1 < (l0.length : Int) := of_decide_eq_true qA; obtain ⟨ad101, e101, hx101_0⟩ := Kd.at_string HR0.out x8_1 p101 q101; cases e101
              replace hx101_0 := (HB.out.cell (zCq w _ hx101_0)).trans hx101_0; replace p101 := eq_true p101; replace q101 := eq_true q101; go_wp2_with (first | ((with_reducible refine zJq (f := 142) rfl ?_); refine goesL_ (some 14) rfl rfl Try.func142 (by kernel_rfl) rfl #[.string (rdOf ByteArray.empty l0 x8_1)] rfl qG ?_; (with_reducible refine (serial_Check.calls (rdOf ByteArray.empty l0 x8_1) t102 _ A5.out).mono ?_); rintro e w14 ⟨rfl, hb⟩; refine ⟨_, rfl, ?_⟩; have n0_ := zA (zV qB hb); clear HB; have HB := n0_; clear n0_; (try clear hb))); go_roundg k1
              case measure => have := HK1.out; omega
              case rel => exact ⟨(wrap64 (x8_1 + 1)), (by first | rfl | (simp; done) | (simp [*]; done)), H', ⟨by have := HK1.out; omega⟩, ⟨qB⟩⟩
            rw [if_neg c6] at H; have c6b0 : (t102 == 0) = false := beq_eq_false_iff_ne.mpr c6; have c6b1 : (t102 != 0) = true := bne_iff_ne.mpr c6; obtain rfl := zKq H; have p101 : 0 ≤ (x8_1 : Int) := of_decide_eq_true qA; have q101 : x8_1 < (l0.length : Int) := of_decide_eq_true qA; obtain ⟨ad101, e101, hx101_0⟩ := Kd.at_string HR0.out x8_1 p101 q101; cases e101
            replace hx101_0 := (HB.out.cell (zCq w _ hx101_0)).trans hx101_0; replace p101 := eq_true p101; replace q101 := eq_true q101; go_wp2_with (first | ((with_reducible refine zJq (f := 142) rfl ?_); refine goesL_ (some 14) rfl rfl Try.func142 (by kernel_rfl) rfl #[.string (rdOf ByteArray.empty l0 x8_1)] rfl qG ?_; (with_reducible refine (serial_Check.calls (rdOf ByteArray.empty l0 x8_1) t102 _ A5.out).mono ?_); rintro e w15 ⟨rfl, hb⟩; refine ⟨_, rfl, ?_⟩; have n0_ := zA (zV qB hb); clear HB; have HB := n0_; clear n0_; (try clear hb))); go_ret; exact ⟨qE, qB⟩
          rw [if_neg c4] at H; exact absurd H (by simp)
        rw [if_neg c3] at H; exact absurd H (by simp)
      rw [if_neg c2] at H; have c2b0 : decide (x8_1 < (l0.length : Int)) = false := zGq c2; clear c2; obtain rfl := zKq H; go_wp2; go_ret; exact ⟨qE, qB⟩
def line_Check.j0 : Nat → Bool → Int → Int → Int → Int → List ByteArray → Int → Int → Int → Int → List ByteArray → Option (Int)
  | 0, _, _, _, _, _, _, _, _, _, _, _ => none
  | k + 1, x6, x102000, x102001, x102002, x102003, x102004, x1000004000, x1000004001, x1000004002, x1000004003, x1000004004 => if x6 = true then (some 2) else ((line_price_may.f x1000004000 x1000004001 x1000004002 x1000004003 x1000004004).bind fun t102 => (if t102 = true then (if (x102004.length : Int) < 1 then (some 9) else (if (x102004.length : Int) > 20 then (some 9) else ((serial_Row.f k x102004).bind fun t103 => (if t103 = 0 then (some 0) else (some 9))))) else (some 8)))
def line_Check.f (k : Nat) (a0_0 : Int) (a0_1 : Int) (a0_2 : Int) (a0_3 : Int) (l0_4 : List ByteArray) : Option (Int) := if a0_0 < 1 then (line_Check.j0 k true a0_0 a0_1 a0_2 a0_3 l0_4 a0_0 a0_1 a0_2 a0_3 l0_4) else (line_Check.j0 k (decide (a0_0 > 999999)) a0_0 a0_1 a0_2 a0_3 l0_4 a0_0 a0_1 a0_2 a0_3 l0_4)
theorem line_Check.mono_l : ∀ k, (∀ y0 y1 y2 y3 y4 y5 y6 y7 y8 y9 y10, LeO (line_Check.j0 k y0 y1 y2 y3 y4 y5 y6 y7 y8 y9 y10) (line_Check.j0 (k + 1) y0 y1 y2 y3 y4 y5 y6 y7 y8 y9 y10))
  | 0 => fun _ _ _ _ _ _ _ _ _ _ _ r h => by simp [line_Check.j0] at h
  | k + 1 => by
    have ih0 := line_Check.mono_l k
    intro y0 y1 y2 y3 y4 y5 y6 y7 y8 y9 y10
    unfold line_Check.j0
    repeat' (with_reducible first | exact ih0 _ _ _ _ _ _ _ _ _ _ _ | exact serial_Row.mono _ _ | exact LeO.refl _ | exact LeO.none _ | refine LeO.ite ?_ ?_ | refine LeO.bind ?_ (fun _ => ?_))
theorem line_Check.mono : ∀ a0 a1 a2 a3 a4 k, LeO (line_Check.f k a0 a1 a2 a3 a4) (line_Check.f (k + 1) a0 a1 a2 a3 a4) := by
  intro a0 a1 a2 a3 a4 k
  have ih0 := line_Check.mono_l k
  unfold line_Check.f
  repeat' (with_reducible first | exact ih0 _ _ _ _ _ _ _ _ _ _ _ | exact serial_Row.mono _ _ | exact LeO.refl _ | exact LeO.none _ | refine LeO.ite ?_ ?_ | refine LeO.bind ?_ (fun _ => ?_))
set_option maxHeartbeats 8000000 in
set_option maxRecDepth 100000 in
theorem line_Check.calls (k : Nat) (a0_0 : Int) (a0_1 : Int) (a0_2 : Int) (a0_3 : Int) (A0_4 : Option Addr) (c0_4 : Nat) (l0_4 : List ByteArray) (r : Int) (w : World) (hr0_4 : Kd.C Kd.string w A0_4 l0_4.length l0_4) (hc0_4 : l0_4.length ≤ c0_4) (h : line_Check.f k a0_0 a0_1 a0_2 a0_3 l0_4 = some r) :
    Calls Try.prog 69 #[.agg #[.int .i64 a0_0, .int .i64 a0_1, .int .i64 a0_2, .int .i64 a0_3, .slice A0_4 l0_4.length c0_4]] w fun e w' => e = .returned (.int .i64 r) ∧ Below w.heap.size w w' := by
  have hu71 := Try.underlying71
  have hmf : ∀ (fn : Fn) (first cap : Array Value) (w : World), (Instr.makeFunc fn first cap).run Try.prog w = .ok (.func fn first cap) w := fun _ _ _ _ => rfl
  have HR0_4 := zA hr0_4
  have HC0_4 := zA hc0_4
  clear hr0_4 hc0_4
  have HB := zA (Below.refl w.heap.size w)
  have H : (if a0_0 < 1 then (line_Check.j0 k true a0_0 a0_1 a0_2 a0_3 l0_4 a0_0 a0_1 a0_2 a0_3 l0_4) else (line_Check.j0 k (decide (a0_0 > 999999)) a0_0 a0_1 a0_2 a0_3 l0_4 a0_0 a0_1 a0_2 a0_3 l0_4)) = some r := h
  clear h
  have HC2 := zA H
  clear H
  go_enter Try.func69, Try.ntmps69
  go_upto_region 2 with (first | ((with_reducible refine gate_dst (N := 1) rfl ?_); (try (refine gate_guard (by rfl) ?_; dsimp only)); refine box_event qr (N := 1) qr (cs := #[.int .i64 a0_0, .int .i64 a0_1, .int .i64 a0_2, .int .i64 a0_3, .slice A0_4 l0_4.length c0_4]) (t := 71) qg ?_; intro gb101 hg w3 hbox hb; have n0_ := zA (zV qB hb); have n1_ := zA (hbox); have n2_ := zA ((qS : w.heap.size ≤ gb101)); have n3_ := zA ((qS : w.heap.size ≤ gb101)); clear HB; have HB := n0_; have BK101 := n1_; have GW101 := n2_; have GE101 := n3_; clear n0_ n1_ n2_ n3_ hb hbox hg; obtain ⟨_, _, _, _, _, _, _, _, _, _⟩ := qc5f BK101.out))
  (try simp only [Act.put, zH, zI, zJ])
  go_cut [6] (fun v6 wc => ∃ (kq : Nat) (x6_1 : Bool), v6 = .bool x6_1 ∧ Aside0 (line_Check.j0 kq x6_1 a0_0 a0_1 a0_2 a0_3 l0_4 a0_0 a0_1 a0_2 a0_3 l0_4 = some r) ∧ Aside0 (kq ≤ k) ∧ Aside0 (wc.heap[gb101]? = some (.cells #[.int .i64 a0_0, .int .i64 a0_1, .int .i64 a0_2, .int .i64 a0_3, (.slice A0_4 l0_4.length c0_4)] 71 (0, 0))) ∧ Aside0 (Below w.heap.size w wc))
  case first =>
    have H := HC2.out; clear HC2; by_cases c5 : a0_0 < 1
    · rw [if_pos c5] at H
      have c5b0 : decide (a0_0 < 1) = true := zFq c5; clear c5; (first | rw [c5b0] | (simp only [i64_w, i32_w]; rw [c5b0]) | skip)
      have H' := zA H; clear H; obtain ⟨_, _, _, _, _, _, _, _, _, _⟩ := qc5f BK101.out; go_wp2; go_meet
      case rel => exact ⟨_, (true), (by first | rfl | (simp; done) | (simp [*]; done)), H', ⟨by first | omega | exact Nat.le_refl _⟩, ⟨by exact BK101.out⟩, ⟨qB⟩⟩
    rw [if_neg c5] at H; have c5b0 : decide (a0_0 < 1) = false := zGq c5; clear c5; (first | rw [c5b0] | (simp only [i64_w, i32_w]; rw [c5b0]) | skip)
    have H' := zA H; clear H; obtain ⟨_, _, _, _, _, _, _, _, _, _⟩ := qc5f BK101.out; go_wp2; go_meet
    case rel => exact ⟨_, (decide (a0_0 > 999999)), (by first | rfl | (simp; done) | (simp [*]; done)), H', ⟨by first | omega | exact Nat.le_refl _⟩, ⟨by exact BK101.out⟩, ⟨qB⟩⟩
  case rest =>
    clear HC2; try clear p2
    try clear c5
    try clear c5b0
    try clear c6
    obtain ⟨kq, x6_1, rfl, HA, HJ1, BK101, HB⟩ := hcut; cases kq with
    | zero => exact absurd HA.out (by simp [line_Check.j0])
    | succ kj1 =>
      have H := HA.out; clear HA; simp only [line_Check.j0] at H; by_cases c8 : x6_1 = true
      · subst c8
        have H1 : (some 2) = some r := by first | (rw [if_pos rfl] at H; exact H) | rfl
        clear H; have H := H1; clear H1; obtain rfl := zKq H; go_wp2; go_ret; exact ⟨qE, qB⟩
      replace c8 := Bool.eq_false_iff.mpr c8; subst c8; have H1 : ((line_price_may.f a0_0 a0_1 a0_2 a0_3 l0_4).bind fun t102 => (if t102 = true then (if (l0_4.length : Int) < 1 then (some 9) else (if (l0_4.length : Int) > 20 then (some 9) else ((serial_Row.f kj1 l0_4).bind fun t103 => (if t103 = 0 then (some 0) else (some 9))))) else (some 8))) = some r := by first | (rw [if_neg (show ¬ (false = true) by decide)] at H; exact H) | rfl
      clear H; have H := H1; clear H1; replace H := Option.bind_eq_some_iff.mp H; obtain ⟨t102, A90, H⟩ := H; try dsimp only at H
      have A9 := zA A90; clear A90; by_cases c10 : t102 = true
      · subst c10
        have H1 : (if (l0_4.length : Int) < 1 then (some 9) else (if (l0_4.length : Int) > 20 then (some 9) else ((serial_Row.f kj1 l0_4).bind fun t103 => (if t103 = 0 then (some 0) else (some 9))))) = some r := by first | (rw [if_pos rfl] at H; exact H) | rfl
        clear H; have H := H1; clear H1; by_cases c11 : (l0_4.length : Int) < 1
        · rw [if_pos c11] at H
          have c11b0 : decide ((l0_4.length : Int) < 1) = true := zFq c11; have c11b1 : decide (l0_4.length < 1) = true := zFq (by omega); clear c11; obtain rfl := zKq H; go_wp2_with (first | (go_at_call 118; (with_reducible refine (line_price_may.calls a0_0 a0_1 a0_2 a0_3 _ _ l0_4 true _ ?side1 ?side2 A9.out).mono ?_); (case side1 => exact qC (Kd.C_below HR0_4.out HB.out)); (case side2 => exact HC0_4.out); rintro e w12 ⟨rfl, hb⟩; have n0_ := zA (qX BK101.out hb); have n1_ := zA (zV qB hb); clear BK101 HB; have BK101 := n0_; have HB := n1_; clear n0_ n1_; (try clear hb); obtain ⟨_, _, _, _, _, _, _, _, _, _⟩ := qc5f BK101.out)); go_ret; exact ⟨qE, qB⟩
        rw [if_neg c11] at H; have c11b0 : decide ((l0_4.length : Int) < 1) = false := zGq c11; have c11b1 : decide (l0_4.length < 1) = false := zGq (by omega); clear c11; by_cases c14 : (l0_4.length : Int) > 20
        · rw [if_pos c14] at H
          have c14b0 : decide (20 < (l0_4.length : Int)) = true := zFq c14; have c14b1 : decide (20 < l0_4.length) = true := zFq (by omega); clear c14; obtain rfl := zKq H; go_wp2_with (first | (go_at_call 118; (with_reducible refine (line_price_may.calls a0_0 a0_1 a0_2 a0_3 _ _ l0_4 true _ ?side1 ?side2 A9.out).mono ?_); (case side1 => exact qC (Kd.C_below HR0_4.out HB.out)); (case side2 => exact HC0_4.out); rintro e w15 ⟨rfl, hb⟩; have n0_ := zA (qX BK101.out hb); have n1_ := zA (zV qB hb); clear BK101 HB; have BK101 := n0_; have HB := n1_; clear n0_ n1_; (try clear hb); obtain ⟨_, _, _, _, _, _, _, _, _, _⟩ := qc5f BK101.out)); go_ret; exact ⟨qE, qB⟩
        rw [if_neg c14] at H; have c14b0 : decide (20 < (l0_4.length : Int)) = false := zGq c14; have c14b1 : decide (20 < l0_4.length) = false := zGq (by omega); clear c14; replace H := Option.bind_eq_some_iff.mp H; obtain ⟨t103, A170, H⟩ := H; try dsimp only at H
        have A17 := zA A170; clear A170; by_cases c18 : t103 = 0
        · rw [if_pos c18] at H
          have c18b0 : (t103 == 0) = true := beq_iff_eq.mpr c18; have c18b1 : (t103 != 0) = false := bne_eq_false_iff_eq.mpr c18; clear c18; obtain rfl := zKq H; go_wp2_with (first | (go_at_call 118; (with_reducible refine (line_price_may.calls a0_0 a0_1 a0_2 a0_3 _ _ l0_4 true _ ?side1 ?side2 A9.out).mono ?_); (case side1 => exact qC (Kd.C_below HR0_4.out HB.out)); (case side2 => exact HC0_4.out); rintro e w19 ⟨rfl, hb⟩; have n0_ := zA (qX BK101.out hb); have n1_ := zA (zV qB hb); clear BK101 HB; have BK101 := n0_; have HB := n1_; clear n0_ n1_; (try clear hb); obtain ⟨_, _, _, _, _, _, _, _, _, _⟩ := qc5f BK101.out) | (go_at_call 119; (with_reducible refine (serial_Row.calls kj1 _ _ l0_4 t103 _ ?side1 ?side2 A17.out).mono ?_); (case side1 => exact qC (Kd.C_below HR0_4.out HB.out)); (case side2 => exact HC0_4.out); rintro e w21 ⟨rfl, hb⟩; have n0_ := zA (qX BK101.out hb); have n1_ := zA (zV qB hb); clear BK101 HB; have BK101 := n0_; have HB := n1_; clear n0_ n1_; (try clear hb))); go_ret; exact ⟨qE, qB⟩
        rw [if_neg c18] at H; have c18b0 : (t103 == 0) = false := beq_eq_false_iff_ne.mpr c18; have c18b1 : (t103 != 0) = true := bne_iff_ne.mpr c18; obtain rfl := zKq H; go_wp2_with (first | (go_at_call 118; (with_reducible refine (line_price_may.calls a0_0 a0_1 a0_2 a0_3 _ _ l0_4 true _ ?side1 ?side2 A9.out).mono ?_); (case side1 => exact qC (Kd.C_below HR0_4.out HB.out)); (case side2 => exact HC0_4.out); rintro e w22 ⟨rfl, hb⟩; have n0_ := zA (qX BK101.out hb); have n1_ := zA (zV qB hb); clear BK101 HB; have BK101 := n0_; have HB := n1_; clear n0_ n1_; (try clear hb); obtain ⟨_, _, _, _, _, _, _, _, _, _⟩ := qc5f BK101.out) | (go_at_call 119; (with_reducible refine (serial_Row.calls kj1 _ _ l0_4 t103 _ ?side1 ?side2 A17.out).mono ?_); (case side1 => exact qC (Kd.C_below HR0_4.out HB.out)); (case side2 => exact HC0_4.out); rintro e w24 ⟨rfl, hb⟩; have n0_ := zA (qX BK101.out hb); have n1_ := zA (zV qB hb); clear BK101 HB; have BK101 := n0_; have HB := n1_; clear n0_ n1_; (try clear hb))); go_ret; exact ⟨qE, qB⟩
      replace c10 := Bool.eq_false_iff.mpr c10; subst c10; have H1 : (some 8) = some r := by first | (rw [if_neg (show ¬ (false = true) by decide)] at H; exact H) | rfl
      clear H; have H := H1; clear H1; obtain rfl := zKq H; go_wp2_with (first | (go_at_call 118; (with_reducible refine (line_price_may.calls a0_0 a0_1 a0_2 a0_3 _ _ l0_4 false _ ?side1 ?side2 A9.out).mono ?_); (case side1 => exact qC (Kd.C_below HR0_4.out HB.out)); (case side2 => exact HC0_4.out); rintro e w25 ⟨rfl, hb⟩; have n0_ := zA (qX BK101.out hb); have n1_ := zA (zV qB hb); clear BK101 HB; have BK101 := n0_; have HB := n1_; clear n0_ n1_; (try clear hb))); go_ret; exact ⟨qE, qB⟩
mutual
def line_bare.j0 : Nat → List (S71) → Bool → Option ((List (S71)) × Int)
  | 0, _, _ => none
  | k + 1, x0, x14 => if x14 = true then (some (([] : List (S71)), 2)) else ((api_Line.f x0).bind fun t101 => (line_bare.l0 k t101 (t101.length : Int) 0))
def line_bare.l0 : Nat → List (S71) → Int → Int → Option ((List (S71)) × Int)
  | 0, _, _, _ => none
  | k + 1, x4, x18, x19 => if x19 < x18 then (if 0 ≤ x19 then (if x19 < (x4.length : Int) then ((some (x4.set (x19 : Int).toNat (⟨(rd_T71 x4 x19).f0, (rd_T71 x4 x19).f1, 0, (rd_T71 x4 x19).f3, (rd_T71 x4 x19).f4⟩ : S71) : List (S71))).bind fun y104 => ((some (y104.set (x19 : Int).toNat (⟨(rd_T71 y104 x19).f0, (rd_T71 y104 x19).f1, (rd_T71 y104 x19).f2, 0, (rd_T71 y104 x19).f4⟩ : S71) : List (S71))).bind fun y105 => ((line_Check.f k ((rd_T71 y105 x19).f0) ((rd_T71 y105 x19).f1) ((rd_T71 y105 x19).f2) ((rd_T71 y105 x19).f3) ((rd_T71 y105 x19).f4)).bind fun t107 => (if t107 = 0 then (line_bare.l0 k y105 x18 (wrap64 (x19 + 1))) else (some (([] : List (S71)), t107)))))) else (none)) else (none)) else (some (x4, 0))
end
def line_bare.f (k : Nat) (l0 : List (S71)) : Option ((List (S71)) × Int) := if (l0.length : Int) < 1 then (line_bare.j0 k l0 true) else (line_bare.j0 k l0 (decide ((l0.length : Int) > 8)))
theorem line_bare.mono_l : ∀ k, (∀ y0 y1, LeO (line_bare.j0 k y0 y1) (line_bare.j0 (k + 1) y0 y1)) ∧ (∀ y0 y1 y2, LeO (line_bare.l0 k y0 y1 y2) (line_bare.l0 (k + 1) y0 y1 y2))
  | 0 => ⟨fun _ _ r h => by simp [line_bare.j0] at h, fun _ _ _ r h => by simp [line_bare.l0] at h⟩
  | k + 1 => by
    obtain ⟨ih0, ih1⟩ := line_bare.mono_l k
    refine ⟨?_, ?_⟩
    · intro y0 y1
      unfold line_bare.j0
      repeat' (with_reducible first | exact ih0 _ _ | exact ih1 _ _ _ | exact line_Check.mono _ _ _ _ _ _ | exact LeO.refl _ | exact LeO.none _ | refine LeO.ite ?_ ?_ | refine LeO.bind ?_ (fun _ => ?_))
    intro y0 y1 y2
    unfold line_bare.l0
    repeat' (with_reducible first | exact ih0 _ _ | exact ih1 _ _ _ | exact line_Check.mono _ _ _ _ _ _ | exact LeO.refl _ | exact LeO.none _ | refine LeO.ite ?_ ?_ | refine LeO.bind ?_ (fun _ => ?_))
theorem line_bare.mono : ∀ a0 k, LeO (line_bare.f k a0) (line_bare.f (k + 1) a0) := by
  intro a0 k
  obtain ⟨ih0, ih1⟩ := line_bare.mono_l k
  unfold line_bare.f
  repeat' (with_reducible first | exact ih0 _ _ | exact ih1 _ _ _ | exact line_Check.mono _ _ _ _ _ _ | exact LeO.refl _ | exact LeO.none _ | refine LeO.ite ?_ ?_ | refine LeO.bind ?_ (fun _ => ?_))
set_option maxHeartbeats 8000000 in
set_option maxRecDepth 100000 in
theorem line_bare.calls (k : Nat) (P0_ : Nat → Prop) (A0 : Option Addr) (c0 : Nat) (l0 : List (S71)) (r1 : List (S71)) (r2 : Int) (w : World) (hs0 : Kd.V k71 71 w w.heap.size (fun k_ => P0_ k_) (.slice A0 l0.length c0) l0) (h : line_bare.f k l0 = some (r1, r2)) :
    Calls Try.prog 111 #[.slice A0 l0.length c0] w fun e w' => ∃ v0_ : Value, e = .returned (.tuple #[v0_, .int .i64 r2]) ∧ Kd.N k71 71 w' w.heap.size (fun k_ => (P0_ k_ ∨ w.heap.size ≤ k_)) v0_ r1 ∧ Below w.heap.size w w' := by
  have hu71 := Try.underlying71
  have HO0 := zA (show Kd.V k71 71 w w.heap.size (fun k_ => (P0_ k_ ∨ w.heap.size ≤ k_)) (.slice A0 l0.length c0) l0 from Kd.V_mono hs0 (fun k_ hk => .inl hk))
  have HB := zA (Below.refl w.heap.size w)
  have H : (if (l0.length : Int) < 1 then (line_bare.j0 k l0 true) else (line_bare.j0 k l0 (decide ((l0.length : Int) > 8)))) = some (r1, r2) := h
  clear h
  have HC2 := zA H
  clear H
  go_enter Try.func111, Try.ntmps111
  go_upto_region 1 with (fail)
  go_cut [14] (fun v14 wc => ∃ (kq : Nat) (x14_1 : Bool), v14 = .bool x14_1 ∧ Aside0 (line_bare.j0 kq l0 x14_1 = some (r1, r2)) ∧ Aside0 (kq ≤ k) ∧ Aside0 (Kd.V k71 71 wc w.heap.size (fun k_ => (P0_ k_ ∨ w.heap.size ≤ k_)) (.slice A0 l0.length c0) l0) ∧ Aside0 (Below w.heap.size w wc))
  case first =>
    have H := HC2.out; clear HC2; by_cases c3 : (l0.length : Int) < 1
    · rw [if_pos c3] at H
      have c3b0 : decide ((l0.length : Int) < 1) = true := zFq c3; have c3b1 : decide (l0.length < 1) = true := zFq (by omega); clear c3; (first | rw [c3b0] | (simp only [i64_w, i32_w]; rw [c3b0]) | skip)
      have H' := zA H; clear H; go_wp2; go_meet
      case rel => exact ⟨_, (true), (by first | rfl | (simp; done) | (simp [*]; done)), H', ⟨by first | omega | exact Nat.le_refl _⟩, ⟨by (with_reducible repeat (first | apply Kd.V_alloc | apply Kd.V_drewN | apply Kd.V_drew)); exact HO0.out⟩, ⟨qB⟩⟩
    rw [if_neg c3] at H; have c3b0 : decide ((l0.length : Int) < 1) = false := zGq c3; have c3b1 : decide (l0.length < 1) = false := zGq (by omega); clear c3; (first | rw [c3b0] | (simp only [i64_w, i32_w]; rw [c3b0]) | skip)
    have H' := zA H; clear H; go_wp2; go_meet
    case rel => exact ⟨_, (decide ((l0.length : Int) > 8)), (by first | rfl | (simp; done) | (simp [*]; done)), H', ⟨by first | omega | exact Nat.le_refl _⟩, ⟨by (with_reducible repeat (first | apply Kd.V_alloc | apply Kd.V_drewN | apply Kd.V_drew)); exact HO0.out⟩, ⟨qB⟩⟩
  case rest =>
    clear HC2; try clear c1
    try clear p2
    try clear c3
    try clear c3b0
    try clear c3b1
    obtain ⟨kq, x14_1, rfl, HA, HJ1, HO_0, HB⟩ := hcut; cases kq with
    | zero => exact absurd HA.out (by simp [line_bare.j0])
    | succ kj1 =>
      have H := HA.out; clear HA; simp only [line_bare.j0] at H; by_cases c4 : x14_1 = true
      · subst c4
        have H1 : (some (([] : List (S71)), 2)) = some (r1, r2) := by first | (rw [if_pos rfl] at H; exact H) | rfl
        clear H; have H := H1; clear H1; simp only [zNq, zOq] at H; obtain ⟨rfl, rfl⟩ := H; go_wp2; go_ret2; exact ⟨_, qE, by first | exact Kd.S_nil _ _ _ _ _ | exact Kd.N_nil _ _ _ _ _ | exact Kd.V_nil _ _ _ _ _ | exact Kd.Q_nil _ _ _ _ _ | exact Kd.R_nil _ _ _ _ _, qB⟩
      replace c4 := Bool.eq_false_iff.mpr c4; subst c4; have H1 : ((api_Line.f l0).bind fun t101 => (line_bare.l0 kj1 t101 (t101.length : Int) 0)) = some (r1, r2) := by first | (rw [if_neg (show ¬ (false = true) by decide)] at H; exact H) | rfl
      clear H; have H := H1; clear H1; replace H := Option.bind_eq_some_iff.mp H; obtain ⟨t101, A50, H⟩ := H; try dsimp only at H
      have A5 := zA A50; clear A50; have H' := zA H; clear H; go_wp2_with (first | ((with_reducible refine zJq (f := 141) rfl ?_); refine goesL_ (some 16) rfl rfl Try.func141 (by kernel_rfl) rfl #[.slice A0 l0.length c0] rfl qG ?_; (with_reducible refine (api_Line.calls (fun k_ => (P0_ k_ ∨ w.heap.size ≤ k_)) _ _ l0 t101 _ ?side1 A5.out).mono ?_); (case side1 => exact HO_0.out); rintro e w6 ⟨v102, rfl, ho0, hb⟩; refine ⟨_, rfl, ?_⟩; have n0_ := zA (Kd.V_elder' (by (with_reducible repeat (first | apply Kd.V_alloc | apply Kd.V_drewN | apply Kd.V_drew)); exact HO_0.out) (Kd.N_base ho0) hb); have n1_ := zA (Kd.N_lower (Kd.N_mono (ok' := fun k_ => (P0_ k_ ∨ w.heap.size ≤ k_)) ho0 (fun k_ hk_ => Or.elim hk_ (fun hs_ => hs_) (fun hn_ => (.inr (Nat.le_trans (zW qB) hn_))))) (zW qB)); have n2_ := zA (zV qB hb); clear HO_0 HB; have HO_0 := n0_; have HO103 := n1_; have HB := n2_; clear n0_ n1_ n2_; (try clear hb); (try clear ho0); obtain ⟨Ao7, co7, eo7⟩ := Kd.N_slice HO103.out; subst eo7)); go_loopg [19] kj1 (fun kq v19 w' => ∃ (x4_2 : List (S71)) (x19_2 : Int), v19 = .int .i64 x19_2 ∧ Aside0 (line_bare.l0 kq x4_2 (t101.length : Int) x19_2 = some (r1, r2)) ∧ Aside0 (kq ≤ kj1) ∧ Aside0 (Kd.N k71 71 w' w.heap.size (fun k_ => (P0_ k_ ∨ w.heap.size ≤ k_)) (.slice Ao7 t101.length co7) x4_2) ∧ Aside0 (Below w.heap.size w w'))
      case atStart => exact ⟨(t101), (0), (by first | rfl | (simp; done) | (simp [*]; done)), H', ⟨Nat.le_refl _⟩, ⟨by (with_reducible repeat (first | apply Kd.N_alloc | apply Kd.N_drewN | apply Kd.N_drew)); exact HO103.out⟩, ⟨qB⟩⟩
      case round =>
        clear H'; try clear c1
        try clear p2
        try clear c3
        try clear c3b0
        try clear c3b1
        try clear c4
        try clear p2
        obtain ⟨x4_2, x19_2, rfl, HA, HK2, HO_4, HB⟩ := hrel; have hl4_2 := (Kd.N_reads' HO_4.out).1; rw [hl4_2] at HO_4; (try simp only [hl4_2])
        cases gk with
        | zero => exact absurd HA.out (by simp [line_bare.l0])
        | succ k2 =>
          have H := HA.out; clear HA; simp only [line_bare.l0] at H; by_cases c8 : x19_2 < (t101.length : Int)
          · rw [if_pos c8] at H
            have c8b0 : decide (x19_2 < (t101.length : Int)) = true := zFq c8; clear c8; by_cases c9 : 0 ≤ x19_2
            · rw [if_pos c9] at H
              have c9b0 : decide (0 ≤ x19_2) = true := zFq c9; clear c9; by_cases c10 : x19_2 < (x4_2.length : Int)
              · rw [if_pos c10] at H
                have c10b0 : decide (x19_2 < (x4_2.length : Int)) = true := zFq c10; clear c10; obtain ⟨y104, hy104⟩ : ∃ y_ : List (S71), y_ = (x4_2.set (x19_2 : Int).toNat (⟨(rd_T71 x4_2 x19_2).f0, (rd_T71 x4_2 x19_2).f1, 0, (rd_T71 x4_2 x19_2).f3, (rd_T71 x4_2 x19_2).f4⟩ : S71)) := ⟨_, rfl⟩
                replace H : ((some (y104.set (x19_2 : Int).toNat (⟨(rd_T71 y104 x19_2).f0, (rd_T71 y104 x19_2).f1, (rd_T71 y104 x19_2).f2, 0, (rd_T71 y104 x19_2).f4⟩ : S71) : List (S71))).bind fun y105 => ((line_Check.f k2 ((rd_T71 y105 x19_2).f0) ((rd_T71 y105 x19_2).f1) ((rd_T71 y105 x19_2).f2) ((rd_T71 y105 x19_2).f3) ((rd_T71 y105 x19_2).f4)).bind fun t107 => (if t107 = 0 then (line_bare.l0 k2 y105 (t101.length : Int) (wrap64 (x19_2 + 1))) else (some (([] : List (S71)), t107))))) = some (r1, r2) := by first | (rw [hy104]; with_reducible exact H) | (have H2_ := (Option.bind_some _ _).symm.trans H; rw [hy104]; with_reducible exact H2_) | (have H2_ := (Option.bind_some _ _).symm.trans H; with_reducible exact H2_) | with_reducible exact H | (rw [hy104]; exact H) | exact H
                have Ny104 := zA hy104; clear hy104; obtain ⟨y105, hy105⟩ : ∃ y_ : List (S71), y_ = (y104.set (x19_2 : Int).toNat (⟨(rd_T71 y104 x19_2).f0, (rd_T71 y104 x19_2).f1, (rd_T71 y104 x19_2).f2, 0, (rd_T71 y104 x19_2).f4⟩ : S71)) := ⟨_, rfl⟩
                replace H : ((line_Check.f k2 ((rd_T71 y105 x19_2).f0) ((rd_T71 y105 x19_2).f1) ((rd_T71 y105 x19_2).f2) ((rd_T71 y105 x19_2).f3) ((rd_T71 y105 x19_2).f4)).bind fun t107 => (if t107 = 0 then (line_bare.l0 k2 y105 (t101.length : Int) (wrap64 (x19_2 + 1))) else (some (([] : List (S71)), t107)))) = some (r1, r2) := by first | (rw [hy105]; with_reducible exact H) | (have H2_ := (Option.bind_some _ _).symm.trans H; rw [hy105]; with_reducible exact H2_) | (have H2_ := (Option.bind_some _ _).symm.trans H; with_reducible exact H2_) | with_reducible exact H | (rw [hy105]; exact H) | exact H
                have Ny105 := zA hy105; clear hy105; replace H := Option.bind_eq_some_iff.mp H; obtain ⟨t107, A130, H⟩ := H; try dsimp only at H
                have A13 := zA A130; clear A130; by_cases c14 : t107 = 0
                · rw [if_pos c14] at H
                  have c14b0 : (t107 == 0) = true := beq_iff_eq.mpr c14; have c14b1 : (t107 != 0) = false := bne_eq_false_iff_eq.mpr c14; clear c14; have H' := zA H; clear H; have p11 : 0 ≤ (x19_2 : Int) := of_decide_eq_true qA; have q11 : (x19_2 : Int) < ((x4_2.length : Int) : Int) := of_decide_eq_true qA; obtain ⟨go11, co11, eo11, gb11, gl11, cl11, HG11⟩ := Kd.N_form HO_4.out (by omega); (first | cases eo11 | (injection eo11 with ea_ en_ ec_; (first | subst ea_ | (injection ea_ with ea_; subst ea_)); subst ec_; clear en_))
                  have GB11 := zA gb11; have GG11 := zA HG11; clear gb11 gl11 HG11; obtain ⟨ce11, hcl11, hM11, hcc11, hfr11⟩ := Kd.N_elem HO_4.out z71 (x19_2 : Int) p11 q11; obtain ⟨ua11_4, uc11_4, rfl, ul11_4, ge11_4⟩ := k71_openF hM11; have hx11_0 : wr.cell? ⟨go11, (x19_2 : Int).toNat * 5, none⟩ = some (.int .i64 ((rd_T71 x4_2 x19_2).f0)) := hcc11 0 _ rfl; have hx11_1 : wr.cell? ⟨go11, (x19_2 : Int).toNat * 5 + 1, none⟩ = some (.int .i64 ((rd_T71 x4_2 x19_2).f1)) := hcc11 1 _ rfl; have hx11_2 : wr.cell? ⟨go11, (x19_2 : Int).toNat * 5 + 2, none⟩ = some (.int .i64 ((rd_T71 x4_2 x19_2).f2)) := hcc11 2 _ rfl; have hx11_3 : wr.cell? ⟨go11, (x19_2 : Int).toNat * 5 + 3, none⟩ = some (.int .i64 ((rd_T71 x4_2 x19_2).f3)) := hcc11 3 _ rfl; have hx11_4 : wr.cell? ⟨go11, (x19_2 : Int).toNat * 5 + 4, none⟩ = some (.slice ua11_4 ((rd_T71 x4_2 x19_2).f4).length uc11_4) := hcc11 4 _ rfl; have hf11_0 : wr.frozen? ⟨go11, (x19_2 : Int).toNat * 5, none⟩ = false := hfr11 0; have hf11_1 : wr.frozen? ⟨go11, (x19_2 : Int).toNat * 5 + 1, none⟩ = false := hfr11 1; have hf11_2 : wr.frozen? ⟨go11, (x19_2 : Int).toNat * 5 + 2, none⟩ = false := hfr11 2; have hf11_3 : wr.frozen? ⟨go11, (x19_2 : Int).toNat * 5 + 3, none⟩ = false := hfr11 3; have hf11_4 : wr.frozen? ⟨go11, (x19_2 : Int).toNat * 5 + 4, none⟩ = false := hfr11 4; clear hcl11 hcc11 hfr11 hM11; replace p11 := eq_true p11; replace q11 := eq_true q11; have HX15 := zA (show Kd.N k71 71 wr w.heap.size (fun k_ => (P0_ k_ ∨ w.heap.size ≤ k_)) (.slice (some ⟨go11, 0, none⟩) x4_2.length co7) x4_2 from (by (with_reducible repeat (first | apply Kd.N_alloc | apply Kd.N_drewN | apply Kd.N_drew)); exact HO_4.out)); obtain ⟨ce15, hcl15, hM15, hcc15, hfr15⟩ := Kd.N_elem HX15.out z71 (x19_2 : Int) (of_decide_eq_true qA) (by have h_ : (x19_2 : Int) < ((x4_2.length : Int) : Int) := of_decide_eq_true qA; first | exact h_ | (have e_ := (Kd.N_reads' HO_4.out).1; omega) | simpa using h_); obtain ⟨ua15_4, uc15_4, rfl, ul15_4, ge15_4⟩ := k71_openF hM15; have HP15 := Kd.N_seg HX15.out (x19_2 : Int) (of_decide_eq_true qA) (by have h_ : (x19_2 : Int) < ((x4_2.length : Int) : Int) := of_decide_eq_true qA; first | exact h_ | (have e_ := (Kd.N_reads' HO_4.out).1; omega) | simpa using h_) (seg := [.int .i64 0]) (j := 2) hcl15 hcc15 (show 3 ≤ 5 from by decide) (x' := (⟨(rd_T71 x4_2 x19_2).f0, (rd_T71 x4_2 x19_2).f1, 0, (rd_T71 x4_2 x19_2).f3, (rd_T71 x4_2 x19_2).f4⟩ : S71)) (k71_mkF _ _ (⟨(rd_T71 x4_2 x19_2).f0, (rd_T71 x4_2 x19_2).f1, 0, (rd_T71 x4_2 x19_2).f3, (rd_T71 x4_2 x19_2).f4⟩ : S71) ul15_4 ge15_4) (fun _ hk => hk); have hx15_2 := hcc15 2 _ rfl; (try simp only [show (k71).sz = 5 from rfl, Nat.mul_one, Nat.add_zero] at hx15_2)
                  have hf15_2 := hfr15 2; (try simp only [show (k71).sz = 5 from rfl, Nat.mul_one, Nat.add_zero] at hf15_2)
                  clear hcl15 hcc15 hfr15 hM15; go_wp2_with (first | ((with_reducible refine gate_store (t := 3) (p := 27) rfl ?_); refine store_event (t := 3) (p := 27) (v := ?vo_w16) (w1 := (wr.setCell ⟨go11, (x19_2 : Int).toNat * 5 + 2, none⟩ (.int .i64 0))) ?hg ?ho ?hn ?hr ?_; (case ho => rfl); (case hg => rfl); (case hn => rfl); (case hr => first | (go_simp; done) | (go_simp; rfl)); intro w16 hw; have hg : wr.grownBy w16 (some go11) := (by rw [hw]; exact HP15.2); have hp_ : Kd.N k71 71 w16 w.heap.size (fun k_ => (P0_ k_ ∨ w.heap.size ≤ k_)) (.slice (some ⟨go11, 0, none⟩) x4_2.length co7) y104 := (by rw [hw, Ny104.out]; exact HP15.1); clear HP15; have n0_ := zA (hp_); have n1_ := zA ((by rw [hw]; exact zE (HB.out) GB11.out : Below w.heap.size w w16)); clear HO_4 HB; have HO_4 := n0_; have HB := n1_; clear n0_ n1_ hg hw hp_; have p12 : 0 ≤ (x19_2 : Int) := of_decide_eq_true qA; have q12 : (x19_2 : Int) < ((x4_2.length : Int) : Int) := of_decide_eq_true qA; obtain ⟨ce12, hcl12, hM12, hcc12, hfr12⟩ := Kd.N_elem HO_4.out z71 (x19_2 : Int) p12 q12; obtain ⟨ua12_4, uc12_4, rfl, ul12_4, ge12_4⟩ := k71_openF hM12; have hx12_0 : w16.cell? ⟨go11, (x19_2 : Int).toNat * 5, none⟩ = some (.int .i64 ((rd_T71 y104 x19_2).f0)) := hcc12 0 _ rfl; have hx12_1 : w16.cell? ⟨go11, (x19_2 : Int).toNat * 5 + 1, none⟩ = some (.int .i64 ((rd_T71 y104 x19_2).f1)) := hcc12 1 _ rfl; have hx12_2 : w16.cell? ⟨go11, (x19_2 : Int).toNat * 5 + 2, none⟩ = some (.int .i64 ((rd_T71 y104 x19_2).f2)) := hcc12 2 _ rfl; have hx12_3 : w16.cell? ⟨go11, (x19_2 : Int).toNat * 5 + 3, none⟩ = some (.int .i64 ((rd_T71 y104 x19_2).f3)) := hcc12 3 _ rfl; have hx12_4 : w16.cell? ⟨go11, (x19_2 : Int).toNat * 5 + 4, none⟩ = some (.slice ua12_4 ((rd_T71 y104 x19_2).f4).length uc12_4) := hcc12 4 _ rfl; have hf12_0 : w16.frozen? ⟨go11, (x19_2 : Int).toNat * 5, none⟩ = false := hfr12 0; have hf12_1 : w16.frozen? ⟨go11, (x19_2 : Int).toNat * 5 + 1, none⟩ = false := hfr12 1; have hf12_2 : w16.frozen? ⟨go11, (x19_2 : Int).toNat * 5 + 2, none⟩ = false := hfr12 2; have hf12_3 : w16.frozen? ⟨go11, (x19_2 : Int).toNat * 5 + 3, none⟩ = false := hfr12 3; have hf12_4 : w16.frozen? ⟨go11, (x19_2 : Int).toNat * 5 + 4, none⟩ = false := hfr12 4; clear hcl12 hcc12 hfr12 hM12; replace p12 := eq_true p12; replace q12 := eq_true q12; have HX17 := zA (show Kd.N k71 71 w16 w.heap.size (fun k_ => (P0_ k_ ∨ w.heap.size ≤ k_)) (.slice (some ⟨go11, 0, none⟩) x4_2.length co7) y104 from (by (with_reducible repeat (first | apply Kd.N_alloc | apply Kd.N_drewN | apply Kd.N_drew)); exact HO_4.out)); obtain ⟨ce17, hcl17, hM17, hcc17, hfr17⟩ := Kd.N_elem HX17.out z71 (x19_2 : Int) (of_decide_eq_true qA) (by have h_ : (x19_2 : Int) < ((x4_2.length : Int) : Int) := of_decide_eq_true qA; first | exact h_ | (have e_ := (Kd.N_reads' HO_4.out).1; omega) | simpa using h_); obtain ⟨ua17_4, uc17_4, rfl, ul17_4, ge17_4⟩ := k71_openF hM17; have HP17 := Kd.N_seg HX17.out (x19_2 : Int) (of_decide_eq_true qA) (by have h_ : (x19_2 : Int) < ((x4_2.length : Int) : Int) := of_decide_eq_true qA; first | exact h_ | (have e_ := (Kd.N_reads' HO_4.out).1; omega) | simpa using h_) (seg := [.int .i64 0]) (j := 3) hcl17 hcc17 (show 4 ≤ 5 from by decide) (x' := (⟨(rd_T71 y104 x19_2).f0, (rd_T71 y104 x19_2).f1, (rd_T71 y104 x19_2).f2, 0, (rd_T71 y104 x19_2).f4⟩ : S71)) (k71_mkF _ _ (⟨(rd_T71 y104 x19_2).f0, (rd_T71 y104 x19_2).f1, (rd_T71 y104 x19_2).f2, 0, (rd_T71 y104 x19_2).f4⟩ : S71) ul17_4 ge17_4) (fun _ hk => hk); have hx17_3 := hcc17 3 _ rfl; (try simp only [show (k71).sz = 5 from rfl, Nat.mul_one, Nat.add_zero] at hx17_3); have hf17_3 := hfr17 3; (try simp only [show (k71).sz = 5 from rfl, Nat.mul_one, Nat.add_zero] at hf17_3); clear hcl17 hcc17 hfr17 hM17) | ((with_reducible refine gate_store (t := 3) (p := 29) rfl ?_); refine store_event (t := 3) (p := 29) (v := ?vo_w18) (w1 := (w16.setCell ⟨go11, (x19_2 : Int).toNat * 5 + 3, none⟩ (.int .i64 0))) ?hg ?ho ?hn ?hr ?_; (case ho => rfl); (case hg => rfl); (case hn => rfl); (case hr => first | (go_simp; done) | (go_simp; rfl)); intro w18 hw; have hg : w16.grownBy w18 (some go11) := (by rw [hw]; exact HP17.2); have hp_ : Kd.N k71 71 w18 w.heap.size (fun k_ => (P0_ k_ ∨ w.heap.size ≤ k_)) (.slice (some ⟨go11, 0, none⟩) x4_2.length co7) y105 := (by rw [hw, Ny105.out]; exact HP17.1); clear HP17; have n0_ := zA (hp_); have n1_ := zA ((by rw [hw]; exact zE (HB.out) GB11.out : Below w.heap.size w w18)); clear HO_4 HB; have HO_4 := n0_; have HB := n1_; clear n0_ n1_ hg hw hp_; have p106 : 0 ≤ (x19_2 : Int) := of_decide_eq_true qA; have q106 : x19_2 < (y105.length : Int) := (by have h_ : (x19_2 : Int) < ((x4_2.length : Int) : Int) := of_decide_eq_true qA; first | (have e_ := (Kd.N_reads' HO_4.out).1; omega) | simpa only [Ny104.out, Ny105.out, List.length_set] using h_); have ql106 : ((x19_2 : Int) < ((x4_2.length : Int) : Int)) = True := eq_true (of_decide_eq_true qA); obtain ⟨ad106, A106_4, c106_4, e106, hx106_0, hx106_1, hx106_2, hx106_3, hx106_4, hl106_4, hi106_4⟩ := at_T71 (Kd.N_reads' HO_4.out).2.2 x19_2 p106 q106; obtain rfl : (⟨go11, 0, none⟩ : Addr) = ad106 := (by injection e106); obtain ⟨ce106, hce106, hMe106, hcc106⟩ := Kd.N_get HO_4.out z71 x19_2 p106 (by first | exact q106 | exact of_decide_eq_true qA | (have e_ := (Kd.N_reads' HO_4.out).1; omega)); obtain ⟨ua106_4, uc106_4, rfl, ul106_4, ge106_4⟩ := k71_openF hMe106; have hv106_4 := hcc106 4 _ rfl; rw [add_field _ _ 4 (by omega)] at hv106_4; replace hv106_4 := zKq (hv106_4.symm.trans hx106_4); injection hv106_4 with hva_ hvn_ hvc_; rw [hva_] at ge106_4; rw [hvc_] at ul106_4; have HL106_4 := zA (show Kd.V Kd.string 9 _ w.heap.size _ _ ((rd_T71 y105 x19_2).f4) from Kd.V_mk ul106_4 ge106_4); clear hva_ hvn_ hvc_ ge106_4 ul106_4 hcc106 hce106; (first | simp only [add_plain] at hx106_0 | simp only [add_at] at hx106_0 | simp only [Addr.add, Nat.zero_add] at hx106_0 | skip); (first | simp only [add_plain] at hx106_1 | simp only [add_at] at hx106_1 | simp only [Addr.add, Nat.zero_add] at hx106_1 | skip); (first | simp only [add_plain] at hx106_2 | simp only [add_at] at hx106_2 | simp only [Addr.add, Nat.zero_add] at hx106_2 | skip); (first | simp only [add_plain] at hx106_3 | simp only [add_at] at hx106_3 | simp only [Addr.add, Nat.zero_add] at hx106_3 | skip); (first | simp only [add_plain] at hx106_4 | simp only [add_at] at hx106_4 | simp only [Addr.add, Nat.zero_add] at hx106_4 | skip); have HR106_4 := zA hi106_4; have HC106_4 := zA hl106_4; clear hi106_4 hl106_4; replace p106 := eq_true p106; replace q106 := eq_true q106) | ((with_reducible refine zJq (f := 69) rfl ?_); refine goesL_ (some 34) rfl rfl Try.func69 (by kernel_rfl) rfl #[.agg #[.int .i64 ((rd_T71 y105 x19_2).f0), .int .i64 ((rd_T71 y105 x19_2).f1), .int .i64 ((rd_T71 y105 x19_2).f2), .int .i64 ((rd_T71 y105 x19_2).f3), .slice A106_4 ((rd_T71 y105 x19_2).f4).length c106_4]] rfl qG ?_; (with_reducible refine (line_Check.calls k2 ((rd_T71 y105 x19_2).f0) ((rd_T71 y105 x19_2).f1) ((rd_T71 y105 x19_2).f2) ((rd_T71 y105 x19_2).f3) _ _ ((rd_T71 y105 x19_2).f4) t107 _ ?side1 ?side2 A13.out).mono ?_); (case side1 => repeat (first | exact (by repeat (first | (with_reducible exact HR106_4.out) | (with_reducible refine Kd.C_alloc ?_ _) | (with_reducible refine Kd.C_drewN ?_ _) | (with_reducible refine Kd.C_drew ?_) | exact HR106_4.out)) | (with_reducible refine Kd.C_alloc ?_ _) | (with_reducible refine Kd.C_drewN ?_ _) | (with_reducible refine Kd.C_drew ?_))); (case side2 => exact HC106_4.out); rintro e w19 ⟨rfl, hb⟩; refine ⟨_, rfl, ?_⟩; have n0_ := zA (Kd.N_below (by (with_reducible repeat (first | apply Kd.N_alloc | apply Kd.N_drewN | apply Kd.N_drew)); exact HO_4.out) hb); have n1_ := zA (Kd.V_below (by (with_reducible repeat (first | apply Kd.V_alloc | apply Kd.V_drewN | apply Kd.V_drew)); exact HL106_4.out) hb); have n2_ := zA (Kd.C_below (by repeat (first | (with_reducible exact HR106_4.out) | (with_reducible refine Kd.C_alloc ?_ _) | (with_reducible refine Kd.C_drewN ?_ _) | (with_reducible refine Kd.C_drew ?_) | exact HR106_4.out)) hb); have n3_ := zA (zV qB hb); clear HO_4 HL106_4 HR106_4 HB; have HO_4 := n0_; have HL106_4 := n1_; have HR106_4 := n2_; have HB := n3_; clear n0_ n1_ n2_ n3_; (try clear hb)))
                  (try simp only [← hl4_2])
                  go_roundg k2
                  case measure => have := HJ1.out; have := HK2.out; omega
                  case rel => exact ⟨(y105), (wrap64 (x19_2 + 1)), (by first | rfl | (simp; done) | (simp [*]; done)), H', ⟨by have := HJ1.out; have := HK2.out; omega⟩, ⟨by (try simp only [hl4_2]); (with_reducible repeat (first | apply Kd.N_alloc | apply Kd.N_drewN | apply Kd.N_drew)); exact HO_4.out⟩, ⟨qB⟩⟩
                rw [if_neg c14] at H; have c14b0 : (t107 == 0) = false := beq_eq_false_iff_ne.mpr c14; have c14b1 : (t107 != 0) = true := bne_iff_ne.mpr c14; simp only [zNq, zOq] at H; obtain ⟨rfl, rfl⟩ := H; have p11 : 0 ≤ (x19_2 : Int) := of_decide_eq_true qA; have q11 : (x19_2 : Int) < ((x4_2.length : Int) : Int) := of_decide_eq_true qA; obtain ⟨go11, co11, eo11, gb11, gl11, cl11, HG11⟩ := Kd.N_form HO_4.out (by omega); (first | cases eo11 | (injection eo11 with ea_ en_ ec_; (first | subst ea_ | (injection ea_ with ea_; subst ea_)); subst ec_; clear en_))
                have GB11 := zA gb11; have GG11 := zA HG11; clear gb11 gl11 HG11; obtain ⟨ce11, hcl11, hM11, hcc11, hfr11⟩ := Kd.N_elem HO_4.out z71 (x19_2 : Int) p11 q11; obtain ⟨ua11_4, uc11_4, rfl, ul11_4, ge11_4⟩ := k71_openF hM11; have hx11_0 : wr.cell? ⟨go11, (x19_2 : Int).toNat * 5, none⟩ = some (.int .i64 ((rd_T71 x4_2 x19_2).f0)) := hcc11 0 _ rfl; have hx11_1 : wr.cell? ⟨go11, (x19_2 : Int).toNat * 5 + 1, none⟩ = some (.int .i64 ((rd_T71 x4_2 x19_2).f1)) := hcc11 1 _ rfl; have hx11_2 : wr.cell? ⟨go11, (x19_2 : Int).toNat * 5 + 2, none⟩ = some (.int .i64 ((rd_T71 x4_2 x19_2).f2)) := hcc11 2 _ rfl; have hx11_3 : wr.cell? ⟨go11, (x19_2 : Int).toNat * 5 + 3, none⟩ = some (.int .i64 ((rd_T71 x4_2 x19_2).f3)) := hcc11 3 _ rfl; have hx11_4 : wr.cell? ⟨go11, (x19_2 : Int).toNat * 5 + 4, none⟩ = some (.slice ua11_4 ((rd_T71 x4_2 x19_2).f4).length uc11_4) := hcc11 4 _ rfl; have hf11_0 : wr.frozen? ⟨go11, (x19_2 : Int).toNat * 5, none⟩ = false := hfr11 0; have hf11_1 : wr.frozen? ⟨go11, (x19_2 : Int).toNat * 5 + 1, none⟩ = false := hfr11 1; have hf11_2 : wr.frozen? ⟨go11, (x19_2 : Int).toNat * 5 + 2, none⟩ = false := hfr11 2; have hf11_3 : wr.frozen? ⟨go11, (x19_2 : Int).toNat * 5 + 3, none⟩ = false := hfr11 3; have hf11_4 : wr.frozen? ⟨go11, (x19_2 : Int).toNat * 5 + 4, none⟩ = false := hfr11 4; clear hcl11 hcc11 hfr11 hM11; replace p11 := eq_true p11; replace q11 := eq_true q11; have HX20 := zA (show Kd.N k71 71 wr w.heap.size (fun k_ => (P0_ k_ ∨ w.heap.size ≤ k_)) (.slice (some ⟨go11, 0, none⟩) x4_2.length co7) x4_2 from (by (with_reducible repeat (first | apply Kd.N_alloc | apply Kd.N_drewN | apply Kd.N_drew)); exact HO_4.out)); obtain ⟨ce20, hcl20, hM20, hcc20, hfr20⟩ := Kd.N_elem HX20.out z71 (x19_2 : Int) (of_decide_eq_true qA) (by have h_ : (x19_2 : Int) < ((x4_2.length : Int) : Int) := of_decide_eq_true qA; first | exact h_ | (have e_ := (Kd.N_reads' HO_4.out).1; omega) | simpa using h_); obtain ⟨ua20_4, uc20_4, rfl, ul20_4, ge20_4⟩ := k71_openF hM20; have HP20 := Kd.N_seg HX20.out (x19_2 : Int) (of_decide_eq_true qA) (by have h_ : (x19_2 : Int) < ((x4_2.length : Int) : Int) := of_decide_eq_true qA; first | exact h_ | (have e_ := (Kd.N_reads' HO_4.out).1; omega) | simpa using h_) (seg := [.int .i64 0]) (j := 2) hcl20 hcc20 (show 3 ≤ 5 from by decide) (x' := (⟨(rd_T71 x4_2 x19_2).f0, (rd_T71 x4_2 x19_2).f1, 0, (rd_T71 x4_2 x19_2).f3, (rd_T71 x4_2 x19_2).f4⟩ : S71)) (k71_mkF _ _ (⟨(rd_T71 x4_2 x19_2).f0, (rd_T71 x4_2 x19_2).f1, 0, (rd_T71 x4_2 x19_2).f3, (rd_T71 x4_2 x19_2).f4⟩ : S71) ul20_4 ge20_4) (fun _ hk => hk); have hx20_2 := hcc20 2 _ rfl; (try simp only [show (k71).sz = 5 from rfl, Nat.mul_one, Nat.add_zero] at hx20_2)
                have hf20_2 := hfr20 2; (try simp only [show (k71).sz = 5 from rfl, Nat.mul_one, Nat.add_zero] at hf20_2)
                clear hcl20 hcc20 hfr20 hM20; go_wp2_with (first | ((with_reducible refine gate_store (t := 3) (p := 27) rfl ?_); refine store_event (t := 3) (p := 27) (v := ?vo_w21) (w1 := (wr.setCell ⟨go11, (x19_2 : Int).toNat * 5 + 2, none⟩ (.int .i64 0))) ?hg ?ho ?hn ?hr ?_; (case ho => rfl); (case hg => rfl); (case hn => rfl); (case hr => first | (go_simp; done) | (go_simp; rfl)); intro w21 hw; have hg : wr.grownBy w21 (some go11) := (by rw [hw]; exact HP20.2); have hp_ : Kd.N k71 71 w21 w.heap.size (fun k_ => (P0_ k_ ∨ w.heap.size ≤ k_)) (.slice (some ⟨go11, 0, none⟩) x4_2.length co7) y104 := (by rw [hw, Ny104.out]; exact HP20.1); clear HP20; have n0_ := zA (hp_); have n1_ := zA ((by rw [hw]; exact zE (HB.out) GB11.out : Below w.heap.size w w21)); clear HO_4 HB; have HO_4 := n0_; have HB := n1_; clear n0_ n1_ hg hw hp_; have p12 : 0 ≤ (x19_2 : Int) := of_decide_eq_true qA; have q12 : (x19_2 : Int) < ((x4_2.length : Int) : Int) := of_decide_eq_true qA; obtain ⟨ce12, hcl12, hM12, hcc12, hfr12⟩ := Kd.N_elem HO_4.out z71 (x19_2 : Int) p12 q12; obtain ⟨ua12_4, uc12_4, rfl, ul12_4, ge12_4⟩ := k71_openF hM12; have hx12_0 : w21.cell? ⟨go11, (x19_2 : Int).toNat * 5, none⟩ = some (.int .i64 ((rd_T71 y104 x19_2).f0)) := hcc12 0 _ rfl; have hx12_1 : w21.cell? ⟨go11, (x19_2 : Int).toNat * 5 + 1, none⟩ = some (.int .i64 ((rd_T71 y104 x19_2).f1)) := hcc12 1 _ rfl; have hx12_2 : w21.cell? ⟨go11, (x19_2 : Int).toNat * 5 + 2, none⟩ = some (.int .i64 ((rd_T71 y104 x19_2).f2)) := hcc12 2 _ rfl; have hx12_3 : w21.cell? ⟨go11, (x19_2 : Int).toNat * 5 + 3, none⟩ = some (.int .i64 ((rd_T71 y104 x19_2).f3)) := hcc12 3 _ rfl; have hx12_4 : w21.cell? ⟨go11, (x19_2 : Int).toNat * 5 + 4, none⟩ = some (.slice ua12_4 ((rd_T71 y104 x19_2).f4).length uc12_4) := hcc12 4 _ rfl; have hf12_0 : w21.frozen? ⟨go11, (x19_2 : Int).toNat * 5, none⟩ = false := hfr12 0; have hf12_1 : w21.frozen? ⟨go11, (x19_2 : Int).toNat * 5 + 1, none⟩ = false := hfr12 1; have hf12_2 : w21.frozen? ⟨go11, (x19_2 : Int).toNat * 5 + 2, none⟩ = false := hfr12 2; have hf12_3 : w21.frozen? ⟨go11, (x19_2 : Int).toNat * 5 + 3, none⟩ = false := hfr12 3; have hf12_4 : w21.frozen? ⟨go11, (x19_2 : Int).toNat * 5 + 4, none⟩ = false := hfr12 4; clear hcl12 hcc12 hfr12 hM12; replace p12 := eq_true p12; replace q12 := eq_true q12; have HX22 := zA (show Kd.N k71 71 w21 w.heap.size (fun k_ => (P0_ k_ ∨ w.heap.size ≤ k_)) (.slice (some ⟨go11, 0, none⟩) x4_2.length co7) y104 from (by (with_reducible repeat (first | apply Kd.N_alloc | apply Kd.N_drewN | apply Kd.N_drew)); exact HO_4.out)); obtain ⟨ce22, hcl22, hM22, hcc22, hfr22⟩ := Kd.N_elem HX22.out z71 (x19_2 : Int) (of_decide_eq_true qA) (by have h_ : (x19_2 : Int) < ((x4_2.length : Int) : Int) := of_decide_eq_true qA; first | exact h_ | (have e_ := (Kd.N_reads' HO_4.out).1; omega) | simpa using h_); obtain ⟨ua22_4, uc22_4, rfl, ul22_4, ge22_4⟩ := k71_openF hM22; have HP22 := Kd.N_seg HX22.out (x19_2 : Int) (of_decide_eq_true qA) (by have h_ : (x19_2 : Int) < ((x4_2.length : Int) : Int) := of_decide_eq_true qA; first | exact h_ | (have e_ := (Kd.N_reads' HO_4.out).1; omega) | simpa using h_) (seg := [.int .i64 0]) (j := 3) hcl22 hcc22 (show 4 ≤ 5 from by decide) (x' := (⟨(rd_T71 y104 x19_2).f0, (rd_T71 y104 x19_2).f1, (rd_T71 y104 x19_2).f2, 0, (rd_T71 y104 x19_2).f4⟩ : S71)) (k71_mkF _ _ (⟨(rd_T71 y104 x19_2).f0, (rd_T71 y104 x19_2).f1, (rd_T71 y104 x19_2).f2, 0, (rd_T71 y104 x19_2).f4⟩ : S71) ul22_4 ge22_4) (fun _ hk => hk); have hx22_3 := hcc22 3 _ rfl; (try simp only [show (k71).sz = 5 from rfl, Nat.mul_one, Nat.add_zero] at hx22_3); have hf22_3 := hfr22 3; (try simp only [show (k71).sz = 5 from rfl, Nat.mul_one, Nat.add_zero] at hf22_3); clear hcl22 hcc22 hfr22 hM22) | ((with_reducible refine gate_store (t := 3) (p := 29) rfl ?_); refine store_event (t := 3) (p := 29) (v := ?vo_w23) (w1 := (w21.setCell ⟨go11, (x19_2 : Int).toNat * 5 + 3, none⟩ (.int .i64 0))) ?hg ?ho ?hn ?hr ?_; (case ho => rfl); (case hg => rfl); (case hn => rfl); (case hr => first | (go_simp; done) | (go_simp; rfl)); intro w23 hw; have hg : w21.grownBy w23 (some go11) := (by rw [hw]; exact HP22.2); have hp_ : Kd.N k71 71 w23 w.heap.size (fun k_ => (P0_ k_ ∨ w.heap.size ≤ k_)) (.slice (some ⟨go11, 0, none⟩) x4_2.length co7) y105 := (by rw [hw, Ny105.out]; exact HP22.1); clear HP22; have n0_ := zA (hp_); have n1_ := zA ((by rw [hw]; exact zE (HB.out) GB11.out : Below w.heap.size w w23)); clear HO_4 HB; have HO_4 := n0_; have HB := n1_; clear n0_ n1_ hg hw hp_; have p106 : 0 ≤ (x19_2 : Int) := of_decide_eq_true qA; have q106 : x19_2 < (y105.length : Int) := (by have h_ : (x19_2 : Int) < ((x4_2.length : Int) : Int) := of_decide_eq_true qA; first | (have e_ := (Kd.N_reads' HO_4.out).1; omega) | simpa only [Ny104.out, Ny105.out, List.length_set] using h_); have ql106 : ((x19_2 : Int) < ((x4_2.length : Int) : Int)) = True := eq_true (of_decide_eq_true qA); obtain ⟨ad106, A106_4, c106_4, e106, hx106_0, hx106_1, hx106_2, hx106_3, hx106_4, hl106_4, hi106_4⟩ := at_T71 (Kd.N_reads' HO_4.out).2.2 x19_2 p106 q106; obtain rfl : (⟨go11, 0, none⟩ : Addr) = ad106 := (by injection e106); obtain ⟨ce106, hce106, hMe106, hcc106⟩ := Kd.N_get HO_4.out z71 x19_2 p106 (by first | exact q106 | exact of_decide_eq_true qA | (have e_ := (Kd.N_reads' HO_4.out).1; omega)); obtain ⟨ua106_4, uc106_4, rfl, ul106_4, ge106_4⟩ := k71_openF hMe106; have hv106_4 := hcc106 4 _ rfl; rw [add_field _ _ 4 (by omega)] at hv106_4; replace hv106_4 := zKq (hv106_4.symm.trans hx106_4); injection hv106_4 with hva_ hvn_ hvc_; rw [hva_] at ge106_4; rw [hvc_] at ul106_4; have HL106_4 := zA (show Kd.V Kd.string 9 _ w.heap.size _ _ ((rd_T71 y105 x19_2).f4) from Kd.V_mk ul106_4 ge106_4); clear hva_ hvn_ hvc_ ge106_4 ul106_4 hcc106 hce106; (first | simp only [add_plain] at hx106_0 | simp only [add_at] at hx106_0 | simp only [Addr.add, Nat.zero_add] at hx106_0 | skip); (first | simp only [add_plain] at hx106_1 | simp only [add_at] at hx106_1 | simp only [Addr.add, Nat.zero_add] at hx106_1 | skip); (first | simp only [add_plain] at hx106_2 | simp only [add_at] at hx106_2 | simp only [Addr.add, Nat.zero_add] at hx106_2 | skip); (first | simp only [add_plain] at hx106_3 | simp only [add_at] at hx106_3 | simp only [Addr.add, Nat.zero_add] at hx106_3 | skip); (first | simp only [add_plain] at hx106_4 | simp only [add_at] at hx106_4 | simp only [Addr.add, Nat.zero_add] at hx106_4 | skip); have HR106_4 := zA hi106_4; have HC106_4 := zA hl106_4; clear hi106_4 hl106_4; replace p106 := eq_true p106; replace q106 := eq_true q106) | ((with_reducible refine zJq (f := 69) rfl ?_); refine goesL_ (some 34) rfl rfl Try.func69 (by kernel_rfl) rfl #[.agg #[.int .i64 ((rd_T71 y105 x19_2).f0), .int .i64 ((rd_T71 y105 x19_2).f1), .int .i64 ((rd_T71 y105 x19_2).f2), .int .i64 ((rd_T71 y105 x19_2).f3), .slice A106_4 ((rd_T71 y105 x19_2).f4).length c106_4]] rfl qG ?_; (with_reducible refine (line_Check.calls k2 ((rd_T71 y105 x19_2).f0) ((rd_T71 y105 x19_2).f1) ((rd_T71 y105 x19_2).f2) ((rd_T71 y105 x19_2).f3) _ _ ((rd_T71 y105 x19_2).f4) t107 _ ?side1 ?side2 A13.out).mono ?_); (case side1 => repeat (first | exact (by repeat (first | (with_reducible exact HR106_4.out) | (with_reducible refine Kd.C_alloc ?_ _) | (with_reducible refine Kd.C_drewN ?_ _) | (with_reducible refine Kd.C_drew ?_) | exact HR106_4.out)) | (with_reducible refine Kd.C_alloc ?_ _) | (with_reducible refine Kd.C_drewN ?_ _) | (with_reducible refine Kd.C_drew ?_))); (case side2 => exact HC106_4.out); rintro e w24 ⟨rfl, hb⟩; refine ⟨_, rfl, ?_⟩; have n0_ := zA (Kd.N_below (by (with_reducible repeat (first | apply Kd.N_alloc | apply Kd.N_drewN | apply Kd.N_drew)); exact HO_4.out) hb); have n1_ := zA (Kd.V_below (by (with_reducible repeat (first | apply Kd.V_alloc | apply Kd.V_drewN | apply Kd.V_drew)); exact HL106_4.out) hb); have n2_ := zA (Kd.C_below (by repeat (first | (with_reducible exact HR106_4.out) | (with_reducible refine Kd.C_alloc ?_ _) | (with_reducible refine Kd.C_drewN ?_ _) | (with_reducible refine Kd.C_drew ?_) | exact HR106_4.out)) hb); have n3_ := zA (zV qB hb); clear HO_4 HL106_4 HR106_4 HB; have HO_4 := n0_; have HL106_4 := n1_; have HR106_4 := n2_; have HB := n3_; clear n0_ n1_ n2_ n3_; (try clear hb)))
                go_ret2; exact ⟨_, qE, by first | exact Kd.S_nil _ _ _ _ _ | exact Kd.N_nil _ _ _ _ _ | exact Kd.V_nil _ _ _ _ _ | exact Kd.Q_nil _ _ _ _ _ | exact Kd.R_nil _ _ _ _ _, qB⟩
              rw [if_neg c10] at H; exact absurd H (by simp)
            rw [if_neg c9] at H; exact absurd H (by simp)
          rw [if_neg c8] at H; have c8b0 : decide (x19_2 < (x4_2.length : Int)) = false := zGq (by rw [← hl4_2]; exact c8); clear c8; simp only [zNq, zOq] at H; obtain ⟨rfl, rfl⟩ := H; go_wp2; go_ret2; exact ⟨_, qE, by (with_reducible repeat (first | apply Kd.N_alloc | apply Kd.N_drewN | apply Kd.N_drew)); exact HO_4.out, qB⟩
def cents_Add.l0 : Nat → Int → List Int → Int → Int → Option (Int × Int)
  | 0, _, _, _, _ => none
  | k + 1, x4, x7, x8, x9 => if x9 < x8 then (if 0 ≤ x9 then (if x9 < (x7.length : Int) then ((cents_In.f (rd x7 x9)).bind fun t102 => (if t102 = true then ((cents_In.f (wrap64 (x4 + (rd x7 x9)))).bind fun t103 => (if t103 = true then (cents_Add.l0 k (wrap64 (x4 + (rd x7 x9))) x7 x8 (wrap64 (x9 + 1))) else (some (0, 8)))) else (some (0, 8)))) else (none)) else (none)) else (some (x4, 0))
def cents_Add.f (k : Nat) (l0 : List Int) : Option (Int × Int) := cents_Add.l0 k 0 l0 (l0.length : Int) 0
theorem cents_Add.mono_l : ∀ k, (∀ y0 y1 y2 y3, LeO (cents_Add.l0 k y0 y1 y2 y3) (cents_Add.l0 (k + 1) y0 y1 y2 y3))
  | 0 => fun _ _ _ _ r h => by simp [cents_Add.l0] at h
  | k + 1 => by
    have ih0 := cents_Add.mono_l k
    intro y0 y1 y2 y3
    unfold cents_Add.l0
    repeat' (with_reducible first | exact ih0 _ _ _ _ | exact LeO.refl _ | exact LeO.none _ | refine LeO.ite ?_ ?_ | refine LeO.bind ?_ (fun _ => ?_))
theorem cents_Add.mono : ∀ a0 k, LeO (cents_Add.f k a0) (cents_Add.f (k + 1) a0) := by
  intro a0 k
  have ih0 := cents_Add.mono_l k
  unfold cents_Add.f
  repeat' (with_reducible first | exact ih0 _ _ _ _ | exact LeO.refl _ | exact LeO.none _ | refine LeO.ite ?_ ?_ | refine LeO.bind ?_ (fun _ => ?_))
set_option maxHeartbeats 8000000 in
set_option maxRecDepth 100000 in
theorem cents_Add.calls (k : Nat) (A0 : Option Addr) (c0 : Nat) (l0 : List Int) (r1 : Int) (r2 : Int) (w : World) (hr0 : Kd.C (Kd.int .i64) w A0 l0.length l0) (hc0 : l0.length ≤ c0) (h : cents_Add.f k l0 = some (r1, r2)) :
    Calls Try.prog 25 #[.slice A0 l0.length c0] w fun e w' => e = .returned (.tuple #[.int .i64 r1, .int .i64 r2]) ∧ Drawn0 w w' := by
  have HR0 := zA hr0
  have HC0 := zA hc0
  clear hr0 hc0
  have H : (cents_Add.l0 k 0 l0 (l0.length : Int) 0) = some (r1, r2) := h
  clear h
  have H' := zA H
  clear H
  go_enter Try.func25, Try.ntmps25
  go_wp2
  go_loopg [4, 9] k (fun kq v4 v9 w' => ∃ (x4_1 : Int) (x9_1 : Int), v4 = .int .i64 x4_1 ∧ v9 = .int .i64 x9_1 ∧ Aside0 (cents_Add.l0 kq x4_1 l0 (l0.length : Int) x9_1 = some (r1, r2)) ∧ Aside0 (kq ≤ k) ∧ Drawn0 w w')
  case atStart => exact ⟨(0), (0), (by first | rfl | (simp; done) | (simp [*]; done)), (by first | rfl | (simp; done) | (simp [*]; done)), H', ⟨Nat.le_refl _⟩, by repeat (first | exact Drawn0.refl _ | apply Drawn0.step)⟩
  case round =>
    clear H'; obtain ⟨x4_1, x9_1, rfl, rfl, HA, HK1, ⟨m1, rfl⟩⟩ := hrel; cases gk with
    | zero => exact absurd HA.out (by simp [cents_Add.l0])
    | succ k1 =>
      have H := HA.out; clear HA; simp only [cents_Add.l0] at H; by_cases c2 : x9_1 < (l0.length : Int)
      · rw [if_pos c2] at H
        have c2b0 : decide (x9_1 < (l0.length : Int)) = true := zFq c2; clear c2; by_cases c3 : 0 ≤ x9_1
        · rw [if_pos c3] at H
          have c3b0 : decide (0 ≤ x9_1) = true := zFq c3; clear c3; by_cases c4 : x9_1 < (l0.length : Int)
          · rw [if_pos c4] at H
            have c4b0 : decide (x9_1 < (l0.length : Int)) = true := zFq c4; clear c4; replace H := Option.bind_eq_some_iff.mp H; obtain ⟨t102, A50, H⟩ := H; try dsimp only at H
            have A5 := zA A50; clear A50; by_cases c6 : t102 = true
            · subst c6
              have H1 : ((cents_In.f (wrap64 (x4_1 + (rd l0 x9_1)))).bind fun t103 => (if t103 = true then (cents_Add.l0 k1 (wrap64 (x4_1 + (rd l0 x9_1))) l0 (l0.length : Int) (wrap64 (x9_1 + 1))) else (some (0, 8)))) = some (r1, r2) := by first | (rw [if_pos rfl] at H; exact H) | rfl
              clear H; have H := H1; clear H1; replace H := Option.bind_eq_some_iff.mp H; obtain ⟨t103, A70, H⟩ := H; try dsimp only at H
              have A7 := zA A70; clear A70; by_cases c8 : t103 = true
              · subst c8
                have H1 : (cents_Add.l0 k1 (wrap64 (x4_1 + (rd l0 x9_1))) l0 (l0.length : Int) (wrap64 (x9_1 + 1))) = some (r1, r2) := by first | (rw [if_pos rfl] at H; exact H) | rfl
                clear H; have H := H1; clear H1; have H' := zA H; clear H; have p101 : 0 ≤ (x9_1 : Int) := of_decide_eq_true qA; have q101 : x9_1 < (l0.length : Int) := of_decide_eq_true qA; obtain ⟨ad101, e101, hx101_0⟩ := Kd.at_int HR0.out x9_1 p101 q101; cases e101
                replace p101 := eq_true p101; replace q101 := eq_true q101; go_wp2_with (first | ((with_reducible refine zJq (f := 31) rfl ?_); refine goesL_ (some 14) rfl rfl Try.func31 (by kernel_rfl) rfl #[.int .i64 (rd l0 x9_1)] rfl qG ?_; (with_reducible refine (cents_In.calls (rd l0 x9_1) true _ A5.out).mono ?_); rintro e w' ⟨rfl, ⟨nd, rfl⟩⟩; refine ⟨_, rfl, ?_⟩) | (go_at_call 31; (with_reducible refine (cents_In.calls (wrap64 (x4_1 + (rd l0 x9_1))) true _ A7.out).mono ?_); rintro e w' ⟨rfl, ⟨nd, rfl⟩⟩)); go_roundg k1
                case measure => have := HK1.out; omega
                case rel => exact ⟨(wrap64 (x4_1 + (rd l0 x9_1))), (wrap64 (x9_1 + 1)), (by first | rfl | (simp; done) | (simp [*]; done)), (by first | rfl | (simp; done) | (simp [*]; done)), H', ⟨by have := HK1.out; omega⟩, by repeat (first | exact Drawn0.refl _ | apply Drawn0.step)⟩
              replace c8 := Bool.eq_false_iff.mpr c8; subst c8; have H1 : (some (0, 8)) = some (r1, r2) := by first | (rw [if_neg (show ¬ (false = true) by decide)] at H; exact H) | rfl
              clear H; have H := H1; clear H1; simp only [zNq, zOq] at H; obtain ⟨rfl, rfl⟩ := H; have p101 : 0 ≤ (x9_1 : Int) := of_decide_eq_true qA; have q101 : x9_1 < (l0.length : Int) := of_decide_eq_true qA; obtain ⟨ad101, e101, hx101_0⟩ := Kd.at_int HR0.out x9_1 p101 q101; cases e101
              replace p101 := eq_true p101; replace q101 := eq_true q101; go_wp2_with (first | ((with_reducible refine zJq (f := 31) rfl ?_); refine goesL_ (some 14) rfl rfl Try.func31 (by kernel_rfl) rfl #[.int .i64 (rd l0 x9_1)] rfl qG ?_; (with_reducible refine (cents_In.calls (rd l0 x9_1) true _ A5.out).mono ?_); rintro e w' ⟨rfl, ⟨nd, rfl⟩⟩; refine ⟨_, rfl, ?_⟩) | (go_at_call 31; (with_reducible refine (cents_In.calls (wrap64 (x4_1 + (rd l0 x9_1))) false _ A7.out).mono ?_); rintro e w' ⟨rfl, ⟨nd, rfl⟩⟩)); go_ret2; exact ⟨by first | rfl | (simp; done) | (simp [*]; done), by repeat (first | exact Drawn0.refl _ | apply Drawn0.step)⟩
            replace c6 := Bool.eq_false_iff.mpr c6; subst c6; have H1 : (some (0, 8)) = some (r1, r2) := by first | (rw [if_neg (show ¬ (false = true) by decide)] at H; exact H) | rfl
            clear H; have H := H1; clear H1; simp only [zNq, zOq] at H; obtain ⟨rfl, rfl⟩ := H; have p101 : 0 ≤ (x9_1 : Int) := of_decide_eq_true qA; have q101 : x9_1 < (l0.length : Int) := of_decide_eq_true qA; obtain ⟨ad101, e101, hx101_0⟩ := Kd.at_int HR0.out x9_1 p101 q101; cases e101
            replace p101 := eq_true p101; replace q101 := eq_true q101; go_wp2_with (first | ((with_reducible refine zJq (f := 31) rfl ?_); refine goesL_ (some 14) rfl rfl Try.func31 (by kernel_rfl) rfl #[.int .i64 (rd l0 x9_1)] rfl qG ?_; (with_reducible refine (cents_In.calls (rd l0 x9_1) false _ A5.out).mono ?_); rintro e w' ⟨rfl, ⟨nd, rfl⟩⟩; refine ⟨_, rfl, ?_⟩)); go_ret2; exact ⟨by first | rfl | (simp; done) | (simp [*]; done), by repeat (first | exact Drawn0.refl _ | apply Drawn0.step)⟩
          rw [if_neg c4] at H; exact absurd H (by simp)
        rw [if_neg c3] at H; exact absurd H (by simp)
      rw [if_neg c2] at H; have c2b0 : decide (x9_1 < (l0.length : Int)) = false := zGq c2; clear c2; simp only [zNq, zOq] at H; obtain ⟨rfl, rfl⟩ := H; go_wp2; go_ret2; exact ⟨by first | rfl | (simp; done) | (simp [*]; done), by repeat (first | exact Drawn0.refl _ | apply Drawn0.step)⟩
def slices_Max_int_int.l0 : Nat → List Int → Int → Int → Option (Int)
  | 0, _, _, _ => none
  | k + 1, x0, x3, x4 => if x4 < (x0.length : Int) then (if 0 ≤ x4 then (slices_Max_int_int.l0 k x0 (mx x3 (rd x0 x4)) (wrap64 (x4 + 1))) else (none)) else (some x3)
def slices_Max_int_int.f (k : Nat) (l0 : List Int) : Option (Int) := if (l0.length : Int) < 1 then (none) else (if 0 < (l0.length : Int) then (slices_Max_int_int.l0 k l0 (rd l0 0) 1) else (none))
theorem slices_Max_int_int.mono_l : ∀ k, (∀ y0 y1 y2, LeO (slices_Max_int_int.l0 k y0 y1 y2) (slices_Max_int_int.l0 (k + 1) y0 y1 y2))
  | 0 => fun _ _ _ r h => by simp [slices_Max_int_int.l0] at h
  | k + 1 => by
    have ih0 := slices_Max_int_int.mono_l k
    intro y0 y1 y2
    unfold slices_Max_int_int.l0
    repeat' (with_reducible first | exact ih0 _ _ _ | exact LeO.refl _ | exact LeO.none _ | refine LeO.ite ?_ ?_ | refine LeO.bind ?_ (fun _ => ?_))
theorem slices_Max_int_int.mono : ∀ a0 k, LeO (slices_Max_int_int.f k a0) (slices_Max_int_int.f (k + 1) a0) := by
  intro a0 k
  have ih0 := slices_Max_int_int.mono_l k
  unfold slices_Max_int_int.f
  repeat' (with_reducible first | exact ih0 _ _ _ | exact LeO.refl _ | exact LeO.none _ | refine LeO.ite ?_ ?_ | refine LeO.bind ?_ (fun _ => ?_))
set_option maxHeartbeats 8000000 in
set_option maxRecDepth 100000 in
theorem slices_Max_int_int.calls (k : Nat) (A0 : Option Addr) (c0 : Nat) (l0 : List Int) (r : Int) (w : World) (hr0 : Kd.C (Kd.int .i64) w A0 l0.length l0) (hc0 : l0.length ≤ c0) (h : slices_Max_int_int.f k l0 = some r) :
    Calls Try.prog 105 #[.slice A0 l0.length c0] w fun e w' => e = .returned (.int .i64 r) ∧ Below w.heap.size w w' := by
  have HR0 := zA hr0
  have HC0 := zA hc0
  clear hr0 hc0
  have HB := zA (Below.refl w.heap.size w)
  have H : (if (l0.length : Int) < 1 then (none) else (if 0 < (l0.length : Int) then (slices_Max_int_int.l0 k l0 (rd l0 0) 1) else (none))) = some r := h
  clear h
  by_cases c2 : (l0.length : Int) < 1
  · rw [if_pos c2] at H
    exact absurd H (by simp)
  rw [if_neg c2] at H
  have c2b0 : decide ((l0.length : Int) < 1) = false := zGq c2
  have c2b1 : decide (l0.length < 1) = false := zGq (by omega)
  clear c2
  by_cases c3 : 0 < (l0.length : Int)
  · rw [if_pos c3] at H
    have c3b0 : decide (0 < (l0.length : Int)) = true := zFq c3; have c3b1 : decide (0 < l0.length) = true := zFq (by omega); clear c3; have H' := zA H; clear H; have p101 : 0 ≤ (0 : Int) := (by omega)
    have q101 : 0 < (l0.length : Int) := of_decide_eq_true qA; obtain ⟨ad101, e101, hx101_0⟩ := Kd.at_int HR0.out 0 p101 q101; cases e101
    have qi101 : (0 < l0.length) = True := eq_true (by omega); (try rw [show ((0 : Int)).toNat = 0 from rfl] at hx101_0)
    (try rw [Addr.add_zero'] at hx101_0)
    replace p101 := eq_true p101; replace q101 := eq_true q101; go_enter Try.func105, Try.ntmps105; go_wp2; go_loopg [3, 4] k (fun kq v3 v4 w' => ∃ (x3_1 : Int) (x4_1 : Int), v3 = .int .i64 x3_1 ∧ v4 = .int .i64 x4_1 ∧ Aside0 (slices_Max_int_int.l0 kq l0 x3_1 x4_1 = some r) ∧ Aside0 (kq ≤ k) ∧ Aside0 (Below w.heap.size w w'))
    case atStart => exact ⟨(rd l0 0), (1), (by first | rfl | (simp; done) | (simp [*]; done)), (by first | rfl | (simp; done) | (simp [*]; done)), H', ⟨Nat.le_refl _⟩, ⟨qB⟩⟩
    case round =>
      clear H'; try clear c1
      try clear p1
      try clear q1
      try clear hx1
      try clear qi1
      try clear c2
      try clear c2b0
      try clear c2b1
      try clear p2
      try clear c3
      try clear c3b0
      try clear c3b1
      try clear hx101_0
      try clear p101
      try clear q101
      obtain ⟨x3_1, x4_1, rfl, rfl, HA, HK1, HB⟩ := hrel; cases gk with
      | zero => exact absurd HA.out (by simp [slices_Max_int_int.l0])
      | succ k1 =>
        have H := HA.out; clear HA; simp only [slices_Max_int_int.l0] at H; by_cases c4 : x4_1 < (l0.length : Int)
        · rw [if_pos c4] at H
          have c4b0 : decide (x4_1 < (l0.length : Int)) = true := zFq c4; clear c4; by_cases c5 : 0 ≤ x4_1
          · rw [if_pos c5] at H
            have c5b0 : decide (0 ≤ x4_1) = true := zFq c5; clear c5; obtain ⟨ji6, hji6⟩ : ∃ j_ : Int, (mx x3_1 (rd l0 x4_1)) = j_ := ⟨_, rfl⟩
            replace H : (slices_Max_int_int.l0 k1 l0 ji6 (wrap64 (x4_1 + 1))) = some r := by first | (rw [hji6] at H; exact H) | (simp only [hji6] at H ⊢; exact H)
            have hji6_ : (if x3_1 < (rd l0 x4_1) then (rd l0 x4_1) else x3_1) = ji6 := hji6; have H' := zA H; clear H; have p102 : 0 ≤ (x4_1 : Int) := of_decide_eq_true qA; have q102 : x4_1 < (l0.length : Int) := of_decide_eq_true qA; obtain ⟨ad102, e102, hx102_0⟩ := Kd.at_int HR0.out x4_1 p102 q102; obtain rfl : ad101 = ad102 := (by injection e102)
            replace hx102_0 := (HB.out.cell (zCq w _ hx102_0)).trans hx102_0; replace p102 := eq_true p102; replace q102 := eq_true q102; go_wp2; go_roundg k1
            case measure => have := HK1.out; omega
            case rel => exact ⟨(ji6), (wrap64 (x4_1 + 1)), (by first | rfl | (simp; done) | (simp only [← hji6] <;> (first | rfl | simp)) | (simp [*]; done)), (by first | rfl | (simp; done) | (simp [*]; done)), H', ⟨by have := HK1.out; omega⟩, ⟨qB⟩⟩
          rw [if_neg c5] at H; exact absurd H (by simp)
        rw [if_neg c4] at H; have c4b0 : decide (x4_1 < (l0.length : Int)) = false := zGq c4; clear c4; obtain rfl := zKq H; go_wp2; go_ret; exact ⟨qE, qB⟩
  rw [if_neg c3] at H
  exact absurd H (by simp)
def share_even.l0 : Nat → List Int → Int → Int → Option (List Int)
  | 0, _, _, _ => none
  | k + 1, x3, x8, x9 => if x9 < x8 then (if 0 ≤ x9 then (if x9 < (x3.length : Int) then (share_even.l0 k (x3.set (x9 : Int).toNat 1) x8 (wrap64 (x9 + 1))) else (none)) else (none)) else (some x3)
def share_even.f (k : Nat) (a0 : Int) : Option (List Int) := if 0 ≤ a0 then (if (a0 : Int).toNat ≤ 35184372088832 then ((some (List.replicate (a0 : Int).toNat 0 : List Int)).bind fun y101 => (share_even.l0 k y101 (y101.length : Int) 0)) else (none)) else (none)
theorem share_even.mono_l : ∀ k, (∀ y0 y1 y2, LeO (share_even.l0 k y0 y1 y2) (share_even.l0 (k + 1) y0 y1 y2))
  | 0 => fun _ _ _ r h => by simp [share_even.l0] at h
  | k + 1 => by
    have ih0 := share_even.mono_l k
    intro y0 y1 y2
    unfold share_even.l0
    repeat' (with_reducible first | exact ih0 _ _ _ | exact LeO.refl _ | exact LeO.none _ | refine LeO.ite ?_ ?_ | refine LeO.bind ?_ (fun _ => ?_))
theorem share_even.mono : ∀ a0 k, LeO (share_even.f k a0) (share_even.f (k + 1) a0) := by
  intro a0 k
  have ih0 := share_even.mono_l k
  unfold share_even.f
  repeat' (with_reducible first | exact ih0 _ _ _ | exact LeO.refl _ | exact LeO.none _ | refine LeO.ite ?_ ?_ | refine LeO.bind ?_ (fun _ => ?_))
set_option maxHeartbeats 8000000 in
set_option maxRecDepth 100000 in
theorem share_even.calls (k : Nat) (a0 : Int) (r : List Int) (w : World) (h : share_even.f k a0 = some r) :
    Calls Try.prog 106 #[.int .i64 a0] w fun e w' => ∃ v0_ : Value, e = .returned (v0_) ∧ Kd.R (Kd.int .i64) 3 w' w.heap.size (fun _ => True) v0_ r ∧ Below w.heap.size w w' := by
  have HB := zA (Below.refl w.heap.size w)
  have H : (if 0 ≤ a0 then (if (a0 : Int).toNat ≤ 35184372088832 then ((some (List.replicate (a0 : Int).toNat 0 : List Int)).bind fun y101 => (share_even.l0 k y101 (y101.length : Int) 0)) else (none)) else (none)) = some r := h
  clear h
  by_cases c2 : 0 ≤ a0
  · rw [if_pos c2] at H
    have c2b0 := eq_true c2; have c2b1 : decide (0 ≤ a0) = true := zFq c2; clear c2; by_cases c3 : (a0 : Int).toNat ≤ 35184372088832
    · rw [if_pos c3] at H
      have c3b0 := eq_true c3; have c3b1 : decide ((a0 : Int).toNat ≤ 35184372088832) = true := zFq c3; clear c3; obtain ⟨y101, hy101⟩ : ∃ y_ : List Int, y_ = (List.replicate (a0 : Int).toNat 0) := ⟨_, rfl⟩
      replace H : (share_even.l0 k y101 (y101.length : Int) 0) = some r := by first | (rw [hy101]; with_reducible exact H) | (have H2_ := (Option.bind_some _ _).symm.trans H; rw [hy101]; with_reducible exact H2_) | (have H2_ := (Option.bind_some _ _).symm.trans H; with_reducible exact H2_) | with_reducible exact H | (rw [hy101]; exact H) | exact H
      have Ny101 := zA hy101; clear hy101; have H' := zA H; clear H; go_enter Try.func106, Try.ntmps106; go_wp2_with (first | ((with_reducible refine gate_dst (N := 6) rfl ?_); refine Kd.R_make (Kd.int .i64) _ 3 rfl (N := 6) rfl 22 _ _ rfl a0 rfl rfl Try.underlying22 (.int .i64 0) 8 info3 rfl (by decide) (by omega) 0 (ok := fun _ => True) (okp := fun _ => True) rfl (fun _ hk => hk) trivial (of_decide_eq_true qA) (Nat.le_trans (Nat.mul_le_mul_right _ (of_decide_eq_true qA : a0.toNat ≤ 35184372088832)) (by omega)) (Below.refl _ _) (Nat.le_refl _) ?_; intro v102 w4 ho5 hb hg_ hnew_; clear hg_ hnew_; (first | rw [← Ny101.out] at ho5 | (simp only [Int.reduceToNat] at ho5; rw [← Ny101.out] at ho5)); have n0_ := zA (Kd.R_lower ho5 (zW qB)); have n1_ := zA (zV qB hb); clear HB; have HO103 := n0_; have HB := n1_; clear n0_ n1_ hb ho5; obtain ⟨Ao6, co6, eo6⟩ := Kd.R_slice HO103.out; subst eo6)); go_loopg [9] k (fun kq v9 w' => ∃ (x3_1 : List Int) (x9_1 : Int), v9 = .int .i64 x9_1 ∧ Aside0 (share_even.l0 kq x3_1 (y101.length : Int) x9_1 = some r) ∧ Aside0 (kq ≤ k) ∧ Aside0 (Kd.R (Kd.int .i64) 3 w' w.heap.size (fun _ => True) (.slice Ao6 y101.length co6) x3_1) ∧ Aside0 (Below w.heap.size w w'))
      case atStart => exact ⟨(y101), (0), (by first | rfl | (simp; done) | (simp [*]; done)), H', ⟨Nat.le_refl _⟩, ⟨by (with_reducible repeat (first | apply Kd.R_alloc | apply Kd.R_drewN | apply Kd.R_drew)); exact HO103.out⟩, ⟨qB⟩⟩
      case round =>
        clear H'; try clear c1
        try clear c2
        try clear c2b0
        try clear c2b1
        try clear p2
        try clear c3
        try clear c3b0
        try clear c3b1
        obtain ⟨x3_1, x9_1, rfl, HA, HK1, HO_3, HB⟩ := hrel; have hl3_1 := (Kd.R_reads' HO_3.out).1; rw [hl3_1] at HO_3; (try simp only [hl3_1])
        cases gk with
        | zero => exact absurd HA.out (by simp [share_even.l0])
        | succ k1 =>
          have H := HA.out; clear HA; simp only [share_even.l0] at H; by_cases c7 : x9_1 < (y101.length : Int)
          · rw [if_pos c7] at H
            have c7b0 : decide (x9_1 < (x3_1.length : Int)) = true := zFq (by rw [← hl3_1]; exact c7); clear c7; by_cases c8 : 0 ≤ x9_1
            · rw [if_pos c8] at H
              have c8b0 : decide (0 ≤ x9_1) = true := zFq c8; clear c8; by_cases c9 : x9_1 < (x3_1.length : Int)
              · rw [if_pos c9] at H
                have c9b0 : decide (x9_1 < (x3_1.length : Int)) = true := zFq c9; clear c9; obtain ⟨y104, hy104⟩ : ∃ y_ : List Int, y_ = (x3_1.set (x9_1 : Int).toNat 1) := ⟨_, rfl⟩
                replace H : (share_even.l0 k1 y104 (y101.length : Int) (wrap64 (x9_1 + 1))) = some r := by first | (rw [hy104]; with_reducible exact H) | (have H2_ := (Option.bind_some _ _).symm.trans H; rw [hy104]; with_reducible exact H2_) | (have H2_ := (Option.bind_some _ _).symm.trans H; with_reducible exact H2_) | with_reducible exact H | (rw [hy104]; exact H) | exact H
                have Ny104 := zA hy104; clear hy104; have H' := zA H; clear H; have p10 : 0 ≤ (x9_1 : Int) := of_decide_eq_true qA; have q10 : (x9_1 : Int) < ((x3_1.length : Int) : Int) := of_decide_eq_true qA; obtain ⟨go10, co10, eo10, gb10, gl10, cl10, HG10⟩ := Kd.R_form HO_3.out (by omega); (first | cases eo10 | (injection eo10 with ea_ en_ ec_; (first | subst ea_ | (injection ea_ with ea_; subst ea_)); subst ec_; clear en_))
                have GB10 := zA gb10; have GG10 := zA HG10; clear gb10 gl10 HG10; obtain ⟨hx10_0, hf10_0⟩ := Kd.R_celln 0 HO_3.out (x9_1 : Int) p10 q10; replace p10 := eq_true p10; replace q10 := eq_true q10; have HP11 := Kd.R_putg HO_3.out (x9_1 : Int) 1; go_wp2_with (first | ((with_reducible refine gate_store (t := 3) (p := 14) rfl ?_); refine store_event (t := 3) (p := 14) (v := ?vo_w12) (w1 := (wr.setCell ⟨go10, (x9_1 : Int).toNat, none⟩ (.int .i64 1))) ?hg ?ho ?hn ?hr ?_; (case ho => rfl); (case hg => rfl); (case hn => rfl); (case hr => first | (go_simp; done) | (go_simp; rfl)); intro w12 hw; have hg : wr.grownBy w12 (some go10) := (by rw [hw]; exact HP11.2); have hp_ : Kd.R (Kd.int .i64) 3 w12 w.heap.size (fun _ => True) (.slice (some ⟨go10, 0, none⟩) x3_1.length co6) y104 := (by rw [hw, Ny104.out]; exact HP11.1); clear HP11; have n0_ := zA (hp_); have n1_ := zA ((by rw [hw]; exact zE (HB.out) GB10.out : Below w.heap.size w w12)); clear HO_3 HB; have HO_3 := n0_; have HB := n1_; clear n0_ n1_ hg hw hp_)); (try simp only [← hl3_1])
                go_roundg k1
                case measure => have := HK1.out; omega
                case rel => exact ⟨(y104), (wrap64 (x9_1 + 1)), (by first | rfl | (simp; done) | (simp [*]; done)), H', ⟨by have := HK1.out; omega⟩, ⟨by (try simp only [hl3_1]); (with_reducible repeat (first | apply Kd.R_alloc | apply Kd.R_drewN | apply Kd.R_drew)); exact HO_3.out⟩, ⟨qB⟩⟩
              rw [if_neg c9] at H; exact absurd H (by simp)
            rw [if_neg c8] at H; exact absurd H (by simp)
          rw [if_neg c7] at H; have c7b0 : decide (x9_1 < (x3_1.length : Int)) = false := zGq (by rw [← hl3_1]; exact c7); clear c7; obtain rfl := zKq H; go_wp2; go_ret; exact ⟨_, qE, by (with_reducible repeat (first | apply Kd.R_alloc | apply Kd.R_drewN | apply Kd.R_drew)); exact HO_3.out, qB⟩
    rw [if_neg c3] at H; exact absurd H (by simp)
  rw [if_neg c2] at H
  exact absurd H (by simp)
def bits_LeadingZeros64.f (k : Nat) (a0 : Int) : Option (Int) := (bits_Len64.f k a0).bind fun t101 => (some (wrap64 (64 - t101)))
theorem bits_LeadingZeros64.mono : ∀ a0 k, LeO (bits_LeadingZeros64.f k a0) (bits_LeadingZeros64.f (k + 1) a0) := by
  intro a0 k
  unfold bits_LeadingZeros64.f
  repeat' (with_reducible first | exact bits_Len64.mono _ _ | exact LeO.refl _ | exact LeO.none _ | refine LeO.ite ?_ ?_ | refine LeO.bind ?_ (fun _ => ?_))
set_option maxHeartbeats 8000000 in
set_option maxRecDepth 100000 in
theorem bits_LeadingZeros64.calls (k : Nat) (a0 : Int) (r : Int) (w : World) (h : bits_LeadingZeros64.f k a0 = some r) :
    Calls Try.prog 147 #[.int .u64 a0] w fun e w' => e = .returned (.int .i64 r) ∧ Drawn0 w w' := by
  have H : ((bits_Len64.f k a0).bind fun t101 => (some (wrap64 (64 - t101)))) = some r := h
  clear h
  replace H := Option.bind_eq_some_iff.mp H
  obtain ⟨t101, A20, H⟩ := H
  try dsimp only at H
  have A2 := zA A20
  clear A20
  obtain rfl := zKq H
  go_enter Try.func147, Try.ntmps147
  go_wp2_with (first | ((with_reducible refine zJq (f := 154) rfl ?_); refine goesL_ (some 4) rfl rfl Try.func154 (by kernel_rfl) rfl #[.int .u64 a0] rfl qG ?_; (with_reducible refine (bits_Len64.calls k a0 t101 _ A2.out).mono ?_); rintro e w' ⟨rfl, ⟨nd, rfl⟩⟩; refine ⟨_, rfl, ?_⟩))
  go_ret
  exact ⟨by first | rfl | (simp; done) | (simp [*]; done), by repeat (first | exact Drawn0.refl _ | apply Drawn0.step)⟩
mutual
def bits_Div64.j2 : Nat → Int → Int → Int → Int → Int → Int → Int → Int → Option (Int × Int)
  | 0, _, _, _, _, _, _, _, _ => none
  | k + 1, x2, x8, x9, x10, x11, x13, x14, x15 => if x9 = 0 then (none) else (bits_Div64.l1 k x2 x8 x9 x10 x14 x15 (IntKind.u64.wrap ((IntKind.u64.wrap ((IntKind.u64.wrap ((IntKind.u64.wrap (x11 * 4294967296)) + x13)) - (IntKind.u64.wrap (x15 * x2)))) - (IntKind.u64.wrap ((IntKind.u64.wrap (Int.tdiv (IntKind.u64.wrap ((IntKind.u64.wrap ((IntKind.u64.wrap (x11 * 4294967296)) + x13)) - (IntKind.u64.wrap (x15 * x2)))) x9)) * x9)))) (IntKind.u64.wrap ((IntKind.u64.wrap ((IntKind.u64.wrap (x11 * 4294967296)) + x13)) - (IntKind.u64.wrap (x15 * x2)))) (IntKind.u64.wrap (Int.tdiv (IntKind.u64.wrap ((IntKind.u64.wrap ((IntKind.u64.wrap (x11 * 4294967296)) + x13)) - (IntKind.u64.wrap (x15 * x2)))) x9)))
def bits_Div64.l1 : Nat → Int → Int → Int → Int → Int → Int → Int → Int → Int → Option (Int × Int)
  | 0, _, _, _, _, _, _, _, _, _ => none
  | k + 1, x2, x8, x9, x10, x14, x15, x16, x17, x18 => if x18 ≥ 4294967296 then (bits_Div64.j4 k x2 x8 x9 x10 x14 x15 x16 x17 x18 true) else (bits_Div64.j4 k x2 x8 x9 x10 x14 x15 x16 x17 x18 (decide ((IntKind.u64.wrap (x18 * x10)) > (IntKind.u64.wrap ((IntKind.u64.wrap (4294967296 * x16)) + x14)))))
def bits_Div64.j4 : Nat → Int → Int → Int → Int → Int → Int → Int → Int → Int → Bool → Option (Int × Int)
  | 0, _, _, _, _, _, _, _, _, _, _ => none
  | k + 1, x2, x8, x9, x10, x14, x15, x16, x17, x18, x113 => if x113 = true then (if (IntKind.u64.wrap (x16 + x9)) ≥ 4294967296 then (if 0 ≤ x8 then (some (IntKind.u64.wrap ((IntKind.u64.wrap (x15 * 4294967296)) + (IntKind.u64.wrap (x18 - 1))), shr .u64 (IntKind.u64.wrap ((IntKind.u64.wrap ((IntKind.u64.wrap (x17 * 4294967296)) + x14)) - (IntKind.u64.wrap ((IntKind.u64.wrap (x18 - 1)) * x2)))) x8)) else (none)) else (bits_Div64.l1 k x2 x8 x9 x10 x14 x15 (IntKind.u64.wrap (x16 + x9)) x17 (IntKind.u64.wrap (x18 - 1)))) else (if 0 ≤ x8 then (some (IntKind.u64.wrap ((IntKind.u64.wrap (x15 * 4294967296)) + x18), shr .u64 (IntKind.u64.wrap ((IntKind.u64.wrap ((IntKind.u64.wrap (x17 * 4294967296)) + x14)) - (IntKind.u64.wrap (x18 * x2)))) x8)) else (none))
def bits_Div64.l0 : Nat → Int → Int → Int → Int → Int → Int → Int → Int → Int → Option (Int × Int)
  | 0, _, _, _, _, _, _, _, _, _ => none
  | k + 1, x2, x8, x9, x10, x11, x13, x14, x15, x16 => if x15 ≥ 4294967296 then (bits_Div64.j1 k x2 x8 x9 x10 x11 x13 x14 x15 x16 true) else (bits_Div64.j1 k x2 x8 x9 x10 x11 x13 x14 x15 x16 (decide ((IntKind.u64.wrap (x15 * x10)) > (IntKind.u64.wrap ((IntKind.u64.wrap (4294967296 * x16)) + x13)))))
def bits_Div64.j1 : Nat → Int → Int → Int → Int → Int → Int → Int → Int → Int → Bool → Option (Int × Int)
  | 0, _, _, _, _, _, _, _, _, _, _ => none
  | k + 1, x2, x8, x9, x10, x11, x13, x14, x15, x16, x78 => if x78 = true then (if (IntKind.u64.wrap (x16 + x9)) ≥ 4294967296 then (bits_Div64.j2 k x2 x8 x9 x10 x11 x13 x14 (IntKind.u64.wrap (x15 - 1))) else (bits_Div64.l0 k x2 x8 x9 x10 x11 x13 x14 (IntKind.u64.wrap (x15 - 1)) (IntKind.u64.wrap (x16 + x9)))) else (bits_Div64.j2 k x2 x8 x9 x10 x11 x13 x14 x15)
end
def bits_Div64.f (k : Nat) (a0 : Int) (a1 : Int) (a2 : Int) : Option (Int × Int) := if a2 = 0 then (none) else (if a2 ≤ a0 then (none) else (if a0 = 0 then (some (IntKind.u64.wrap (Int.tdiv a1 a2), Int.tmod a1 a2)) else ((bits_LeadingZeros64.f k a2).bind fun t101 => (if 0 ≤ (IntKind.u64.wrap (t101)) then (if 0 ≤ (IntKind.u64.wrap (64 - (IntKind.u64.wrap (t101)))) then (if ((shl .u64 a2 (IntKind.u64.wrap (t101))) / 4294967296) = 0 then (none) else (bits_Div64.l0 k (shl .u64 a2 (IntKind.u64.wrap (t101))) (IntKind.u64.wrap (t101)) ((shl .u64 a2 (IntKind.u64.wrap (t101))) / 4294967296) (Go.bits .and .u64 (shl .u64 a2 (IntKind.u64.wrap (t101))) 4294967295) (Go.bits .or .u64 (shl .u64 a0 (IntKind.u64.wrap (t101))) (shr .u64 a1 (IntKind.u64.wrap (64 - (IntKind.u64.wrap (t101)))))) ((shl .u64 a1 (IntKind.u64.wrap (t101))) / 4294967296) (Go.bits .and .u64 (shl .u64 a1 (IntKind.u64.wrap (t101))) 4294967295) (IntKind.u64.wrap (Int.tdiv (Go.bits .or .u64 (shl .u64 a0 (IntKind.u64.wrap (t101))) (shr .u64 a1 (IntKind.u64.wrap (64 - (IntKind.u64.wrap (t101)))))) ((shl .u64 a2 (IntKind.u64.wrap (t101))) / 4294967296))) (IntKind.u64.wrap ((Go.bits .or .u64 (shl .u64 a0 (IntKind.u64.wrap (t101))) (shr .u64 a1 (IntKind.u64.wrap (64 - (IntKind.u64.wrap (t101)))))) - (IntKind.u64.wrap ((IntKind.u64.wrap (Int.tdiv (Go.bits .or .u64 (shl .u64 a0 (IntKind.u64.wrap (t101))) (shr .u64 a1 (IntKind.u64.wrap (64 - (IntKind.u64.wrap (t101)))))) ((shl .u64 a2 (IntKind.u64.wrap (t101))) / 4294967296))) * ((shl .u64 a2 (IntKind.u64.wrap (t101))) / 4294967296))))))) else (none)) else (none)))))
theorem bits_Div64.mono_l : ∀ k, (∀ y0 y1 y2 y3 y4 y5 y6 y7, LeO (bits_Div64.j2 k y0 y1 y2 y3 y4 y5 y6 y7) (bits_Div64.j2 (k + 1) y0 y1 y2 y3 y4 y5 y6 y7)) ∧ (∀ y0 y1 y2 y3 y4 y5 y6 y7 y8, LeO (bits_Div64.l1 k y0 y1 y2 y3 y4 y5 y6 y7 y8) (bits_Div64.l1 (k + 1) y0 y1 y2 y3 y4 y5 y6 y7 y8)) ∧ (∀ y0 y1 y2 y3 y4 y5 y6 y7 y8 y9, LeO (bits_Div64.j4 k y0 y1 y2 y3 y4 y5 y6 y7 y8 y9) (bits_Div64.j4 (k + 1) y0 y1 y2 y3 y4 y5 y6 y7 y8 y9)) ∧ (∀ y0 y1 y2 y3 y4 y5 y6 y7 y8, LeO (bits_Div64.l0 k y0 y1 y2 y3 y4 y5 y6 y7 y8) (bits_Div64.l0 (k + 1) y0 y1 y2 y3 y4 y5 y6 y7 y8)) ∧ (∀ y0 y1 y2 y3 y4 y5 y6 y7 y8 y9, LeO (bits_Div64.j1 k y0 y1 y2 y3 y4 y5 y6 y7 y8 y9) (bits_Div64.j1 (k + 1) y0 y1 y2 y3 y4 y5 y6 y7 y8 y9))
  | 0 => ⟨fun _ _ _ _ _ _ _ _ r h => by simp [bits_Div64.j2] at h, fun _ _ _ _ _ _ _ _ _ r h => by simp [bits_Div64.l1] at h, fun _ _ _ _ _ _ _ _ _ _ r h => by simp [bits_Div64.j4] at h, fun _ _ _ _ _ _ _ _ _ r h => by simp [bits_Div64.l0] at h, fun _ _ _ _ _ _ _ _ _ _ r h => by simp [bits_Div64.j1] at h⟩
  | k + 1 => by
    obtain ⟨ih0, ih1, ih2, ih3, ih4⟩ := bits_Div64.mono_l k
    refine ⟨?_, ?_, ?_, ?_, ?_⟩
    · intro y0 y1 y2 y3 y4 y5 y6 y7
      unfold bits_Div64.j2
      repeat' (with_reducible first | exact ih0 _ _ _ _ _ _ _ _ | exact ih1 _ _ _ _ _ _ _ _ _ | exact ih2 _ _ _ _ _ _ _ _ _ _ | exact ih3 _ _ _ _ _ _ _ _ _ | exact ih4 _ _ _ _ _ _ _ _ _ _ | exact bits_LeadingZeros64.mono _ _ | exact LeO.refl _ | exact LeO.none _ | refine LeO.ite ?_ ?_ | refine LeO.bind ?_ (fun _ => ?_))
    · intro y0 y1 y2 y3 y4 y5 y6 y7 y8
      unfold bits_Div64.l1
      repeat' (with_reducible first | exact ih0 _ _ _ _ _ _ _ _ | exact ih1 _ _ _ _ _ _ _ _ _ | exact ih2 _ _ _ _ _ _ _ _ _ _ | exact ih3 _ _ _ _ _ _ _ _ _ | exact ih4 _ _ _ _ _ _ _ _ _ _ | exact bits_LeadingZeros64.mono _ _ | exact LeO.refl _ | exact LeO.none _ | refine LeO.ite ?_ ?_ | refine LeO.bind ?_ (fun _ => ?_))
    · intro y0 y1 y2 y3 y4 y5 y6 y7 y8 y9
      unfold bits_Div64.j4
      repeat' (with_reducible first | exact ih0 _ _ _ _ _ _ _ _ | exact ih1 _ _ _ _ _ _ _ _ _ | exact ih2 _ _ _ _ _ _ _ _ _ _ | exact ih3 _ _ _ _ _ _ _ _ _ | exact ih4 _ _ _ _ _ _ _ _ _ _ | exact bits_LeadingZeros64.mono _ _ | exact LeO.refl _ | exact LeO.none _ | refine LeO.ite ?_ ?_ | refine LeO.bind ?_ (fun _ => ?_))
    · intro y0 y1 y2 y3 y4 y5 y6 y7 y8
      unfold bits_Div64.l0
      repeat' (with_reducible first | exact ih0 _ _ _ _ _ _ _ _ | exact ih1 _ _ _ _ _ _ _ _ _ | exact ih2 _ _ _ _ _ _ _ _ _ _ | exact ih3 _ _ _ _ _ _ _ _ _ | exact ih4 _ _ _ _ _ _ _ _ _ _ | exact bits_LeadingZeros64.mono _ _ | exact LeO.refl _ | exact LeO.none _ | refine LeO.ite ?_ ?_ | refine LeO.bind ?_ (fun _ => ?_))
    intro y0 y1 y2 y3 y4 y5 y6 y7 y8 y9
    unfold bits_Div64.j1
    repeat' (with_reducible first | exact ih0 _ _ _ _ _ _ _ _ | exact ih1 _ _ _ _ _ _ _ _ _ | exact ih2 _ _ _ _ _ _ _ _ _ _ | exact ih3 _ _ _ _ _ _ _ _ _ | exact ih4 _ _ _ _ _ _ _ _ _ _ | exact bits_LeadingZeros64.mono _ _ | exact LeO.refl _ | exact LeO.none _ | refine LeO.ite ?_ ?_ | refine LeO.bind ?_ (fun _ => ?_))
theorem bits_Div64.mono : ∀ a0 a1 a2 k, LeO (bits_Div64.f k a0 a1 a2) (bits_Div64.f (k + 1) a0 a1 a2) := by
  intro a0 a1 a2 k
  obtain ⟨ih0, ih1, ih2, ih3, ih4⟩ := bits_Div64.mono_l k
  unfold bits_Div64.f
  repeat' (with_reducible first | exact ih0 _ _ _ _ _ _ _ _ | exact ih1 _ _ _ _ _ _ _ _ _ | exact ih2 _ _ _ _ _ _ _ _ _ _ | exact ih3 _ _ _ _ _ _ _ _ _ | exact ih4 _ _ _ _ _ _ _ _ _ _ | exact bits_LeadingZeros64.mono _ _ | exact LeO.refl _ | exact LeO.none _ | refine LeO.ite ?_ ?_ | refine LeO.bind ?_ (fun _ => ?_))
set_option maxHeartbeats 8000000 in
set_option maxRecDepth 100000 in
theorem bits_Div64.calls (k : Nat) (a0 : Int) (a1 : Int) (a2 : Int) (r1 : Int) (r2 : Int) (w : World) (h : bits_Div64.f k a0 a1 a2 = some (r1, r2)) :
    Calls Try.prog 137 #[.int .u64 a0, .int .u64 a1, .int .u64 a2] w fun e w' => e = .returned (.tuple #[.int .u64 r1, .int .u64 r2]) ∧ Drawn0 w w' := by
  have H : (if a2 = 0 then (none) else (if a2 ≤ a0 then (none) else (if a0 = 0 then (some (IntKind.u64.wrap (Int.tdiv a1 a2), Int.tmod a1 a2)) else ((bits_LeadingZeros64.f k a2).bind fun t101 => (if 0 ≤ (IntKind.u64.wrap (t101)) then (if 0 ≤ (IntKind.u64.wrap (64 - (IntKind.u64.wrap (t101)))) then (if ((shl .u64 a2 (IntKind.u64.wrap (t101))) / 4294967296) = 0 then (none) else (bits_Div64.l0 k (shl .u64 a2 (IntKind.u64.wrap (t101))) (IntKind.u64.wrap (t101)) ((shl .u64 a2 (IntKind.u64.wrap (t101))) / 4294967296) (Go.bits .and .u64 (shl .u64 a2 (IntKind.u64.wrap (t101))) 4294967295) (Go.bits .or .u64 (shl .u64 a0 (IntKind.u64.wrap (t101))) (shr .u64 a1 (IntKind.u64.wrap (64 - (IntKind.u64.wrap (t101)))))) ((shl .u64 a1 (IntKind.u64.wrap (t101))) / 4294967296) (Go.bits .and .u64 (shl .u64 a1 (IntKind.u64.wrap (t101))) 4294967295) (IntKind.u64.wrap (Int.tdiv (Go.bits .or .u64 (shl .u64 a0 (IntKind.u64.wrap (t101))) (shr .u64 a1 (IntKind.u64.wrap (64 - (IntKind.u64.wrap (t101)))))) ((shl .u64 a2 (IntKind.u64.wrap (t101))) / 4294967296))) (IntKind.u64.wrap ((Go.bits .or .u64 (shl .u64 a0 (IntKind.u64.wrap (t101))) (shr .u64 a1 (IntKind.u64.wrap (64 - (IntKind.u64.wrap (t101)))))) - (IntKind.u64.wrap ((IntKind.u64.wrap (Int.tdiv (Go.bits .or .u64 (shl .u64 a0 (IntKind.u64.wrap (t101))) (shr .u64 a1 (IntKind.u64.wrap (64 - (IntKind.u64.wrap (t101)))))) ((shl .u64 a2 (IntKind.u64.wrap (t101))) / 4294967296))) * ((shl .u64 a2 (IntKind.u64.wrap (t101))) / 4294967296))))))) else (none)) else (none)))))) = some (r1, r2) := h
  clear h
  by_cases c4 : a2 = 0
  · rw [if_pos c4] at H
    exact absurd H (by simp)
  rw [if_neg c4] at H
  have c4b0 : (a2 == 0) = false := beq_eq_false_iff_ne.mpr c4
  have c4b1 : (a2 != 0) = true := bne_iff_ne.mpr c4
  by_cases c5 : a2 ≤ a0
  · rw [if_pos c5] at H
    exact absurd H (by simp)
  rw [if_neg c5] at H
  have c5b0 : decide (a2 ≤ a0) = false := zGq c5
  clear c5
  by_cases c6 : a0 = 0
  · rw [if_pos c6] at H
    have c6b0 : (a0 == 0) = true := beq_iff_eq.mpr c6; have c6b1 : (a0 != 0) = false := bne_eq_false_iff_eq.mpr c6; clear c6; simp only [zNq, zOq] at H; obtain ⟨rfl, rfl⟩ := H; go_enter Try.func137, Try.ntmps137; go_wp2; repeat (go_quiet (fail); try go_wp2)
    go_ret2; exact ⟨by first | rfl | (simp; done) | (simp [*]; done), by repeat (first | exact Drawn0.refl _ | apply Drawn0.step)⟩
  rw [if_neg c6] at H
  have c6b0 : (a0 == 0) = false := beq_eq_false_iff_ne.mpr c6
  have c6b1 : (a0 != 0) = true := bne_iff_ne.mpr c6
  replace H := Option.bind_eq_some_iff.mp H
  obtain ⟨t101, A70, H⟩ := H
  try dsimp only at H
  have A7 := zA A70
  clear A70
  obtain ⟨ji8, hji8⟩ : ∃ j_ : Int, (IntKind.u64.wrap (t101)) = j_ := ⟨_, rfl⟩
  replace H : (if 0 ≤ (ji8) then (if 0 ≤ (IntKind.u64.wrap (64 - (ji8))) then (if ((shl .u64 a2 (ji8)) / 4294967296) = 0 then (none) else (bits_Div64.l0 k (shl .u64 a2 (ji8)) ji8 ((shl .u64 a2 (ji8)) / 4294967296) (Go.bits .and .u64 (shl .u64 a2 (ji8)) 4294967295) (Go.bits .or .u64 (shl .u64 a0 (ji8)) (shr .u64 a1 (IntKind.u64.wrap (64 - (ji8))))) ((shl .u64 a1 (ji8)) / 4294967296) (Go.bits .and .u64 (shl .u64 a1 (ji8)) 4294967295) (IntKind.u64.wrap (Int.tdiv (Go.bits .or .u64 (shl .u64 a0 (ji8)) (shr .u64 a1 (IntKind.u64.wrap (64 - (ji8))))) ((shl .u64 a2 (ji8)) / 4294967296))) (IntKind.u64.wrap ((Go.bits .or .u64 (shl .u64 a0 (ji8)) (shr .u64 a1 (IntKind.u64.wrap (64 - (ji8))))) - (IntKind.u64.wrap ((IntKind.u64.wrap (Int.tdiv (Go.bits .or .u64 (shl .u64 a0 (ji8)) (shr .u64 a1 (IntKind.u64.wrap (64 - (ji8))))) ((shl .u64 a2 (ji8)) / 4294967296))) * ((shl .u64 a2 (ji8)) / 4294967296))))))) else (none)) else (none)) = some (r1, r2) := by first | (rw [hji8] at H; exact H) | (simp only [hji8] at H ⊢; exact H)
  (try rw [hji8] at A7)
  by_cases c9 : 0 ≤ (ji8)
  · rw [if_pos c9] at H
    have c9b0 := eq_true c9; have c9b1 : decide (0 ≤ (ji8)) = true := zFq c9; clear c9; obtain ⟨ji10, hji10⟩ : ∃ j_ : Int, (shl .u64 a2 (ji8)) = j_ := ⟨_, rfl⟩
    replace H : (if 0 ≤ (IntKind.u64.wrap (64 - (ji8))) then (if ((ji10) / 4294967296) = 0 then (none) else (bits_Div64.l0 k ji10 ji8 ((ji10) / 4294967296) (Go.bits .and .u64 (ji10) 4294967295) (Go.bits .or .u64 (shl .u64 a0 (ji8)) (shr .u64 a1 (IntKind.u64.wrap (64 - (ji8))))) ((shl .u64 a1 (ji8)) / 4294967296) (Go.bits .and .u64 (shl .u64 a1 (ji8)) 4294967295) (IntKind.u64.wrap (Int.tdiv (Go.bits .or .u64 (shl .u64 a0 (ji8)) (shr .u64 a1 (IntKind.u64.wrap (64 - (ji8))))) ((ji10) / 4294967296))) (IntKind.u64.wrap ((Go.bits .or .u64 (shl .u64 a0 (ji8)) (shr .u64 a1 (IntKind.u64.wrap (64 - (ji8))))) - (IntKind.u64.wrap ((IntKind.u64.wrap (Int.tdiv (Go.bits .or .u64 (shl .u64 a0 (ji8)) (shr .u64 a1 (IntKind.u64.wrap (64 - (ji8))))) ((ji10) / 4294967296))) * ((ji10) / 4294967296))))))) else (none)) = some (r1, r2) := by first | (rw [hji10] at H; exact H) | (simp only [hji10] at H ⊢; exact H)
    (try rw [hji10] at A7)
    have hji10_ : (IntKind.u64.wrap (a2 * 2 ^ min (ji8).toNat 64)) = ji10 := hji10; have hji10z : (ji8) ≤ 64 → (IntKind.u64.wrap (a2 * 2 ^ (ji8).toNat)) = ji10 := shl_small hji10; have c11b0 := eq_true (of_decide_eq_true qA : 0 ≤ (ji8)); obtain ⟨ji12, hji12⟩ : ∃ j_ : Int, (shl .u64 a0 (ji8)) = j_ := ⟨_, rfl⟩
    replace H : (if 0 ≤ (IntKind.u64.wrap (64 - (ji8))) then (if ((ji10) / 4294967296) = 0 then (none) else (bits_Div64.l0 k ji10 ji8 ((ji10) / 4294967296) (Go.bits .and .u64 (ji10) 4294967295) (Go.bits .or .u64 (ji12) (shr .u64 a1 (IntKind.u64.wrap (64 - (ji8))))) ((shl .u64 a1 (ji8)) / 4294967296) (Go.bits .and .u64 (shl .u64 a1 (ji8)) 4294967295) (IntKind.u64.wrap (Int.tdiv (Go.bits .or .u64 (ji12) (shr .u64 a1 (IntKind.u64.wrap (64 - (ji8))))) ((ji10) / 4294967296))) (IntKind.u64.wrap ((Go.bits .or .u64 (ji12) (shr .u64 a1 (IntKind.u64.wrap (64 - (ji8))))) - (IntKind.u64.wrap ((IntKind.u64.wrap (Int.tdiv (Go.bits .or .u64 (ji12) (shr .u64 a1 (IntKind.u64.wrap (64 - (ji8))))) ((ji10) / 4294967296))) * ((ji10) / 4294967296))))))) else (none)) = some (r1, r2) := by first | (rw [hji12] at H; exact H) | (simp only [hji12] at H ⊢; exact H)
    (try rw [hji12] at A7)
    have hji12_ : (IntKind.u64.wrap (a0 * 2 ^ min (ji8).toNat 64)) = ji12 := hji12; have hji12z : (ji8) ≤ 64 → (IntKind.u64.wrap (a0 * 2 ^ (ji8).toNat)) = ji12 := shl_small hji12; obtain ⟨ji13, hji13⟩ : ∃ j_ : Int, (IntKind.u64.wrap (64 - (ji8))) = j_ := ⟨_, rfl⟩
    replace H : (if 0 ≤ (ji13) then (if ((ji10) / 4294967296) = 0 then (none) else (bits_Div64.l0 k ji10 ji8 ((ji10) / 4294967296) (Go.bits .and .u64 (ji10) 4294967295) (Go.bits .or .u64 (ji12) (shr .u64 a1 (ji13))) ((shl .u64 a1 (ji8)) / 4294967296) (Go.bits .and .u64 (shl .u64 a1 (ji8)) 4294967295) (IntKind.u64.wrap (Int.tdiv (Go.bits .or .u64 (ji12) (shr .u64 a1 (ji13))) ((ji10) / 4294967296))) (IntKind.u64.wrap ((Go.bits .or .u64 (ji12) (shr .u64 a1 (ji13))) - (IntKind.u64.wrap ((IntKind.u64.wrap (Int.tdiv (Go.bits .or .u64 (ji12) (shr .u64 a1 (ji13))) ((ji10) / 4294967296))) * ((ji10) / 4294967296))))))) else (none)) = some (r1, r2) := by first | (rw [hji13] at H; exact H) | (simp only [hji13] at H ⊢; exact H)
    (try rw [hji13] at A7)
    by_cases c14 : 0 ≤ (ji13)
    · rw [if_pos c14] at H
      have c14b0 := eq_true c14; have c14b1 : decide (0 ≤ (ji13)) = true := zFq c14; clear c14; obtain ⟨ji15, hji15⟩ : ∃ j_ : Int, (shr .u64 a1 (ji13)) = j_ := ⟨_, rfl⟩
      replace H : (if ((ji10) / 4294967296) = 0 then (none) else (bits_Div64.l0 k ji10 ji8 ((ji10) / 4294967296) (Go.bits .and .u64 (ji10) 4294967295) (Go.bits .or .u64 (ji12) (ji15)) ((shl .u64 a1 (ji8)) / 4294967296) (Go.bits .and .u64 (shl .u64 a1 (ji8)) 4294967295) (IntKind.u64.wrap (Int.tdiv (Go.bits .or .u64 (ji12) (ji15)) ((ji10) / 4294967296))) (IntKind.u64.wrap ((Go.bits .or .u64 (ji12) (ji15)) - (IntKind.u64.wrap ((IntKind.u64.wrap (Int.tdiv (Go.bits .or .u64 (ji12) (ji15)) ((ji10) / 4294967296))) * ((ji10) / 4294967296))))))) = some (r1, r2) := by first | (rw [hji15] at H; exact H) | (simp only [hji15] at H ⊢; exact H)
      (try rw [hji15] at A7)
      have hji15_ : (a1 / 2 ^ min (ji13).toNat 64) = ji15 := hji15; have hji15z : (ji13) ≤ 64 → (a1 / 2 ^ (ji13).toNat) = ji15 := shr_small hji15; have c16b0 := eq_true (of_decide_eq_true qA : 0 ≤ (ji8)); obtain ⟨ji17, hji17⟩ : ∃ j_ : Int, (shl .u64 a1 (ji8)) = j_ := ⟨_, rfl⟩
      replace H : (if ((ji10) / 4294967296) = 0 then (none) else (bits_Div64.l0 k ji10 ji8 ((ji10) / 4294967296) (Go.bits .and .u64 (ji10) 4294967295) (Go.bits .or .u64 (ji12) (ji15)) ((ji17) / 4294967296) (Go.bits .and .u64 (ji17) 4294967295) (IntKind.u64.wrap (Int.tdiv (Go.bits .or .u64 (ji12) (ji15)) ((ji10) / 4294967296))) (IntKind.u64.wrap ((Go.bits .or .u64 (ji12) (ji15)) - (IntKind.u64.wrap ((IntKind.u64.wrap (Int.tdiv (Go.bits .or .u64 (ji12) (ji15)) ((ji10) / 4294967296))) * ((ji10) / 4294967296))))))) = some (r1, r2) := by first | (rw [hji17] at H; exact H) | (simp only [hji17] at H ⊢; exact H)
      (try rw [hji17] at A7)
      have hji17_ : (IntKind.u64.wrap (a1 * 2 ^ min (ji8).toNat 64)) = ji17 := hji17; have hji17z : (ji8) ≤ 64 → (IntKind.u64.wrap (a1 * 2 ^ (ji8).toNat)) = ji17 := shl_small hji17; by_cases c18 : ((ji10) / 4294967296) = 0
      · rw [if_pos c18] at H
        exact absurd H (by simp)
      rw [if_neg c18] at H; have c18b0 : (((ji10) / 4294967296) == 0) = false := beq_eq_false_iff_ne.mpr c18; have c18b1 : (((ji10) / 4294967296) != 0) = true := bne_iff_ne.mpr c18; have HC19 := zA H; clear H; go_enter Try.func137, Try.ntmps137; go_upto_block 0 with (first | (go_at_call 147; (with_reducible refine (bits_LeadingZeros64.calls k a2 t101 _ A7.out).mono ?_); rintro e w' ⟨rfl, ⟨nd, rfl⟩⟩; (try first | exact ⟨rfl, _, World.drewN_drewN _ _ _⟩ | exact ⟨rfl, _, Eq.trans (World.drewN_drewN _ _ _) (congrArg (World.drewN _) (Nat.add_assoc _ _ _))⟩)))
      repeat (go_quiet (first | (go_at_call 147; (with_reducible refine (bits_LeadingZeros64.calls k a2 t101 _ A7.out).mono ?_); rintro e w' ⟨rfl, ⟨nd, rfl⟩⟩; (try first | exact ⟨rfl, _, World.drewN_drewN _ _ _⟩ | exact ⟨rfl, _, Eq.trans (World.drewN_drewN _ _ _) (congrArg (World.drewN _) (Nat.add_assoc _ _ _))⟩))); go_upto_block 0 with (first | (go_at_call 147; (with_reducible refine (bits_LeadingZeros64.calls k a2 t101 _ A7.out).mono ?_); rintro e w' ⟨rfl, ⟨nd, rfl⟩⟩; (try first | exact ⟨rfl, _, World.drewN_drewN _ _ _⟩ | exact ⟨rfl, _, Eq.trans (World.drewN_drewN _ _ _) (congrArg (World.drewN _) (Nat.add_assoc _ _ _))⟩))))
      (try simp only [Act.put, zH, zI, zJ])
      go_cut [15] (fun v15 wc => ∃ (kq : Nat) (x15_18 : Int), v15 = .int .u64 x15_18 ∧ Aside0 (bits_Div64.j2 kq ji10 ji8 ((ji10) / 4294967296) (Go.bits .and .u64 (ji10) 4294967295) (Go.bits .or .u64 (ji12) (ji15)) ((ji17) / 4294967296) (Go.bits .and .u64 (ji17) 4294967295) x15_18 = some (r1, r2)) ∧ Aside0 (kq ≤ k) ∧ Drawn0 w wc)
      case first =>
        have H := HC19.out; clear HC19; have H' := zA H; clear H; go_wp2; repeat (go_quiet (fail); try go_wp2)
        go_loopg [15, 16] k (fun kq v15 v16 w' => ∃ (x15_1 : Int) (x16_1 : Int), v15 = .int .u64 x15_1 ∧ v16 = .int .u64 x16_1 ∧ Aside0 (bits_Div64.l0 kq ji10 ji8 ((ji10) / 4294967296) (Go.bits .and .u64 (ji10) 4294967295) (Go.bits .or .u64 (ji12) (ji15)) ((ji17) / 4294967296) (Go.bits .and .u64 (ji17) 4294967295) x15_1 x16_1 = some (r1, r2)) ∧ Aside0 (kq ≤ k) ∧ Drawn0 w w')
        case atStart => exact ⟨(IntKind.u64.wrap (Int.tdiv (Go.bits .or .u64 (ji12) (ji15)) ((ji10) / 4294967296))), (IntKind.u64.wrap ((Go.bits .or .u64 (ji12) (ji15)) - (IntKind.u64.wrap ((IntKind.u64.wrap (Int.tdiv (Go.bits .or .u64 (ji12) (ji15)) ((ji10) / 4294967296))) * ((ji10) / 4294967296))))), (by first | rfl | (simp; done) | (simp only [← hji10, ← hji12, ← hji15] <;> (first | rfl | simp)) | (simp [*]; done)), (by first | rfl | (simp; done) | (simp only [← hji10, ← hji12, ← hji15] <;> (first | rfl | simp)) | (simp [*]; done)), H', ⟨Nat.le_refl _⟩, by repeat (first | exact Drawn0.refl _ | apply Drawn0.step)⟩
        case round =>
          clear H'; try clear c1
          try clear p2
          try clear c4
          try clear c4b0
          try clear c4b1
          try clear c5
          try clear c5b0
          try clear c6
          try clear c6b0
          try clear c6b1
          try clear c9
          try clear c9b0
          try clear c9b1
          try clear c11
          try clear c11b0
          try clear c13
          try clear c14
          try clear c14b0
          try clear c14b1
          try clear c16
          try clear c16b0
          try clear c18
          try clear c18b0
          try clear c18b1
          obtain ⟨x15_1, x16_1, rfl, rfl, HA, HK1, ⟨m1, rfl⟩⟩ := hrel; cases gk with
          | zero => exact absurd HA.out (by simp [bits_Div64.l0])
          | succ k1 =>
            have H := HA.out; clear HA; simp only [bits_Div64.l0] at H; have HC20 := zA H; clear H; go_upto_region 17 with (fail)
            repeat (go_quiet (fail); go_upto_region 17 with (fail))
            go_cut [78] (fun v78 wc => ∃ (kq : Nat) (x78_19 : Bool), v78 = .bool x78_19 ∧ Aside0 (bits_Div64.j1 kq ji10 ji8 ((ji10) / 4294967296) (Go.bits .and .u64 (ji10) 4294967295) (Go.bits .or .u64 (ji12) (ji15)) ((ji17) / 4294967296) (Go.bits .and .u64 (ji17) 4294967295) x15_1 x16_1 x78_19 = some (r1, r2)) ∧ Aside0 (kq ≤ k1) ∧ Drawn0 w wc)
            case first =>
              have H := HC20.out; clear HC20; by_cases c21 : x15_1 ≥ 4294967296
              · rw [if_pos c21] at H
                have c21b0 : decide (4294967296 ≤ x15_1) = true := zFq c21; clear c21; (first | rw [c21b0] | (simp only [i64_w, i32_w]; rw [c21b0]) | skip)
                have H' := zA H; clear H; go_wp2; repeat (go_quiet (fail); try go_wp2)
                go_meet
                case rel => exact ⟨_, (true), (by first | rfl | (simp; done) | (simp [*]; done)), H', ⟨by have := HK1.out; first | omega | exact Nat.le_refl _⟩, by repeat (first | exact Drawn0.refl _ | apply Drawn0.step)⟩
              rw [if_neg c21] at H; have c21b0 : decide (4294967296 ≤ x15_1) = false := zGq c21; clear c21; (first | rw [c21b0] | (simp only [i64_w, i32_w]; rw [c21b0]) | skip)
              have H' := zA H; clear H; go_wp2; repeat (go_quiet (fail); try go_wp2)
              go_meet
              case rel => exact ⟨_, (decide ((IntKind.u64.wrap (x15_1 * (Go.bits .and .u64 (ji10) 4294967295))) > (IntKind.u64.wrap ((IntKind.u64.wrap (4294967296 * x16_1)) + ((ji17) / 4294967296))))), (by first | rfl | (simp; done) | (simp only [← hji10, ← hji17] <;> (first | rfl | simp)) | (simp [*]; done)), H', ⟨by have := HK1.out; first | omega | exact Nat.le_refl _⟩, by repeat (first | exact Drawn0.refl _ | apply Drawn0.step)⟩
            case rest =>
              clear HC20; try clear c1
              try clear c2
              try clear p2
              try clear c4
              try clear c4b0
              try clear c4b1
              try clear c5
              try clear c5b0
              try clear c6
              try clear c6b0
              try clear c6b1
              try clear c9
              try clear c9b0
              try clear c9b1
              try clear c11
              try clear c11b0
              try clear c13
              try clear c14
              try clear c14b0
              try clear c14b1
              try clear c16
              try clear c16b0
              try clear c18
              try clear c18b0
              try clear c18b1
              try clear c21
              try clear c21b0
              try clear p2
              obtain ⟨kq, x78_19, rfl, HA, HJ19, ⟨mc19, rfl⟩⟩ := hcut; cases kq with
              | zero => exact absurd HA.out (by simp [bits_Div64.j1])
              | succ kj19 =>
                have H := HA.out; clear HA; simp only [bits_Div64.j1] at H; by_cases c22 : x78_19 = true
                · subst c22
                  have H1 : (if (IntKind.u64.wrap (x16_1 + ((ji10) / 4294967296))) ≥ 4294967296 then (bits_Div64.j2 kj19 ji10 ji8 ((ji10) / 4294967296) (Go.bits .and .u64 (ji10) 4294967295) (Go.bits .or .u64 (ji12) (ji15)) ((ji17) / 4294967296) (Go.bits .and .u64 (ji17) 4294967295) (IntKind.u64.wrap (x15_1 - 1))) else (bits_Div64.l0 kj19 ji10 ji8 ((ji10) / 4294967296) (Go.bits .and .u64 (ji10) 4294967295) (Go.bits .or .u64 (ji12) (ji15)) ((ji17) / 4294967296) (Go.bits .and .u64 (ji17) 4294967295) (IntKind.u64.wrap (x15_1 - 1)) (IntKind.u64.wrap (x16_1 + ((ji10) / 4294967296))))) = some (r1, r2) := by first | (rw [if_pos rfl] at H; exact H) | rfl
                  clear H; have H := H1; clear H1; by_cases c23 : (IntKind.u64.wrap (x16_1 + ((ji10) / 4294967296))) ≥ 4294967296
                  · rw [if_pos c23] at H
                    have c23b0 : decide (4294967296 ≤ (IntKind.u64.wrap (x16_1 + ((ji10) / 4294967296)))) = true := zFq c23; clear c23; have H' := zA H; clear H; go_wp2; repeat (go_quiet (fail); try go_wp2)
                    go_meet
                    case rel => exact ⟨_, (IntKind.u64.wrap (x15_1 - 1)), (by first | rfl | (simp; done) | (simp [*]; done)), H', ⟨by have := HK1.out; have := HJ19.out; first | omega | exact Nat.le_refl _⟩, by repeat (first | exact Drawn0.refl _ | apply Drawn0.step)⟩
                  rw [if_neg c23] at H; have c23b0 : decide (4294967296 ≤ (IntKind.u64.wrap (x16_1 + ((ji10) / 4294967296)))) = false := zGq c23; clear c23; have H' := zA H; clear H; go_wp2; repeat (go_quiet (fail); try go_wp2)
                  go_roundg kj19
                  case measure => have := HK1.out; have := HJ19.out; omega
                  case rel => exact ⟨(IntKind.u64.wrap (x15_1 - 1)), (IntKind.u64.wrap (x16_1 + ((ji10) / 4294967296))), (by first | rfl | (simp; done) | (simp [*]; done)), (by first | rfl | (simp; done) | (simp only [← hji10] <;> (first | rfl | simp)) | (simp [*]; done)), H', ⟨by have := HK1.out; have := HJ19.out; omega⟩, by repeat (first | exact Drawn0.refl _ | apply Drawn0.step)⟩
                replace c22 := Bool.eq_false_iff.mpr c22; subst c22; have H1 : (bits_Div64.j2 kj19 ji10 ji8 ((ji10) / 4294967296) (Go.bits .and .u64 (ji10) 4294967295) (Go.bits .or .u64 (ji12) (ji15)) ((ji17) / 4294967296) (Go.bits .and .u64 (ji17) 4294967295) x15_1) = some (r1, r2) := by first | (rw [if_neg (show ¬ (false = true) by decide)] at H; exact H) | rfl
                clear H; have H := H1; clear H1; have H' := zA H; clear H; go_wp2; repeat (go_quiet (fail); try go_wp2)
                go_meet
                case rel => exact ⟨_, (x15_1), (by first | rfl | (simp; done) | (simp [*]; done)), H', ⟨by have := HK1.out; have := HJ19.out; first | omega | exact Nat.le_refl _⟩, by repeat (first | exact Drawn0.refl _ | apply Drawn0.step)⟩
      case rest =>
        clear HC19; try clear c1
        try clear c2
        try clear p2
        try clear c4
        try clear c4b0
        try clear c4b1
        try clear c5
        try clear c5b0
        try clear c6
        try clear c6b0
        try clear c6b1
        try clear c9
        try clear c9b0
        try clear c9b1
        try clear c11
        try clear c11b0
        try clear c13
        try clear c14
        try clear c14b0
        try clear c14b1
        try clear c16
        try clear c16b0
        try clear c18
        try clear c18b0
        try clear c18b1
        try clear c19
        try clear c21
        try clear c21b0
        try clear c22
        try clear c23
        try clear c23b0
        try clear p2
        obtain ⟨kq, x15_18, rfl, HA, HJ18, ⟨mc18, rfl⟩⟩ := hcut; cases kq with
        | zero => exact absurd HA.out (by simp [bits_Div64.j2])
        | succ kj18 =>
          have H := HA.out; clear HA; simp only [bits_Div64.j2] at H; by_cases c24 : ((ji10) / 4294967296) = 0
          · rw [if_pos c24] at H
            exact absurd H (by simp)
          rw [if_neg c24] at H; have c24b0 : (((ji10) / 4294967296) == 0) = false := beq_eq_false_iff_ne.mpr c24; have c24b1 : (((ji10) / 4294967296) != 0) = true := bne_iff_ne.mpr c24; have H' := zA H; clear H; go_wp2; repeat (go_quiet (fail); try go_wp2)
          go_loopg [16, 18] kj18 (fun kq v16 v18 w' => ∃ (x16_2 : Int) (x18_2 : Int), v16 = .int .u64 x16_2 ∧ v18 = .int .u64 x18_2 ∧ Aside0 (bits_Div64.l1 kq ji10 ji8 ((ji10) / 4294967296) (Go.bits .and .u64 (ji10) 4294967295) (Go.bits .and .u64 (ji17) 4294967295) x15_18 x16_2 (IntKind.u64.wrap ((IntKind.u64.wrap ((IntKind.u64.wrap ((Go.bits .or .u64 (ji12) (ji15)) * 4294967296)) + ((ji17) / 4294967296))) - (IntKind.u64.wrap (x15_18 * ji10)))) x18_2 = some (r1, r2)) ∧ Aside0 (kq ≤ kj18) ∧ Drawn0 w w')
          case atStart => exact ⟨(IntKind.u64.wrap ((IntKind.u64.wrap ((IntKind.u64.wrap ((IntKind.u64.wrap ((Go.bits .or .u64 (ji12) (ji15)) * 4294967296)) + ((ji17) / 4294967296))) - (IntKind.u64.wrap (x15_18 * ji10)))) - (IntKind.u64.wrap ((IntKind.u64.wrap (Int.tdiv (IntKind.u64.wrap ((IntKind.u64.wrap ((IntKind.u64.wrap ((Go.bits .or .u64 (ji12) (ji15)) * 4294967296)) + ((ji17) / 4294967296))) - (IntKind.u64.wrap (x15_18 * ji10)))) ((ji10) / 4294967296))) * ((ji10) / 4294967296))))), (IntKind.u64.wrap (Int.tdiv (IntKind.u64.wrap ((IntKind.u64.wrap ((IntKind.u64.wrap ((Go.bits .or .u64 (ji12) (ji15)) * 4294967296)) + ((ji17) / 4294967296))) - (IntKind.u64.wrap (x15_18 * ji10)))) ((ji10) / 4294967296))), (by first | rfl | (simp; done) | (simp only [← hji10, ← hji12, ← hji15, ← hji17] <;> (first | rfl | simp)) | (simp [*]; done)), (by first | rfl | (simp; done) | (simp only [← hji10, ← hji12, ← hji15, ← hji17] <;> (first | rfl | simp)) | (simp [*]; done)), H', ⟨Nat.le_refl _⟩, by repeat (first | exact Drawn0.refl _ | apply Drawn0.step)⟩
          case round =>
            clear H'; try clear c1
            try clear c2
            try clear p2
            try clear c4
            try clear c4b0
            try clear c4b1
            try clear c5
            try clear c5b0
            try clear c6
            try clear c6b0
            try clear c6b1
            try clear c9
            try clear c9b0
            try clear c9b1
            try clear c11
            try clear c11b0
            try clear c13
            try clear c14
            try clear c14b0
            try clear c14b1
            try clear c16
            try clear c16b0
            try clear c18
            try clear c18b0
            try clear c18b1
            try clear c19
            try clear c21
            try clear c21b0
            try clear c22
            try clear c23
            try clear c23b0
            try clear c24
            try clear c24b0
            try clear c24b1
            try clear p2
            obtain ⟨x16_2, x18_2, rfl, rfl, HA, HK2, ⟨m2, rfl⟩⟩ := hrel; cases gk with
            | zero => exact absurd HA.out (by simp [bits_Div64.l1])
            | succ k2 =>
              have H := HA.out; clear HA; simp only [bits_Div64.l1] at H; have HC25 := zA H; clear H; go_upto_region 24 with (fail)
              repeat (go_quiet (fail); go_upto_region 24 with (fail))
              go_cut [113] (fun v113 wc => ∃ (kq : Nat) (x113_24 : Bool), v113 = .bool x113_24 ∧ Aside0 (bits_Div64.j4 kq ji10 ji8 ((ji10) / 4294967296) (Go.bits .and .u64 (ji10) 4294967295) (Go.bits .and .u64 (ji17) 4294967295) x15_18 x16_2 (IntKind.u64.wrap ((IntKind.u64.wrap ((IntKind.u64.wrap ((Go.bits .or .u64 (ji12) (ji15)) * 4294967296)) + ((ji17) / 4294967296))) - (IntKind.u64.wrap (x15_18 * ji10)))) x18_2 x113_24 = some (r1, r2)) ∧ Aside0 (kq ≤ k2) ∧ Drawn0 w wc)
              case first =>
                have H := HC25.out; clear HC25; by_cases c26 : x18_2 ≥ 4294967296
                · rw [if_pos c26] at H
                  have c26b0 : decide (4294967296 ≤ x18_2) = true := zFq c26; clear c26; (first | rw [c26b0] | (simp only [i64_w, i32_w]; rw [c26b0]) | skip)
                  have H' := zA H; clear H; go_wp2; repeat (go_quiet (fail); try go_wp2)
                  go_meet
                  case rel => exact ⟨_, (true), (by first | rfl | (simp; done) | (simp [*]; done)), H', ⟨by have := HJ18.out; have := HK2.out; first | omega | exact Nat.le_refl _⟩, by repeat (first | exact Drawn0.refl _ | apply Drawn0.step)⟩
                rw [if_neg c26] at H; have c26b0 : decide (4294967296 ≤ x18_2) = false := zGq c26; clear c26; (first | rw [c26b0] | (simp only [i64_w, i32_w]; rw [c26b0]) | skip)
                have H' := zA H; clear H; go_wp2; repeat (go_quiet (fail); try go_wp2)
                go_meet
                case rel => exact ⟨_, (decide ((IntKind.u64.wrap (x18_2 * (Go.bits .and .u64 (ji10) 4294967295))) > (IntKind.u64.wrap ((IntKind.u64.wrap (4294967296 * x16_2)) + (Go.bits .and .u64 (ji17) 4294967295))))), (by first | rfl | (simp; done) | (simp only [← hji10, ← hji17] <;> (first | rfl | simp)) | (simp [*]; done)), H', ⟨by have := HJ18.out; have := HK2.out; first | omega | exact Nat.le_refl _⟩, by repeat (first | exact Drawn0.refl _ | apply Drawn0.step)⟩
              case rest =>
                clear HC25; try clear c1
                try clear c2
                try clear p2
                try clear c4
                try clear c4b0
                try clear c4b1
                try clear c5
                try clear c5b0
                try clear c6
                try clear c6b0
                try clear c6b1
                try clear c9
                try clear c9b0
                try clear c9b1
                try clear c11
                try clear c11b0
                try clear c13
                try clear c14
                try clear c14b0
                try clear c14b1
                try clear c16
                try clear c16b0
                try clear c18
                try clear c18b0
                try clear c18b1
                try clear c19
                try clear c21
                try clear c21b0
                try clear c22
                try clear c23
                try clear c23b0
                try clear c24
                try clear c24b0
                try clear c24b1
                try clear c26
                try clear c26b0
                try clear p2
                obtain ⟨kq, x113_24, rfl, HA, HJ24, ⟨mc24, rfl⟩⟩ := hcut; cases kq with
                | zero => exact absurd HA.out (by simp [bits_Div64.j4])
                | succ kj24 =>
                  have H := HA.out; clear HA; simp only [bits_Div64.j4] at H; by_cases c27 : x113_24 = true
                  · subst c27
                    have H1 : (if (IntKind.u64.wrap (x16_2 + ((ji10) / 4294967296))) ≥ 4294967296 then (if 0 ≤ ji8 then (some (IntKind.u64.wrap ((IntKind.u64.wrap (x15_18 * 4294967296)) + (IntKind.u64.wrap (x18_2 - 1))), shr .u64 (IntKind.u64.wrap ((IntKind.u64.wrap ((IntKind.u64.wrap ((IntKind.u64.wrap ((IntKind.u64.wrap ((IntKind.u64.wrap ((Go.bits .or .u64 (ji12) (ji15)) * 4294967296)) + ((ji17) / 4294967296))) - (IntKind.u64.wrap (x15_18 * ji10)))) * 4294967296)) + (Go.bits .and .u64 (ji17) 4294967295))) - (IntKind.u64.wrap ((IntKind.u64.wrap (x18_2 - 1)) * ji10)))) ji8)) else (none)) else (bits_Div64.l1 kj24 ji10 ji8 ((ji10) / 4294967296) (Go.bits .and .u64 (ji10) 4294967295) (Go.bits .and .u64 (ji17) 4294967295) x15_18 (IntKind.u64.wrap (x16_2 + ((ji10) / 4294967296))) (IntKind.u64.wrap ((IntKind.u64.wrap ((IntKind.u64.wrap ((Go.bits .or .u64 (ji12) (ji15)) * 4294967296)) + ((ji17) / 4294967296))) - (IntKind.u64.wrap (x15_18 * ji10)))) (IntKind.u64.wrap (x18_2 - 1)))) = some (r1, r2) := by first | (rw [if_pos rfl] at H; exact H) | rfl
                    clear H; have H := H1; clear H1; by_cases c28 : (IntKind.u64.wrap (x16_2 + ((ji10) / 4294967296))) ≥ 4294967296
                    · rw [if_pos c28] at H
                      have c28b0 : decide (4294967296 ≤ (IntKind.u64.wrap (x16_2 + ((ji10) / 4294967296)))) = true := zFq c28; clear c28; by_cases c29 : 0 ≤ ji8
                      · rw [if_pos c29] at H
                        have c29b0 := eq_true c29; have c29b1 : decide (0 ≤ ji8) = true := zFq c29; clear c29; obtain ⟨ji30, hji30⟩ : ∃ j_ : Int, (shr .u64 (IntKind.u64.wrap ((IntKind.u64.wrap ((IntKind.u64.wrap ((IntKind.u64.wrap ((IntKind.u64.wrap ((IntKind.u64.wrap ((Go.bits .or .u64 (ji12) (ji15)) * 4294967296)) + ((ji17) / 4294967296))) - (IntKind.u64.wrap (x15_18 * ji10)))) * 4294967296)) + (Go.bits .and .u64 (ji17) 4294967295))) - (IntKind.u64.wrap ((IntKind.u64.wrap (x18_2 - 1)) * ji10)))) ji8) = j_ := ⟨_, rfl⟩
                        replace H : (some (IntKind.u64.wrap ((IntKind.u64.wrap (x15_18 * 4294967296)) + (IntKind.u64.wrap (x18_2 - 1))), ji30)) = some (r1, r2) := by first | (rw [hji30] at H; exact H) | (simp only [hji30] at H ⊢; exact H)
                        have hji30_ : ((IntKind.u64.wrap ((IntKind.u64.wrap ((IntKind.u64.wrap ((IntKind.u64.wrap ((IntKind.u64.wrap ((IntKind.u64.wrap ((Go.bits .or .u64 (ji12) (ji15)) * 4294967296)) + ((ji17) / 4294967296))) - (IntKind.u64.wrap (x15_18 * ji10)))) * 4294967296)) + (Go.bits .and .u64 (ji17) 4294967295))) - (IntKind.u64.wrap ((IntKind.u64.wrap (x18_2 - 1)) * ji10)))) / 2 ^ min ji8.toNat 64) = ji30 := hji30; have hji30z : ji8 ≤ 64 → ((IntKind.u64.wrap ((IntKind.u64.wrap ((IntKind.u64.wrap ((IntKind.u64.wrap ((IntKind.u64.wrap ((IntKind.u64.wrap ((Go.bits .or .u64 (ji12) (ji15)) * 4294967296)) + ((ji17) / 4294967296))) - (IntKind.u64.wrap (x15_18 * ji10)))) * 4294967296)) + (Go.bits .and .u64 (ji17) 4294967295))) - (IntKind.u64.wrap ((IntKind.u64.wrap (x18_2 - 1)) * ji10)))) / 2 ^ ji8.toNat) = ji30 := shr_small hji30; simp only [zNq, zOq] at H; obtain ⟨rfl, rfl⟩ := H; go_wp2; repeat (go_quiet (fail); try go_wp2)
                        go_ret2; exact ⟨by first | rfl | (simp; done) | (simp only [← hji8, ← hji10, ← hji12, ← hji13, ← hji15, ← hji17, ← hji30] <;> (first | rfl | simp)) | (simp [*]; done), by repeat (first | exact Drawn0.refl _ | apply Drawn0.step)⟩
                      rw [if_neg c29] at H; exact absurd H (by simp)
                    rw [if_neg c28] at H; have c28b0 : decide (4294967296 ≤ (IntKind.u64.wrap (x16_2 + ((ji10) / 4294967296)))) = false := zGq c28; clear c28; have H' := zA H; clear H; go_wp2; repeat (go_quiet (fail); try go_wp2)
                    go_roundg kj24
                    case measure => have := HJ18.out; have := HK2.out; have := HJ24.out; omega
                    case rel => exact ⟨(IntKind.u64.wrap (x16_2 + ((ji10) / 4294967296))), (IntKind.u64.wrap (x18_2 - 1)), (by first | rfl | (simp; done) | (simp only [← hji10] <;> (first | rfl | simp)) | (simp [*]; done)), (by first | rfl | (simp; done) | (simp [*]; done)), H', ⟨by have := HJ18.out; have := HK2.out; have := HJ24.out; omega⟩, by repeat (first | exact Drawn0.refl _ | apply Drawn0.step)⟩
                  replace c27 := Bool.eq_false_iff.mpr c27; subst c27; have H1 : (if 0 ≤ ji8 then (some (IntKind.u64.wrap ((IntKind.u64.wrap (x15_18 * 4294967296)) + x18_2), shr .u64 (IntKind.u64.wrap ((IntKind.u64.wrap ((IntKind.u64.wrap ((IntKind.u64.wrap ((IntKind.u64.wrap ((IntKind.u64.wrap ((Go.bits .or .u64 (ji12) (ji15)) * 4294967296)) + ((ji17) / 4294967296))) - (IntKind.u64.wrap (x15_18 * ji10)))) * 4294967296)) + (Go.bits .and .u64 (ji17) 4294967295))) - (IntKind.u64.wrap (x18_2 * ji10)))) ji8)) else (none)) = some (r1, r2) := by first | (rw [if_neg (show ¬ (false = true) by decide)] at H; exact H) | rfl
                  clear H; have H := H1; clear H1; by_cases c31 : 0 ≤ ji8
                  · rw [if_pos c31] at H
                    have c31b0 := eq_true c31; have c31b1 : decide (0 ≤ ji8) = true := zFq c31; clear c31; obtain ⟨ji32, hji32⟩ : ∃ j_ : Int, (shr .u64 (IntKind.u64.wrap ((IntKind.u64.wrap ((IntKind.u64.wrap ((IntKind.u64.wrap ((IntKind.u64.wrap ((IntKind.u64.wrap ((Go.bits .or .u64 (ji12) (ji15)) * 4294967296)) + ((ji17) / 4294967296))) - (IntKind.u64.wrap (x15_18 * ji10)))) * 4294967296)) + (Go.bits .and .u64 (ji17) 4294967295))) - (IntKind.u64.wrap (x18_2 * ji10)))) ji8) = j_ := ⟨_, rfl⟩
                    replace H : (some (IntKind.u64.wrap ((IntKind.u64.wrap (x15_18 * 4294967296)) + x18_2), ji32)) = some (r1, r2) := by first | (rw [hji32] at H; exact H) | (simp only [hji32] at H ⊢; exact H)
                    have hji32_ : ((IntKind.u64.wrap ((IntKind.u64.wrap ((IntKind.u64.wrap ((IntKind.u64.wrap ((IntKind.u64.wrap ((IntKind.u64.wrap ((Go.bits .or .u64 (ji12) (ji15)) * 4294967296)) + ((ji17) / 4294967296))) - (IntKind.u64.wrap (x15_18 * ji10)))) * 4294967296)) + (Go.bits .and .u64 (ji17) 4294967295))) - (IntKind.u64.wrap (x18_2 * ji10)))) / 2 ^ min ji8.toNat 64) = ji32 := hji32; have hji32z : ji8 ≤ 64 → ((IntKind.u64.wrap ((IntKind.u64.wrap ((IntKind.u64.wrap ((IntKind.u64.wrap ((IntKind.u64.wrap ((IntKind.u64.wrap ((Go.bits .or .u64 (ji12) (ji15)) * 4294967296)) + ((ji17) / 4294967296))) - (IntKind.u64.wrap (x15_18 * ji10)))) * 4294967296)) + (Go.bits .and .u64 (ji17) 4294967295))) - (IntKind.u64.wrap (x18_2 * ji10)))) / 2 ^ ji8.toNat) = ji32 := shr_small hji32; simp only [zNq, zOq] at H; obtain ⟨rfl, rfl⟩ := H; go_wp2; repeat (go_quiet (fail); try go_wp2)
                    go_ret2; exact ⟨by first | rfl | (simp; done) | (simp only [← hji8, ← hji10, ← hji12, ← hji13, ← hji15, ← hji17, ← hji32] <;> (first | rfl | simp)) | (simp [*]; done), by repeat (first | exact Drawn0.refl _ | apply Drawn0.step)⟩
                  rw [if_neg c31] at H; exact absurd H (by simp)
    rw [if_neg c14] at H; exact absurd H (by simp)
  rw [if_neg c9] at H
  exact absurd H (by simp)
def cents_wide_above.f (a0_0 : Int) (a0_1 : Int) (a1_0 : Int) (a1_1 : Int) : Option (Bool) := if a0_0 > a1_0 then (some true) else (if a0_0 = a1_0 then (some (decide (a0_1 > a1_1))) else (some false))
set_option maxHeartbeats 8000000 in
set_option maxRecDepth 100000 in
theorem cents_wide_above.calls (a0_0 : Int) (a0_1 : Int) (a1_0 : Int) (a1_1 : Int) (r : Bool) (w : World) (h : cents_wide_above.f a0_0 a0_1 a1_0 a1_1 = some r) :
    Calls Try.prog 97 #[.agg #[.int .u64 a0_0, .int .u64 a0_1], .agg #[.int .u64 a1_0, .int .u64 a1_1]] w fun e w' => e = .returned (.bool r) ∧ Below w.heap.size w w' := by
  have hu121 := Try.underlying121
  have HB := zA (Below.refl w.heap.size w)
  have H : (if a0_0 > a1_0 then (some true) else (if a0_0 = a1_0 then (some (decide (a0_1 > a1_1))) else (some false))) = some r := h
  clear h
  by_cases c3 : a0_0 > a1_0
  · rw [if_pos c3] at H
    have c3b0 : decide (a1_0 < a0_0) = true := zFq c3; clear c3; obtain rfl := zKq H; go_enter Try.func97, Try.ntmps97; go_wp2_with (first | ((with_reducible refine gate_dst (N := 2) rfl ?_); refine box_event qr (N := 2) qr (cs := #[.int .u64 a0_0, .int .u64 a0_1]) (t := 121) qg ?_; intro gb101 hg w4 hbox hb; have n0_ := zA (zV qB hb); have n1_ := zA (hbox); have n2_ := zA ((qS : w.heap.size ≤ gb101)); have n3_ := zA ((qS : w.heap.size ≤ gb101)); clear HB; have HB := n0_; have BK101 := n1_; have GW101 := n2_; have GE101 := n3_; clear n0_ n1_ n2_ n3_ hb hbox hg) | ((with_reducible refine gate_dst (N := 3) rfl ?_); refine box_event qr (N := 3) qr (cs := #[.int .u64 a1_0, .int .u64 a1_1]) (t := 121) qg ?_; intro gb102 hg w5 hbox hb; have n0_ := zA (qX BK101.out hb); have n1_ := zA (zV qB hb); have n2_ := zA (hbox); have n3_ := zA ((qS : w.heap.size ≤ gb102)); have n4_ := zA ((qS : w.heap.size ≤ gb102)); have n5_ := zA ((by rw [hg]; exact zLq (qL BK101.out) : gb101 ≠ gb102)); have n6_ := zA ((by rw [hg]; exact zMq (qL BK101.out) : gb102 ≠ gb101)); clear BK101 HB; have BK101 := n0_; have HB := n1_; have BK102 := n2_; have GW102 := n3_; have GE102 := n4_; have NB101_102 := n5_; have NB102_101 := n6_; clear n0_ n1_ n2_ n3_ n4_ n5_ n6_ hb hbox hg; have hnb6 := NB101_102.out; have hnc6 := NB102_101.out; obtain ⟨_, _, _, _⟩ := qc2f BK101.out; obtain ⟨_, _, _, _⟩ := qc2f BK102.out)); go_ret; exact ⟨qE, qB⟩
  rw [if_neg c3] at H
  have c3b0 : decide (a1_0 < a0_0) = false := zGq c3
  clear c3
  by_cases c9 : a0_0 = a1_0
  · rw [if_pos c9] at H
    have c9b0 : (a0_0 == a1_0) = true := beq_iff_eq.mpr c9; have c9b1 : (a0_0 != a1_0) = false := bne_eq_false_iff_eq.mpr c9; clear c9; obtain rfl := zKq H; go_enter Try.func97, Try.ntmps97; go_wp2_with (first | ((with_reducible refine gate_dst (N := 2) rfl ?_); refine box_event qr (N := 2) qr (cs := #[.int .u64 a0_0, .int .u64 a0_1]) (t := 121) qg ?_; intro gb101 hg w10 hbox hb; have n0_ := zA (zV qB hb); have n1_ := zA (hbox); have n2_ := zA ((qS : w.heap.size ≤ gb101)); have n3_ := zA ((qS : w.heap.size ≤ gb101)); clear HB; have HB := n0_; have BK101 := n1_; have GW101 := n2_; have GE101 := n3_; clear n0_ n1_ n2_ n3_ hb hbox hg) | ((with_reducible refine gate_dst (N := 3) rfl ?_); refine box_event qr (N := 3) qr (cs := #[.int .u64 a1_0, .int .u64 a1_1]) (t := 121) qg ?_; intro gb102 hg w11 hbox hb; have n0_ := zA (qX BK101.out hb); have n1_ := zA (zV qB hb); have n2_ := zA (hbox); have n3_ := zA ((qS : w.heap.size ≤ gb102)); have n4_ := zA ((qS : w.heap.size ≤ gb102)); have n5_ := zA ((by rw [hg]; exact zLq (qL BK101.out) : gb101 ≠ gb102)); have n6_ := zA ((by rw [hg]; exact zMq (qL BK101.out) : gb102 ≠ gb101)); clear BK101 HB; have BK101 := n0_; have HB := n1_; have BK102 := n2_; have GW102 := n3_; have GE102 := n4_; have NB101_102 := n5_; have NB102_101 := n6_; clear n0_ n1_ n2_ n3_ n4_ n5_ n6_ hb hbox hg; have hnb12 := NB101_102.out; have hnc12 := NB102_101.out; obtain ⟨_, _, _, _⟩ := qc2f BK101.out; obtain ⟨_, _, _, _⟩ := qc2f BK102.out)); go_ret; exact ⟨qE, qB⟩
  rw [if_neg c9] at H
  have c9b0 : (a0_0 == a1_0) = false := beq_eq_false_iff_ne.mpr c9
  have c9b1 : (a0_0 != a1_0) = true := bne_iff_ne.mpr c9
  obtain rfl := zKq H
  go_enter Try.func97, Try.ntmps97
  go_wp2_with (first | ((with_reducible refine gate_dst (N := 2) rfl ?_); refine box_event qr (N := 2) qr (cs := #[.int .u64 a0_0, .int .u64 a0_1]) (t := 121) qg ?_; intro gb101 hg w15 hbox hb; have n0_ := zA (zV qB hb); have n1_ := zA (hbox); have n2_ := zA ((qS : w.heap.size ≤ gb101)); have n3_ := zA ((qS : w.heap.size ≤ gb101)); clear HB; have HB := n0_; have BK101 := n1_; have GW101 := n2_; have GE101 := n3_; clear n0_ n1_ n2_ n3_ hb hbox hg) | ((with_reducible refine gate_dst (N := 3) rfl ?_); refine box_event qr (N := 3) qr (cs := #[.int .u64 a1_0, .int .u64 a1_1]) (t := 121) qg ?_; intro gb102 hg w16 hbox hb; have n0_ := zA (qX BK101.out hb); have n1_ := zA (zV qB hb); have n2_ := zA (hbox); have n3_ := zA ((qS : w.heap.size ≤ gb102)); have n4_ := zA ((qS : w.heap.size ≤ gb102)); have n5_ := zA ((by rw [hg]; exact zLq (qL BK101.out) : gb101 ≠ gb102)); have n6_ := zA ((by rw [hg]; exact zMq (qL BK101.out) : gb102 ≠ gb101)); clear BK101 HB; have BK101 := n0_; have HB := n1_; have BK102 := n2_; have GW102 := n3_; have GE102 := n4_; have NB101_102 := n5_; have NB102_101 := n6_; clear n0_ n1_ n2_ n3_ n4_ n5_ n6_ hb hbox hg; have hnb17 := NB101_102.out; have hnc17 := NB102_101.out; obtain ⟨_, _, _, _⟩ := qc2f BK101.out; obtain ⟨_, _, _, _⟩ := qc2f BK102.out))
  go_ret
  exact ⟨qE, qB⟩
def bits_Mul64.f (a0 : Int) (a1 : Int) : Option (Int × Int) := some (IntKind.u64.wrap ((IntKind.u64.wrap ((IntKind.u64.wrap ((a0 / 4294967296) * (a1 / 4294967296))) + ((IntKind.u64.wrap ((IntKind.u64.wrap ((a0 / 4294967296) * (Go.bits .and .u64 a1 4294967295))) + ((IntKind.u64.wrap ((Go.bits .and .u64 a0 4294967295) * (Go.bits .and .u64 a1 4294967295))) / 4294967296))) / 4294967296))) + ((IntKind.u64.wrap ((Go.bits .and .u64 (IntKind.u64.wrap ((IntKind.u64.wrap ((a0 / 4294967296) * (Go.bits .and .u64 a1 4294967295))) + ((IntKind.u64.wrap ((Go.bits .and .u64 a0 4294967295) * (Go.bits .and .u64 a1 4294967295))) / 4294967296))) 4294967295) + (IntKind.u64.wrap ((Go.bits .and .u64 a0 4294967295) * (a1 / 4294967296))))) / 4294967296)), IntKind.u64.wrap (a0 * a1))
set_option maxHeartbeats 8000000 in
set_option maxRecDepth 100000 in
theorem bits_Mul64.calls (a0 : Int) (a1 : Int) (r1 : Int) (r2 : Int) (w : World) (h : bits_Mul64.f a0 a1 = some (r1, r2)) :
    Calls Try.prog 136 #[.int .u64 a0, .int .u64 a1] w fun e w' => e = .returned (.tuple #[.int .u64 r1, .int .u64 r2]) ∧ Drawn0 w w' := by
  have H : (some (IntKind.u64.wrap ((IntKind.u64.wrap ((IntKind.u64.wrap ((a0 / 4294967296) * (a1 / 4294967296))) + ((IntKind.u64.wrap ((IntKind.u64.wrap ((a0 / 4294967296) * (Go.bits .and .u64 a1 4294967295))) + ((IntKind.u64.wrap ((Go.bits .and .u64 a0 4294967295) * (Go.bits .and .u64 a1 4294967295))) / 4294967296))) / 4294967296))) + ((IntKind.u64.wrap ((Go.bits .and .u64 (IntKind.u64.wrap ((IntKind.u64.wrap ((a0 / 4294967296) * (Go.bits .and .u64 a1 4294967295))) + ((IntKind.u64.wrap ((Go.bits .and .u64 a0 4294967295) * (Go.bits .and .u64 a1 4294967295))) / 4294967296))) 4294967295) + (IntKind.u64.wrap ((Go.bits .and .u64 a0 4294967295) * (a1 / 4294967296))))) / 4294967296)), IntKind.u64.wrap (a0 * a1))) = some (r1, r2) := h
  clear h
  simp only [zNq, zOq] at H
  obtain ⟨rfl, rfl⟩ := H
  go_enter Try.func136, Try.ntmps136
  go_wp2
  go_ret2
  exact ⟨by first | rfl | (simp; done) | (simp [*]; done), by repeat (first | exact Drawn0.refl _ | apply Drawn0.step)⟩
def cents_product.f (a0 : Int) (a1 : Int) : Option (Int × Int) := (bits_Mul64.f a0 a1).bind fun bt102 => (some (bt102.1, bt102.2))
set_option maxHeartbeats 8000000 in
set_option maxRecDepth 100000 in
theorem cents_product.calls (a0 : Int) (a1 : Int) (r1 : Int) (r2 : Int) (w : World) (h : cents_product.f a0 a1 = some (r1, r2)) :
    Calls Try.prog 98 #[.int .u64 a0, .int .u64 a1] w fun e w' => e = .returned (.agg #[.int .u64 r1, .int .u64 r2]) ∧ Below w.heap.size w w' := by
  have hu121 := Try.underlying121
  have HB := zA (Below.refl w.heap.size w)
  have H : ((bits_Mul64.f a0 a1).bind fun bt102 => (some (bt102.1, bt102.2))) = some (r1, r2) := h
  clear h
  replace H := Option.bind_eq_some_iff.mp H
  obtain ⟨⟨t102, t103⟩, A30, H⟩ := H
  try dsimp only at H
  have A3 := zA A30
  clear A30
  simp only [zNq, zOq] at H
  obtain ⟨rfl, rfl⟩ := H
  go_enter Try.func98, Try.ntmps98
  go_wp2_with (first | ((with_reducible refine gate_dst (N := 4) rfl ?_); refine box_event qr (N := 4) qr (cs := #[.int .u64 0, .int .u64 0]) (t := 121) qg ?_; intro gb101 hg w4 hbox hb; have n0_ := zA (zV qB hb); have n1_ := zA (hbox); have n2_ := zA ((qS : w.heap.size ≤ gb101)); have n3_ := zA ((qS : w.heap.size ≤ gb101)); clear HB; have HB := n0_; have BK101 := n1_; have GW101 := n2_; have GE101 := n3_; clear n0_ n1_ n2_ n3_ hb hbox hg) | ((with_reducible refine zJq (f := 136) rfl ?_); refine goesL_ (some 10) rfl rfl Try.func136 (by kernel_rfl) rfl #[.int .u64 a0, .int .u64 a1] rfl qG ?_; (with_reducible refine (bits_Mul64.calls a0 a1 t102 t103 _ A3.out).mono ?_); rintro e w' ⟨rfl, ⟨nd, rfl⟩⟩; refine ⟨_, rfl, ?_⟩; (try (rw [drewN_self w4]; generalize hq_ : World.drewN w4 _ = w4; have n0_ : Aside0 (w4.heap[gb101]? = some (.cells #[.int .u64 0, .int .u64 0] 121 (0, 0))) := ⟨by rw [← hq_]; exact (qW BK101.out)⟩; have n1_ : Aside0 (Below w.heap.size w w4) := ⟨by rw [← hq_]; exact qB⟩; clear BK101 HB hq_; have BK101 := n0_; have HB := n1_; clear n0_ n1_)); obtain ⟨_, _, _, _⟩ := qc2f BK101.out))
  refine bodyPost_ret (results_cell_row rfl _ _ gb101 121 #[.int .u64 t102, .int .u64 t103] (0, 0) _ rfl (qV BK101.out) Try.underlying121 rfl (by kernel_rfl)) rfl ?_
  exact ⟨qE, qB⟩
end Go.Proofs.Ytefhljhpcpajgaa.F
