-- merged and pruned by prune.py (the session's own program); its words go back to the kit's print
import Derived.Test.YtefhljhpcpajgaaProg
import Derived.Below
import Derived.Deep.Draws
import Derived.Deep.AppendLies
import Derived.Maps.AppendAt
import Derived.OwnWalk
import Derived.Laws.BytesArg
import Derived.Laws.MakeOwn
import Derived.Laws.OwnMore
import Derived.Deep.OwnRows
import Derived.Tactics
import Derived.Lib.ConvBytes
import Derived.Laws.Slices
import Derived.WalkKit
import Derived.KernelRfl
import Derived.RowKit3
import Derived.Deep.LoopGhost
import Derived.Deep.QuietTactic
import Derived.BigQuiet
import Derived.WideLaws
import Derived.Deep.DeepCutAuto
import Derived.Deep.CutBlock
import Derived.Deep.RegionHeld3
import Derived.Laws.Rows
import Derived.Lib.AppendStr
import Derived.ArgAppend
import Derived.Laws.IdiomCopy
import Derived.OrdersHeld
import Derived.Laws.BitsLemmas
import Derived.RowKit
import Derived.Laws.StructEq
import Derived.Deep.RegionLawGrows
import Derived.Lib.SliceRun
import Derived.Lib.OthersKept
import Derived.Lib.RuneCount
import Derived.Laws.Cover4
import Derived.Outline
import Derived.Shelf.Small.Bits
import Derived.Shelf.Utf8.RuneCount
import Derived.Shelf.Strconv.Itoa0
import Derived.Shelf.Strings.Prefix
import Derived.Shelf.Strings.RuneCount
import Derived.Shelf.Bits.Mul64
import Derived.Ground.Names2Prog
import Derived.Shelf.Slices.SearchI
import Derived.Ground.SlsfProg
import Derived.Shelf.SlSortCmp.Insertion
import Derived.Shelf.SlSortCmp.Insertion1
import Derived.Sort.LotA
import Derived.Sort.OwnSortedInts
import Derived.Test.YtefhljhpcpajgaaZLineDeals5
namespace Go.Proofs.Ytefhljhpcpajgaa.F
open Go.RowKit Go.Proofs.YtefhljhpcpajgaaX Go.Proofs.YtefhljhpcpajgaaW.PrintWords Go.Proofs.YtefhljhpcpajgaaW.PrintLast Go.Proofs.YtefhljhpcpajgaaW.PrintMore
attribute [local go_sem] max2_int min2_int max_two min_two max_three min_three max_four min_four   
attribute [local go_sem high] str_geq str_leq str_gtr
set_option linter.unusedVariables false
set_option linter.unusedSimpArgs false
def backhaulref01_Row.l0 : Nat → List ByteArray → Int → Option (Int)
  | 0, _, _ => none
  | k + 1, x0, x3 => if x3 < (x0.length : Int) then (if 0 ≤ x3 then ((backhaulref01_Check.f k (rdOf ByteArray.empty x0 x3)).bind fun t102 => (if t102 = 0 then (if x3 > 0 then (if 0 ≤ (wrap64 (x3 - 1)) then (if (wrap64 (x3 - 1)) < (x0.length : Int) then (if ((Op.bytesLess ((rdOf ByteArray.empty x0 (wrap64 (x3 - 1))).toList) ((rdOf ByteArray.empty x0 x3).toList)) = true) then (backhaulref01_Row.l0 k x0 (wrap64 (x3 + 1))) else (some 32)) else (none)) else (none)) else (backhaulref01_Row.l0 k x0 (wrap64 (x3 + 1)))) else (some 9))) else (none)) else (some 0)
def backhaulref01_Row.f (k : Nat) (l0 : List ByteArray) : Option (Int) := backhaulref01_Row.l0 k l0 0
theorem backhaulref01_Row.mono_l : ∀ k, (∀ y0 y1, LeO (backhaulref01_Row.l0 k y0 y1) (backhaulref01_Row.l0 (k + 1) y0 y1))
  | 0 => fun _ _ r h => by simp [backhaulref01_Row.l0] at h
  | k + 1 => by
    have ih0 := backhaulref01_Row.mono_l k
    intro y0 y1
    unfold backhaulref01_Row.l0
    repeat' (with_reducible first | exact ih0 _ _ | exact backhaulref01_Check.mono _ _ | exact LeO.refl _ | exact LeO.none _ | refine LeO.ite ?_ ?_ | refine LeO.bind ?_ (fun _ => ?_))
theorem backhaulref01_Row.mono : ∀ a0 k, LeO (backhaulref01_Row.f k a0) (backhaulref01_Row.f (k + 1) a0) := by
  intro a0 k
  have ih0 := backhaulref01_Row.mono_l k
  unfold backhaulref01_Row.f
  repeat' (with_reducible first | exact ih0 _ _ | exact backhaulref01_Check.mono _ _ | exact LeO.refl _ | exact LeO.none _ | refine LeO.ite ?_ ?_ | refine LeO.bind ?_ (fun _ => ?_))
set_option maxHeartbeats 8000000 in
set_option maxRecDepth 100000 in
theorem backhaulref01_Row.calls (k : Nat) (A0 : Option Addr) (c0 : Nat) (l0 : List ByteArray) (r : Int) (w : World) (hr0 : Kd.C Kd.string w A0 l0.length l0) (hc0 : l0.length ≤ c0) (h : backhaulref01_Row.f k l0 = some r) :
    Calls Try.prog 120 #[.slice A0 l0.length c0] w fun e w' => e = .returned (.int .i64 r) ∧ Below w.heap.size w w' := by
  have HR0 := zA hr0
  have HC0 := zA hc0
  clear hr0 hc0
  have HB := zA (Below.refl w.heap.size w)
  have H : (backhaulref01_Row.l0 k l0 0) = some r := h
  clear h
  have H' := zA H
  clear H
  go_enter Try.func120, Try.ntmps120
  go_wp2
  repeat (go_quiet (fail); try go_wp2)
  go_loopg [3] k (fun kq v3 w' => ∃ (x3_1 : Int), v3 = .int .i64 x3_1 ∧ Aside0 (backhaulref01_Row.l0 kq l0 x3_1 = some r) ∧ Aside0 (kq ≤ k) ∧ Aside0 (Below w.heap.size w w'))
  case atStart => exact ⟨(0), (by first | rfl | (simp; done) | (simp [*]; done)), H', ⟨Nat.le_refl _⟩, ⟨qB⟩⟩
  case round =>
    clear H'; try clear c1
    obtain ⟨x3_1, rfl, HA, HK1, HB⟩ := hrel; cases gk with
    | zero => exact absurd HA.out (by simp [backhaulref01_Row.l0])
    | succ k1 =>
      have H := HA.out; clear HA; simp only [backhaulref01_Row.l0] at H; by_cases c2 : x3_1 < (l0.length : Int)
      · rw [if_pos c2] at H
        have c2b0 : decide (x3_1 < (l0.length : Int)) = true := zFq c2; clear c2; by_cases c3 : 0 ≤ x3_1
        · rw [if_pos c3] at H
          have c3b0 : decide (0 ≤ x3_1) = true := zFq c3; clear c3; replace H := Option.bind_eq_some_iff.mp H; obtain ⟨t102, A40, H⟩ := H; try dsimp only at H
          have A4 := zA A40; clear A40; by_cases c5 : t102 = 0
          · rw [if_pos c5] at H
            have c5b0 : (t102 == 0) = true := beq_iff_eq.mpr c5; have c5b1 : (t102 != 0) = false := bne_eq_false_iff_eq.mpr c5; clear c5; by_cases c6 : x3_1 > 0
            · rw [if_pos c6] at H
              have c6b0 : decide (0 < x3_1) = true := zFq c6; clear c6; obtain ⟨ji7, hji7⟩ : ∃ j_ : Int, (wrap64 (x3_1 - 1)) = j_ := ⟨_, rfl⟩
              replace H : (if 0 ≤ (ji7) then (if (ji7) < (l0.length : Int) then (if ((Op.bytesLess ((rdOf ByteArray.empty l0 (ji7)).toList) ((rdOf ByteArray.empty l0 x3_1).toList)) = true) then (backhaulref01_Row.l0 k1 l0 (wrap64 (x3_1 + 1))) else (some 32)) else (none)) else (none)) = some r := by first | (rw [hji7] at H; exact H) | (simp only [hji7] at H ⊢; exact H)
              (try rw [hji7] at A4)
              have hji7w : (IntKind.i64.wrap (x3_1 - 1)) = ji7 := (i64_w _).trans hji7; by_cases c8 : 0 ≤ (ji7)
              · rw [if_pos c8] at H
                have c8b0 : decide (0 ≤ (ji7)) = true := zFq c8; clear c8; by_cases c9 : (ji7) < (l0.length : Int)
                · rw [if_pos c9] at H
                  have c9b0 : decide ((ji7) < (l0.length : Int)) = true := zFq c9; clear c9; by_cases c10 : ((Op.bytesLess ((rdOf ByteArray.empty l0 (ji7)).toList) ((rdOf ByteArray.empty l0 x3_1).toList)) = true)
                  · rw [if_pos c10] at H
                    have c10b0 : (Op.bytesLess ((rdOf ByteArray.empty l0 (ji7)).toList) ((rdOf ByteArray.empty l0 x3_1).toList)) = true := c10; clear c10; have H' := zA H; clear H; have p101 : 0 ≤ (x3_1 : Int) := of_decide_eq_true qA; have q101 : x3_1 < (l0.length : Int) := of_decide_eq_true qA; obtain ⟨ad101, e101, hx101_0⟩ := Kd.at_string HR0.out x3_1 p101 q101; cases e101
                    replace hx101_0 := (HB.out.cell (zCq w _ hx101_0)).trans hx101_0; replace p101 := eq_true p101; replace q101 := eq_true q101; go_wp2_with (first | (go_at_call 143; (with_reducible refine (backhaulref01_Check.calls k1 (rdOf ByteArray.empty l0 x3_1) t102 _ A4.out).mono ?_); rintro e w11 ⟨rfl, hb⟩; have n0_ := zA (zV qB hb); clear HB; have HB := n0_; clear n0_; (try clear hb); have p103 : 0 ≤ (x3_1 : Int) := of_decide_eq_true qA; have q103 : x3_1 < (l0.length : Int) := of_decide_eq_true qA; obtain ⟨ad103, e103, hx103_0⟩ := Kd.at_string HR0.out x3_1 p103 q103; obtain rfl : ad101 = ad103 := (by injection e103); replace hx103_0 := (HB.out.cell (zCq w _ hx103_0)).trans hx103_0; replace p103 := eq_true p103; replace q103 := eq_true q103; have p104 : 0 ≤ ((ji7) : Int) := of_decide_eq_true qA; have q104 : (ji7) < (l0.length : Int) := of_decide_eq_true qA; obtain ⟨ad104, e104, hx104_0⟩ := Kd.at_string HR0.out (ji7) p104 q104; obtain rfl : ad101 = ad104 := (by injection e104); replace hx104_0 := (HB.out.cell (zCq w _ hx104_0)).trans hx104_0; replace p104 := eq_true p104; replace q104 := eq_true q104)); repeat (go_quiet (first | (go_at_call 143; (with_reducible refine (backhaulref01_Check.calls k1 (rdOf ByteArray.empty l0 x3_1) t102 _ A4.out).mono ?_); rintro e w11 ⟨rfl, hb⟩; have n0_ := zA (zV qB hb); clear HB; have HB := n0_; clear n0_; (try clear hb); have p103 : 0 ≤ (x3_1 : Int) := of_decide_eq_true qA; have q103 : x3_1 < (l0.length : Int) := of_decide_eq_true qA; obtain ⟨ad103, e103, hx103_0⟩ := Kd.at_string HR0.out x3_1 p103 q103; obtain rfl : ad101 = ad103 := (by injection e103); replace hx103_0 := (HB.out.cell (zCq w _ hx103_0)).trans hx103_0; replace p103 := eq_true p103; replace q103 := eq_true q103; have p104 : 0 ≤ ((ji7) : Int) := of_decide_eq_true qA; have q104 : (ji7) < (l0.length : Int) := of_decide_eq_true qA; obtain ⟨ad104, e104, hx104_0⟩ := Kd.at_string HR0.out (ji7) p104 q104; obtain rfl : ad101 = ad104 := (by injection e104); replace hx104_0 := (HB.out.cell (zCq w _ hx104_0)).trans hx104_0; replace p104 := eq_true p104; replace q104 := eq_true q104)); try go_wp2_with (first | (go_at_call 143; (with_reducible refine (backhaulref01_Check.calls k1 (rdOf ByteArray.empty l0 x3_1) t102 _ A4.out).mono ?_); rintro e w11 ⟨rfl, hb⟩; have n0_ := zA (zV qB hb); clear HB; have HB := n0_; clear n0_; (try clear hb); have p103 : 0 ≤ (x3_1 : Int) := of_decide_eq_true qA; have q103 : x3_1 < (l0.length : Int) := of_decide_eq_true qA; obtain ⟨ad103, e103, hx103_0⟩ := Kd.at_string HR0.out x3_1 p103 q103; obtain rfl : ad101 = ad103 := (by injection e103); replace hx103_0 := (HB.out.cell (zCq w _ hx103_0)).trans hx103_0; replace p103 := eq_true p103; replace q103 := eq_true q103; have p104 : 0 ≤ ((ji7) : Int) := of_decide_eq_true qA; have q104 : (ji7) < (l0.length : Int) := of_decide_eq_true qA; obtain ⟨ad104, e104, hx104_0⟩ := Kd.at_string HR0.out (ji7) p104 q104; obtain rfl : ad101 = ad104 := (by injection e104); replace hx104_0 := (HB.out.cell (zCq w _ hx104_0)).trans hx104_0; replace p104 := eq_true p104; replace q104 := eq_true q104)))
                    go_roundg k1
                    case measure => have := HK1.out; omega
                    case rel => exact ⟨(wrap64 (x3_1 + 1)), (by first | rfl | (simp; done) | (simp [*]; done)), H', ⟨by have := HK1.out; omega⟩, ⟨qB⟩⟩
                  rw [if_neg c10] at H; have c10b0 : (Op.bytesLess ((rdOf ByteArray.empty l0 (ji7)).toList) ((rdOf ByteArray.empty l0 x3_1).toList)) = false := by simpa using c10
                  clear c10; obtain rfl := zKq H; have p101 : 0 ≤ (x3_1 : Int) := of_decide_eq_true qA; have q101 : x3_1 < (l0.length : Int) := of_decide_eq_true qA; obtain ⟨ad101, e101, hx101_0⟩ := Kd.at_string HR0.out x3_1 p101 q101; cases e101
                  replace hx101_0 := (HB.out.cell (zCq w _ hx101_0)).trans hx101_0; replace p101 := eq_true p101; replace q101 := eq_true q101; go_wp2_with (first | (go_at_call 143; (with_reducible refine (backhaulref01_Check.calls k1 (rdOf ByteArray.empty l0 x3_1) t102 _ A4.out).mono ?_); rintro e w12 ⟨rfl, hb⟩; have n0_ := zA (zV qB hb); clear HB; have HB := n0_; clear n0_; (try clear hb); have p103 : 0 ≤ (x3_1 : Int) := of_decide_eq_true qA; have q103 : x3_1 < (l0.length : Int) := of_decide_eq_true qA; obtain ⟨ad103, e103, hx103_0⟩ := Kd.at_string HR0.out x3_1 p103 q103; obtain rfl : ad101 = ad103 := (by injection e103); replace hx103_0 := (HB.out.cell (zCq w _ hx103_0)).trans hx103_0; replace p103 := eq_true p103; replace q103 := eq_true q103; have p104 : 0 ≤ ((ji7) : Int) := of_decide_eq_true qA; have q104 : (ji7) < (l0.length : Int) := of_decide_eq_true qA; obtain ⟨ad104, e104, hx104_0⟩ := Kd.at_string HR0.out (ji7) p104 q104; obtain rfl : ad101 = ad104 := (by injection e104); replace hx104_0 := (HB.out.cell (zCq w _ hx104_0)).trans hx104_0; replace p104 := eq_true p104; replace q104 := eq_true q104)); repeat (go_quiet (first | (go_at_call 143; (with_reducible refine (backhaulref01_Check.calls k1 (rdOf ByteArray.empty l0 x3_1) t102 _ A4.out).mono ?_); rintro e w12 ⟨rfl, hb⟩; have n0_ := zA (zV qB hb); clear HB; have HB := n0_; clear n0_; (try clear hb); have p103 : 0 ≤ (x3_1 : Int) := of_decide_eq_true qA; have q103 : x3_1 < (l0.length : Int) := of_decide_eq_true qA; obtain ⟨ad103, e103, hx103_0⟩ := Kd.at_string HR0.out x3_1 p103 q103; obtain rfl : ad101 = ad103 := (by injection e103); replace hx103_0 := (HB.out.cell (zCq w _ hx103_0)).trans hx103_0; replace p103 := eq_true p103; replace q103 := eq_true q103; have p104 : 0 ≤ ((ji7) : Int) := of_decide_eq_true qA; have q104 : (ji7) < (l0.length : Int) := of_decide_eq_true qA; obtain ⟨ad104, e104, hx104_0⟩ := Kd.at_string HR0.out (ji7) p104 q104; obtain rfl : ad101 = ad104 := (by injection e104); replace hx104_0 := (HB.out.cell (zCq w _ hx104_0)).trans hx104_0; replace p104 := eq_true p104; replace q104 := eq_true q104)); try go_wp2_with (first | (go_at_call 143; (with_reducible refine (backhaulref01_Check.calls k1 (rdOf ByteArray.empty l0 x3_1) t102 _ A4.out).mono ?_); rintro e w12 ⟨rfl, hb⟩; have n0_ := zA (zV qB hb); clear HB; have HB := n0_; clear n0_; (try clear hb); have p103 : 0 ≤ (x3_1 : Int) := of_decide_eq_true qA; have q103 : x3_1 < (l0.length : Int) := of_decide_eq_true qA; obtain ⟨ad103, e103, hx103_0⟩ := Kd.at_string HR0.out x3_1 p103 q103; obtain rfl : ad101 = ad103 := (by injection e103); replace hx103_0 := (HB.out.cell (zCq w _ hx103_0)).trans hx103_0; replace p103 := eq_true p103; replace q103 := eq_true q103; have p104 : 0 ≤ ((ji7) : Int) := of_decide_eq_true qA; have q104 : (ji7) < (l0.length : Int) := of_decide_eq_true qA; obtain ⟨ad104, e104, hx104_0⟩ := Kd.at_string HR0.out (ji7) p104 q104; obtain rfl : ad101 = ad104 := (by injection e104); replace hx104_0 := (HB.out.cell (zCq w _ hx104_0)).trans hx104_0; replace p104 := eq_true p104; replace q104 := eq_true q104)))
                  go_ret; exact ⟨by first | rfl | (simp [errW_none, errW_some] <;> rfl) | (simp only [← hji7]; first | rfl | (simp [errW_none, errW_some] <;> rfl)) | (simp [*, errW_none, errW_some] <;> rfl), qB⟩
                rw [if_neg c9] at H; exact absurd H (by simp)
              rw [if_neg c8] at H; exact absurd H (by simp)
            rw [if_neg c6] at H; have c6b0 : decide (0 < x3_1) = false := zGq c6; clear c6; have H' := zA H; clear H; have p101 : 0 ≤ (x3_1 : Int) := of_decide_eq_true qA; have q101 : x3_1 < (l0.length : Int) := of_decide_eq_true qA; obtain ⟨ad101, e101, hx101_0⟩ := Kd.at_string HR0.out x3_1 p101 q101; cases e101
            replace hx101_0 := (HB.out.cell (zCq w _ hx101_0)).trans hx101_0; replace p101 := eq_true p101; replace q101 := eq_true q101; go_wp2_with (first | (go_at_call 143; (with_reducible refine (backhaulref01_Check.calls k1 (rdOf ByteArray.empty l0 x3_1) t102 _ A4.out).mono ?_); rintro e w13 ⟨rfl, hb⟩; have n0_ := zA (zV qB hb); clear HB; have HB := n0_; clear n0_; (try clear hb))); repeat (go_quiet (first | (go_at_call 143; (with_reducible refine (backhaulref01_Check.calls k1 (rdOf ByteArray.empty l0 x3_1) t102 _ A4.out).mono ?_); rintro e w13 ⟨rfl, hb⟩; have n0_ := zA (zV qB hb); clear HB; have HB := n0_; clear n0_; (try clear hb))); try go_wp2_with (first | (go_at_call 143; (with_reducible refine (backhaulref01_Check.calls k1 (rdOf ByteArray.empty l0 x3_1) t102 _ A4.out).mono ?_); rintro e w13 ⟨rfl, hb⟩; have n0_ := zA (zV qB hb); clear HB; have HB := n0_; clear n0_; (try clear hb))))
            go_roundg k1
            case measure => have := HK1.out; omega
            case rel => exact ⟨(wrap64 (x3_1 + 1)), (by first | rfl | (simp; done) | (simp [*]; done)), H', ⟨by have := HK1.out; omega⟩, ⟨qB⟩⟩
          rw [if_neg c5] at H; have c5b0 : (t102 == 0) = false := beq_eq_false_iff_ne.mpr c5; have c5b1 : (t102 != 0) = true := bne_iff_ne.mpr c5; obtain rfl := zKq H; have p101 : 0 ≤ (x3_1 : Int) := of_decide_eq_true qA; have q101 : x3_1 < (l0.length : Int) := of_decide_eq_true qA; obtain ⟨ad101, e101, hx101_0⟩ := Kd.at_string HR0.out x3_1 p101 q101; cases e101
          replace hx101_0 := (HB.out.cell (zCq w _ hx101_0)).trans hx101_0; replace p101 := eq_true p101; replace q101 := eq_true q101; go_wp2_with (first | (go_at_call 143; (with_reducible refine (backhaulref01_Check.calls k1 (rdOf ByteArray.empty l0 x3_1) t102 _ A4.out).mono ?_); rintro e w14 ⟨rfl, hb⟩; have n0_ := zA (zV qB hb); clear HB; have HB := n0_; clear n0_; (try clear hb))); repeat (go_quiet (first | (go_at_call 143; (with_reducible refine (backhaulref01_Check.calls k1 (rdOf ByteArray.empty l0 x3_1) t102 _ A4.out).mono ?_); rintro e w14 ⟨rfl, hb⟩; have n0_ := zA (zV qB hb); clear HB; have HB := n0_; clear n0_; (try clear hb))); try go_wp2_with (first | (go_at_call 143; (with_reducible refine (backhaulref01_Check.calls k1 (rdOf ByteArray.empty l0 x3_1) t102 _ A4.out).mono ?_); rintro e w14 ⟨rfl, hb⟩; have n0_ := zA (zV qB hb); clear HB; have HB := n0_; clear n0_; (try clear hb))))
          go_ret; exact ⟨qE, qB⟩
        rw [if_neg c3] at H; exact absurd H (by simp)
      rw [if_neg c2] at H; have c2b0 : decide (x3_1 < (l0.length : Int)) = false := zGq c2; clear c2; obtain rfl := zKq H; go_wp2; repeat (go_quiet (fail); try go_wp2)
      go_ret; exact ⟨qE, qB⟩
mutual
def backhaulref21_Check.j0 : Nat → Bool → Int → Int → Int → Int → List ByteArray → Option (Int)
  | 0, _, _, _, _, _, _ => none
  | k + 1, x10, x102000, x102001, x102002, x102003, x102004 => if x10 = true then (some 2) else (if x102001 < 0 then (backhaulref21_Check.j1 k true x102000 x102001 x102002 x102003 x102004) else (if x102001 > 1000000000000 then (backhaulref21_Check.j1 k true x102000 x102001 x102002 x102003 x102004) else (if x102002 < 0 then (backhaulref21_Check.j1 k true x102000 x102001 x102002 x102003 x102004) else (if x102002 > x102001 then (backhaulref21_Check.j1 k true x102000 x102001 x102002 x102003 x102004) else (if x102003 < 0 then (backhaulref21_Check.j1 k true x102000 x102001 x102002 x102003 x102004) else (if x102003 > 1000000000000 then (backhaulref21_Check.j1 k true x102000 x102001 x102002 x102003 x102004) else (backhaulref21_Check.j1 k (decide ((wrap64 (x102002 + x102003)) > 1000000000000)) x102000 x102001 x102002 x102003 x102004)))))))
def backhaulref21_Check.j1 : Nat → Bool → Int → Int → Int → Int → List ByteArray → Option (Int)
  | 0, _, _, _, _, _, _ => none
  | k + 1, x48, x102000, x102001, x102002, x102003, x102004 => if x48 = true then (some 8) else (if (x102004.length : Int) < 1 then (some 9) else (if (x102004.length : Int) > 20 then (some 9) else ((backhaulref01_Row.f k x102004).bind fun t102 => (if t102 = 0 then (some 0) else (some 9)))))
end
def backhaulref21_Check.f (k : Nat) (a0_0 : Int) (a0_1 : Int) (a0_2 : Int) (a0_3 : Int) (l0_4 : List ByteArray) : Option (Int) := if a0_0 < 1 then (backhaulref21_Check.j0 k true a0_0 a0_1 a0_2 a0_3 l0_4) else (backhaulref21_Check.j0 k (decide (a0_0 > 999999)) a0_0 a0_1 a0_2 a0_3 l0_4)
theorem backhaulref21_Check.mono_l : ∀ k, (∀ y0 y1 y2 y3 y4 y5, LeO (backhaulref21_Check.j0 k y0 y1 y2 y3 y4 y5) (backhaulref21_Check.j0 (k + 1) y0 y1 y2 y3 y4 y5)) ∧ (∀ y0 y1 y2 y3 y4 y5, LeO (backhaulref21_Check.j1 k y0 y1 y2 y3 y4 y5) (backhaulref21_Check.j1 (k + 1) y0 y1 y2 y3 y4 y5))
  | 0 => ⟨fun _ _ _ _ _ _ r h => by simp [backhaulref21_Check.j0] at h, fun _ _ _ _ _ _ r h => by simp [backhaulref21_Check.j1] at h⟩
  | k + 1 => by
    obtain ⟨ih0, ih1⟩ := backhaulref21_Check.mono_l k
    refine ⟨?_, ?_⟩
    · intro y0 y1 y2 y3 y4 y5
      unfold backhaulref21_Check.j0
      repeat' (with_reducible first | exact ih0 _ _ _ _ _ _ | exact ih1 _ _ _ _ _ _ | exact backhaulref01_Row.mono _ _ | exact LeO.refl _ | exact LeO.none _ | refine LeO.ite ?_ ?_ | refine LeO.bind ?_ (fun _ => ?_))
    intro y0 y1 y2 y3 y4 y5
    unfold backhaulref21_Check.j1
    repeat' (with_reducible first | exact ih0 _ _ _ _ _ _ | exact ih1 _ _ _ _ _ _ | exact backhaulref01_Row.mono _ _ | exact LeO.refl _ | exact LeO.none _ | refine LeO.ite ?_ ?_ | refine LeO.bind ?_ (fun _ => ?_))
theorem backhaulref21_Check.mono : ∀ a0 a1 a2 a3 a4 k, LeO (backhaulref21_Check.f k a0 a1 a2 a3 a4) (backhaulref21_Check.f (k + 1) a0 a1 a2 a3 a4) := by
  intro a0 a1 a2 a3 a4 k
  obtain ⟨ih0, ih1⟩ := backhaulref21_Check.mono_l k
  unfold backhaulref21_Check.f
  repeat' (with_reducible first | exact ih0 _ _ _ _ _ _ | exact ih1 _ _ _ _ _ _ | exact backhaulref01_Row.mono _ _ | exact LeO.refl _ | exact LeO.none _ | refine LeO.ite ?_ ?_ | refine LeO.bind ?_ (fun _ => ?_))
set_option maxHeartbeats 8000000 in
set_option maxRecDepth 100000 in
theorem backhaulref21_Check.calls (k : Nat) (a0_0 : Int) (a0_1 : Int) (a0_2 : Int) (a0_3 : Int) (A0_4 : Option Addr) (c0_4 : Nat) (l0_4 : List ByteArray) (r : Int) (w : World) (hr0_4 : Kd.C Kd.string w A0_4 l0_4.length l0_4) (hc0_4 : l0_4.length ≤ c0_4) (h : backhaulref21_Check.f k a0_0 a0_1 a0_2 a0_3 l0_4 = some r) :
    Calls Try.prog 70 #[.agg #[.int .i64 a0_0, .int .i64 a0_1, .int .i64 a0_2, .int .i64 a0_3, .slice A0_4 l0_4.length c0_4]] w fun e w' => e = .returned (.int .i64 r) ∧ Below w.heap.size w w' := by
  have hu71 := Try.underlying71
  have HR0_4 := zA hr0_4
  have HC0_4 := zA hc0_4
  clear hr0_4 hc0_4
  have HB := zA (Below.refl w.heap.size w)
  have H : (if a0_0 < 1 then (backhaulref21_Check.j0 k true a0_0 a0_1 a0_2 a0_3 l0_4) else (backhaulref21_Check.j0 k (decide (a0_0 > 999999)) a0_0 a0_1 a0_2 a0_3 l0_4)) = some r := h
  clear h
  have HC2 := zA H
  clear H
  go_enter Try.func70, Try.ntmps70
  go_upto_region 1 with (first | ((with_reducible refine gate_dst (N := 1) rfl ?_); (try (refine gate_guard (by rfl) ?_; dsimp only)); refine box_event qr (N := 1) qr (cs := #[.int .i64 a0_0, .int .i64 a0_1, .int .i64 a0_2, .int .i64 a0_3, .slice A0_4 l0_4.length c0_4]) (t := 71) qg ?_; intro gb101 hg w3 hbox hb; have n0_ := zA (zV qB hb); have n1_ := zA (hbox); have n2_ := zA ((qS : w.heap.size ≤ gb101)); have n3_ := zA ((qS : w.heap.size ≤ gb101)); clear HB; have HB := n0_; have BK101 := n1_; have GW101 := n2_; have GE101 := n3_; clear n0_ n1_ n2_ n3_ hb hbox hg))
  (try simp only [Act.put, zH, zI, zJ])
  go_cut [10] (fun v10 wc => ∃ (kq : Nat) (x10_1 : Bool), v10 = .bool x10_1 ∧ Aside0 (backhaulref21_Check.j0 kq x10_1 a0_0 a0_1 a0_2 a0_3 l0_4 = some r) ∧ Aside0 (kq ≤ k) ∧ Aside0 (wc.heap[gb101]? = some (.cells #[.int .i64 a0_0, .int .i64 a0_1, .int .i64 a0_2, .int .i64 a0_3, (.slice A0_4 l0_4.length c0_4)] 71 (0, 0))) ∧ Aside0 (Below w.heap.size w wc))
  case first =>
    have H := HC2.out; clear HC2; by_cases c4 : a0_0 < 1
    · rw [if_pos c4] at H
      have c4b0 : decide (a0_0 < 1) = true := zFq c4; clear c4; (first | rw [c4b0] | (simp only [i64_w, i32_w]; rw [c4b0]) | skip)
      have H' := zA H; clear H; obtain ⟨_, _, _, _, _, _, _, _, _, _⟩ := qc5f BK101.out; go_wp2; go_meet
      case rel => exact ⟨_, (true), (by first | rfl | (simp; done) | (simp [*]; done)), H', ⟨by first | omega | exact Nat.le_refl _⟩, ⟨by exact BK101.out⟩, ⟨qB⟩⟩
    rw [if_neg c4] at H; have c4b0 : decide (a0_0 < 1) = false := zGq c4; clear c4; (first | rw [c4b0] | (simp only [i64_w, i32_w]; rw [c4b0]) | skip)
    have H' := zA H; clear H; obtain ⟨_, _, _, _, _, _, _, _, _, _⟩ := qc5f BK101.out; go_wp2; go_meet
    case rel => exact ⟨_, (decide (a0_0 > 999999)), (by first | rfl | (simp; done) | (simp [*]; done)), H', ⟨by first | omega | exact Nat.le_refl _⟩, ⟨by exact BK101.out⟩, ⟨qB⟩⟩
  case rest =>
    clear HC2; try clear p2
    try clear c4
    try clear c4b0
    obtain ⟨kq, x10_1, rfl, HA, HJ1, BK101, HB⟩ := hcut; cases kq with
    | zero => exact absurd HA.out (by simp [backhaulref21_Check.j0])
    | succ kj1 =>
      have H := HA.out; clear HA; simp only [backhaulref21_Check.j0] at H; by_cases c7 : x10_1 = true
      · subst c7
        have H1 : (some 2) = some r := by first | (rw [if_pos rfl] at H; exact H) | rfl
        clear H; have H := H1; clear H1; obtain rfl := zKq H; go_wp2; go_ret; exact ⟨qE, qB⟩
      replace c7 := Bool.eq_false_iff.mpr c7; subst c7; have H1 : (if a0_1 < 0 then (backhaulref21_Check.j1 kj1 true a0_0 a0_1 a0_2 a0_3 l0_4) else (if a0_1 > 1000000000000 then (backhaulref21_Check.j1 kj1 true a0_0 a0_1 a0_2 a0_3 l0_4) else (if a0_2 < 0 then (backhaulref21_Check.j1 kj1 true a0_0 a0_1 a0_2 a0_3 l0_4) else (if a0_2 > a0_1 then (backhaulref21_Check.j1 kj1 true a0_0 a0_1 a0_2 a0_3 l0_4) else (if a0_3 < 0 then (backhaulref21_Check.j1 kj1 true a0_0 a0_1 a0_2 a0_3 l0_4) else (if a0_3 > 1000000000000 then (backhaulref21_Check.j1 kj1 true a0_0 a0_1 a0_2 a0_3 l0_4) else (backhaulref21_Check.j1 kj1 (decide ((wrap64 (a0_2 + a0_3)) > 1000000000000)) a0_0 a0_1 a0_2 a0_3 l0_4))))))) = some r := by first | (rw [if_neg (show ¬ (false = true) by decide)] at H; exact H) | rfl
      clear H; have H := H1; clear H1; have HC8 := zA H; clear H; go_upto_region 3 with (fail)
      go_cut [48] (fun v48 wc => ∃ (kq : Nat) (x48_7 : Bool), v48 = .bool x48_7 ∧ Aside0 (backhaulref21_Check.j1 kq x48_7 a0_0 a0_1 a0_2 a0_3 l0_4 = some r) ∧ Aside0 (kq ≤ kj1) ∧ Aside0 (wc.heap[gb101]? = some (.cells #[.int .i64 a0_0, .int .i64 a0_1, .int .i64 a0_2, .int .i64 a0_3, (.slice A0_4 l0_4.length c0_4)] 71 (0, 0))) ∧ Aside0 (Below w.heap.size w wc))
      case first =>
        have H := HC8.out; clear HC8; by_cases c9 : a0_1 < 0
        · rw [if_pos c9] at H
          have c9b0 : decide (a0_1 < 0) = true := zFq c9; clear c9; (first | rw [c9b0] | (simp only [i64_w, i32_w]; rw [c9b0]) | skip)
          have H' := zA H; clear H; obtain ⟨_, _, _, _, _, _, _, _, _, _⟩ := qc5f BK101.out; go_wp2; go_meet
          case rel => exact ⟨_, (true), (by first | rfl | (simp; done) | (simp [*]; done)), H', ⟨by have := HJ1.out; first | omega | exact Nat.le_refl _⟩, ⟨by exact BK101.out⟩, ⟨qB⟩⟩
        rw [if_neg c9] at H; have c9b0 : decide (a0_1 < 0) = false := zGq c9; clear c9; (first | rw [c9b0] | (simp only [i64_w, i32_w]; rw [c9b0]) | skip)
        by_cases c11 : a0_1 > 1000000000000
        · rw [if_pos c11] at H
          have c11b0 : decide (1000000000000 < a0_1) = true := zFq c11; clear c11; have H' := zA H; clear H; obtain ⟨_, _, _, _, _, _, _, _, _, _⟩ := qc5f BK101.out; go_wp2; go_meet
          case rel => exact ⟨_, (true), (by first | rfl | (simp; done) | (simp [*]; done)), H', ⟨by have := HJ1.out; first | omega | exact Nat.le_refl _⟩, ⟨by exact BK101.out⟩, ⟨qB⟩⟩
        rw [if_neg c11] at H; have c11b0 : decide (1000000000000 < a0_1) = false := zGq c11; clear c11; by_cases c13 : a0_2 < 0
        · rw [if_pos c13] at H
          have c13b0 : decide (a0_2 < 0) = true := zFq c13; clear c13; have H' := zA H; clear H; obtain ⟨_, _, _, _, _, _, _, _, _, _⟩ := qc5f BK101.out; go_wp2; go_meet
          case rel => exact ⟨_, (true), (by first | rfl | (simp; done) | (simp [*]; done)), H', ⟨by have := HJ1.out; first | omega | exact Nat.le_refl _⟩, ⟨by exact BK101.out⟩, ⟨qB⟩⟩
        rw [if_neg c13] at H; have c13b0 : decide (a0_2 < 0) = false := zGq c13; clear c13; by_cases c15 : a0_2 > a0_1
        · rw [if_pos c15] at H
          have c15b0 : decide (a0_1 < a0_2) = true := zFq c15; clear c15; have H' := zA H; clear H; obtain ⟨_, _, _, _, _, _, _, _, _, _⟩ := qc5f BK101.out; go_wp2; go_meet
          case rel => exact ⟨_, (true), (by first | rfl | (simp; done) | (simp [*]; done)), H', ⟨by have := HJ1.out; first | omega | exact Nat.le_refl _⟩, ⟨by exact BK101.out⟩, ⟨qB⟩⟩
        rw [if_neg c15] at H; have c15b0 : decide (a0_1 < a0_2) = false := zGq c15; clear c15; by_cases c17 : a0_3 < 0
        · rw [if_pos c17] at H
          have c17b0 : decide (a0_3 < 0) = true := zFq c17; clear c17; have H' := zA H; clear H; obtain ⟨_, _, _, _, _, _, _, _, _, _⟩ := qc5f BK101.out; go_wp2; go_meet
          case rel => exact ⟨_, (true), (by first | rfl | (simp; done) | (simp [*]; done)), H', ⟨by have := HJ1.out; first | omega | exact Nat.le_refl _⟩, ⟨by exact BK101.out⟩, ⟨qB⟩⟩
        rw [if_neg c17] at H; have c17b0 : decide (a0_3 < 0) = false := zGq c17; clear c17; by_cases c19 : a0_3 > 1000000000000
        · rw [if_pos c19] at H
          have c19b0 : decide (1000000000000 < a0_3) = true := zFq c19; clear c19; have H' := zA H; clear H; obtain ⟨_, _, _, _, _, _, _, _, _, _⟩ := qc5f BK101.out; go_wp2; go_meet
          case rel => exact ⟨_, (true), (by first | rfl | (simp; done) | (simp [*]; done)), H', ⟨by have := HJ1.out; first | omega | exact Nat.le_refl _⟩, ⟨by exact BK101.out⟩, ⟨qB⟩⟩
        rw [if_neg c19] at H; have c19b0 : decide (1000000000000 < a0_3) = false := zGq c19; clear c19; have H' := zA H; clear H; obtain ⟨_, _, _, _, _, _, _, _, _, _⟩ := qc5f BK101.out; go_wp2; go_meet
        case rel => exact ⟨_, (decide ((wrap64 (a0_2 + a0_3)) > 1000000000000)), (by first | rfl | (simp; done) | (simp [*]; done)), H', ⟨by have := HJ1.out; first | omega | exact Nat.le_refl _⟩, ⟨by exact BK101.out⟩, ⟨qB⟩⟩
      case rest =>
        clear HC8; try clear c1
        try clear p2
        try clear c4
        try clear c4b0
        try clear p6
        try clear c7
        try clear c9
        try clear c9b0
        try clear c11
        try clear c11b0
        try clear c13
        try clear c13b0
        try clear c15
        try clear c15b0
        try clear c17
        try clear c17b0
        try clear c19
        try clear c19b0
        try clear p2
        obtain ⟨kq, x48_7, rfl, HA, HJ7, BK101, HB⟩ := hcut; cases kq with
        | zero => exact absurd HA.out (by simp [backhaulref21_Check.j1])
        | succ kj7 =>
          have H := HA.out; clear HA; simp only [backhaulref21_Check.j1] at H; by_cases c22 : x48_7 = true
          · subst c22
            have H1 : (some 8) = some r := by first | (rw [if_pos rfl] at H; exact H) | rfl
            clear H; have H := H1; clear H1; obtain rfl := zKq H; go_wp2; go_ret; exact ⟨qE, qB⟩
          replace c22 := Bool.eq_false_iff.mpr c22; subst c22; have H1 : (if (l0_4.length : Int) < 1 then (some 9) else (if (l0_4.length : Int) > 20 then (some 9) else ((backhaulref01_Row.f kj7 l0_4).bind fun t102 => (if t102 = 0 then (some 0) else (some 9))))) = some r := by first | (rw [if_neg (show ¬ (false = true) by decide)] at H; exact H) | rfl
          clear H; have H := H1; clear H1; by_cases c23 : (l0_4.length : Int) < 1
          · rw [if_pos c23] at H
            have c23b0 : decide ((l0_4.length : Int) < 1) = true := zFq c23; have c23b1 : decide (l0_4.length < 1) = true := zFq (by omega); clear c23; obtain rfl := zKq H; obtain ⟨_, _, _, _, _, _, _, _, _, _⟩ := qc5f BK101.out; go_wp2; go_ret; exact ⟨qE, qB⟩
          rw [if_neg c23] at H; have c23b0 : decide ((l0_4.length : Int) < 1) = false := zGq c23; have c23b1 : decide (l0_4.length < 1) = false := zGq (by omega); clear c23; by_cases c25 : (l0_4.length : Int) > 20
          · rw [if_pos c25] at H
            have c25b0 : decide (20 < (l0_4.length : Int)) = true := zFq c25; have c25b1 : decide (20 < l0_4.length) = true := zFq (by omega); clear c25; obtain rfl := zKq H; obtain ⟨_, _, _, _, _, _, _, _, _, _⟩ := qc5f BK101.out; go_wp2; go_ret; exact ⟨qE, qB⟩
          rw [if_neg c25] at H; have c25b0 : decide (20 < (l0_4.length : Int)) = false := zGq c25; have c25b1 : decide (20 < l0_4.length) = false := zGq (by omega); clear c25; replace H := Option.bind_eq_some_iff.mp H; obtain ⟨t102, A270, H⟩ := H; try dsimp only at H
          have A27 := zA A270; clear A270; by_cases c28 : t102 = 0
          · rw [if_pos c28] at H
            have c28b0 : (t102 == 0) = true := beq_iff_eq.mpr c28; have c28b1 : (t102 != 0) = false := bne_eq_false_iff_eq.mpr c28; clear c28; obtain rfl := zKq H; obtain ⟨_, _, _, _, _, _, _, _, _, _⟩ := qc5f BK101.out; go_wp2_with (first | (go_at_call 120; (with_reducible refine (backhaulref01_Row.calls kj7 _ _ l0_4 t102 _ ?side1 ?side2 A27.out).mono ?_); (case side1 => exact qC (Kd.C_below HR0_4.out HB.out)); (case side2 => exact HC0_4.out); rintro e w30 ⟨rfl, hb⟩; have n0_ := zA (qX BK101.out hb); have n1_ := zA (zV qB hb); clear BK101 HB; have BK101 := n0_; have HB := n1_; clear n0_ n1_; (try clear hb))); go_ret; exact ⟨qE, qB⟩
          rw [if_neg c28] at H; have c28b0 : (t102 == 0) = false := beq_eq_false_iff_ne.mpr c28; have c28b1 : (t102 != 0) = true := bne_iff_ne.mpr c28; obtain rfl := zKq H; obtain ⟨_, _, _, _, _, _, _, _, _, _⟩ := qc5f BK101.out; go_wp2_with (first | (go_at_call 120; (with_reducible refine (backhaulref01_Row.calls kj7 _ _ l0_4 t102 _ ?side1 ?side2 A27.out).mono ?_); (case side1 => exact qC (Kd.C_below HR0_4.out HB.out)); (case side2 => exact HC0_4.out); rintro e w32 ⟨rfl, hb⟩; have n0_ := zA (qX BK101.out hb); have n1_ := zA (zV qB hb); clear BK101 HB; have BK101 := n0_; have HB := n1_; clear n0_ n1_; (try clear hb))); go_ret; exact ⟨qE, qB⟩
theorem far5_ {W : World} {g : Nat} {q : Addr} {x : Option Value} {v0 v1 v2 v3 v4 : Value} (h : q.block ≠ g) (hc : W.cell? q = x) : (((((W.setCell ⟨g, 0, none⟩ v0).setCell ⟨g, 1, none⟩ v1).setCell ⟨g, 2, none⟩ v2).setCell ⟨g, 3, none⟩ v3).setCell ⟨g, 4, none⟩ v4).cell? q = x :=
  (cell_far (p := ⟨g, 4, none⟩) h _).trans ((cell_far (p := ⟨g, 3, none⟩) h _).trans ((cell_far (p := ⟨g, 2, none⟩) h _).trans ((cell_far (p := ⟨g, 1, none⟩) h _).trans ((cell_far (p := ⟨g, 0, none⟩) h _).trans hc))))
mutual
def backhaulref21_Deal.j0 : Nat → List (S71) → Int → Int → Bool → Option ((List (S71)) × Int)
  | 0, _, _, _, _ => none
  | k + 1, x0, x1, x2, x28 => if x28 = true then (some (([] : List (S71)), 2)) else (backhaulref21_Deal.l0 k x0 x1 x2 ([] : List (S71)) ([] : List Int) 0 0)
def backhaulref21_Deal.l0 : Nat → List (S71) → Int → Int → List (S71) → List Int → Int → Int → Option ((List (S71)) × Int)
  | 0, _, _, _, _, _, _, _ => none
  | k + 1, x0, x1, x2, x8, x9, x11, x12 => if x12 < (x0.length : Int) then (if 0 ≤ x12 then ((backhaulref21_Check.f k ((rd_T71 x0 x12).f0) ((rd_T71 x0 x12).f1) 0 0 ((rd_T71 x0 x12).f4)).bind fun t105 => (if t105 = 0 then (if x8.length < 2513169434916 then (if x9.length < 17592186044416 then (backhaulref21_Deal.l0 k x0 x1 x2 (x8 ++ [(⟨(rd_T71 x0 x12).f0, (rd_T71 x0 x12).f1, 0, 0, (rd_T71 x0 x12).f4⟩ : S71)]) (x9 ++ [(rd_T71 x0 x12).f1]) (wrap64 (x11 + ((rd_T71 x0 x12).f1))) (wrap64 (x12 + 1))) else (none)) else (none)) else (some (([] : List (S71)), t105)))) else (none)) else (if x11 > 1000000000000 then (backhaulref21_Deal.j2 k x1 x2 x8 x9 ([] : List Int) x11 true) else (if x1 < 0 then (backhaulref21_Deal.j2 k x1 x2 x8 x9 ([] : List Int) x11 true) else (if x1 > 1000000000000 then (backhaulref21_Deal.j2 k x1 x2 x8 x9 ([] : List Int) x11 true) else (if x2 < 0 then (backhaulref21_Deal.j2 k x1 x2 x8 x9 ([] : List Int) x11 true) else (backhaulref21_Deal.j2 k x1 x2 x8 x9 ([] : List Int) x11 (decide (x2 > 1000000000000)))))))
def backhaulref21_Deal.j2 : Nat → Int → Int → List (S71) → List Int → List Int → Int → Bool → Option ((List (S71)) × Int)
  | 0, _, _, _, _, _, _, _ => none
  | k + 1, x1, x2, x8, x9, x10, x11, x86 => if x86 = true then (some (([] : List (S71)), 8)) else (if x1 > x11 then (some (([] : List (S71)), 34)) else ((backhaulref03_Out.f k x1 x9).bind fun bt112 => (backhaulref21_Deal.l1 k x2 x8 x10 bt112.1 0)))
def backhaulref21_Deal.l1 : Nat → Int → List (S71) → List Int → List Int → Int → Option ((List (S71)) × Int)
  | 0, _, _, _, _, _ => none
  | k + 1, x2, x8, x10, x15, x17 => if x17 < (x8.length : Int) then (if 0 ≤ x17 then (if x17 < (x15.length : Int) then (if x10.length < 17592186044416 then (backhaulref21_Deal.l1 k x2 (x8.set (x17 : Int).toNat (⟨(rd_T71 x8 x17).f0, (rd_T71 x8 x17).f1, wrap64 (((rd_T71 x8 x17).f1) - (rd x15 x17)), (rd_T71 x8 x17).f3, (rd_T71 x8 x17).f4⟩ : S71)) (x10 ++ [wrap64 (((rd_T71 x8 x17).f1) - (rd x15 x17))]) x15 (wrap64 (x17 + 1))) else (none)) else (none)) else (none)) else ((backhaulref03_Out.f k x2 x10).bind fun bt123 => (backhaulref21_Deal.l2 k x8 bt123.1 0))
def backhaulref21_Deal.l2 : Nat → List (S71) → List Int → Int → Option ((List (S71)) × Int)
  | 0, _, _, _ => none
  | k + 1, x8, x18, x20 => if x20 < (x8.length : Int) then (if 0 ≤ x20 then (if x20 < (x18.length : Int) then ((some (x8.set (x20 : Int).toNat (⟨(rd_T71 x8 x20).f0, (rd_T71 x8 x20).f1, (rd_T71 x8 x20).f2, rd x18 x20, (rd_T71 x8 x20).f4⟩ : S71) : List (S71))).bind fun y128 => ((backhaulref21_Check.f k ((rd_T71 y128 x20).f0) ((rd_T71 y128 x20).f1) ((rd_T71 y128 x20).f2) ((rd_T71 y128 x20).f3) ((rd_T71 y128 x20).f4)).bind fun t130 => (if t130 = 0 then (backhaulref21_Deal.l2 k y128 x18 (wrap64 (x20 + 1))) else (some (([] : List (S71)), 8))))) else (none)) else (none)) else (some (x8, 0))
end
def backhaulref21_Deal.f (k : Nat) (l0 : List (S71)) (a1 : Int) (a2 : Int) : Option ((List (S71)) × Int) := if (l0.length : Int) = 0 then (backhaulref21_Deal.j0 k l0 a1 a2 true) else (backhaulref21_Deal.j0 k l0 a1 a2 (decide ((l0.length : Int) > 8)))
theorem backhaulref21_Deal.mono_l : ∀ k, (∀ y0 y1 y2 y3, LeO (backhaulref21_Deal.j0 k y0 y1 y2 y3) (backhaulref21_Deal.j0 (k + 1) y0 y1 y2 y3)) ∧ (∀ y0 y1 y2 y3 y4 y5 y6, LeO (backhaulref21_Deal.l0 k y0 y1 y2 y3 y4 y5 y6) (backhaulref21_Deal.l0 (k + 1) y0 y1 y2 y3 y4 y5 y6)) ∧ (∀ y0 y1 y2 y3 y4 y5 y6, LeO (backhaulref21_Deal.j2 k y0 y1 y2 y3 y4 y5 y6) (backhaulref21_Deal.j2 (k + 1) y0 y1 y2 y3 y4 y5 y6)) ∧ (∀ y0 y1 y2 y3 y4, LeO (backhaulref21_Deal.l1 k y0 y1 y2 y3 y4) (backhaulref21_Deal.l1 (k + 1) y0 y1 y2 y3 y4)) ∧ (∀ y0 y1 y2, LeO (backhaulref21_Deal.l2 k y0 y1 y2) (backhaulref21_Deal.l2 (k + 1) y0 y1 y2))
  | 0 => ⟨fun _ _ _ _ r h => by simp [backhaulref21_Deal.j0] at h, fun _ _ _ _ _ _ _ r h => by simp [backhaulref21_Deal.l0] at h, fun _ _ _ _ _ _ _ r h => by simp [backhaulref21_Deal.j2] at h, fun _ _ _ _ _ r h => by simp [backhaulref21_Deal.l1] at h, fun _ _ _ r h => by simp [backhaulref21_Deal.l2] at h⟩
  | k + 1 => by
    obtain ⟨ih0, ih1, ih2, ih3, ih4⟩ := backhaulref21_Deal.mono_l k
    refine ⟨?_, ?_, ?_, ?_, ?_⟩
    · intro y0 y1 y2 y3
      unfold backhaulref21_Deal.j0
      repeat' (with_reducible first | exact ih0 _ _ _ _ | exact ih1 _ _ _ _ _ _ _ | exact ih2 _ _ _ _ _ _ _ | exact ih3 _ _ _ _ _ | exact ih4 _ _ _ | exact backhaulref03_Out.mono _ _ _ | exact backhaulref21_Check.mono _ _ _ _ _ _ | exact LeO.refl _ | exact LeO.none _ | refine LeO.ite ?_ ?_ | refine LeO.bind ?_ (fun _ => ?_))
    · intro y0 y1 y2 y3 y4 y5 y6
      unfold backhaulref21_Deal.l0
      repeat' (with_reducible first | exact ih0 _ _ _ _ | exact ih1 _ _ _ _ _ _ _ | exact ih2 _ _ _ _ _ _ _ | exact ih3 _ _ _ _ _ | exact ih4 _ _ _ | exact backhaulref03_Out.mono _ _ _ | exact backhaulref21_Check.mono _ _ _ _ _ _ | exact LeO.refl _ | exact LeO.none _ | refine LeO.ite ?_ ?_ | refine LeO.bind ?_ (fun _ => ?_))
    · intro y0 y1 y2 y3 y4 y5 y6
      unfold backhaulref21_Deal.j2
      repeat' (with_reducible first | exact ih0 _ _ _ _ | exact ih1 _ _ _ _ _ _ _ | exact ih2 _ _ _ _ _ _ _ | exact ih3 _ _ _ _ _ | exact ih4 _ _ _ | exact backhaulref03_Out.mono _ _ _ | exact backhaulref21_Check.mono _ _ _ _ _ _ | exact LeO.refl _ | exact LeO.none _ | refine LeO.ite ?_ ?_ | refine LeO.bind ?_ (fun _ => ?_))
    · intro y0 y1 y2 y3 y4
      unfold backhaulref21_Deal.l1
      repeat' (with_reducible first | exact ih0 _ _ _ _ | exact ih1 _ _ _ _ _ _ _ | exact ih2 _ _ _ _ _ _ _ | exact ih3 _ _ _ _ _ | exact ih4 _ _ _ | exact backhaulref03_Out.mono _ _ _ | exact backhaulref21_Check.mono _ _ _ _ _ _ | exact LeO.refl _ | exact LeO.none _ | refine LeO.ite ?_ ?_ | refine LeO.bind ?_ (fun _ => ?_))
    intro y0 y1 y2
    unfold backhaulref21_Deal.l2
    repeat' (with_reducible first | exact ih0 _ _ _ _ | exact ih1 _ _ _ _ _ _ _ | exact ih2 _ _ _ _ _ _ _ | exact ih3 _ _ _ _ _ | exact ih4 _ _ _ | exact backhaulref03_Out.mono _ _ _ | exact backhaulref21_Check.mono _ _ _ _ _ _ | exact LeO.refl _ | exact LeO.none _ | refine LeO.ite ?_ ?_ | refine LeO.bind ?_ (fun _ => ?_))
theorem backhaulref21_Deal.mono : ∀ a0 a1 a2 k, LeO (backhaulref21_Deal.f k a0 a1 a2) (backhaulref21_Deal.f (k + 1) a0 a1 a2) := by
  intro a0 a1 a2 k
  obtain ⟨ih0, ih1, ih2, ih3, ih4⟩ := backhaulref21_Deal.mono_l k
  unfold backhaulref21_Deal.f
  repeat' (with_reducible first | exact ih0 _ _ _ _ | exact ih1 _ _ _ _ _ _ _ | exact ih2 _ _ _ _ _ _ _ | exact ih3 _ _ _ _ _ | exact ih4 _ _ _ | exact backhaulref03_Out.mono _ _ _ | exact backhaulref21_Check.mono _ _ _ _ _ _ | exact LeO.refl _ | exact LeO.none _ | refine LeO.ite ?_ ?_ | refine LeO.bind ?_ (fun _ => ?_))
def backhaulref21_Deal.T9 : Bool × List (List Nat × List Nat) := (true, [([], []), ([], []), ([0, 1], [0, 1]), ([2], [2]), ([3], [3]), ([], []), ([], []), ([5, 6], [5, 6]), ([7], [7]), ([8], [8]), ([], []), ([], []), ([10, 11], [10, 11]), ([12], [12]), ([13], [13]), ([4, 9, 14], [4, 9, 14]), ([], []), ([16, 15, 0, 1, 2, 3, 4, 5, 6, 7, 8, 9, 10, 11, 12, 13, 14, 15, 16], [15, 16])])
def backhaulref21_Deal.B9 : List Nat := [0, 0, 3, 7, 15, 0, 0, 96, 224, 480, 0, 0, 3072, 7168, 15360, 32767, 0, 131071]
theorem backhaulref21_Deal.tab9 : rtab .any (opsOf Try.f63 9) = backhaulref21_Deal.T9 := by kernel_rfl
theorem backhaulref21_Deal.bits9 : waitsOk backhaulref21_Deal.T9.2 backhaulref21_Deal.B9 = true := by kernel_rfl
def backhaulref21_Deal.T24 : Bool × List (List Nat × List Nat) := (true, [([], []), ([], []), ([], []), ([], []), ([2, 3], [2, 3]), ([4], [4]), ([5], [5]), ([], []), ([], []), ([7, 8], [7, 8]), ([9], [9]), ([6, 10], [6, 10]), ([0, 1, 0, 1, 2, 3, 4, 5, 6, 7, 8, 9, 10, 11], [0, 1]), ([12, 0, 1, 2, 3, 4, 5, 6, 7, 8, 9, 10, 11], [12]), ([13, 11, 0, 1, 2, 3, 4, 5, 6, 7, 8, 9, 10, 11], [11, 13])])
def backhaulref21_Deal.B24 : List Nat := [0, 0, 0, 0, 12, 28, 60, 0, 0, 384, 896, 2044, 4095, 8191, 16383]
theorem backhaulref21_Deal.tab24 : rtab .any (opsOf Try.f63 24) = backhaulref21_Deal.T24 := by kernel_rfl
theorem backhaulref21_Deal.bits24 : waitsOk backhaulref21_Deal.T24.2 backhaulref21_Deal.B24 = true := by kernel_rfl
set_option maxHeartbeats 8000000 in
set_option maxRecDepth 100000 in
theorem backhaulref21_Deal.calls (k : Nat) (P0_ : Nat → Prop) (A0 : Option Addr) (c0 : Nat) (l0 : List (S71)) (a1 : Int) (a2 : Int) (r1 : List (S71)) (r2 : Int) (w : World) (hs0 : Kd.V k71 71 w w.heap.size (fun k_ => P0_ k_) (.slice A0 l0.length c0) l0) (h : backhaulref21_Deal.f k l0 a1 a2 = some (r1, r2)) :
    Calls Try.prog 63 #[.slice A0 l0.length c0, .int .i64 a1, .int .i64 a2] w fun e w' => ∃ v0_ : Value, e = .returned (.tuple #[v0_, .int .i64 r2]) ∧ Kd.N k71 71 w' w.heap.size (fun k_ => (P0_ k_ ∨ w.heap.size ≤ k_)) v0_ r1 ∧ Below w.heap.size w w' := by
  have hu71 := Try.underlying71
  have HO0 := zA (show Kd.V k71 71 w w.heap.size (fun k_ => (P0_ k_ ∨ w.heap.size ≤ k_)) (.slice A0 l0.length c0) l0 from Kd.V_mono hs0 (fun k_ hk => .inl hk))
  have HB := zA (Below.refl w.heap.size w)
  have H : (if (l0.length : Int) = 0 then (backhaulref21_Deal.j0 k l0 a1 a2 true) else (backhaulref21_Deal.j0 k l0 a1 a2 (decide ((l0.length : Int) > 8)))) = some (r1, r2) := h
  clear h
  have HC4 := zA H
  clear H
  go_enter Try.func63, Try.ntmps63
  go_upto_region 1 with (fail)
  go_cut [28] (fun v28 wc => ∃ (kq : Nat) (x28_3 : Bool), v28 = .bool x28_3 ∧ Aside0 (backhaulref21_Deal.j0 kq l0 a1 a2 x28_3 = some (r1, r2)) ∧ Aside0 (kq ≤ k) ∧ Aside0 (Kd.V k71 71 wc w.heap.size (fun k_ => (P0_ k_ ∨ w.heap.size ≤ k_)) (.slice A0 l0.length c0) l0) ∧ Aside0 (Below w.heap.size w wc))
  case first =>
    have H := HC4.out; clear HC4; by_cases c5 : (l0.length : Int) = 0
    · rw [if_pos c5] at H
      have c5b0 : ((l0.length : Int) == 0) = true := beq_iff_eq.mpr c5; have c5b1 : ((l0.length : Int) != 0) = false := bne_eq_false_iff_eq.mpr c5; clear c5; (first | rw [c5b0] | (simp only [i64_w, i32_w]; rw [c5b0]) | skip)
      have H' := zA H; clear H; go_wp2; go_meet
      case rel => exact ⟨_, (true), (by first | rfl | (simp; done) | (simp [*]; done)), H', ⟨by first | omega | exact Nat.le_refl _⟩, ⟨by (with_reducible repeat (first | apply Kd.V_alloc | apply Kd.V_drewN | apply Kd.V_drew)); exact HO0.out⟩, ⟨qB⟩⟩
    rw [if_neg c5] at H; have c5b0 : ((l0.length : Int) == 0) = false := beq_eq_false_iff_ne.mpr c5; have c5b1 : ((l0.length : Int) != 0) = true := bne_iff_ne.mpr c5; have c5b2 : ¬ (l0 = []) := fun h_ => c5 (by rw [h_]; rfl)
    (first | rw [c5b0] | (simp only [i64_w, i32_w]; rw [c5b0]) | skip)
    have H' := zA H; clear H; go_wp2; go_meet
    case rel => exact ⟨_, (decide ((l0.length : Int) > 8)), (by first | rfl | (simp; done) | (simp [*]; done)), H', ⟨by first | omega | exact Nat.le_refl _⟩, ⟨by (with_reducible repeat (first | apply Kd.V_alloc | apply Kd.V_drewN | apply Kd.V_drew)); exact HO0.out⟩, ⟨qB⟩⟩
  case rest =>
    clear HC4; try clear p2
    try clear c5
    try clear c5b0
    try clear c5b1
    try clear c5b2
    obtain ⟨kq, x28_3, rfl, HA, HJ3, HO_0, HB⟩ := hcut; cases kq with
    | zero => exact absurd HA.out (by simp [backhaulref21_Deal.j0])
    | succ kj3 =>
      have H := HA.out; clear HA; simp only [backhaulref21_Deal.j0] at H; by_cases c6 : x28_3 = true
      · subst c6
        have H1 : (some (([] : List (S71)), 2)) = some (r1, r2) := by first | (rw [if_pos rfl] at H; exact H) | rfl
        clear H; have H := H1; clear H1; simp only [zNq, zOq] at H; obtain ⟨rfl, rfl⟩ := H; go_wp2; go_ret2; exact ⟨_, qE, by first | exact Kd.S_nil _ _ _ _ _ | exact Kd.N_nil _ _ _ _ _ | exact Kd.V_nil _ _ _ _ _ | exact Kd.Q_nil _ _ _ _ _ | exact Kd.R_nil _ _ _ _ _, qB⟩
      replace c6 := Bool.eq_false_iff.mpr c6; subst c6; have H1 : (backhaulref21_Deal.l0 kj3 l0 a1 a2 ([] : List (S71)) ([] : List Int) 0 0) = some (r1, r2) := by first | (rw [if_neg (show ¬ (false = true) by decide)] at H; exact H) | rfl
      clear H; have H := H1; clear H1; have H' := zA H; clear H; go_wp2; go_loopg [8, 9, 11, 12] kj3 (fun kq v8 v9 v11 v12 w' => ∃ (x8_2 : List (S71)) (x9_2 : List Int) (x11_2 : Int) (x12_2 : Int), v11 = .int .i64 x11_2 ∧ v12 = .int .i64 x12_2 ∧ Aside0 (backhaulref21_Deal.l0 kq l0 a1 a2 x8_2 x9_2 x11_2 x12_2 = some (r1, r2)) ∧ Aside0 (kq ≤ kj3) ∧ Aside0 (Kd.V k71 71 w' w.heap.size (fun k_ => (P0_ k_ ∨ w.heap.size ≤ k_) ∧ some k_ ≠ (v8 : Value).ownBlock ∧ some k_ ≠ (v9 : Value).ownBlock) (.slice A0 l0.length c0) l0) ∧ Aside0 (Kd.N k71 71 w' w.heap.size (fun k_ => (P0_ k_ ∨ w.heap.size ≤ k_) ∧ some k_ ≠ (v9 : Value).ownBlock) v8 x8_2) ∧ Aside0 (Kd.R (Kd.int .i64) 3 w' w.heap.size (fun k_ => (w.heap.size ≤ k_)) v9 x9_2) ∧ Aside0 (Below w.heap.size w w'))
      case atStart => exact ⟨(([] : List (S71))), (([] : List Int)), (0), (0), (by first | rfl | (simp; done) | (simp [*]; done)), (by first | rfl | (simp; done) | (simp [*]; done)), H', ⟨Nat.le_refl _⟩, ⟨by (with_reducible repeat (first | apply Kd.V_alloc | apply Kd.V_drewN | apply Kd.V_drew)); exact Kd.V_mono HO_0.out (fun _ hk => ⟨hk, ⟨(by simp [Value.ownBlock]), (by simp [Value.ownBlock])⟩⟩)⟩, ⟨by first | exact Kd.S_nil _ _ _ _ _ | exact Kd.N_nil _ _ _ _ _ | exact Kd.V_nil _ _ _ _ _ | exact Kd.Q_nil _ _ _ _ _ | exact Kd.R_nil _ _ _ _ _⟩, ⟨qN⟩, ⟨qB⟩⟩
      case round =>
        clear H'; try clear p2
        try clear c5
        try clear c5b0
        try clear c5b1
        try clear c5b2
        try clear c6
        try clear p2
        obtain ⟨x8_2, x9_2, x11_2, x12_2, rfl, rfl, HA, HK2, HO_0, HO_8, HO_9, HB⟩ := hrel; cases gk with
        | zero => exact absurd HA.out (by simp [backhaulref21_Deal.l0])
        | succ k2 =>
          have H := HA.out; clear HA; simp only [backhaulref21_Deal.l0] at H; by_cases c7 : x12_2 < (l0.length : Int)
          · rw [if_pos c7] at H
            have c7b0 : decide (x12_2 < (l0.length : Int)) = true := zFq c7; clear c7; by_cases c8 : 0 ≤ x12_2
            · rw [if_pos c8] at H
              have c8b0 : decide (0 ≤ x12_2) = true := zFq c8; clear c8; replace H := Option.bind_eq_some_iff.mp H; obtain ⟨t105, A90, H⟩ := H; try dsimp only at H
              have A9 := zA A90; clear A90; have HH_ := zA H; clear H; try go_wp2
              have n0_ := zA (Kd.V_drew HO_0.out); have n1_ := zA (Kd.N_drew HO_8.out); have n2_ := zA (Kd.R_drew HO_9.out); have n3_ := zA (zC HB.out); clear HO_0; clear HO_8; clear HO_9; clear HB; have HO_0 := n0_; have HO_8 := n1_; have HO_9 := n2_; have HB := n3_; clear n0_ n1_ n2_ n3_; have p101 : 0 ≤ (x12_2 : Int) := of_decide_eq_true qA; have q101 : x12_2 < (l0.length : Int) := of_decide_eq_true qA; obtain ⟨ad101, A101_4, c101_4, e101, hx101_0, hx101_1, hx101_2, hx101_3, hx101_4, hl101_4, hi101_4⟩ := at_T71 (Kd.V_reads' HO_0.out).2.2 x12_2 p101 q101; cases e101
              obtain ⟨ce101, hce101, hMe101, hcc101⟩ := Kd.V_get HO_0.out z71 x12_2 p101 (by first | exact q101 | exact of_decide_eq_true qA | (have e_ := (Kd.V_reads' HO_0.out).1; omega)); obtain ⟨ua101_4, uc101_4, rfl, ul101_4, ge101_4⟩ := k71_openF hMe101; have hv101_4 := hcc101 4 _ rfl; rw [add_field _ _ 4 (by omega)] at hv101_4; replace hv101_4 := zKq (hv101_4.symm.trans hx101_4); injection hv101_4 with hva_ hvn_ hvc_
              rw [hva_] at ge101_4; rw [hvc_] at ul101_4; have HL101_4 := zA (show Kd.V Kd.string 9 _ w.heap.size _ _ ((rd_T71 l0 x12_2).f4) from Kd.V_mk ul101_4 ge101_4); clear hva_ hvn_ hvc_ ge101_4 ul101_4; clear hcc101 hce101; have HR101_4 := zA hi101_4; have HC101_4 := zA hl101_4; clear hi101_4 hl101_4; replace p101 := eq_true p101; replace q101 := eq_true q101; refine start_ (n := 18) (S := fun w' => w'.cell? (ad101.add ((x12_2).toNat * 5)) = some (.int .i64 ((rd_T71 l0 x12_2).f0)) ∧ w'.cell? ⟨(ad101.add ((x12_2).toNat * 5)).block, (ad101.add ((x12_2).toNat * 5)).off + 1, none⟩ = some (.int .i64 ((rd_T71 l0 x12_2).f1)) ∧ w'.cell? ⟨(ad101.add ((x12_2).toNat * 5)).block, (ad101.add ((x12_2).toNat * 5)).off + 2, none⟩ = some (.int .i64 ((rd_T71 l0 x12_2).f2)) ∧ w'.cell? ⟨(ad101.add ((x12_2).toNat * 5)).block, (ad101.add ((x12_2).toNat * 5)).off + 3, none⟩ = some (.int .i64 ((rd_T71 l0 x12_2).f3)) ∧ w'.cell? ⟨(ad101.add ((x12_2).toNat * 5)).block, (ad101.add ((x12_2).toNat * 5)).off + 4, none⟩ = some (.slice A101_4 ((rd_T71 l0 x12_2).f4).length c101_4)) (ds := []) #[o0, o0, o0, o0, o0, o0, o0, o0, o0, o0, o0, o0, o0, o0, o0, o0, o0, o0] (by kernel_rfl) rfl rfl ⟨hx101_0, hx101_1, hx101_2, hx101_3, hx101_4⟩ (fun hHeld => ?_); refine with_tabW backhaulref21_Deal.tab9 backhaulref21_Deal.bits9 (fun HT_ HW_ => ?_); generalize wr.drew = w13 at HO_0 HO_8 HO_9 HB HL101_4 HR101_4 hx101_0 hx101_1 hx101_2 hx101_3 hx101_4 hHeld ⊢; refine pure_ (i := 0) (N := some 35) #[o1, o0, o0, o0, o0, o0, o0, o0, o0, o0, o0, o0, o0, o0, o0, o0, o0, o0] rfl rfl (any_of HT_.out (by kernel_rfl)) (fun _ _ _ h => h) (Or.inl ⟨by rfl, qy⟩) qz ?_; refine pure_ (i := 1) (N := some 36) #[o1, o1, o0, o0, o0, o0, o0, o0, o0, o0, o0, o0, o0, o0, o0, o0, o0, o0] rfl rfl (any_of HT_.out (by kernel_rfl)) (fun _ _ _ h => h) (Or.inl ⟨by rfl, qy⟩) qz ?_; refine pure_ (i := 2) (N := some 37) #[o1, o1, o1, o0, o0, o0, o0, o0, o0, o0, o0, o0, o0, o0, o0, o0, o0, o0] rfl rfl (any_of HT_.out (by kernel_rfl)) (fun _ _ _ h => h) (Or.inl ⟨by rfl, qy⟩) qz ?_; refine pure_ (i := 3) (N := some 38) #[o1, o1, o1, o1, o0, o0, o0, o0, o0, o0, o0, o0, o0, o0, o0, o0, o0, o0] rfl rfl (any_of HT_.out (by kernel_rfl)) (fun _ _ _ h => h) (Or.inl ⟨by rfl, qy⟩) qz ?_; refine pure_ (i := 5) (N := some 40) #[o1, o1, o1, o1, o0, o1, o0, o0, o0, o0, o0, o0, o0, o0, o0, o0, o0, o0] rfl rfl (any_of HT_.out (by kernel_rfl)) (fun _ _ _ h => h) (Or.inl ⟨by rfl, qy⟩) qz ?_; refine pure_ (i := 6) (N := some 41) #[o1, o1, o1, o1, o0, o1, o1, o0, o0, o0, o0, o0, o0, o0, o0, o0, o0, o0] rfl rfl (any_of HT_.out (by kernel_rfl)) (fun _ _ _ h => h) (Or.inl ⟨by rfl, qy⟩) qz ?_
              refine pure_ (i := 7) (N := some 42) #[o1, o1, o1, o1, o0, o1, o1, o1, o0, o0, o0, o0, o0, o0, o0, o0, o0, o0] rfl rfl (any_of HT_.out (by kernel_rfl)) (fun _ _ _ h => h) (Or.inl ⟨by rfl, qy⟩) qz ?_; refine pure_ (i := 8) (N := some 43) #[o1, o1, o1, o1, o0, o1, o1, o1, o1, o0, o0, o0, o0, o0, o0, o0, o0, o0] rfl rfl (any_of HT_.out (by kernel_rfl)) (fun _ _ _ h => h) (Or.inl ⟨by rfl, qy⟩) qz ?_; refine pure_ (i := 10) (N := some 45) #[o1, o1, o1, o1, o0, o1, o1, o1, o1, o0, o1, o0, o0, o0, o0, o0, o0, o0] rfl rfl (any_of HT_.out (by kernel_rfl)) (fun _ _ _ h => h) (Or.inl ⟨by rfl, qy⟩) qz ?_; refine pure_ (i := 11) (N := some 46) #[o1, o1, o1, o1, o0, o1, o1, o1, o1, o0, o1, o1, o0, o0, o0, o0, o0, o0] rfl rfl (any_of HT_.out (by kernel_rfl)) (fun _ _ _ h => h) (Or.inl ⟨by rfl, qy⟩) qz ?_; refine pure_ (i := 12) (N := some 47) #[o1, o1, o1, o1, o0, o1, o1, o1, o1, o0, o1, o1, o1, o0, o0, o0, o0, o0] rfl rfl (any_of HT_.out (by kernel_rfl)) (fun _ _ _ h => h) (Or.inl ⟨by rfl, qy⟩) qz ?_; refine pure_ (i := 13) (N := some 48) #[o1, o1, o1, o1, o0, o1, o1, o1, o1, o0, o1, o1, o1, o1, o0, o0, o0, o0] rfl rfl (any_of HT_.out (by kernel_rfl)) (fun _ _ _ h => h) (Or.inl ⟨by rfl, qy⟩) qz ?_; refine take_ (i := 4) (N := some 39) (v := ?_) (a' := ?_) #[o1, o1, o1, o1, o1, o1, o1, o1, o1, o0, o1, o1, o1, o1, o0, o0, o0, o0] rfl rfl (take_ofW HT_.out HW_.out (by kernel_rfl)) (fun _ _ _ h => h) (Or.inl ⟨by rfl, ?_⟩) hHeld ?_ ?_; rotate_left
              · rintro w' ⟨s0, s1, s2, s3, s4⟩
                go_simp; with_reducible rfl
              rotate_left
              · simp only [Act.put, zH, zI, zJ, i64_w, i32_w]
                rfl
              refine take_ (i := 9) (N := some 44) (v := ?_) (a' := ?_) #[o1, o1, o1, o1, o1, o1, o1, o1, o1, o1, o1, o1, o1, o1, o0, o0, o0, o0] rfl rfl (take_ofW HT_.out HW_.out (by kernel_rfl)) (fun _ _ _ h => h) (Or.inl ⟨by rfl, ?_⟩) hHeld ?_ ?_; rotate_left
              · rintro w' ⟨s0, s1, s2, s3, s4⟩
                go_simp; with_reducible rfl
              rotate_left
              · simp only [Act.put, zH, zI, zJ, i64_w, i32_w]
                rfl
              refine take_ (i := 14) (N := some 49) (v := ?_) (a' := ?_) #[o1, o1, o1, o1, o1, o1, o1, o1, o1, o1, o1, o1, o1, o1, o1, o0, o0, o0] rfl rfl (take_ofW HT_.out HW_.out (by kernel_rfl)) (fun _ _ _ h => h) (Or.inl ⟨by rfl, ?_⟩) hHeld ?_ ?_; rotate_left
              · rintro w' ⟨s0, s1, s2, s3, s4⟩
                go_simp; with_reducible rfl
              rotate_left
              · simp only [Act.put, zH, zI, zJ, i64_w, i32_w]
                rfl
              refine pure_ (i := 15) (N := some 50) #[o1, o1, o1, o1, o1, o1, o1, o1, o1, o1, o1, o1, o1, o1, o1, o1, o0, o0] rfl rfl (any_of HT_.out (by kernel_rfl)) (fun _ _ _ h => h) (Or.inl ⟨by rfl, qy⟩) qz ?_; refine one_ (i := 16) (N := some 13) #[o1, o1, o1, o1, o1, o1, o1, o1, o1, o1, o1, o1, o1, o1, o1, o1, o1, o0] rfl rfl (one_of HT_.out (by kernel_rfl)) (by decide) (fun K hK => ?_); refine box_step ?hg (N := 13) ?hd (cs := #[.int .i64 0, .int .i64 0, .int .i64 0, .int .i64 0, .slice none 0 0]) (t := 71) ?hr ?_; (case hd => rfl); (case hg => rfl); (case hr => first | (go_simp; done) | (go_simp; rfl)); intro gb104 hg w14 hbox hb; have hne_ : (ad101.add ((x12_2).toNat * 5)).block ≠ gb104 := by rw [hg]; exact zLq (zCq _ _ hHeld.1)
              have HS0_ := (hb.cell (zCq _ _ (hHeld.1))).trans (hHeld.1); have HS1_ := (hb.cell (zCq _ _ (hHeld.2.1))).trans (hHeld.2.1); have HS2_ := (hb.cell (zCq _ _ (hHeld.2.2.1))).trans (hHeld.2.2.1); have HS3_ := (hb.cell (zCq _ _ (hHeld.2.2.2.1))).trans (hHeld.2.2.2.1); have HS4_ := (hb.cell (zCq _ _ (hHeld.2.2.2.2))).trans (hHeld.2.2.2.2); have n0_ := zA (Kd.V_below (Kd.V_elderB (by (with_reducible repeat (first | apply Kd.V_alloc | apply Kd.V_drewN | apply Kd.V_drew)); exact HO_0.out) gb104 (Nat.le_of_eq hg.symm)) hb); have n1_ := zA (Kd.N_below (Kd.N_elderB (by (with_reducible repeat (first | apply Kd.N_alloc | apply Kd.N_drewN | apply Kd.N_drew)); exact HO_8.out) gb104 (Nat.le_of_eq hg.symm)) hb); have n2_ := zA (Kd.R_below (by (with_reducible repeat (first | apply Kd.R_alloc | apply Kd.R_drewN | apply Kd.R_drew)); exact HO_9.out) hb); have n3_ := zA (Kd.V_below (Kd.V_elderB (by (with_reducible repeat (first | apply Kd.V_alloc | apply Kd.V_drewN | apply Kd.V_drew)); exact HL101_4.out) gb104 (Nat.le_of_eq hg.symm)) hb); have n4_ := zA (Kd.C_below (by repeat (first | (with_reducible exact HR101_4.out) | (with_reducible refine Kd.C_alloc ?_ _) | (with_reducible refine Kd.C_drewN ?_ _) | (with_reducible refine Kd.C_drew ?_) | exact HR101_4.out)) hb); have n5_ := zA (zV qB hb); have n6_ := zA (hbox); have n7_ := zA ((qS : w.heap.size ≤ gb104)); have n8_ := zA ((qS : w.heap.size ≤ gb104)); clear HO_0; clear HO_8; clear HO_9; clear HL101_4; clear HR101_4; clear HB; have HO_0 := n0_; have HO_8 := n1_; have HO_9 := n2_; have HL101_4 := n3_; have HR101_4 := n4_; have HB := n5_; have BK104 := n6_; have GW104 := n7_; have GE104 := n8_; clear n0_ n1_ n2_ n3_ n4_ n5_ n6_ n7_ n8_; clear hb hbox hg; refine hK.out _ _ ⟨HS0_, HS1_, HS2_, HS3_, HS4_⟩ (fun hHeld => ?_); clear hK K; refine norm_ (a' := ?_) ?_ ?_; rotate_left
              · show Act.put _ (some 13) _ = _
                simp only [Act.put, zH, zI, zJ, i64_w, i32_w]; rfl
              refine one_ (i := 17) (N := none) #[o1, o1, o1, o1, o1, o1, o1, o1, o1, o1, o1, o1, o1, o1, o1, o1, o1, o1] rfl rfl (one_of HT_.out (by kernel_rfl)) (by decide) (fun K hK => ?_); have hs15 : w14.cell? ⟨gb104, 0, none⟩ = some (.int .i64 0) := (zF BK104.out 0).trans rfl; have hfs15 := zG BK104.out 0; have hs16 : w14.cell? ⟨gb104, 1, none⟩ = some (.int .i64 0) := (zF BK104.out 1).trans rfl; have hfs16 := zG BK104.out 1; have hs17 : w14.cell? ⟨gb104, 2, none⟩ = some (.int .i64 0) := (zF BK104.out 2).trans rfl; have hfs17 := zG BK104.out 2; have hs18 : w14.cell? ⟨gb104, 3, none⟩ = some (.int .i64 0) := (zF BK104.out 3).trans rfl; have hfs18 := zG BK104.out 3; have hs19 : w14.cell? ⟨gb104, 4, none⟩ = some (.slice none 0 0) := (zF BK104.out 4).trans rfl; have hfs19 := zG BK104.out 4; refine skip_ (w1 := ?_) (by rfl) rfl ?_ ?_; rotate_left
              · go_simp
                rfl
              refine hK.out _ _ ⟨far5_ hne_ hHeld.1, far5_ hne_ hHeld.2.1, far5_ hne_ hHeld.2.2.1, far5_ hne_ hHeld.2.2.2.1, far5_ hne_ hHeld.2.2.2.2⟩ (fun hHeld => ?_); clear hne_; clear hK K; refine done_ (done_of HT_.out (by kernel_rfl)) ?_; obtain ⟨_, _, _, _, _, _, _, _, _, _⟩ := qc5f BK104.out; have H := HH_.out; clear HH_; by_cases c10 : t105 = 0
              · rw [if_pos c10] at H
                have c10b0 : (t105 == 0) = true := beq_iff_eq.mpr c10; have c10b1 : (t105 != 0) = false := bne_eq_false_iff_eq.mpr c10; clear c10; by_cases c11 : x8_2.length < 2513169434916
                · rw [if_pos c11] at H
                  have LMc11 := zA c11; clear c11; obtain ⟨y106, hy106⟩ : ∃ y_ : List (S71), y_ = (x8_2 ++ [(⟨(rd_T71 l0 x12_2).f0, (rd_T71 l0 x12_2).f1, 0, 0, (rd_T71 l0 x12_2).f4⟩ : S71)]) := ⟨_, rfl⟩
                  replace H : (if x9_2.length < 17592186044416 then (backhaulref21_Deal.l0 k2 l0 a1 a2 y106 (x9_2 ++ [(rd_T71 l0 x12_2).f1]) (wrap64 (x11_2 + ((rd_T71 l0 x12_2).f1))) (wrap64 (x12_2 + 1))) else (none)) = some (r1, r2) := by first | (rw [hy106]; with_reducible exact H) | (have H2_ := (Option.bind_some _ _).symm.trans H; rw [hy106]; with_reducible exact H2_) | (have H2_ := (Option.bind_some _ _).symm.trans H; with_reducible exact H2_) | with_reducible exact H | (rw [hy106]; exact H) | exact H
                  have Ny106 := zA hy106; clear hy106; by_cases c12 : x9_2.length < 17592186044416
                  · rw [if_pos c12] at H
                    have LMc12 := zA c12; clear c12; obtain ⟨y109, hy109⟩ : ∃ y_ : List Int, y_ = (x9_2 ++ [(rd_T71 l0 x12_2).f1]) := ⟨_, rfl⟩
                    replace H : (backhaulref21_Deal.l0 k2 l0 a1 a2 y106 y109 (wrap64 (x11_2 + ((rd_T71 l0 x12_2).f1))) (wrap64 (x12_2 + 1))) = some (r1, r2) := by first | (rw [hy109]; with_reducible exact H) | (have H2_ := (Option.bind_some _ _).symm.trans H; rw [hy109]; with_reducible exact H2_) | (have H2_ := (Option.bind_some _ _).symm.trans H; with_reducible exact H2_) | with_reducible exact H | (rw [hy109]; exact H) | exact H
                    have Ny109 := zA hy109; clear hy109; have H' := zA H; clear H; try go_wp2_with (first | ((with_reducible refine zJq (f := 70) rfl ?_); refine goesL_ (some 52) rfl rfl Try.func70 (by kernel_rfl) rfl #[.agg #[.int .i64 ((rd_T71 l0 x12_2).f0), .int .i64 ((rd_T71 l0 x12_2).f1), .int .i64 0, .int .i64 0, .slice A101_4 ((rd_T71 l0 x12_2).f4).length c101_4]] rfl qG ?_; (with_reducible refine (backhaulref21_Check.calls k2 ((rd_T71 l0 x12_2).f0) ((rd_T71 l0 x12_2).f1) 0 0 _ _ ((rd_T71 l0 x12_2).f4) t105 _ ?side1 ?side2 A9.out).mono ?_); (case side1 => repeat (first | exact ((Kd.V_reads' (by (with_reducible repeat (first | apply Kd.V_alloc | apply Kd.V_drewN | apply Kd.V_drew)); exact (Kd.V_mono (Kd.V_far (p := ⟨gb104, 4, none⟩) (Kd.V_far (p := ⟨gb104, 3, none⟩) (Kd.V_far (p := ⟨gb104, 2, none⟩) (Kd.V_far (p := ⟨gb104, 1, none⟩) (Kd.V_far (p := ⟨gb104, 0, none⟩) (Kd.V_mono HL101_4.out (fun k_ hk => (⟨hk, hk.2⟩ : _ ∧ k_ ≠ gb104))) (fun _ hk => hk.2) (.int .i64 ((rd_T71 l0 x12_2).f0))) (fun _ hk => hk.2) (.int .i64 ((rd_T71 l0 x12_2).f1))) (fun _ hk => hk.2) (.int .i64 0)) (fun _ hk => hk.2) (.int .i64 0)) (fun _ hk => hk.2) (.slice A101_4 ((rd_T71 l0 x12_2).f4).length c101_4)) (fun _ h_ => h_.1)))).2.2) | (with_reducible refine Kd.C_alloc ?_ _) | (with_reducible refine Kd.C_drewN ?_ _) | (with_reducible refine Kd.C_drew ?_))); (case side2 => exact HC101_4.out); rintro e w21 ⟨rfl, hb⟩; refine ⟨_, rfl, ?_⟩; have n0_ := zA (Kd.V_below (by (with_reducible repeat (first | apply Kd.V_alloc | apply Kd.V_drewN | apply Kd.V_drew)); exact (Kd.V_mono (Kd.V_far (p := ⟨gb104, 4, none⟩) (Kd.V_far (p := ⟨gb104, 3, none⟩) (Kd.V_far (p := ⟨gb104, 2, none⟩) (Kd.V_far (p := ⟨gb104, 1, none⟩) (Kd.V_far (p := ⟨gb104, 0, none⟩) (Kd.V_mono HO_0.out (fun k_ hk => (⟨hk, hk.2⟩ : _ ∧ k_ ≠ gb104))) (fun _ hk => hk.2) (.int .i64 ((rd_T71 l0 x12_2).f0))) (fun _ hk => hk.2) (.int .i64 ((rd_T71 l0 x12_2).f1))) (fun _ hk => hk.2) (.int .i64 0)) (fun _ hk => hk.2) (.int .i64 0)) (fun _ hk => hk.2) (.slice A101_4 ((rd_T71 l0 x12_2).f4).length c101_4)) (fun _ h_ => h_.1))) hb); have n1_ := zA (Kd.N_below (by (with_reducible repeat (first | apply Kd.N_alloc | apply Kd.N_drewN | apply Kd.N_drew)); exact (Kd.N_mono (Kd.N_far (p := ⟨gb104, 4, none⟩) (Kd.N_far (p := ⟨gb104, 3, none⟩) (Kd.N_far (p := ⟨gb104, 2, none⟩) (Kd.N_far (p := ⟨gb104, 1, none⟩) (Kd.N_far (p := ⟨gb104, 0, none⟩) (Kd.N_mono HO_8.out (fun k_ hk => (⟨hk, hk.2⟩ : _ ∧ k_ ≠ gb104))) (fun _ hk => hk.2) (.int .i64 ((rd_T71 l0 x12_2).f0))) (fun _ hk => hk.2) (.int .i64 ((rd_T71 l0 x12_2).f1))) (fun _ hk => hk.2) (.int .i64 0)) (fun _ hk => hk.2) (.int .i64 0)) (fun _ hk => hk.2) (.slice A101_4 ((rd_T71 l0 x12_2).f4).length c101_4)) (fun _ h_ => h_.1))) hb); have n2_ := zA (Kd.R_below (by (with_reducible repeat (first | apply Kd.R_alloc | apply Kd.R_drewN | apply Kd.R_drew)); exact (Kd.R_mono (Kd.R_far (p := ⟨gb104, 4, none⟩) (Kd.R_far (p := ⟨gb104, 3, none⟩) (Kd.R_far (p := ⟨gb104, 2, none⟩) (Kd.R_far (p := ⟨gb104, 1, none⟩) (Kd.R_far (p := ⟨gb104, 0, none⟩) (Kd.R_types HO_9.out BK104.out (by decide)) (fun _ hk => hk.2) (.int .i64 ((rd_T71 l0 x12_2).f0))) (fun _ hk => hk.2) (.int .i64 ((rd_T71 l0 x12_2).f1))) (fun _ hk => hk.2) (.int .i64 0)) (fun _ hk => hk.2) (.int .i64 0)) (fun _ hk => hk.2) (.slice A101_4 ((rd_T71 l0 x12_2).f4).length c101_4)) (fun _ h_ => h_.1))) hb); have n3_ := zA (Kd.V_below (by (with_reducible repeat (first | apply Kd.V_alloc | apply Kd.V_drewN | apply Kd.V_drew)); exact (Kd.V_mono (Kd.V_far (p := ⟨gb104, 4, none⟩) (Kd.V_far (p := ⟨gb104, 3, none⟩) (Kd.V_far (p := ⟨gb104, 2, none⟩) (Kd.V_far (p := ⟨gb104, 1, none⟩) (Kd.V_far (p := ⟨gb104, 0, none⟩) (Kd.V_mono HL101_4.out (fun k_ hk => (⟨hk, hk.2⟩ : _ ∧ k_ ≠ gb104))) (fun _ hk => hk.2) (.int .i64 ((rd_T71 l0 x12_2).f0))) (fun _ hk => hk.2) (.int .i64 ((rd_T71 l0 x12_2).f1))) (fun _ hk => hk.2) (.int .i64 0)) (fun _ hk => hk.2) (.int .i64 0)) (fun _ hk => hk.2) (.slice A101_4 ((rd_T71 l0 x12_2).f4).length c101_4)) (fun _ h_ => h_.1))) hb); have n4_ := zA (Kd.C_below ((Kd.V_reads' (by (with_reducible repeat (first | apply Kd.V_alloc | apply Kd.V_drewN | apply Kd.V_drew)); exact (Kd.V_mono (Kd.V_far (p := ⟨gb104, 4, none⟩) (Kd.V_far (p := ⟨gb104, 3, none⟩) (Kd.V_far (p := ⟨gb104, 2, none⟩) (Kd.V_far (p := ⟨gb104, 1, none⟩) (Kd.V_far (p := ⟨gb104, 0, none⟩) (Kd.V_mono HL101_4.out (fun k_ hk => (⟨hk, hk.2⟩ : _ ∧ k_ ≠ gb104))) (fun _ hk => hk.2) (.int .i64 ((rd_T71 l0 x12_2).f0))) (fun _ hk => hk.2) (.int .i64 ((rd_T71 l0 x12_2).f1))) (fun _ hk => hk.2) (.int .i64 0)) (fun _ hk => hk.2) (.int .i64 0)) (fun _ hk => hk.2) (.slice A101_4 ((rd_T71 l0 x12_2).f4).length c101_4)) (fun _ h_ => h_.1)))).2.2) hb); have n5_ := zA (zX (g := gb104) (o := .cells #[.int .i64 ((rd_T71 l0 x12_2).f0), .int .i64 ((rd_T71 l0 x12_2).f1), .int .i64 0, .int .i64 0, .slice A101_4 ((rd_T71 l0 x12_2).f4).length c101_4] 71 (0, 0)) (qV BK104.out) hb); have n6_ := zA (zV qB hb); clear HO_0 HO_8 HO_9 HL101_4 HR101_4 BK104 HB; have HO_0 := n0_; have HO_8 := n1_; have HO_9 := n2_; have HL101_4 := n3_; have HR101_4 := n4_; have BK104 := n5_; have HB := n6_; clear n0_ n1_ n2_ n3_ n4_ n5_ n6_; (try clear hb); obtain ⟨_, _, _, _, _, _, _, _, _, _⟩ := qc5f BK104.out) | ((with_reducible refine gate_builtin (b := .append) (xs := #[.tmp 56, .tmp 58]) rfl ?_); (try (refine gate_guard (by rfl) ?_; dsimp only)); at_builtin; refine Kd.N_append k71 (w0 := w) w.heap.size rfl (.tmp 56) (.tmp 58) 59 71 (.agg #[(.int .i64 0), (.int .i64 0), (.int .i64 0), (.int .i64 0), (.slice none 0 0)]) 56 rfl Try.underlying59 info71 rfl (by decide) (by omega) u8 x8_2 (⟨(rd_T71 l0 x12_2).f0, (rd_T71 l0 x12_2).f1, 0, 0, (rd_T71 l0 x12_2).f4⟩ : S71) [.int .i64 ((rd_T71 l0 x12_2).f0), .int .i64 ((rd_T71 l0 x12_2).f1), .int .i64 0, .int .i64 0, .slice A101_4 ((rd_T71 l0 x12_2).f4).length c101_4] (fun k_ => (P0_ k_ ∨ w.heap.size ≤ k_) ∧ some k_ ≠ (u9 : Value).ownBlock ∧ k_ ≠ gb104) (fun k_ => ((fun k_ => (P0_ k_ ∨ w.heap.size ≤ k_) ∧ some k_ ≠ (u9 : Value).ownBlock ∧ k_ ≠ gb104)) k_ ∧ some k_ ≠ (u8 : Value).ownBlock) rfl rfl ?aP (fun _ hk => hk) ?aF ?aO ?aB ?aS ?aL ?_; (case aP => exact (k71_mkF _ _ (⟨(rd_T71 l0 x12_2).f0, (rd_T71 l0 x12_2).f1, 0, 0, (rd_T71 l0 x12_2).f4⟩ : S71) (Kd.V_reads' (Kd.V_mono (ok' := (fun k_ => ((fun k_ => (P0_ k_ ∨ w.heap.size ≤ k_) ∧ some k_ ≠ (u9 : Value).ownBlock ∧ k_ ≠ gb104)) k_ ∧ some k_ ≠ (u8 : Value).ownBlock)) (HL101_4.out) (fun k_ hk => ⟨⟨hk.1.1, ⟨hk.1.2.2, hk.2⟩⟩, hk.1.2.1⟩))).2.1 (Kd.V_F (Kd.V_mono (ok' := (fun k_ => ((fun k_ => (P0_ k_ ∨ w.heap.size ≤ k_) ∧ some k_ ≠ (u9 : Value).ownBlock ∧ k_ ≠ gb104)) k_ ∧ some k_ ≠ (u8 : Value).ownBlock)) (HL101_4.out) (fun k_ hk => ⟨⟨hk.1.1, ⟨hk.1.2.2, hk.2⟩⟩, hk.1.2.1⟩))))); (case aB => exact qB); (case aF => exact (fun k_ hk => ⟨(.inr (Nat.le_trans (zW qB) hk)), Kd.fresh' (Kd.R_lt (by (with_reducible repeat (first | apply Kd.R_alloc | apply Kd.R_drewN | apply Kd.R_drew)); exact HO_9.out)) k_ hk, Kd.freshB (g := gb104) (o := .cells #[.int .i64 ((rd_T71 l0 x12_2).f0), .int .i64 ((rd_T71 l0 x12_2).f1), .int .i64 0, .int .i64 0, .slice A101_4 ((rd_T71 l0 x12_2).f4).length c101_4] 71 (0, 0)) (qW BK104.out) k_ hk⟩)); (case aO => exact (by (with_reducible repeat (first | apply Kd.N_alloc | apply Kd.N_drewN | apply Kd.N_drew)); exact Kd.N_mono HO_8.out (fun _ hk => ⟨hk.1.1, ⟨hk.1.2, hk.2⟩⟩))); (case aS => exact (zW qB)); (case aL => have := LMc11.out; omega); intro v107 w23 ho hb hg hat; rw [← Ny106.out] at ho; have n0_ := zA (Kd.V_afterv (ok := (fun k_ => (P0_ k_ ∨ w.heap.size ≤ k_) ∧ some k_ ≠ (u9 : Value).ownBlock ∧ k_ ≠ gb104)) (by (with_reducible repeat (first | apply Kd.V_alloc | apply Kd.V_drewN | apply Kd.V_drew)); exact Kd.V_mono HO_0.out (fun _ hk => ⟨⟨hk.1.1, ⟨hk.1.2.2, hk.2⟩⟩, hk.1.2.1⟩)) hg hat); have n1_ := zA (Kd.R_over' (by (with_reducible repeat (first | apply Kd.R_alloc | apply Kd.R_drewN | apply Kd.R_drew)); exact HO_9.out) (Kd.N_typed (by (with_reducible repeat (first | apply Kd.N_alloc | apply Kd.N_drewN | apply Kd.N_drew)); exact HO_8.out)) (by decide) hg); have n2_ := zA (Kd.V_afterv (ok := (fun k_ => (P0_ k_ ∨ w.heap.size ≤ k_) ∧ some k_ ≠ (u9 : Value).ownBlock ∧ k_ ≠ gb104)) (by (with_reducible repeat (first | apply Kd.V_alloc | apply Kd.V_drewN | apply Kd.V_drew)); exact Kd.V_mono HL101_4.out (fun _ hk => ⟨⟨hk.1.1, ⟨hk.1.2.2, hk.2⟩⟩, hk.1.2.1⟩)) hg hat); have n3_ := zA (blk_grown (g := gb104) (o := .cells #[.int .i64 ((rd_T71 l0 x12_2).f0), .int .i64 ((rd_T71 l0 x12_2).f1), .int .i64 0, .int .i64 0, .slice A101_4 ((rd_T71 l0 x12_2).f4).length c101_4] 71 (0, 0)) (qW BK104.out) hg (Kd.N_away HO_8.out (fun _ hk => hk.2))); have n4_ := zA (hb); have n5_ := zA (ho); clear HO_0 HO_9 HL101_4 BK104 HB HO_8; have HO_0 := n0_; have HO_9 := n1_; have HL101_4 := n2_; have BK104 := n3_; have HB := n4_; have HO108 := n5_; clear n0_ n1_ n2_ n3_ n4_ n5_ ho hb hg hat; obtain ⟨_, _, _, _, _, _, _, _, _, _⟩ := qc5f BK104.out) | ((with_reducible refine gate_builtin (b := .append) (xs := #[.tmp 60, .tmp 63]) rfl ?_); (try (refine gate_guard (by rfl) ?_; dsimp only)); at_builtin; refine Kd.R_append (Kd.int .i64) (w0 := w) w.heap.size rfl (.tmp 60) (.tmp 63) 22 3 (.int .i64 0) 8 rfl Try.underlying22 info3 rfl (by decide) (by omega) u9 x9_2 ((rd_T71 l0 x12_2).f1) [.int .i64 ((rd_T71 l0 x12_2).f1)] (fun k_ => (w.heap.size ≤ k_)) (fun _ => False) rfl rfl ?aP (fun _ hk => hk.elim) ?aF ?aO ?aB ?aS ?aL ?_; (case aP => exact rfl); (case aB => exact qB); (case aF => exact (fun k_ hk => (Nat.le_trans (zW qB) hk))); (case aO => exact (by (with_reducible repeat (first | apply Kd.R_alloc | apply Kd.R_drewN | apply Kd.R_drew)); exact HO_9.out)); (case aS => exact (zW qB)); (case aL => have := LMc12.out; omega); intro v110 w25 ho hb hg hat; rw [← Ny109.out] at ho; have n0_ := zA (Kd.V_afterv (ok := (fun k_ => (P0_ k_ ∨ w.heap.size ≤ k_) ∧ some k_ ≠ (v107 : Value).ownBlock ∧ k_ ≠ gb104)) (by (with_reducible repeat (first | apply Kd.V_alloc | apply Kd.V_drewN | apply Kd.V_drew)); exact Kd.V_mono HO_0.out (fun _ hk => ⟨⟨hk.1.1, ⟨hk.2, hk.1.2.2⟩⟩, hk.1.2.1⟩)) hg hat); have n1_ := zA (Kd.V_afterv (ok := (fun k_ => (P0_ k_ ∨ w.heap.size ≤ k_) ∧ some k_ ≠ (v107 : Value).ownBlock ∧ k_ ≠ gb104)) (by (with_reducible repeat (first | apply Kd.V_alloc | apply Kd.V_drewN | apply Kd.V_drew)); exact Kd.V_mono HL101_4.out (fun _ hk => ⟨⟨hk.1.1, ⟨hk.2, hk.1.2.2⟩⟩, hk.1.2.1⟩)) hg hat); have n2_ := zA (blk_grown (g := gb104) (o := .cells #[.int .i64 ((rd_T71 l0 x12_2).f0), .int .i64 ((rd_T71 l0 x12_2).f1), .int .i64 0, .int .i64 0, .slice A101_4 ((rd_T71 l0 x12_2).f4).length c101_4] 71 (0, 0)) (qW BK104.out) hg (Kd.R_ne HO_9.out BK104.out (by decide))); have n3_ := zA (Kd.N_afterv (ok := (fun k_ => (P0_ k_ ∨ w.heap.size ≤ k_) ∧ k_ ≠ gb104)) (by (with_reducible repeat (first | apply Kd.N_alloc | apply Kd.N_drewN | apply Kd.N_drew)); exact Kd.N_mono HO108.out (fun _ hk => ⟨⟨hk.1, hk.2.2⟩, hk.2.1⟩)) hg hat); have n4_ := zA (hb); have n5_ := zA (ho); clear HO_0 HL101_4 BK104 HO108 HB HO_9; have HO_0 := n0_; have HL101_4 := n1_; have BK104 := n2_; have HO108 := n3_; have HB := n4_; have HO111 := n5_; clear n0_ n1_ n2_ n3_ n4_ n5_ ho hb hg hat; obtain ⟨_, _, _, _, _, _, _, _, _, _⟩ := qc5f BK104.out))
                    go_roundg k2
                    case measure => have := HJ3.out; have := HK2.out; omega
                    case rel => exact ⟨(y106), (y109), (wrap64 (x11_2 + ((rd_T71 l0 x12_2).f1))), (wrap64 (x12_2 + 1)), (by first | rfl | (simp; done) | (simp [*]; done)), (by first | rfl | (simp; done) | (simp [*]; done)), H', ⟨by have := HJ3.out; have := HK2.out; omega⟩, ⟨by (with_reducible repeat (first | apply Kd.V_alloc | apply Kd.V_drewN | apply Kd.V_drew)); exact Kd.V_mono HO_0.out (fun _ hk => ⟨hk.1.1, ⟨hk.1.2.1, hk.2⟩⟩)⟩, ⟨by (with_reducible repeat (first | apply Kd.N_alloc | apply Kd.N_drewN | apply Kd.N_drew)); exact Kd.N_mono HO108.out (fun _ hk => ⟨hk.1.1, hk.2⟩)⟩, ⟨by (with_reducible repeat (first | apply Kd.R_alloc | apply Kd.R_drewN | apply Kd.R_drew)); exact HO111.out⟩, ⟨qB⟩⟩
                  rw [if_neg c12] at H; exact absurd H (by simp)
                rw [if_neg c11] at H; exact absurd H (by simp)
              rw [if_neg c10] at H; have c10b0 : (t105 == 0) = false := beq_eq_false_iff_ne.mpr c10; have c10b1 : (t105 != 0) = true := bne_iff_ne.mpr c10; simp only [zNq, zOq] at H; obtain ⟨rfl, rfl⟩ := H; try go_wp2_with (first | ((with_reducible refine zJq (f := 70) rfl ?_); refine goesL_ (some 52) rfl rfl Try.func70 (by kernel_rfl) rfl #[.agg #[.int .i64 ((rd_T71 l0 x12_2).f0), .int .i64 ((rd_T71 l0 x12_2).f1), .int .i64 0, .int .i64 0, .slice A101_4 ((rd_T71 l0 x12_2).f4).length c101_4]] rfl qG ?_; (with_reducible refine (backhaulref21_Check.calls k2 ((rd_T71 l0 x12_2).f0) ((rd_T71 l0 x12_2).f1) 0 0 _ _ ((rd_T71 l0 x12_2).f4) t105 _ ?side1 ?side2 A9.out).mono ?_); (case side1 => repeat (first | exact ((Kd.V_reads' (by (with_reducible repeat (first | apply Kd.V_alloc | apply Kd.V_drewN | apply Kd.V_drew)); exact (Kd.V_mono (Kd.V_far (p := ⟨gb104, 4, none⟩) (Kd.V_far (p := ⟨gb104, 3, none⟩) (Kd.V_far (p := ⟨gb104, 2, none⟩) (Kd.V_far (p := ⟨gb104, 1, none⟩) (Kd.V_far (p := ⟨gb104, 0, none⟩) (Kd.V_mono HL101_4.out (fun k_ hk => (⟨hk, hk.2⟩ : _ ∧ k_ ≠ gb104))) (fun _ hk => hk.2) (.int .i64 ((rd_T71 l0 x12_2).f0))) (fun _ hk => hk.2) (.int .i64 ((rd_T71 l0 x12_2).f1))) (fun _ hk => hk.2) (.int .i64 0)) (fun _ hk => hk.2) (.int .i64 0)) (fun _ hk => hk.2) (.slice A101_4 ((rd_T71 l0 x12_2).f4).length c101_4)) (fun _ h_ => h_.1)))).2.2) | (with_reducible refine Kd.C_alloc ?_ _) | (with_reducible refine Kd.C_drewN ?_ _) | (with_reducible refine Kd.C_drew ?_))); (case side2 => exact HC101_4.out); rintro e w35 ⟨rfl, hb⟩; refine ⟨_, rfl, ?_⟩; have n0_ := zA (Kd.V_below (by (with_reducible repeat (first | apply Kd.V_alloc | apply Kd.V_drewN | apply Kd.V_drew)); exact (Kd.V_mono (Kd.V_far (p := ⟨gb104, 4, none⟩) (Kd.V_far (p := ⟨gb104, 3, none⟩) (Kd.V_far (p := ⟨gb104, 2, none⟩) (Kd.V_far (p := ⟨gb104, 1, none⟩) (Kd.V_far (p := ⟨gb104, 0, none⟩) (Kd.V_mono HO_0.out (fun k_ hk => (⟨hk, hk.2⟩ : _ ∧ k_ ≠ gb104))) (fun _ hk => hk.2) (.int .i64 ((rd_T71 l0 x12_2).f0))) (fun _ hk => hk.2) (.int .i64 ((rd_T71 l0 x12_2).f1))) (fun _ hk => hk.2) (.int .i64 0)) (fun _ hk => hk.2) (.int .i64 0)) (fun _ hk => hk.2) (.slice A101_4 ((rd_T71 l0 x12_2).f4).length c101_4)) (fun _ h_ => h_.1))) hb); have n1_ := zA (Kd.N_below (by (with_reducible repeat (first | apply Kd.N_alloc | apply Kd.N_drewN | apply Kd.N_drew)); exact (Kd.N_mono (Kd.N_far (p := ⟨gb104, 4, none⟩) (Kd.N_far (p := ⟨gb104, 3, none⟩) (Kd.N_far (p := ⟨gb104, 2, none⟩) (Kd.N_far (p := ⟨gb104, 1, none⟩) (Kd.N_far (p := ⟨gb104, 0, none⟩) (Kd.N_mono HO_8.out (fun k_ hk => (⟨hk, hk.2⟩ : _ ∧ k_ ≠ gb104))) (fun _ hk => hk.2) (.int .i64 ((rd_T71 l0 x12_2).f0))) (fun _ hk => hk.2) (.int .i64 ((rd_T71 l0 x12_2).f1))) (fun _ hk => hk.2) (.int .i64 0)) (fun _ hk => hk.2) (.int .i64 0)) (fun _ hk => hk.2) (.slice A101_4 ((rd_T71 l0 x12_2).f4).length c101_4)) (fun _ h_ => h_.1))) hb); have n2_ := zA (Kd.R_below (by (with_reducible repeat (first | apply Kd.R_alloc | apply Kd.R_drewN | apply Kd.R_drew)); exact (Kd.R_mono (Kd.R_far (p := ⟨gb104, 4, none⟩) (Kd.R_far (p := ⟨gb104, 3, none⟩) (Kd.R_far (p := ⟨gb104, 2, none⟩) (Kd.R_far (p := ⟨gb104, 1, none⟩) (Kd.R_far (p := ⟨gb104, 0, none⟩) (Kd.R_types HO_9.out BK104.out (by decide)) (fun _ hk => hk.2) (.int .i64 ((rd_T71 l0 x12_2).f0))) (fun _ hk => hk.2) (.int .i64 ((rd_T71 l0 x12_2).f1))) (fun _ hk => hk.2) (.int .i64 0)) (fun _ hk => hk.2) (.int .i64 0)) (fun _ hk => hk.2) (.slice A101_4 ((rd_T71 l0 x12_2).f4).length c101_4)) (fun _ h_ => h_.1))) hb); have n3_ := zA (Kd.V_below (by (with_reducible repeat (first | apply Kd.V_alloc | apply Kd.V_drewN | apply Kd.V_drew)); exact (Kd.V_mono (Kd.V_far (p := ⟨gb104, 4, none⟩) (Kd.V_far (p := ⟨gb104, 3, none⟩) (Kd.V_far (p := ⟨gb104, 2, none⟩) (Kd.V_far (p := ⟨gb104, 1, none⟩) (Kd.V_far (p := ⟨gb104, 0, none⟩) (Kd.V_mono HL101_4.out (fun k_ hk => (⟨hk, hk.2⟩ : _ ∧ k_ ≠ gb104))) (fun _ hk => hk.2) (.int .i64 ((rd_T71 l0 x12_2).f0))) (fun _ hk => hk.2) (.int .i64 ((rd_T71 l0 x12_2).f1))) (fun _ hk => hk.2) (.int .i64 0)) (fun _ hk => hk.2) (.int .i64 0)) (fun _ hk => hk.2) (.slice A101_4 ((rd_T71 l0 x12_2).f4).length c101_4)) (fun _ h_ => h_.1))) hb); have n4_ := zA (Kd.C_below ((Kd.V_reads' (by (with_reducible repeat (first | apply Kd.V_alloc | apply Kd.V_drewN | apply Kd.V_drew)); exact (Kd.V_mono (Kd.V_far (p := ⟨gb104, 4, none⟩) (Kd.V_far (p := ⟨gb104, 3, none⟩) (Kd.V_far (p := ⟨gb104, 2, none⟩) (Kd.V_far (p := ⟨gb104, 1, none⟩) (Kd.V_far (p := ⟨gb104, 0, none⟩) (Kd.V_mono HL101_4.out (fun k_ hk => (⟨hk, hk.2⟩ : _ ∧ k_ ≠ gb104))) (fun _ hk => hk.2) (.int .i64 ((rd_T71 l0 x12_2).f0))) (fun _ hk => hk.2) (.int .i64 ((rd_T71 l0 x12_2).f1))) (fun _ hk => hk.2) (.int .i64 0)) (fun _ hk => hk.2) (.int .i64 0)) (fun _ hk => hk.2) (.slice A101_4 ((rd_T71 l0 x12_2).f4).length c101_4)) (fun _ h_ => h_.1)))).2.2) hb); have n5_ := zA (zX (g := gb104) (o := .cells #[.int .i64 ((rd_T71 l0 x12_2).f0), .int .i64 ((rd_T71 l0 x12_2).f1), .int .i64 0, .int .i64 0, .slice A101_4 ((rd_T71 l0 x12_2).f4).length c101_4] 71 (0, 0)) (qV BK104.out) hb); have n6_ := zA (zV qB hb); clear HO_0 HO_8 HO_9 HL101_4 HR101_4 BK104 HB; have HO_0 := n0_; have HO_8 := n1_; have HO_9 := n2_; have HL101_4 := n3_; have HR101_4 := n4_; have BK104 := n5_; have HB := n6_; clear n0_ n1_ n2_ n3_ n4_ n5_ n6_; (try clear hb)))
              go_ret2; exact ⟨_, qE, by first | exact Kd.S_nil _ _ _ _ _ | exact Kd.N_nil _ _ _ _ _ | exact Kd.V_nil _ _ _ _ _ | exact Kd.Q_nil _ _ _ _ _ | exact Kd.R_nil _ _ _ _ _, qB⟩
            rw [if_neg c8] at H; exact absurd H (by simp)
          rw [if_neg c7] at H; have c7b0 : decide (x12_2 < (l0.length : Int)) = false := zGq c7; clear c7; have HC36 := zA H; clear H; go_upto_region 16 with (fail)
          go_cut [86] (fun v86 wc => ∃ (kq : Nat) (x86_35 : Bool), v86 = .bool x86_35 ∧ Aside0 (backhaulref21_Deal.j2 kq a1 a2 x8_2 x9_2 ([] : List Int) x11_2 x86_35 = some (r1, r2)) ∧ Aside0 (kq ≤ k2) ∧ Aside0 (Kd.N k71 71 wc w.heap.size (fun k_ => (P0_ k_ ∨ w.heap.size ≤ k_) ∧ some k_ ≠ (u9 : Value).ownBlock ∧ some k_ ≠ ((.slice none 0 0) : Value).ownBlock) u8 x8_2) ∧ Aside0 (Kd.R (Kd.int .i64) 3 wc w.heap.size (fun k_ => (w.heap.size ≤ k_) ∧ some k_ ≠ ((.slice none 0 0) : Value).ownBlock) u9 x9_2) ∧ Aside0 (Kd.R (Kd.int .i64) 3 wc w.heap.size (fun k_ => (w.heap.size ≤ k_) ∧ some k_ ≠ (u9 : Value).ownBlock) (.slice none 0 0) ([] : List Int)) ∧ Aside0 (Below w.heap.size w wc))
          case first =>
            have H := HC36.out; clear HC36; by_cases c37 : x11_2 > 1000000000000
            · rw [if_pos c37] at H
              have c37b0 : decide (1000000000000 < x11_2) = true := zFq c37; clear c37; (first | rw [c37b0] | (simp only [i64_w, i32_w]; rw [c37b0]) | skip)
              have H' := zA H; clear H; go_wp2; go_meet
              case rel => exact ⟨_, (true), (by first | rfl | (simp; done) | (simp [*]; done)), H', ⟨by have := HJ3.out; have := HK2.out; first | omega | exact Nat.le_refl _⟩, ⟨by (with_reducible repeat (first | apply Kd.N_alloc | apply Kd.N_drewN | apply Kd.N_drew)); exact Kd.N_mono HO_8.out (fun _ hk => ⟨hk.1, ⟨hk.2, (by simp [Value.ownBlock])⟩⟩)⟩, ⟨by (with_reducible repeat (first | apply Kd.R_alloc | apply Kd.R_drewN | apply Kd.R_drew)); exact Kd.R_mono HO_9.out (fun _ hk => ⟨hk, (by simp [Value.ownBlock])⟩)⟩, ⟨qN⟩, ⟨qB⟩⟩
            rw [if_neg c37] at H; have c37b0 : decide (1000000000000 < x11_2) = false := zGq c37; clear c37; (first | rw [c37b0] | (simp only [i64_w, i32_w]; rw [c37b0]) | skip)
            by_cases c38 : a1 < 0
            · rw [if_pos c38] at H
              have c38b0 : decide (a1 < 0) = true := zFq c38; clear c38; have H' := zA H; clear H; go_wp2; go_meet
              case rel => exact ⟨_, (true), (by first | rfl | (simp; done) | (simp [*]; done)), H', ⟨by have := HJ3.out; have := HK2.out; first | omega | exact Nat.le_refl _⟩, ⟨by (with_reducible repeat (first | apply Kd.N_alloc | apply Kd.N_drewN | apply Kd.N_drew)); exact Kd.N_mono HO_8.out (fun _ hk => ⟨hk.1, ⟨hk.2, (by simp [Value.ownBlock])⟩⟩)⟩, ⟨by (with_reducible repeat (first | apply Kd.R_alloc | apply Kd.R_drewN | apply Kd.R_drew)); exact Kd.R_mono HO_9.out (fun _ hk => ⟨hk, (by simp [Value.ownBlock])⟩)⟩, ⟨qN⟩, ⟨qB⟩⟩
            rw [if_neg c38] at H; have c38b0 : decide (a1 < 0) = false := zGq c38; clear c38; by_cases c39 : a1 > 1000000000000
            · rw [if_pos c39] at H
              have c39b0 : decide (1000000000000 < a1) = true := zFq c39; clear c39; have H' := zA H; clear H; go_wp2; go_meet
              case rel => exact ⟨_, (true), (by first | rfl | (simp; done) | (simp [*]; done)), H', ⟨by have := HJ3.out; have := HK2.out; first | omega | exact Nat.le_refl _⟩, ⟨by (with_reducible repeat (first | apply Kd.N_alloc | apply Kd.N_drewN | apply Kd.N_drew)); exact Kd.N_mono HO_8.out (fun _ hk => ⟨hk.1, ⟨hk.2, (by simp [Value.ownBlock])⟩⟩)⟩, ⟨by (with_reducible repeat (first | apply Kd.R_alloc | apply Kd.R_drewN | apply Kd.R_drew)); exact Kd.R_mono HO_9.out (fun _ hk => ⟨hk, (by simp [Value.ownBlock])⟩)⟩, ⟨qN⟩, ⟨qB⟩⟩
            rw [if_neg c39] at H; have c39b0 : decide (1000000000000 < a1) = false := zGq c39; clear c39; by_cases c40 : a2 < 0
            · rw [if_pos c40] at H
              have c40b0 : decide (a2 < 0) = true := zFq c40; clear c40; have H' := zA H; clear H; go_wp2; go_meet
              case rel => exact ⟨_, (true), (by first | rfl | (simp; done) | (simp [*]; done)), H', ⟨by have := HJ3.out; have := HK2.out; first | omega | exact Nat.le_refl _⟩, ⟨by (with_reducible repeat (first | apply Kd.N_alloc | apply Kd.N_drewN | apply Kd.N_drew)); exact Kd.N_mono HO_8.out (fun _ hk => ⟨hk.1, ⟨hk.2, (by simp [Value.ownBlock])⟩⟩)⟩, ⟨by (with_reducible repeat (first | apply Kd.R_alloc | apply Kd.R_drewN | apply Kd.R_drew)); exact Kd.R_mono HO_9.out (fun _ hk => ⟨hk, (by simp [Value.ownBlock])⟩)⟩, ⟨qN⟩, ⟨qB⟩⟩
            rw [if_neg c40] at H; have c40b0 : decide (a2 < 0) = false := zGq c40; clear c40; have H' := zA H; clear H; go_wp2; go_meet
            case rel => exact ⟨_, (decide (a2 > 1000000000000)), (by first | rfl | (simp; done) | (simp [*]; done)), H', ⟨by have := HJ3.out; have := HK2.out; first | omega | exact Nat.le_refl _⟩, ⟨by (with_reducible repeat (first | apply Kd.N_alloc | apply Kd.N_drewN | apply Kd.N_drew)); exact Kd.N_mono HO_8.out (fun _ hk => ⟨hk.1, ⟨hk.2, (by simp [Value.ownBlock])⟩⟩)⟩, ⟨by (with_reducible repeat (first | apply Kd.R_alloc | apply Kd.R_drewN | apply Kd.R_drew)); exact Kd.R_mono HO_9.out (fun _ hk => ⟨hk, (by simp [Value.ownBlock])⟩)⟩, ⟨qN⟩, ⟨qB⟩⟩
          case rest =>
            clear HC36; try clear c1
            try clear p1
            try clear q1
            try clear hx1
            try clear p2
            try clear c3
            try clear c4
            try clear c5
            try clear c5b0
            try clear c5b1
            try clear c5b2
            try clear c6
            try clear p6
            try clear c7
            try clear c7b0
            try clear c8
            try clear c8b0
            try clear c10
            try clear c10b0
            try clear c10b1
            try clear p10
            try clear q10
            try clear hx10
            try clear c11
            try clear c12
            try clear c37
            try clear c37b0
            try clear c38
            try clear c38b0
            try clear c39
            try clear c39b0
            try clear c40
            try clear c40b0
            try clear hcz34_0
            try clear hcz34_1
            try clear hcz34_2
            try clear hcz34_3
            try clear hcz34_4
            try clear hfz34_0
            try clear hfz34_1
            try clear hfz34_2
            try clear hfz34_3
            try clear hfz34_4
            try clear hx101_0
            try clear hx101_1
            try clear hx101_2
            try clear hx101_3
            try clear hx101_4
            try clear p101
            try clear p2
            try clear q101
            obtain ⟨kq, x86_35, rfl, HA, HJ35, HO_8, HO_9, HO_10, HB⟩ := hcut; cases kq with
            | zero => exact absurd HA.out (by simp [backhaulref21_Deal.j2])
            | succ kj35 =>
              have H := HA.out; clear HA; simp only [backhaulref21_Deal.j2] at H; by_cases c41 : x86_35 = true
              · subst c41
                have H1 : (some (([] : List (S71)), 8)) = some (r1, r2) := by first | (rw [if_pos rfl] at H; exact H) | rfl
                clear H; have H := H1; clear H1; simp only [zNq, zOq] at H; obtain ⟨rfl, rfl⟩ := H; go_wp2; go_ret2; exact ⟨_, qE, by first | exact Kd.S_nil _ _ _ _ _ | exact Kd.N_nil _ _ _ _ _ | exact Kd.V_nil _ _ _ _ _ | exact Kd.Q_nil _ _ _ _ _ | exact Kd.R_nil _ _ _ _ _, qB⟩
              replace c41 := Bool.eq_false_iff.mpr c41; subst c41; have H1 : (if a1 > x11_2 then (some (([] : List (S71)), 34)) else ((backhaulref03_Out.f kj35 a1 x9_2).bind fun bt112 => (backhaulref21_Deal.l1 kj35 a2 x8_2 ([] : List Int) bt112.1 0))) = some (r1, r2) := by first | (rw [if_neg (show ¬ (false = true) by decide)] at H; exact H) | rfl
              clear H; have H := H1; clear H1; by_cases c42 : a1 > x11_2
              · rw [if_pos c42] at H
                have c42b0 : decide (x11_2 < a1) = true := zFq c42; clear c42; simp only [zNq, zOq] at H; obtain ⟨rfl, rfl⟩ := H; go_wp2; go_ret2; exact ⟨_, qE, by first | exact Kd.S_nil _ _ _ _ _ | exact Kd.N_nil _ _ _ _ _ | exact Kd.V_nil _ _ _ _ _ | exact Kd.Q_nil _ _ _ _ _ | exact Kd.R_nil _ _ _ _ _, qB⟩
              rw [if_neg c42] at H; have c42b0 : decide (x11_2 < a1) = false := zGq c42; clear c42; replace H := Option.bind_eq_some_iff.mp H; obtain ⟨⟨t112, t113⟩, A430, H⟩ := H; try dsimp only at H
              have A43 := zA A430; clear A430; have H' := zA H; clear H; obtain ⟨Ao44, co44, eo44⟩ := Kd.R_slice HO_9.out; subst eo44; go_wp2_with (first | ((with_reducible refine zJq (f := 52) rfl ?_); refine goesL_ (some 93) rfl rfl Try.func52 (by kernel_rfl) rfl #[.int .i64 a1, .slice Ao44 x9_2.length co44] rfl qG ?_; (with_reducible refine (backhaulref03_Out.calls kj35 a1 _ _ x9_2 t112 t113 _ ?side1 ?side2 A43.out).mono ?_); (case side1 => repeat (first | exact (Kd.R_reads' HO_9.out).2.2 | (with_reducible refine Kd.C_alloc ?_ _) | (with_reducible refine Kd.C_drewN ?_ _) | (with_reducible refine Kd.C_drew ?_))); (case side2 => exact (Kd.R_reads' HO_9.out).2.1); rintro e w45 ⟨v114, rfl, ho0, hb⟩; refine ⟨_, rfl, ?_⟩; have n0_ := zA (Kd.N_elder' (by (with_reducible repeat (first | apply Kd.N_alloc | apply Kd.N_drewN | apply Kd.N_drew)); exact HO_8.out) (Kd.R_base ho0) hb); have n1_ := zA (Kd.R_elder' (by (with_reducible repeat (first | apply Kd.R_alloc | apply Kd.R_drewN | apply Kd.R_drew)); exact HO_9.out) (Kd.R_base ho0) hb); have n2_ := zA (Kd.R_elder' (by (with_reducible repeat (first | apply Kd.R_alloc | apply Kd.R_drewN | apply Kd.R_drew)); exact HO_10.out) (Kd.R_base ho0) hb); have n3_ := zA (Kd.R_lower (Kd.R_new' (Kd.R_new' (Kd.R_newM (M := fun k_ => (w.heap.size ≤ k_)) ho0 (zW qB) (fun k_ h_ => h_)) (Kd.R_lt (by (with_reducible repeat (first | apply Kd.R_alloc | apply Kd.R_drewN | apply Kd.R_drew)); exact HO_9.out))) (Kd.R_lt (by (with_reducible repeat (first | apply Kd.R_alloc | apply Kd.R_drewN | apply Kd.R_drew)); exact HO_10.out))) (zW qB)); have n4_ := zA (zV qB hb); clear HO_8 HO_9 HO_10 HB; have HO_8 := n0_; have HO_9 := n1_; have HO_10 := n2_; have HO115 := n3_; have HB := n4_; clear n0_ n1_ n2_ n3_ n4_; (try clear hb); (try clear ho0))); go_loopg [10, 17] kj35 (fun kq v10 v17 w' => ∃ (x8_4 : List (S71)) (x10_4 : List Int) (x17_4 : Int), v17 = .int .i64 x17_4 ∧ Aside0 (backhaulref21_Deal.l1 kq a2 x8_4 x10_4 t112 x17_4 = some (r1, r2)) ∧ Aside0 (kq ≤ kj35) ∧ Aside0 (Kd.N k71 71 w' w.heap.size (fun k_ => (P0_ k_ ∨ w.heap.size ≤ k_) ∧ some k_ ≠ (v10 : Value).ownBlock ∧ some k_ ≠ (v114 : Value).ownBlock) u8 x8_4) ∧ Aside0 (Kd.R (Kd.int .i64) 3 w' w.heap.size (fun k_ => (w.heap.size ≤ k_) ∧ some k_ ≠ (v114 : Value).ownBlock) v10 x10_4) ∧ Aside0 (Kd.R (Kd.int .i64) 3 w' w.heap.size (fun k_ => (w.heap.size ≤ k_) ∧ some k_ ≠ (v10 : Value).ownBlock) v114 t112) ∧ Aside0 (Below w.heap.size w w'))
              case atStart => exact ⟨(x8_2), (([] : List Int)), (0), (by first | rfl | (simp; done) | (simp [*]; done)), H', ⟨Nat.le_refl _⟩, ⟨by (with_reducible repeat (first | apply Kd.N_alloc | apply Kd.N_drewN | apply Kd.N_drew)); exact Kd.N_mono HO_8.out (fun _ hk => ⟨hk.1.1, ⟨hk.1.2.2, hk.2⟩⟩)⟩, ⟨by (with_reducible repeat (first | apply Kd.R_alloc | apply Kd.R_drewN | apply Kd.R_drew)); exact Kd.R_mono HO_10.out (fun _ hk => ⟨hk.1.1, hk.2⟩)⟩, ⟨by (with_reducible repeat (first | apply Kd.R_alloc | apply Kd.R_drewN | apply Kd.R_drew)); exact Kd.R_mono HO115.out (fun _ hk => ⟨hk.1.1.1, hk.2⟩)⟩, ⟨qB⟩⟩
              case round =>
                clear H'; try clear c1
                try clear p1
                try clear q1
                try clear hx1
                try clear p2
                try clear c3
                try clear c4
                try clear c5
                try clear c5b0
                try clear c5b1
                try clear c5b2
                try clear c6
                try clear p6
                try clear c7
                try clear c7b0
                try clear c8
                try clear c8b0
                try clear c10
                try clear c10b0
                try clear c10b1
                try clear p10
                try clear q10
                try clear hx10
                try clear c11
                try clear c12
                try clear c37
                try clear c37b0
                try clear c38
                try clear c38b0
                try clear c39
                try clear c39b0
                try clear c40
                try clear c40b0
                try clear c41
                try clear c42
                try clear c42b0
                try clear hcz34_0
                try clear hcz34_1
                try clear hcz34_2
                try clear hcz34_3
                try clear hcz34_4
                try clear hfz34_0
                try clear hfz34_1
                try clear hfz34_2
                try clear hfz34_3
                try clear hfz34_4
                try clear hx101_0
                try clear hx101_1
                try clear hx101_2
                try clear hx101_3
                try clear hx101_4
                try clear p1
                try clear p10
                try clear p101
                try clear p2
                try clear p6
                try clear q1
                try clear q10
                try clear q101
                obtain ⟨x8_4, x10_4, x17_4, rfl, HA, HK4, HO_8, HO_10, HO_15, HB⟩ := hrel; cases gk with
                | zero => exact absurd HA.out (by simp [backhaulref21_Deal.l1])
                | succ k4 =>
                  have H := HA.out; clear HA; simp only [backhaulref21_Deal.l1] at H; by_cases c46 : x17_4 < (x8_4.length : Int)
                  · rw [if_pos c46] at H
                    have c46b0 : decide (x17_4 < (x8_4.length : Int)) = true := zFq c46; clear c46; by_cases c47 : 0 ≤ x17_4
                    · rw [if_pos c47] at H
                      have c47b0 : decide (0 ≤ x17_4) = true := zFq c47; clear c47; by_cases c48 : x17_4 < (t112.length : Int)
                      · rw [if_pos c48] at H
                        have c48b0 : decide (x17_4 < (t112.length : Int)) = true := zFq c48; clear c48; obtain ⟨y118, hy118⟩ : ∃ y_ : List (S71), y_ = (x8_4.set (x17_4 : Int).toNat (⟨(rd_T71 x8_4 x17_4).f0, (rd_T71 x8_4 x17_4).f1, wrap64 (((rd_T71 x8_4 x17_4).f1) - (rd t112 x17_4)), (rd_T71 x8_4 x17_4).f3, (rd_T71 x8_4 x17_4).f4⟩ : S71)) := ⟨_, rfl⟩
                        replace H : (if x10_4.length < 17592186044416 then (backhaulref21_Deal.l1 k4 a2 y118 (x10_4 ++ [wrap64 (((rd_T71 x8_4 x17_4).f1) - (rd t112 x17_4))]) t112 (wrap64 (x17_4 + 1))) else (none)) = some (r1, r2) := by first | (rw [hy118]; with_reducible exact H) | (have H2_ := (Option.bind_some _ _).symm.trans H; rw [hy118]; with_reducible exact H2_) | (have H2_ := (Option.bind_some _ _).symm.trans H; with_reducible exact H2_) | with_reducible exact H | (rw [hy118]; exact H) | exact H
                        have Ny118 := zA hy118; clear hy118; by_cases c51 : x10_4.length < 17592186044416
                        · rw [if_pos c51] at H
                          have LMc51 := zA c51; clear c51; obtain ⟨y120, hy120⟩ : ∃ y_ : List Int, y_ = (x10_4 ++ [wrap64 (((rd_T71 x8_4 x17_4).f1) - (rd t112 x17_4))]) := ⟨_, rfl⟩
                          replace H : (backhaulref21_Deal.l1 k4 a2 y118 y120 t112 (wrap64 (x17_4 + 1))) = some (r1, r2) := by first | (rw [hy120]; with_reducible exact H) | (have H2_ := (Option.bind_some _ _).symm.trans H; rw [hy120]; with_reducible exact H2_) | (have H2_ := (Option.bind_some _ _).symm.trans H; with_reducible exact H2_) | with_reducible exact H | (rw [hy120]; exact H) | exact H
                          have Ny120 := zA hy120; clear hy120; have H' := zA H; clear H; obtain ⟨Ao52, co52, eo52⟩ := Kd.N_slice HO_8.out; subst eo52; try go_wp2
                          have n0_ := zA (Kd.N_drew HO_8.out); have n1_ := zA (Kd.R_drew HO_10.out); have n2_ := zA (Kd.R_drew HO_15.out); have n3_ := zA (zC HB.out); clear HO_8; clear HO_10; clear HO_15; clear HB; have HO_8 := n0_; have HO_10 := n1_; have HO_15 := n2_; have HB := n3_; clear n0_ n1_ n2_ n3_; have p116 : 0 ≤ (x17_4 : Int) := of_decide_eq_true qA; have q116 : x17_4 < (x8_4.length : Int) := of_decide_eq_true qA; obtain ⟨ad116, A116_4, c116_4, e116, hx116_0, hx116_1, hx116_2, hx116_3, hx116_4, hl116_4, hi116_4⟩ := at_T71 (Kd.N_reads' HO_8.out).2.2 x17_4 p116 q116; cases e116
                          obtain ⟨ce116, hce116, hMe116, hcc116⟩ := Kd.N_get HO_8.out z71 x17_4 p116 (by first | exact q116 | exact of_decide_eq_true qA | (have e_ := (Kd.N_reads' HO_8.out).1; omega)); obtain ⟨ua116_4, uc116_4, rfl, ul116_4, ge116_4⟩ := k71_openF hMe116; have hv116_4 := hcc116 4 _ rfl; rw [add_field _ _ 4 (by omega)] at hv116_4; replace hv116_4 := zKq (hv116_4.symm.trans hx116_4); injection hv116_4 with hva_ hvn_ hvc_
                          rw [hva_] at ge116_4; rw [hvc_] at ul116_4; have HL116_4 := zA (show Kd.V Kd.string 9 _ w.heap.size _ _ ((rd_T71 x8_4 x17_4).f4) from Kd.V_mk ul116_4 ge116_4); clear hva_ hvn_ hvc_ ge116_4 ul116_4; clear hcc116 hce116; have HR116_4 := zA hi116_4; have HC116_4 := zA hl116_4; clear hi116_4 hl116_4; replace p116 := eq_true p116; replace q116 := eq_true q116; obtain ⟨Ao54, co54, eo54⟩ := Kd.R_slice HO_15.out; (first | subst eo54 | (injection eo54 with f1_ f2_ f3_; have f4_ := f1_.symm; have f5_ := f3_.symm; clear f1_ f2_ f3_; subst f4_; subst f5_))
                          have p117 : 0 ≤ (x17_4 : Int) := of_decide_eq_true qA; have q117 : x17_4 < (t112.length : Int) := of_decide_eq_true qA; obtain ⟨ad117, e117, hx117_0⟩ := Kd.at_int (Kd.R_reads' HO_15.out).2.2 x17_4 p117 q117; cases e117
                          replace p117 := eq_true p117; replace q117 := eq_true q117; have p49 : 0 ≤ (x17_4 : Int) := of_decide_eq_true qA; have q49 : (x17_4 : Int) < ((x8_4.length : Int) : Int) := of_decide_eq_true qA; obtain ⟨go49, co49, eo49, gb49, gl49, cl49, HG49⟩ := Kd.N_form HO_8.out (by omega); (first | cases eo49 | (injection eo49 with ea_ en_ ec_; (first | subst ea_ | (injection ea_ with ea_; subst ea_)); subst ec_; clear en_))
                          have GB49 := zA gb49; have GG49 := zA HG49; clear gb49 gl49 HG49; (first | simp only [add_plain] at hx116_0 | skip)
                          (first | simp only [add_plain] at hx116_1 | skip)
                          (first | simp only [add_plain] at hx116_2 | skip)
                          (first | simp only [add_plain] at hx116_3 | skip)
                          (first | simp only [add_plain] at hx116_4 | skip)
                          obtain ⟨ce49, hcl49, hM49, hcc49, hfr49⟩ := Kd.N_elem HO_8.out z71 (x17_4 : Int) p49 q49; obtain ⟨ua49_4, uc49_4, rfl, ul49_4, ge49_4⟩ := k71_openF hM49; have hx49_0 : World.cell? _ ⟨go49, (x17_4 : Int).toNat * 5, none⟩ = some (.int .i64 ((rd_T71 x8_4 x17_4).f0)) := hcc49 0 _ rfl; have hx49_1 : World.cell? _ ⟨go49, (x17_4 : Int).toNat * 5 + 1, none⟩ = some (.int .i64 ((rd_T71 x8_4 x17_4).f1)) := hcc49 1 _ rfl; have hx49_2 : World.cell? _ ⟨go49, (x17_4 : Int).toNat * 5 + 2, none⟩ = some (.int .i64 ((rd_T71 x8_4 x17_4).f2)) := hcc49 2 _ rfl; have hx49_3 : World.cell? _ ⟨go49, (x17_4 : Int).toNat * 5 + 3, none⟩ = some (.int .i64 ((rd_T71 x8_4 x17_4).f3)) := hcc49 3 _ rfl; have hx49_4 : World.cell? _ ⟨go49, (x17_4 : Int).toNat * 5 + 4, none⟩ = some (.slice ua49_4 ((rd_T71 x8_4 x17_4).f4).length uc49_4) := hcc49 4 _ rfl; have hf49_0 : World.frozen? _ ⟨go49, (x17_4 : Int).toNat * 5, none⟩ = false := hfr49 0; have hf49_1 : World.frozen? _ ⟨go49, (x17_4 : Int).toNat * 5 + 1, none⟩ = false := hfr49 1; have hf49_2 : World.frozen? _ ⟨go49, (x17_4 : Int).toNat * 5 + 2, none⟩ = false := hfr49 2; have hf49_3 : World.frozen? _ ⟨go49, (x17_4 : Int).toNat * 5 + 3, none⟩ = false := hfr49 3; have hf49_4 : World.frozen? _ ⟨go49, (x17_4 : Int).toNat * 5 + 4, none⟩ = false := hfr49 4; clear hcl49 hcc49 hfr49 hM49; replace p49 := eq_true p49; replace q49 := eq_true q49; have HX55 := zA (show Kd.N k71 71 _ w.heap.size (fun k_ => (P0_ k_ ∨ w.heap.size ≤ k_) ∧ some k_ ≠ (u10 : Value).ownBlock ∧ some k_ ≠ (.slice (some ad117) t112.length co54 : Value).ownBlock) (.slice (some ⟨go49, 0, none⟩) x8_4.length co52) x8_4 from (Kd.N_mono (HO_8.out) (fun k_ hk => ⟨hk.1, ⟨hk.2.1, hk.2.2⟩⟩))); obtain ⟨ce55, hcl55, hM55, hcc55, hfr55⟩ := Kd.N_elem HX55.out z71 (x17_4 : Int) (of_decide_eq_true qA) (by have h_ : (x17_4 : Int) < ((x8_4.length : Int) : Int) := of_decide_eq_true qA; first | exact h_ | (have e_ := (Kd.N_reads' HO_8.out).1; omega) | simpa using h_); obtain ⟨ua55_4, uc55_4, rfl, ul55_4, ge55_4⟩ := k71_openF hM55; have HP55 := (Kd.N_seg HX55.out (x17_4 : Int) (of_decide_eq_true qA) (by have h_ : (x17_4 : Int) < ((x8_4.length : Int) : Int) := of_decide_eq_true qA; first | exact h_ | (have e_ := (Kd.N_reads' HO_8.out).1; omega) | simpa using h_) (seg := [.int .i64 (wrap64 (((rd_T71 x8_4 x17_4).f1) - (rd t112 x17_4)))]) (j := 2) hcl55 hcc55 (show 3 ≤ 5 from by decide) (x' := (⟨(rd_T71 x8_4 x17_4).f0, (rd_T71 x8_4 x17_4).f1, wrap64 (((rd_T71 x8_4 x17_4).f1) - (rd t112 x17_4)), (rd_T71 x8_4 x17_4).f3, (rd_T71 x8_4 x17_4).f4⟩ : S71)) (k71_mkF _ _ (⟨(rd_T71 x8_4 x17_4).f0, (rd_T71 x8_4 x17_4).f1, wrap64 (((rd_T71 x8_4 x17_4).f1) - (rd t112 x17_4)), (rd_T71 x8_4 x17_4).f3, (rd_T71 x8_4 x17_4).f4⟩ : S71) ul55_4 ge55_4) (fun _ hk => hk)).1; rw [← Ny118.out] at HP55; have HQ55 := zA HP55; clear hcl55 hcc55 hfr55 hM55 HP55; refine start_ (n := 15) (S := fun w' => w'.cell? ⟨go49, ((x17_4).toNat * 5), none⟩ = some (.int .i64 ((rd_T71 x8_4 x17_4).f0)) ∧ w'.cell? ⟨go49, ((x17_4).toNat * 5) + 1, none⟩ = some (.int .i64 ((rd_T71 x8_4 x17_4).f1)) ∧ w'.cell? ⟨go49, ((x17_4).toNat * 5) + 2, none⟩ = some (.int .i64 ((rd_T71 x8_4 x17_4).f2)) ∧ w'.cell? ⟨go49, ((x17_4).toNat * 5) + 3, none⟩ = some (.int .i64 ((rd_T71 x8_4 x17_4).f3)) ∧ w'.cell? ⟨go49, ((x17_4).toNat * 5) + 4, none⟩ = some (.slice A116_4 ((rd_T71 x8_4 x17_4).f4).length c116_4) ∧ w'.cell? (ad117.add (x17_4).toNat) = some (.int .i64 (rd t112 x17_4))) (ds := [14]) #[o0, o0, o0, o0, o0, o0, o0, o0, o0, o0, o0, o0, o0, o0, o0] (by kernel_rfl) rfl rfl ⟨hx116_0, hx116_1, hx116_2, hx116_3, hx116_4, hx117_0⟩ (fun hHeld => ?_); refine with_tabW backhaulref21_Deal.tab24 backhaulref21_Deal.bits24 (fun HT_ HW_ => ?_)
                          generalize wr.drew = w53 at HO_8 HO_10 HO_15 HB GG49 HL116_4 HQ55 HR116_4 hf49_0 hf49_1 hf49_2 hf49_3 hf49_4 hx116_0 hx116_1 hx116_2 hx116_3 hx116_4 hx117_0 hx49_0 hx49_1 hx49_2 hx49_3 hx49_4 hHeld ⊢; refine pure_ (i := 0) (N := some 102) #[o1, o0, o0, o0, o0, o0, o0, o0, o0, o0, o0, o0, o0, o0, o0] rfl rfl (any_of HT_.out (by kernel_rfl)) (fun _ _ _ h => h) (Or.inl ⟨by rfl, qy⟩) qz ?_; refine pure_ (i := 1) (N := some 103) #[o1, o1, o0, o0, o0, o0, o0, o0, o0, o0, o0, o0, o0, o0, o0] rfl rfl (any_of HT_.out (by kernel_rfl)) (fun _ _ _ h => h) (Or.inl ⟨by rfl, qy⟩) qz ?_; refine pure_ (i := 2) (N := some 104) #[o1, o1, o1, o0, o0, o0, o0, o0, o0, o0, o0, o0, o0, o0, o0] rfl rfl (any_of HT_.out (by kernel_rfl)) (fun _ _ _ h => h) (Or.inl ⟨by rfl, qy⟩) qz ?_; refine pure_ (i := 3) (N := some 105) #[o1, o1, o1, o1, o0, o0, o0, o0, o0, o0, o0, o0, o0, o0, o0] rfl rfl (any_of HT_.out (by kernel_rfl)) (fun _ _ _ h => h) (Or.inl ⟨by rfl, qy⟩) qz ?_; refine pure_ (i := 4) (N := some 106) #[o1, o1, o1, o1, o1, o0, o0, o0, o0, o0, o0, o0, o0, o0, o0] rfl rfl (any_of HT_.out (by kernel_rfl)) (fun _ _ _ h => h) (Or.inl ⟨by rfl, qy⟩) qz ?_; refine pure_ (i := 5) (N := some 107) #[o1, o1, o1, o1, o1, o1, o0, o0, o0, o0, o0, o0, o0, o0, o0] rfl rfl (any_of HT_.out (by kernel_rfl)) (fun _ _ _ h => h) (Or.inl ⟨by rfl, qy⟩) qz ?_; refine pure_ (i := 7) (N := some 109) #[o1, o1, o1, o1, o1, o1, o0, o1, o0, o0, o0, o0, o0, o0, o0] rfl rfl (any_of HT_.out (by kernel_rfl)) (fun _ _ _ h => h) (Or.inl ⟨by rfl, qy⟩) qz ?_; refine pure_ (i := 8) (N := some 110) #[o1, o1, o1, o1, o1, o1, o0, o1, o1, o0, o0, o0, o0, o0, o0] rfl rfl (any_of HT_.out (by kernel_rfl)) (fun _ _ _ h => h) (Or.inl ⟨by rfl, qy⟩) qz ?_; refine pure_ (i := 9) (N := some 111) #[o1, o1, o1, o1, o1, o1, o0, o1, o1, o1, o0, o0, o0, o0, o0] rfl rfl (any_of HT_.out (by kernel_rfl)) (fun _ _ _ h => h) (Or.inl ⟨by rfl, qy⟩) qz ?_; refine take_ (i := 6) (N := some 108) (v := ?_) (a' := ?_) #[o1, o1, o1, o1, o1, o1, o1, o1, o1, o1, o0, o0, o0, o0, o0] rfl rfl (take_ofW HT_.out HW_.out (by kernel_rfl)) (fun _ _ _ h => h) (Or.inl ⟨by rfl, ?_⟩) hHeld ?_ ?_; rotate_left
                          · rintro w' ⟨s0, s1, s2, s3, s4, s5⟩
                            go_simp; with_reducible rfl
                          rotate_left
                          · simp only [Act.put, zH, zI, zJ, i64_w, i32_w]
                            rfl
                          refine take_ (i := 10) (N := some 112) (v := ?_) (a' := ?_) #[o1, o1, o1, o1, o1, o1, o1, o1, o1, o1, o1, o0, o0, o0, o0] rfl rfl (take_ofW HT_.out HW_.out (by kernel_rfl)) (fun _ _ _ h => h) (Or.inl ⟨by rfl, ?_⟩) hHeld ?_ ?_; rotate_left
                          · rintro w' ⟨s0, s1, s2, s3, s4, s5⟩
                            go_simp; with_reducible rfl
                          rotate_left
                          · simp only [Act.put, zH, zI, zJ, i64_w, i32_w]
                            rfl
                          refine pure_ (i := 11) (N := some 113) #[o1, o1, o1, o1, o1, o1, o1, o1, o1, o1, o1, o1, o0, o0, o0] rfl rfl (any_of HT_.out (by kernel_rfl)) (fun _ _ _ h => h) (Or.inl ⟨by rfl, qy⟩) qz ?_; refine pure_ (i := 12) (N := some 114) #[o1, o1, o1, o1, o1, o1, o1, o1, o1, o1, o1, o1, o1, o0, o0] rfl rfl (any_of HT_.out (by kernel_rfl)) (fun _ _ _ h => h) (Or.inl ⟨by rfl, qy⟩) qz ?_; refine pure_ (i := 13) (N := some 115) #[o1, o1, o1, o1, o1, o1, o1, o1, o1, o1, o1, o1, o1, o1, o0] rfl rfl (any_of HT_.out (by kernel_rfl)) (fun _ _ _ h => h) (Or.inl ⟨by rfl, qy⟩) qz ?_; refine last_ (i := 14) (N := none) #[o1, o1, o1, o1, o1, o1, o1, o1, o1, o1, o1, o1, o1, o1, o1] rfl rfl (one_of HT_.out (by kernel_rfl)) (by decide) (fun K hK => ?_); refine skip_ (w1 := ?_) (by rfl) rfl ?_ ?_; rotate_left
                          · go_simp
                            rfl
                          refine hK.out _ _ ?_; clear hK K; refine done_ (done_of HT_.out (by kernel_rfl)) ?_; have p50 : 0 ≤ (x17_4 : Int) := of_decide_eq_true qA; have q50 : (x17_4 : Int) < ((x8_4.length : Int) : Int) := of_decide_eq_true qA; replace p50 := eq_true p50; replace q50 := eq_true q50; try go_wp2_with (first | ((with_reducible refine gate_builtin (b := .append) (xs := #[.tmp 116, .tmp 122]) rfl ?_); (try (refine gate_guard (by rfl) ?_; dsimp only)); at_builtin; refine Kd.R_append (Kd.int .i64) (w0 := w) w.heap.size rfl (.tmp 116) (.tmp 122) 22 3 (.int .i64 0) 8 rfl Try.underlying22 info3 rfl (by decide) (by omega) u10 x10_4 (wrap64 (((rd_T71 x8_4 x17_4).f1) - (rd t112 x17_4))) [.int .i64 (wrap64 (((rd_T71 x8_4 x17_4).f1) - (rd t112 x17_4)))] (fun k_ => (w.heap.size ≤ k_) ∧ some k_ ≠ (.slice (some ad117) t112.length co54 : Value).ownBlock) (fun _ => False) rfl (by first | (go_simp; done) | (go_simp; rfl)) ?aP (fun _ hk => hk.elim) ?aF ?aO ?aB ?aS ?aL ?_; (case aP => exact rfl); (case aB => exact (by repeat (first | (with_reducible first | exact HB.out | apply zD | apply zB | apply zC | refine zE ?_ GB49.out) | exact HB.out))); (case aF => exact (fun k_ hk => ⟨(Nat.le_trans (zW (by repeat (first | (with_reducible first | exact HB.out | apply zD | apply zB | apply zC | refine zE ?_ GB49.out) | exact HB.out))) hk), Kd.fresh' (Kd.R_lt (by (with_reducible repeat (first | apply Kd.R_alloc | apply Kd.R_drewN | apply Kd.R_drew)); exact (Kd.R_mono (Kd.R_far (p := ⟨go49, (x17_4 : Int).toNat * 5 + 2, none⟩) (Kd.R_types HO_15.out GG49.out (by decide)) (fun _ hk => hk.2) (.int .i64 (wrap64 (((rd_T71 x8_4 x17_4).f1) - (rd t112 x17_4))))) (fun _ h_ => h_.1)))) k_ hk⟩)); (case aO => exact (by (with_reducible repeat (first | apply Kd.R_alloc | apply Kd.R_drewN | apply Kd.R_drew)); exact Kd.R_mono (Kd.R_far (p := ⟨go49, (x17_4 : Int).toNat * 5 + 2, none⟩) (Kd.R_types HO_10.out GG49.out (by decide)) (fun _ hk => hk.2) (.int .i64 (wrap64 (((rd_T71 x8_4 x17_4).f1) - (rd t112 x17_4))))) (fun _ hk => ⟨hk.1.1, hk.1.2⟩))); (case aS => exact (zW (by repeat (first | (with_reducible first | exact HB.out | apply zD | apply zB | apply zC | refine zE ?_ GB49.out) | exact HB.out)))); (case aL => have := LMc51.out; omega); intro v121 w56 ho hb hg hat; rw [← Ny120.out] at ho; have n0_ := zA (Kd.N_afterv (ok := (fun k_ => (P0_ k_ ∨ w.heap.size ≤ k_) ∧ some k_ ≠ (.slice (some ad117) t112.length co54 : Value).ownBlock)) (by (with_reducible repeat (first | apply Kd.N_alloc | apply Kd.N_drewN | apply Kd.N_drew)); exact Kd.N_mono HQ55.out (fun _ hk => ⟨⟨hk.1, hk.2.2⟩, hk.2.1⟩)) hg hat); have n1_ := zA (Kd.R_after (ok := (fun k_ => (w.heap.size ≤ k_))) (by (with_reducible repeat (first | apply Kd.R_alloc | apply Kd.R_drewN | apply Kd.R_drew)); exact Kd.R_mono (Kd.R_far (p := ⟨go49, (x17_4 : Int).toNat * 5 + 2, none⟩) (Kd.R_types HO_15.out GG49.out (by decide)) (fun _ hk => hk.2) (.int .i64 (wrap64 (((rd_T71 x8_4 x17_4).f1) - (rd t112 x17_4))))) (fun _ hk => ⟨hk.1.1, hk.1.2⟩)) hg hat); have n2_ := zA (Kd.V_afterv (ok := (fun k_ => (P0_ k_ ∨ w.heap.size ≤ k_) ∧ some k_ ≠ (.slice (some ⟨go49, 0, none⟩) x8_4.length co52 : Value).ownBlock ∧ some k_ ≠ (.slice (some ad117) t112.length co54 : Value).ownBlock)) (by (with_reducible repeat (first | apply Kd.V_alloc | apply Kd.V_drewN | apply Kd.V_drew)); exact Kd.V_mono (Kd.V_far (p := ⟨go49, (x17_4 : Int).toNat * 5 + 2, none⟩) (Kd.V_mono HL116_4.out (fun k_ hk => (⟨hk, fun e_ => hk.2 (by rw [e_]; rfl)⟩ : _ ∧ k_ ≠ go49))) (fun _ hk => hk.2) (.int .i64 (wrap64 (((rd_T71 x8_4 x17_4).f1) - (rd t112 x17_4))))) (fun _ hk => ⟨⟨hk.1.1.1, ⟨hk.1.2, hk.1.1.2.2⟩⟩, hk.1.1.2.1⟩)) hg hat); have n3_ := zA (hb); have n4_ := zA (ho); clear HO_8 HO_15 HL116_4 HB HO_10; have HO_8 := n0_; have HO_15 := n1_; have HL116_4 := n2_; have HB := n3_; have HO122 := n4_; clear n0_ n1_ n2_ n3_ n4_ ho hb hg hat))
                          go_roundg k4
                          case measure => have := HJ3.out; have := HK2.out; have := HJ35.out; have := HK4.out; omega
                          case rel => exact ⟨(y118), (y120), (wrap64 (x17_4 + 1)), (by first | rfl | (simp; done) | (simp [*]; done)), H', ⟨by have := HJ3.out; have := HK2.out; have := HJ35.out; have := HK4.out; omega⟩, ⟨by (with_reducible repeat (first | apply Kd.N_alloc | apply Kd.N_drewN | apply Kd.N_drew)); exact Kd.N_mono HO_8.out (fun _ hk => ⟨hk.1.1, ⟨hk.2, hk.1.2⟩⟩)⟩, ⟨by (with_reducible repeat (first | apply Kd.R_alloc | apply Kd.R_drewN | apply Kd.R_drew)); exact HO122.out⟩, ⟨by (with_reducible repeat (first | apply Kd.R_alloc | apply Kd.R_drewN | apply Kd.R_drew)); exact HO_15.out⟩, ⟨qB⟩⟩
                        rw [if_neg c51] at H; exact absurd H (by simp)
                      rw [if_neg c48] at H; exact absurd H (by simp)
                    rw [if_neg c47] at H; exact absurd H (by simp)
                  rw [if_neg c46] at H; have c46b0 : decide (x17_4 < (x8_4.length : Int)) = false := zGq c46; clear c46; replace H := Option.bind_eq_some_iff.mp H; obtain ⟨⟨t123, t124⟩, A570, H⟩ := H; try dsimp only at H
                  have A57 := zA A570; clear A570; have H' := zA H; clear H; obtain ⟨Ao58, co58, eo58⟩ := Kd.N_slice HO_8.out; subst eo58; obtain ⟨Ao59, co59, eo59⟩ := Kd.R_slice HO_10.out; subst eo59; go_wp2_with (first | ((with_reducible refine zJq (f := 52) rfl ?_); refine goesL_ (some 127) rfl rfl Try.func52 (by kernel_rfl) rfl #[.int .i64 a2, .slice Ao59 x10_4.length co59] rfl qG ?_; (with_reducible refine (backhaulref03_Out.calls k4 a2 _ _ x10_4 t123 t124 _ ?side1 ?side2 A57.out).mono ?_); (case side1 => repeat (first | exact (Kd.R_reads' HO_10.out).2.2 | (with_reducible refine Kd.C_alloc ?_ _) | (with_reducible refine Kd.C_drewN ?_ _) | (with_reducible refine Kd.C_drew ?_))); (case side2 => exact (Kd.R_reads' HO_10.out).2.1); rintro e w60 ⟨v125, rfl, ho0, hb⟩; refine ⟨_, rfl, ?_⟩; have n0_ := zA (Kd.N_elder' (by (with_reducible repeat (first | apply Kd.N_alloc | apply Kd.N_drewN | apply Kd.N_drew)); exact HO_8.out) (Kd.R_base ho0) hb); have n1_ := zA (Kd.R_elder' (by (with_reducible repeat (first | apply Kd.R_alloc | apply Kd.R_drewN | apply Kd.R_drew)); exact HO_10.out) (Kd.R_base ho0) hb); have n2_ := zA (Kd.R_elder' (by (with_reducible repeat (first | apply Kd.R_alloc | apply Kd.R_drewN | apply Kd.R_drew)); exact HO_15.out) (Kd.R_base ho0) hb); have n3_ := zA (Kd.R_lower (Kd.R_new' (Kd.R_new' (Kd.R_newM (M := fun k_ => (w.heap.size ≤ k_)) ho0 (zW qB) (fun k_ h_ => h_)) (Kd.R_lt (by (with_reducible repeat (first | apply Kd.R_alloc | apply Kd.R_drewN | apply Kd.R_drew)); exact HO_10.out))) (Kd.R_lt (by (with_reducible repeat (first | apply Kd.R_alloc | apply Kd.R_drewN | apply Kd.R_drew)); exact HO_15.out))) (zW qB)); have n4_ := zA (zV qB hb); clear HO_8 HO_10 HO_15 HB; have HO_8 := n0_; have HO_10 := n1_; have HO_15 := n2_; have HO126 := n3_; have HB := n4_; clear n0_ n1_ n2_ n3_ n4_; (try clear hb); (try clear ho0))); go_loopg [20] k4 (fun kq v20 w' => ∃ (x8_5 : List (S71)) (x20_5 : Int), v20 = .int .i64 x20_5 ∧ Aside0 (backhaulref21_Deal.l2 kq x8_5 t123 x20_5 = some (r1, r2)) ∧ Aside0 (kq ≤ k4) ∧ Aside0 (Kd.N k71 71 w' w.heap.size (fun k_ => (P0_ k_ ∨ w.heap.size ≤ k_) ∧ some k_ ≠ (v125 : Value).ownBlock) (.slice Ao58 x8_4.length co58) x8_5) ∧ Aside0 (Kd.R (Kd.int .i64) 3 w' w.heap.size (fun k_ => (w.heap.size ≤ k_)) v125 t123) ∧ Aside0 (Below w.heap.size w w'))
                  case atStart => exact ⟨(x8_4), (0), (by first | rfl | (simp; done) | (simp [*]; done)), H', ⟨Nat.le_refl _⟩, ⟨by (with_reducible repeat (first | apply Kd.N_alloc | apply Kd.N_drewN | apply Kd.N_drew)); exact Kd.N_mono HO_8.out (fun _ hk => ⟨hk.1.1, hk.2⟩)⟩, ⟨by (with_reducible repeat (first | apply Kd.R_alloc | apply Kd.R_drewN | apply Kd.R_drew)); exact Kd.R_mono HO126.out (fun _ hk => hk.1.1.1)⟩, ⟨qB⟩⟩
                  case round =>
                    clear H'; try clear c1
                    try clear p1
                    try clear q1
                    try clear hx1
                    try clear p2
                    try clear c3
                    try clear c4
                    try clear p4
                    try clear q4
                    try clear hx4
                    try clear hf4
                    try clear c5
                    try clear c5b0
                    try clear c5b1
                    try clear c5b2
                    try clear p5
                    try clear q5
                    try clear c6
                    try clear p6
                    try clear c7
                    try clear c7b0
                    try clear c8
                    try clear c8b0
                    try clear c10
                    try clear c10b0
                    try clear c10b1
                    try clear p10
                    try clear q10
                    try clear hx10
                    try clear c11
                    try clear p11
                    try clear q11
                    try clear hx11
                    try clear c12
                    try clear c37
                    try clear c37b0
                    try clear c38
                    try clear c38b0
                    try clear c39
                    try clear c39b0
                    try clear c40
                    try clear c40b0
                    try clear c41
                    try clear c42
                    try clear c42b0
                    try clear c46
                    try clear c46b0
                    try clear c47
                    try clear c47b0
                    try clear c48
                    try clear c48b0
                    try clear c49
                    try clear p49
                    try clear q49
                    try clear hx49
                    try clear hf49
                    try clear p50
                    try clear q50
                    try clear c51
                    try clear c52
                    try clear c55
                    try clear hcz34_0
                    try clear hcz34_1
                    try clear hcz34_2
                    try clear hcz34_3
                    try clear hcz34_4
                    try clear hfz34_0
                    try clear hfz34_1
                    try clear hfz34_2
                    try clear hfz34_3
                    try clear hfz34_4
                    try clear hx101_0
                    try clear hx101_1
                    try clear hx101_2
                    try clear hx101_3
                    try clear hx101_4
                    try clear hx116_0
                    try clear hx116_1
                    try clear hx116_2
                    try clear hx116_3
                    try clear hx116_4
                    try clear hx117_0
                    try clear hx49_0
                    try clear hx49_1
                    try clear hx49_2
                    try clear hx49_3
                    try clear hx49_4
                    try clear p1
                    try clear p10
                    try clear p101
                    try clear p116
                    try clear p117
                    try clear p2
                    try clear p49
                    try clear p50
                    try clear p6
                    try clear q1
                    try clear q10
                    try clear q101
                    try clear q116
                    try clear q117
                    try clear q49
                    try clear q50
                    obtain ⟨x8_5, x20_5, rfl, HA, HK5, HO_8, HO_18, HB⟩ := hrel; have hl8_5 := (Kd.N_reads' HO_8.out).1; rw [hl8_5] at HO_8; (try simp only [hl8_5])
                    (try simp only [hl8_5] at HO_18)
                    cases gk with
                    | zero => exact absurd HA.out (by simp [backhaulref21_Deal.l2])
                    | succ k5 =>
                      have H := HA.out; clear HA; simp only [backhaulref21_Deal.l2] at H; by_cases c61 : x20_5 < (x8_5.length : Int)
                      · rw [if_pos c61] at H
                        have c61b0 : decide (x20_5 < (x8_5.length : Int)) = true := zFq c61; clear c61; by_cases c62 : 0 ≤ x20_5
                        · rw [if_pos c62] at H
                          have c62b0 : decide (0 ≤ x20_5) = true := zFq c62; clear c62; by_cases c63 : x20_5 < (t123.length : Int)
                          · rw [if_pos c63] at H
                            have c63b0 : decide (x20_5 < (t123.length : Int)) = true := zFq c63; try have c63e8_5 : decide (x20_5 < (x8_5.length : Int)) = true := by rw [← hl8_5]; exact c63b0
                            clear c63; obtain ⟨y128, hy128⟩ : ∃ y_ : List (S71), y_ = (x8_5.set (x20_5 : Int).toNat (⟨(rd_T71 x8_5 x20_5).f0, (rd_T71 x8_5 x20_5).f1, (rd_T71 x8_5 x20_5).f2, rd t123 x20_5, (rd_T71 x8_5 x20_5).f4⟩ : S71)) := ⟨_, rfl⟩
                            replace H : ((backhaulref21_Check.f k5 ((rd_T71 y128 x20_5).f0) ((rd_T71 y128 x20_5).f1) ((rd_T71 y128 x20_5).f2) ((rd_T71 y128 x20_5).f3) ((rd_T71 y128 x20_5).f4)).bind fun t130 => (if t130 = 0 then (backhaulref21_Deal.l2 k5 y128 t123 (wrap64 (x20_5 + 1))) else (some (([] : List (S71)), 8)))) = some (r1, r2) := by first | (rw [hy128]; with_reducible exact H) | (have H2_ := (Option.bind_some _ _).symm.trans H; rw [hy128]; with_reducible exact H2_) | (have H2_ := (Option.bind_some _ _).symm.trans H; with_reducible exact H2_) | with_reducible exact H | (rw [hy128]; exact H) | exact H
                            have Ny128 := zA hy128; clear hy128; replace H := Option.bind_eq_some_iff.mp H; obtain ⟨t130, A650, H⟩ := H; try dsimp only at H
                            have A65 := zA A650; clear A650; by_cases c66 : t130 = 0
                            · rw [if_pos c66] at H
                              have c66b0 : (t130 == 0) = true := beq_iff_eq.mpr c66; have c66b1 : (t130 != 0) = false := bne_eq_false_iff_eq.mpr c66; clear c66; have H' := zA H; clear H; obtain ⟨Ao67, co67, eo67⟩ := Kd.R_slice HO_18.out; subst eo67; have p127 : 0 ≤ (x20_5 : Int) := of_decide_eq_true qA; have q127 : x20_5 < (t123.length : Int) := of_decide_eq_true qA; obtain ⟨ad127, e127, hx127_0⟩ := Kd.at_int (Kd.R_reads' HO_18.out).2.2 x20_5 p127 q127; cases e127
                              replace p127 := eq_true p127; replace q127 := eq_true q127; have p64 : 0 ≤ (x20_5 : Int) := of_decide_eq_true qA; have q64 : (x20_5 : Int) < ((x8_5.length : Int) : Int) := of_decide_eq_true qA; obtain ⟨go64, co64, eo64, gb64, gl64, cl64, HG64⟩ := Kd.N_form HO_8.out (by omega); (first | cases eo64 | (injection eo64 with ea_ en_ ec_; (first | subst ea_ | (injection ea_ with ea_; subst ea_)); subst ec_; clear en_))
                              have GB64 := zA gb64; have GG64 := zA HG64; clear gb64 gl64 HG64; obtain ⟨ce64, hcl64, hM64, hcc64, hfr64⟩ := Kd.N_elem HO_8.out z71 (x20_5 : Int) p64 q64; obtain ⟨ua64_4, uc64_4, rfl, ul64_4, ge64_4⟩ := k71_openF hM64; have hx64_0 : wr.cell? ⟨go64, (x20_5 : Int).toNat * 5, none⟩ = some (.int .i64 ((rd_T71 x8_5 x20_5).f0)) := hcc64 0 _ rfl; have hx64_1 : wr.cell? ⟨go64, (x20_5 : Int).toNat * 5 + 1, none⟩ = some (.int .i64 ((rd_T71 x8_5 x20_5).f1)) := hcc64 1 _ rfl; have hx64_2 : wr.cell? ⟨go64, (x20_5 : Int).toNat * 5 + 2, none⟩ = some (.int .i64 ((rd_T71 x8_5 x20_5).f2)) := hcc64 2 _ rfl; have hx64_3 : wr.cell? ⟨go64, (x20_5 : Int).toNat * 5 + 3, none⟩ = some (.int .i64 ((rd_T71 x8_5 x20_5).f3)) := hcc64 3 _ rfl; have hx64_4 : wr.cell? ⟨go64, (x20_5 : Int).toNat * 5 + 4, none⟩ = some (.slice ua64_4 ((rd_T71 x8_5 x20_5).f4).length uc64_4) := hcc64 4 _ rfl; have hf64_0 : wr.frozen? ⟨go64, (x20_5 : Int).toNat * 5, none⟩ = false := hfr64 0; have hf64_1 : wr.frozen? ⟨go64, (x20_5 : Int).toNat * 5 + 1, none⟩ = false := hfr64 1; have hf64_2 : wr.frozen? ⟨go64, (x20_5 : Int).toNat * 5 + 2, none⟩ = false := hfr64 2; have hf64_3 : wr.frozen? ⟨go64, (x20_5 : Int).toNat * 5 + 3, none⟩ = false := hfr64 3; have hf64_4 : wr.frozen? ⟨go64, (x20_5 : Int).toNat * 5 + 4, none⟩ = false := hfr64 4; clear hcl64 hcc64 hfr64 hM64; replace p64 := eq_true p64; replace q64 := eq_true q64; have HX68 := zA (show Kd.N k71 71 wr w.heap.size (fun k_ => (P0_ k_ ∨ w.heap.size ≤ k_) ∧ some k_ ≠ (.slice (some ad127) t123.length co67 : Value).ownBlock) (.slice (some ⟨go64, 0, none⟩) x8_5.length co58) x8_5 from (by (with_reducible repeat (first | apply Kd.N_alloc | apply Kd.N_drewN | apply Kd.N_drew)); exact HO_8.out)); obtain ⟨ce68, hcl68, hM68, hcc68, hfr68⟩ := Kd.N_elem HX68.out z71 (x20_5 : Int) (of_decide_eq_true qA) (by have h_ : (x20_5 : Int) < ((x8_5.length : Int) : Int) := of_decide_eq_true qA; first | exact h_ | (have e_ := (Kd.N_reads' HO_8.out).1; omega) | simpa using h_); obtain ⟨ua68_4, uc68_4, rfl, ul68_4, ge68_4⟩ := k71_openF hM68; have HP68 := Kd.N_seg HX68.out (x20_5 : Int) (of_decide_eq_true qA) (by have h_ : (x20_5 : Int) < ((x8_5.length : Int) : Int) := of_decide_eq_true qA; first | exact h_ | (have e_ := (Kd.N_reads' HO_8.out).1; omega) | simpa using h_) (seg := [.int .i64 (rd t123 x20_5)]) (j := 3) hcl68 hcc68 (show 4 ≤ 5 from by decide) (x' := (⟨(rd_T71 x8_5 x20_5).f0, (rd_T71 x8_5 x20_5).f1, (rd_T71 x8_5 x20_5).f2, rd t123 x20_5, (rd_T71 x8_5 x20_5).f4⟩ : S71)) (k71_mkF _ _ (⟨(rd_T71 x8_5 x20_5).f0, (rd_T71 x8_5 x20_5).f1, (rd_T71 x8_5 x20_5).f2, rd t123 x20_5, (rd_T71 x8_5 x20_5).f4⟩ : S71) ul68_4 ge68_4) (fun _ hk => hk); have hx68_3 := hcc68 3 _ rfl; (try simp only [show (k71).sz = 5 from rfl, Nat.mul_one, Nat.add_zero] at hx68_3)
                              have hf68_3 := hfr68 3; (try simp only [show (k71).sz = 5 from rfl, Nat.mul_one, Nat.add_zero] at hf68_3)
                              clear hcl68 hcc68 hfr68 hM68; go_wp2_with (first | ((with_reducible refine gate_store (t := 3) (p := 143) rfl ?_); refine store_event (t := 3) (p := 143) (v := ?vo_w69) (w1 := (wr.setCell ⟨go64, (x20_5 : Int).toNat * 5 + 3, none⟩ (.int .i64 (rd t123 x20_5)))) ?hg ?ho ?hn ?hr ?_; (case ho => rfl); (case hg => rfl); (case hn => rfl); (case hr => first | (go_simp; done) | (go_simp; rfl)); intro w69 hw; have hg : wr.grownBy w69 (some go64) := (by rw [hw]; exact HP68.2); have hp_ : Kd.N k71 71 w69 w.heap.size (fun k_ => (P0_ k_ ∨ w.heap.size ≤ k_) ∧ some k_ ≠ (.slice (some ad127) t123.length co67 : Value).ownBlock) (.slice (some ⟨go64, 0, none⟩) x8_5.length co58) y128 := (by rw [hw, Ny128.out]; exact HP68.1); clear HP68; have n0_ := zA (hp_); have n1_ := zA (Kd.R_over' (v := (.slice (some ⟨go64, 0, none⟩) x8_5.length co58)) (by (with_reducible repeat (first | apply Kd.R_alloc | apply Kd.R_drewN | apply Kd.R_drew)); exact HO_18.out) (Kd.N_typed HO_8.out) (by decide) hg); have n2_ := zA ((by rw [hw]; exact zE (HB.out) GB64.out : Below w.heap.size w w69)); clear HO_8 HO_18 HB; have HO_8 := n0_; have HO_18 := n1_; have HB := n2_; clear n0_ n1_ n2_ hg hw hp_; have p129 : 0 ≤ (x20_5 : Int) := of_decide_eq_true qA; have q129 : x20_5 < (y128.length : Int) := (by have h_ : (x20_5 : Int) < ((x8_5.length : Int) : Int) := of_decide_eq_true qA; first | (have e_ := (Kd.N_reads' HO_8.out).1; omega) | simpa only [Ny128.out, List.length_set] using h_); have ql129 : ((x20_5 : Int) < ((x8_5.length : Int) : Int)) = True := eq_true (of_decide_eq_true qA); obtain ⟨ad129, A129_4, c129_4, e129, hx129_0, hx129_1, hx129_2, hx129_3, hx129_4, hl129_4, hi129_4⟩ := at_T71 (Kd.N_reads' HO_8.out).2.2 x20_5 p129 q129; obtain rfl : (⟨go64, 0, none⟩ : Addr) = ad129 := (by injection e129); obtain ⟨ce129, hce129, hMe129, hcc129⟩ := Kd.N_get HO_8.out z71 x20_5 p129 (by first | exact q129 | exact of_decide_eq_true qA | (have e_ := (Kd.N_reads' HO_8.out).1; omega)); obtain ⟨ua129_4, uc129_4, rfl, ul129_4, ge129_4⟩ := k71_openF hMe129; have hv129_4 := hcc129 4 _ rfl; rw [add_field _ _ 4 (by omega)] at hv129_4; replace hv129_4 := zKq (hv129_4.symm.trans hx129_4); injection hv129_4 with hva_ hvn_ hvc_; rw [hva_] at ge129_4; rw [hvc_] at ul129_4; have HL129_4 := zA (show Kd.V Kd.string 9 _ w.heap.size _ _ ((rd_T71 y128 x20_5).f4) from Kd.V_mk ul129_4 ge129_4); clear hva_ hvn_ hvc_ ge129_4 ul129_4 hcc129 hce129; (first | simp only [add_plain] at hx129_0 | simp only [add_at] at hx129_0 | simp only [Addr.add, Nat.zero_add] at hx129_0 | skip); (first | simp only [add_plain] at hx129_1 | simp only [add_at] at hx129_1 | simp only [Addr.add, Nat.zero_add] at hx129_1 | skip); (first | simp only [add_plain] at hx129_2 | simp only [add_at] at hx129_2 | simp only [Addr.add, Nat.zero_add] at hx129_2 | skip); (first | simp only [add_plain] at hx129_3 | simp only [add_at] at hx129_3 | simp only [Addr.add, Nat.zero_add] at hx129_3 | skip); (first | simp only [add_plain] at hx129_4 | simp only [add_at] at hx129_4 | simp only [Addr.add, Nat.zero_add] at hx129_4 | skip); have HR129_4 := zA hi129_4; have HC129_4 := zA hl129_4; clear hi129_4 hl129_4; replace p129 := eq_true p129; replace q129 := eq_true q129) | ((with_reducible refine zJq (f := 70) rfl ?_); refine goesL_ (some 148) rfl rfl Try.func70 (by kernel_rfl) rfl #[.agg #[.int .i64 ((rd_T71 y128 x20_5).f0), .int .i64 ((rd_T71 y128 x20_5).f1), .int .i64 ((rd_T71 y128 x20_5).f2), .int .i64 ((rd_T71 y128 x20_5).f3), .slice A129_4 ((rd_T71 y128 x20_5).f4).length c129_4]] rfl qG ?_; (with_reducible refine (backhaulref21_Check.calls k5 ((rd_T71 y128 x20_5).f0) ((rd_T71 y128 x20_5).f1) ((rd_T71 y128 x20_5).f2) ((rd_T71 y128 x20_5).f3) _ _ ((rd_T71 y128 x20_5).f4) t130 _ ?side1 ?side2 A65.out).mono ?_); (case side1 => repeat (first | exact (by repeat (first | (with_reducible exact HR129_4.out) | (with_reducible refine Kd.C_alloc ?_ _) | (with_reducible refine Kd.C_drewN ?_ _) | (with_reducible refine Kd.C_drew ?_) | exact HR129_4.out)) | (with_reducible refine Kd.C_alloc ?_ _) | (with_reducible refine Kd.C_drewN ?_ _) | (with_reducible refine Kd.C_drew ?_))); (case side2 => exact HC129_4.out); rintro e w70 ⟨rfl, hb⟩; refine ⟨_, rfl, ?_⟩; have n0_ := zA (Kd.N_below (by (with_reducible repeat (first | apply Kd.N_alloc | apply Kd.N_drewN | apply Kd.N_drew)); exact HO_8.out) hb); have n1_ := zA (Kd.R_below (by (with_reducible repeat (first | apply Kd.R_alloc | apply Kd.R_drewN | apply Kd.R_drew)); exact HO_18.out) hb); have n2_ := zA (Kd.V_below (by (with_reducible repeat (first | apply Kd.V_alloc | apply Kd.V_drewN | apply Kd.V_drew)); exact HL129_4.out) hb); have n3_ := zA (Kd.C_below (by repeat (first | (with_reducible exact HR129_4.out) | (with_reducible refine Kd.C_alloc ?_ _) | (with_reducible refine Kd.C_drewN ?_ _) | (with_reducible refine Kd.C_drew ?_) | exact HR129_4.out)) hb); have n4_ := zA (zV qB hb); clear HO_8 HO_18 HL129_4 HR129_4 HB; have HO_8 := n0_; have HO_18 := n1_; have HL129_4 := n2_; have HR129_4 := n3_; have HB := n4_; clear n0_ n1_ n2_ n3_ n4_; (try clear hb)))
                              (try simp only [← hl8_5])
                              go_roundg k5
                              case measure => have := HJ3.out; have := HK2.out; have := HJ35.out; have := HK4.out; have := HK5.out; omega
                              case rel => exact ⟨(y128), (wrap64 (x20_5 + 1)), (by first | rfl | (simp; done) | (simp [*]; done)), H', ⟨by have := HJ3.out; have := HK2.out; have := HJ35.out; have := HK4.out; have := HK5.out; omega⟩, ⟨by (try simp only [hl8_5]); (with_reducible repeat (first | apply Kd.N_alloc | apply Kd.N_drewN | apply Kd.N_drew)); exact HO_8.out⟩, ⟨by (try simp only [hl8_5]); (with_reducible repeat (first | apply Kd.R_alloc | apply Kd.R_drewN | apply Kd.R_drew)); exact HO_18.out⟩, ⟨qB⟩⟩
                            rw [if_neg c66] at H; have c66b0 : (t130 == 0) = false := beq_eq_false_iff_ne.mpr c66; have c66b1 : (t130 != 0) = true := bne_iff_ne.mpr c66; simp only [zNq, zOq] at H; obtain ⟨rfl, rfl⟩ := H; obtain ⟨Ao71, co71, eo71⟩ := Kd.R_slice HO_18.out; subst eo71; have p127 : 0 ≤ (x20_5 : Int) := of_decide_eq_true qA; have q127 : x20_5 < (t123.length : Int) := of_decide_eq_true qA; obtain ⟨ad127, e127, hx127_0⟩ := Kd.at_int (Kd.R_reads' HO_18.out).2.2 x20_5 p127 q127; cases e127
                            replace p127 := eq_true p127; replace q127 := eq_true q127; have p64 : 0 ≤ (x20_5 : Int) := of_decide_eq_true qA; have q64 : (x20_5 : Int) < ((x8_5.length : Int) : Int) := of_decide_eq_true qA; obtain ⟨go64, co64, eo64, gb64, gl64, cl64, HG64⟩ := Kd.N_form HO_8.out (by omega); (first | cases eo64 | (injection eo64 with ea_ en_ ec_; (first | subst ea_ | (injection ea_ with ea_; subst ea_)); subst ec_; clear en_))
                            have GB64 := zA gb64; have GG64 := zA HG64; clear gb64 gl64 HG64; obtain ⟨ce64, hcl64, hM64, hcc64, hfr64⟩ := Kd.N_elem HO_8.out z71 (x20_5 : Int) p64 q64; obtain ⟨ua64_4, uc64_4, rfl, ul64_4, ge64_4⟩ := k71_openF hM64; have hx64_0 : wr.cell? ⟨go64, (x20_5 : Int).toNat * 5, none⟩ = some (.int .i64 ((rd_T71 x8_5 x20_5).f0)) := hcc64 0 _ rfl; have hx64_1 : wr.cell? ⟨go64, (x20_5 : Int).toNat * 5 + 1, none⟩ = some (.int .i64 ((rd_T71 x8_5 x20_5).f1)) := hcc64 1 _ rfl; have hx64_2 : wr.cell? ⟨go64, (x20_5 : Int).toNat * 5 + 2, none⟩ = some (.int .i64 ((rd_T71 x8_5 x20_5).f2)) := hcc64 2 _ rfl; have hx64_3 : wr.cell? ⟨go64, (x20_5 : Int).toNat * 5 + 3, none⟩ = some (.int .i64 ((rd_T71 x8_5 x20_5).f3)) := hcc64 3 _ rfl; have hx64_4 : wr.cell? ⟨go64, (x20_5 : Int).toNat * 5 + 4, none⟩ = some (.slice ua64_4 ((rd_T71 x8_5 x20_5).f4).length uc64_4) := hcc64 4 _ rfl; have hf64_0 : wr.frozen? ⟨go64, (x20_5 : Int).toNat * 5, none⟩ = false := hfr64 0; have hf64_1 : wr.frozen? ⟨go64, (x20_5 : Int).toNat * 5 + 1, none⟩ = false := hfr64 1; have hf64_2 : wr.frozen? ⟨go64, (x20_5 : Int).toNat * 5 + 2, none⟩ = false := hfr64 2; have hf64_3 : wr.frozen? ⟨go64, (x20_5 : Int).toNat * 5 + 3, none⟩ = false := hfr64 3; have hf64_4 : wr.frozen? ⟨go64, (x20_5 : Int).toNat * 5 + 4, none⟩ = false := hfr64 4; clear hcl64 hcc64 hfr64 hM64; replace p64 := eq_true p64; replace q64 := eq_true q64; have HX72 := zA (show Kd.N k71 71 wr w.heap.size (fun k_ => (P0_ k_ ∨ w.heap.size ≤ k_) ∧ some k_ ≠ (.slice (some ad127) t123.length co71 : Value).ownBlock) (.slice (some ⟨go64, 0, none⟩) x8_5.length co58) x8_5 from (by (with_reducible repeat (first | apply Kd.N_alloc | apply Kd.N_drewN | apply Kd.N_drew)); exact HO_8.out)); obtain ⟨ce72, hcl72, hM72, hcc72, hfr72⟩ := Kd.N_elem HX72.out z71 (x20_5 : Int) (of_decide_eq_true qA) (by have h_ : (x20_5 : Int) < ((x8_5.length : Int) : Int) := of_decide_eq_true qA; first | exact h_ | (have e_ := (Kd.N_reads' HO_8.out).1; omega) | simpa using h_); obtain ⟨ua72_4, uc72_4, rfl, ul72_4, ge72_4⟩ := k71_openF hM72; have HP72 := Kd.N_seg HX72.out (x20_5 : Int) (of_decide_eq_true qA) (by have h_ : (x20_5 : Int) < ((x8_5.length : Int) : Int) := of_decide_eq_true qA; first | exact h_ | (have e_ := (Kd.N_reads' HO_8.out).1; omega) | simpa using h_) (seg := [.int .i64 (rd t123 x20_5)]) (j := 3) hcl72 hcc72 (show 4 ≤ 5 from by decide) (x' := (⟨(rd_T71 x8_5 x20_5).f0, (rd_T71 x8_5 x20_5).f1, (rd_T71 x8_5 x20_5).f2, rd t123 x20_5, (rd_T71 x8_5 x20_5).f4⟩ : S71)) (k71_mkF _ _ (⟨(rd_T71 x8_5 x20_5).f0, (rd_T71 x8_5 x20_5).f1, (rd_T71 x8_5 x20_5).f2, rd t123 x20_5, (rd_T71 x8_5 x20_5).f4⟩ : S71) ul72_4 ge72_4) (fun _ hk => hk); have hx72_3 := hcc72 3 _ rfl; (try simp only [show (k71).sz = 5 from rfl, Nat.mul_one, Nat.add_zero] at hx72_3)
                            have hf72_3 := hfr72 3; (try simp only [show (k71).sz = 5 from rfl, Nat.mul_one, Nat.add_zero] at hf72_3)
                            clear hcl72 hcc72 hfr72 hM72; go_wp2_with (first | ((with_reducible refine gate_store (t := 3) (p := 143) rfl ?_); refine store_event (t := 3) (p := 143) (v := ?vo_w73) (w1 := (wr.setCell ⟨go64, (x20_5 : Int).toNat * 5 + 3, none⟩ (.int .i64 (rd t123 x20_5)))) ?hg ?ho ?hn ?hr ?_; (case ho => rfl); (case hg => rfl); (case hn => rfl); (case hr => first | (go_simp; done) | (go_simp; rfl)); intro w73 hw; have hg : wr.grownBy w73 (some go64) := (by rw [hw]; exact HP72.2); have hp_ : Kd.N k71 71 w73 w.heap.size (fun k_ => (P0_ k_ ∨ w.heap.size ≤ k_) ∧ some k_ ≠ (.slice (some ad127) t123.length co71 : Value).ownBlock) (.slice (some ⟨go64, 0, none⟩) x8_5.length co58) y128 := (by rw [hw, Ny128.out]; exact HP72.1); clear HP72; have n0_ := zA (hp_); have n1_ := zA (Kd.R_over' (v := (.slice (some ⟨go64, 0, none⟩) x8_5.length co58)) (by (with_reducible repeat (first | apply Kd.R_alloc | apply Kd.R_drewN | apply Kd.R_drew)); exact HO_18.out) (Kd.N_typed HO_8.out) (by decide) hg); have n2_ := zA ((by rw [hw]; exact zE (HB.out) GB64.out : Below w.heap.size w w73)); clear HO_8 HO_18 HB; have HO_8 := n0_; have HO_18 := n1_; have HB := n2_; clear n0_ n1_ n2_ hg hw hp_; have p129 : 0 ≤ (x20_5 : Int) := of_decide_eq_true qA; have q129 : x20_5 < (y128.length : Int) := (by have h_ : (x20_5 : Int) < ((x8_5.length : Int) : Int) := of_decide_eq_true qA; first | (have e_ := (Kd.N_reads' HO_8.out).1; omega) | simpa only [Ny128.out, List.length_set] using h_); have ql129 : ((x20_5 : Int) < ((x8_5.length : Int) : Int)) = True := eq_true (of_decide_eq_true qA); obtain ⟨ad129, A129_4, c129_4, e129, hx129_0, hx129_1, hx129_2, hx129_3, hx129_4, hl129_4, hi129_4⟩ := at_T71 (Kd.N_reads' HO_8.out).2.2 x20_5 p129 q129; obtain rfl : (⟨go64, 0, none⟩ : Addr) = ad129 := (by injection e129); obtain ⟨ce129, hce129, hMe129, hcc129⟩ := Kd.N_get HO_8.out z71 x20_5 p129 (by first | exact q129 | exact of_decide_eq_true qA | (have e_ := (Kd.N_reads' HO_8.out).1; omega)); obtain ⟨ua129_4, uc129_4, rfl, ul129_4, ge129_4⟩ := k71_openF hMe129; have hv129_4 := hcc129 4 _ rfl; rw [add_field _ _ 4 (by omega)] at hv129_4; replace hv129_4 := zKq (hv129_4.symm.trans hx129_4); injection hv129_4 with hva_ hvn_ hvc_; rw [hva_] at ge129_4; rw [hvc_] at ul129_4; have HL129_4 := zA (show Kd.V Kd.string 9 _ w.heap.size _ _ ((rd_T71 y128 x20_5).f4) from Kd.V_mk ul129_4 ge129_4); clear hva_ hvn_ hvc_ ge129_4 ul129_4 hcc129 hce129; (first | simp only [add_plain] at hx129_0 | simp only [add_at] at hx129_0 | simp only [Addr.add, Nat.zero_add] at hx129_0 | skip); (first | simp only [add_plain] at hx129_1 | simp only [add_at] at hx129_1 | simp only [Addr.add, Nat.zero_add] at hx129_1 | skip); (first | simp only [add_plain] at hx129_2 | simp only [add_at] at hx129_2 | simp only [Addr.add, Nat.zero_add] at hx129_2 | skip); (first | simp only [add_plain] at hx129_3 | simp only [add_at] at hx129_3 | simp only [Addr.add, Nat.zero_add] at hx129_3 | skip); (first | simp only [add_plain] at hx129_4 | simp only [add_at] at hx129_4 | simp only [Addr.add, Nat.zero_add] at hx129_4 | skip); have HR129_4 := zA hi129_4; have HC129_4 := zA hl129_4; clear hi129_4 hl129_4; replace p129 := eq_true p129; replace q129 := eq_true q129) | ((with_reducible refine zJq (f := 70) rfl ?_); refine goesL_ (some 148) rfl rfl Try.func70 (by kernel_rfl) rfl #[.agg #[.int .i64 ((rd_T71 y128 x20_5).f0), .int .i64 ((rd_T71 y128 x20_5).f1), .int .i64 ((rd_T71 y128 x20_5).f2), .int .i64 ((rd_T71 y128 x20_5).f3), .slice A129_4 ((rd_T71 y128 x20_5).f4).length c129_4]] rfl qG ?_; (with_reducible refine (backhaulref21_Check.calls k5 ((rd_T71 y128 x20_5).f0) ((rd_T71 y128 x20_5).f1) ((rd_T71 y128 x20_5).f2) ((rd_T71 y128 x20_5).f3) _ _ ((rd_T71 y128 x20_5).f4) t130 _ ?side1 ?side2 A65.out).mono ?_); (case side1 => repeat (first | exact (by repeat (first | (with_reducible exact HR129_4.out) | (with_reducible refine Kd.C_alloc ?_ _) | (with_reducible refine Kd.C_drewN ?_ _) | (with_reducible refine Kd.C_drew ?_) | exact HR129_4.out)) | (with_reducible refine Kd.C_alloc ?_ _) | (with_reducible refine Kd.C_drewN ?_ _) | (with_reducible refine Kd.C_drew ?_))); (case side2 => exact HC129_4.out); rintro e w74 ⟨rfl, hb⟩; refine ⟨_, rfl, ?_⟩; have n0_ := zA (Kd.N_below (by (with_reducible repeat (first | apply Kd.N_alloc | apply Kd.N_drewN | apply Kd.N_drew)); exact HO_8.out) hb); have n1_ := zA (Kd.R_below (by (with_reducible repeat (first | apply Kd.R_alloc | apply Kd.R_drewN | apply Kd.R_drew)); exact HO_18.out) hb); have n2_ := zA (Kd.V_below (by (with_reducible repeat (first | apply Kd.V_alloc | apply Kd.V_drewN | apply Kd.V_drew)); exact HL129_4.out) hb); have n3_ := zA (Kd.C_below (by repeat (first | (with_reducible exact HR129_4.out) | (with_reducible refine Kd.C_alloc ?_ _) | (with_reducible refine Kd.C_drewN ?_ _) | (with_reducible refine Kd.C_drew ?_) | exact HR129_4.out)) hb); have n4_ := zA (zV qB hb); clear HO_8 HO_18 HL129_4 HR129_4 HB; have HO_8 := n0_; have HO_18 := n1_; have HL129_4 := n2_; have HR129_4 := n3_; have HB := n4_; clear n0_ n1_ n2_ n3_ n4_; (try clear hb)))
                            go_ret2; exact ⟨_, qE, by first | exact Kd.S_nil _ _ _ _ _ | exact Kd.N_nil _ _ _ _ _ | exact Kd.V_nil _ _ _ _ _ | exact Kd.Q_nil _ _ _ _ _ | exact Kd.R_nil _ _ _ _ _, qB⟩
                          rw [if_neg c63] at H; exact absurd H (by simp)
                        rw [if_neg c62] at H; exact absurd H (by simp)
                      rw [if_neg c61] at H; have c61b0 : decide (x20_5 < (x8_5.length : Int)) = false := zGq c61; clear c61; simp only [zNq, zOq] at H; obtain ⟨rfl, rfl⟩ := H; go_wp2; go_ret2; exact ⟨_, qE, by (with_reducible repeat (first | apply Kd.N_alloc | apply Kd.N_drewN | apply Kd.N_drew)); exact Kd.N_mono HO_8.out (fun _ hk => hk.1), qB⟩
def backhaulref01_SameTexts.l0 : Nat → List ByteArray → List ByteArray → Int → Option (Bool)
  | 0, _, _, _ => none
  | k + 1, x0, x1, x5 => if x5 < (x0.length : Int) then (if 0 ≤ x5 then (if x5 < (x1.length : Int) then (if (rdOf ByteArray.empty x0 x5).toList = (rdOf ByteArray.empty x1 x5).toList then (backhaulref01_SameTexts.l0 k x0 x1 (wrap64 (x5 + 1))) else (some false)) else (none)) else (none)) else (some true)
def backhaulref01_SameTexts.f (k : Nat) (l0 : List ByteArray) (l1 : List ByteArray) : Option (Bool) := if (l0.length : Int) = (l1.length : Int) then (backhaulref01_SameTexts.l0 k l0 l1 0) else (some false)
theorem backhaulref01_SameTexts.mono_l : ∀ k, (∀ y0 y1 y2, LeO (backhaulref01_SameTexts.l0 k y0 y1 y2) (backhaulref01_SameTexts.l0 (k + 1) y0 y1 y2))
  | 0 => fun _ _ _ r h => by simp [backhaulref01_SameTexts.l0] at h
  | k + 1 => by
    have ih0 := backhaulref01_SameTexts.mono_l k
    intro y0 y1 y2
    unfold backhaulref01_SameTexts.l0
    repeat' (with_reducible first | exact ih0 _ _ _ | exact LeO.refl _ | exact LeO.none _ | refine LeO.ite ?_ ?_ | refine LeO.bind ?_ (fun _ => ?_))
theorem backhaulref01_SameTexts.mono : ∀ a0 a1 k, LeO (backhaulref01_SameTexts.f k a0 a1) (backhaulref01_SameTexts.f (k + 1) a0 a1) := by
  intro a0 a1 k
  have ih0 := backhaulref01_SameTexts.mono_l k
  unfold backhaulref01_SameTexts.f
  repeat' (with_reducible first | exact ih0 _ _ _ | exact LeO.refl _ | exact LeO.none _ | refine LeO.ite ?_ ?_ | refine LeO.bind ?_ (fun _ => ?_))
set_option maxHeartbeats 8000000 in
set_option maxRecDepth 100000 in
theorem backhaulref01_SameTexts.calls (k : Nat) (A0 : Option Addr) (c0 : Nat) (l0 : List ByteArray) (A1 : Option Addr) (c1 : Nat) (l1 : List ByteArray) (r : Bool) (w : World) (hr0 : Kd.C Kd.string w A0 l0.length l0) (hc0 : l0.length ≤ c0) (hr1 : Kd.C Kd.string w A1 l1.length l1) (hc1 : l1.length ≤ c1) (h : backhaulref01_SameTexts.f k l0 l1 = some r) :
    Calls Try.prog 92 #[.slice A0 l0.length c0, .slice A1 l1.length c1] w fun e w' => e = .returned (.bool r) ∧ Drawn0 w w' := by
  have HR0 := zA hr0
  have HC0 := zA hc0
  clear hr0 hc0
  have HR1 := zA hr1
  have HC1 := zA hc1
  clear hr1 hc1
  have H : (if (l0.length : Int) = (l1.length : Int) then (backhaulref01_SameTexts.l0 k l0 l1 0) else (some false)) = some r := h
  clear h
  by_cases c3 : (l0.length : Int) = (l1.length : Int)
  · rw [if_pos c3] at H
    have c3b0 : ((l0.length : Int) == (l1.length : Int)) = true := beq_iff_eq.mpr c3; have c3b1 : ((l0.length : Int) != (l1.length : Int)) = false := bne_eq_false_iff_eq.mpr c3; have c3b2 : (l0.length == l1.length) = true := by first | simpa using c3 | (simp at c3 ⊢; omega)
    clear c3; have H' := zA H; clear H; go_enter Try.func92, Try.ntmps92; go_wp2; repeat (go_quiet (fail); try go_wp2)
    go_loopg [5] k (fun kq v5 w' => ∃ (x5_1 : Int), v5 = .int .i64 x5_1 ∧ Aside0 (backhaulref01_SameTexts.l0 kq l0 l1 x5_1 = some r) ∧ Aside0 (kq ≤ k) ∧ Drawn0 w w')
    case atStart => exact ⟨(0), (by first | rfl | (simp; done) | (simp [*]; done)), H', ⟨Nat.le_refl _⟩, by repeat (first | exact Drawn0.refl _ | apply Drawn0.step)⟩
    case round =>
      clear H'; try clear c1
      try clear p2
      try clear c3
      try clear c3b0
      try clear c3b1
      try clear c3b2
      obtain ⟨x5_1, rfl, HA, HK1, ⟨m1, rfl⟩⟩ := hrel; cases gk with
      | zero => exact absurd HA.out (by simp [backhaulref01_SameTexts.l0])
      | succ k1 =>
        have H := HA.out; clear HA; simp only [backhaulref01_SameTexts.l0] at H; by_cases c4 : x5_1 < (l0.length : Int)
        · rw [if_pos c4] at H
          have c4b0 : decide (x5_1 < (l0.length : Int)) = true := zFq c4; clear c4; by_cases c5 : 0 ≤ x5_1
          · rw [if_pos c5] at H
            have c5b0 : decide (0 ≤ x5_1) = true := zFq c5; clear c5; by_cases c6 : x5_1 < (l1.length : Int)
            · rw [if_pos c6] at H
              have c6b0 : decide (x5_1 < (l1.length : Int)) = true := zFq c6; clear c6; by_cases c7 : (rdOf ByteArray.empty l0 x5_1).toList = (rdOf ByteArray.empty l1 x5_1).toList
              · rw [if_pos c7] at H
                have c7b0 : ((rdOf ByteArray.empty l0 x5_1).toList == (rdOf ByteArray.empty l1 x5_1).toList) = true := beq_iff_eq.mpr c7; have c7b1 : ((rdOf ByteArray.empty l0 x5_1).toList != (rdOf ByteArray.empty l1 x5_1).toList) = false := bne_eq_false_iff_eq.mpr c7; clear c7; have H' := zA H; clear H; have p101 : 0 ≤ (x5_1 : Int) := of_decide_eq_true qA; have q101 : x5_1 < (l0.length : Int) := of_decide_eq_true qA; obtain ⟨ad101, e101, hx101_0⟩ := Kd.at_string HR0.out x5_1 p101 q101; cases e101
                replace p101 := eq_true p101; replace q101 := eq_true q101; have p102 : 0 ≤ (x5_1 : Int) := of_decide_eq_true qA; have q102 : x5_1 < (l1.length : Int) := of_decide_eq_true qA; obtain ⟨ad102, e102, hx102_0⟩ := Kd.at_string HR1.out x5_1 p102 q102; cases e102
                replace p102 := eq_true p102; replace q102 := eq_true q102; go_wp2; repeat (go_quiet (fail); try go_wp2)
                go_roundg k1
                case measure => have := HK1.out; omega
                case rel => exact ⟨(wrap64 (x5_1 + 1)), (by first | rfl | (simp; done) | (simp [*]; done)), H', ⟨by have := HK1.out; omega⟩, by repeat (first | exact Drawn0.refl _ | apply Drawn0.step)⟩
              rw [if_neg c7] at H; have c7b0 : ((rdOf ByteArray.empty l0 x5_1).toList == (rdOf ByteArray.empty l1 x5_1).toList) = false := beq_eq_false_iff_ne.mpr c7; have c7b1 : ((rdOf ByteArray.empty l0 x5_1).toList != (rdOf ByteArray.empty l1 x5_1).toList) = true := bne_iff_ne.mpr c7; obtain rfl := zKq H; have p101 : 0 ≤ (x5_1 : Int) := of_decide_eq_true qA; have q101 : x5_1 < (l0.length : Int) := of_decide_eq_true qA; obtain ⟨ad101, e101, hx101_0⟩ := Kd.at_string HR0.out x5_1 p101 q101; cases e101
              replace p101 := eq_true p101; replace q101 := eq_true q101; have p102 : 0 ≤ (x5_1 : Int) := of_decide_eq_true qA; have q102 : x5_1 < (l1.length : Int) := of_decide_eq_true qA; obtain ⟨ad102, e102, hx102_0⟩ := Kd.at_string HR1.out x5_1 p102 q102; cases e102
              replace p102 := eq_true p102; replace q102 := eq_true q102; go_wp2; repeat (go_quiet (fail); try go_wp2)
              go_ret; exact ⟨by first | rfl | (simp; done) | (simp [*]; done), by repeat (first | exact Drawn0.refl _ | apply Drawn0.step)⟩
            rw [if_neg c6] at H; exact absurd H (by simp)
          rw [if_neg c5] at H; exact absurd H (by simp)
        rw [if_neg c4] at H; have c4b0 : decide (x5_1 < (l0.length : Int)) = false := zGq c4; clear c4; obtain rfl := zKq H; go_wp2; repeat (go_quiet (fail); try go_wp2)
        go_ret; exact ⟨by first | rfl | (simp; done) | (simp [*]; done), by repeat (first | exact Drawn0.refl _ | apply Drawn0.step)⟩
  rw [if_neg c3] at H
  have c3b0 : ((l0.length : Int) == (l1.length : Int)) = false := beq_eq_false_iff_ne.mpr c3
  have c3b1 : ((l0.length : Int) != (l1.length : Int)) = true := bne_iff_ne.mpr c3
  have c3b2 : (l0.length == l1.length) = false := by first | simpa using c3 | (simp at c3 ⊢; omega)
  obtain rfl := zKq H
  go_enter Try.func92, Try.ntmps92
  go_wp2
  repeat (go_quiet (fail); try go_wp2)
  go_ret
  exact ⟨by first | rfl | (simp; done) | (simp [*]; done), by repeat (first | exact Drawn0.refl _ | apply Drawn0.step)⟩
def backhaulref21_SameLine.f (k : Nat) (a0_0 : Int) (a0_1 : Int) (a0_2 : Int) (a0_3 : Int) (l0_4 : List ByteArray) (a1_0 : Int) (a1_1 : Int) (a1_2 : Int) (a1_3 : Int) (l1_4 : List ByteArray) : Option (Bool) := if a0_0 = a1_0 then (if a0_1 = a1_1 then (if a0_2 = a1_2 then (if a0_3 = a1_3 then ((backhaulref01_SameTexts.f k l0_4 l1_4).bind fun t103 => (some t103)) else (some false)) else (some false)) else (some false)) else (some false)
theorem backhaulref21_SameLine.mono : ∀ a0 a1 a2 a3 a4 a5 a6 a7 a8 a9 k, LeO (backhaulref21_SameLine.f k a0 a1 a2 a3 a4 a5 a6 a7 a8 a9) (backhaulref21_SameLine.f (k + 1) a0 a1 a2 a3 a4 a5 a6 a7 a8 a9) := by
  intro a0 a1 a2 a3 a4 a5 a6 a7 a8 a9 k
  unfold backhaulref21_SameLine.f
  repeat' (with_reducible first | exact backhaulref01_SameTexts.mono _ _ _ | exact LeO.refl _ | exact LeO.none _ | refine LeO.ite ?_ ?_ | refine LeO.bind ?_ (fun _ => ?_))
set_option maxHeartbeats 8000000 in
set_option maxRecDepth 100000 in
theorem backhaulref21_SameLine.calls (k : Nat) (a0_0 : Int) (a0_1 : Int) (a0_2 : Int) (a0_3 : Int) (A0_4 : Option Addr) (c0_4 : Nat) (l0_4 : List ByteArray) (a1_0 : Int) (a1_1 : Int) (a1_2 : Int) (a1_3 : Int) (A1_4 : Option Addr) (c1_4 : Nat) (l1_4 : List ByteArray) (r : Bool) (w : World) (hr0_4 : Kd.C Kd.string w A0_4 l0_4.length l0_4) (hc0_4 : l0_4.length ≤ c0_4) (hr1_4 : Kd.C Kd.string w A1_4 l1_4.length l1_4) (hc1_4 : l1_4.length ≤ c1_4) (h : backhaulref21_SameLine.f k a0_0 a0_1 a0_2 a0_3 l0_4 a1_0 a1_1 a1_2 a1_3 l1_4 = some r) :
    Calls Try.prog 116 #[.agg #[.int .i64 a0_0, .int .i64 a0_1, .int .i64 a0_2, .int .i64 a0_3, .slice A0_4 l0_4.length c0_4], .agg #[.int .i64 a1_0, .int .i64 a1_1, .int .i64 a1_2, .int .i64 a1_3, .slice A1_4 l1_4.length c1_4]] w fun e w' => e = .returned (.bool r) ∧ Below w.heap.size w w' := by
  have hu71 := Try.underlying71
  have HR0_4 := zA hr0_4
  have HC0_4 := zA hc0_4
  clear hr0_4 hc0_4
  have HR1_4 := zA hr1_4
  have HC1_4 := zA hc1_4
  clear hr1_4 hc1_4
  have HB := zA (Below.refl w.heap.size w)
  have H : (if a0_0 = a1_0 then (if a0_1 = a1_1 then (if a0_2 = a1_2 then (if a0_3 = a1_3 then ((backhaulref01_SameTexts.f k l0_4 l1_4).bind fun t103 => (some t103)) else (some false)) else (some false)) else (some false)) else (some false)) = some r := h
  clear h
  by_cases c3 : a0_0 = a1_0
  · rw [if_pos c3] at H
    have c3b0 : (a0_0 == a1_0) = true := beq_iff_eq.mpr c3; have c3b1 : (a0_0 != a1_0) = false := bne_eq_false_iff_eq.mpr c3; clear c3; by_cases c4 : a0_1 = a1_1
    · rw [if_pos c4] at H
      have c4b0 : (a0_1 == a1_1) = true := beq_iff_eq.mpr c4; have c4b1 : (a0_1 != a1_1) = false := bne_eq_false_iff_eq.mpr c4; clear c4; by_cases c5 : a0_2 = a1_2
      · rw [if_pos c5] at H
        have c5b0 : (a0_2 == a1_2) = true := beq_iff_eq.mpr c5; have c5b1 : (a0_2 != a1_2) = false := bne_eq_false_iff_eq.mpr c5; clear c5; by_cases c6 : a0_3 = a1_3
        · rw [if_pos c6] at H
          have c6b0 : (a0_3 == a1_3) = true := beq_iff_eq.mpr c6; have c6b1 : (a0_3 != a1_3) = false := bne_eq_false_iff_eq.mpr c6; clear c6; replace H := Option.bind_eq_some_iff.mp H; obtain ⟨t103, A70, H⟩ := H; try dsimp only at H
          have A7 := zA A70; clear A70; obtain rfl := zKq H; go_enter Try.func116, Try.ntmps116; go_wp2_with (first | ((with_reducible refine gate_dst (N := 2) rfl ?_); refine box_event qr (N := 2) qr (cs := #[.int .i64 a0_0, .int .i64 a0_1, .int .i64 a0_2, .int .i64 a0_3, .slice A0_4 l0_4.length c0_4]) (t := 71) qg ?_; intro gb101 hg w8 hbox hb; have n0_ := zA (zV qB hb); have n1_ := zA (hbox); have n2_ := zA ((qS : w.heap.size ≤ gb101)); have n3_ := zA ((qS : w.heap.size ≤ gb101)); clear HB; have HB := n0_; have BK101 := n1_; have GW101 := n2_; have GE101 := n3_; clear n0_ n1_ n2_ n3_ hb hbox hg) | ((with_reducible refine gate_dst (N := 3) rfl ?_); refine box_event qr (N := 3) qr (cs := #[.int .i64 a1_0, .int .i64 a1_1, .int .i64 a1_2, .int .i64 a1_3, .slice A1_4 l1_4.length c1_4]) (t := 71) qg ?_; intro gb102 hg w9 hbox hb; have n0_ := zA (qX BK101.out hb); have n1_ := zA (zV qB hb); have n2_ := zA (hbox); have n3_ := zA ((qS : w.heap.size ≤ gb102)); have n4_ := zA ((qS : w.heap.size ≤ gb102)); have n5_ := zA ((by rw [hg]; exact zLq (qL BK101.out) : gb101 ≠ gb102)); have n6_ := zA ((by rw [hg]; exact zMq (qL BK101.out) : gb102 ≠ gb101)); clear BK101 HB; have BK101 := n0_; have HB := n1_; have BK102 := n2_; have GW102 := n3_; have GE102 := n4_; have NB101_102 := n5_; have NB102_101 := n6_; clear n0_ n1_ n2_ n3_ n4_ n5_ n6_ hb hbox hg; have hnb10 := NB101_102.out; have hnc10 := NB102_101.out; obtain ⟨_, _, _, _, _, _, _, _, _, _⟩ := qc5f BK101.out; obtain ⟨_, _, _, _, _, _, _, _, _, _⟩ := qc5f BK102.out) | (go_at_call 92; (with_reducible refine (backhaulref01_SameTexts.calls k _ _ l0_4 _ _ l1_4 t103 _ ?side1 ?side2 ?side3 ?side4 A7.out).mono ?_); (case side1 => exact qC (Kd.C_below HR0_4.out HB.out)); (case side2 => exact HC0_4.out); (case side3 => exact qC (Kd.C_below HR1_4.out HB.out)); (case side4 => exact HC1_4.out); rintro e w' ⟨rfl, ⟨nd, rfl⟩⟩)); go_ret; exact ⟨qE, qB⟩
        rw [if_neg c6] at H; have c6b0 : (a0_3 == a1_3) = false := beq_eq_false_iff_ne.mpr c6; have c6b1 : (a0_3 != a1_3) = true := bne_iff_ne.mpr c6; obtain rfl := zKq H; go_enter Try.func116, Try.ntmps116; go_wp2_with (first | ((with_reducible refine gate_dst (N := 2) rfl ?_); refine box_event qr (N := 2) qr (cs := #[.int .i64 a0_0, .int .i64 a0_1, .int .i64 a0_2, .int .i64 a0_3, .slice A0_4 l0_4.length c0_4]) (t := 71) qg ?_; intro gb101 hg w13 hbox hb; have n0_ := zA (zV qB hb); have n1_ := zA (hbox); have n2_ := zA ((qS : w.heap.size ≤ gb101)); have n3_ := zA ((qS : w.heap.size ≤ gb101)); clear HB; have HB := n0_; have BK101 := n1_; have GW101 := n2_; have GE101 := n3_; clear n0_ n1_ n2_ n3_ hb hbox hg) | ((with_reducible refine gate_dst (N := 3) rfl ?_); refine box_event qr (N := 3) qr (cs := #[.int .i64 a1_0, .int .i64 a1_1, .int .i64 a1_2, .int .i64 a1_3, .slice A1_4 l1_4.length c1_4]) (t := 71) qg ?_; intro gb102 hg w14 hbox hb; have n0_ := zA (qX BK101.out hb); have n1_ := zA (zV qB hb); have n2_ := zA (hbox); have n3_ := zA ((qS : w.heap.size ≤ gb102)); have n4_ := zA ((qS : w.heap.size ≤ gb102)); have n5_ := zA ((by rw [hg]; exact zLq (qL BK101.out) : gb101 ≠ gb102)); have n6_ := zA ((by rw [hg]; exact zMq (qL BK101.out) : gb102 ≠ gb101)); clear BK101 HB; have BK101 := n0_; have HB := n1_; have BK102 := n2_; have GW102 := n3_; have GE102 := n4_; have NB101_102 := n5_; have NB102_101 := n6_; clear n0_ n1_ n2_ n3_ n4_ n5_ n6_ hb hbox hg; have hnb15 := NB101_102.out; have hnc15 := NB102_101.out; obtain ⟨_, _, _, _, _, _, _, _, _, _⟩ := qc5f BK101.out; obtain ⟨_, _, _, _, _, _, _, _, _, _⟩ := qc5f BK102.out)); go_ret; exact ⟨qE, qB⟩
      rw [if_neg c5] at H; have c5b0 : (a0_2 == a1_2) = false := beq_eq_false_iff_ne.mpr c5; have c5b1 : (a0_2 != a1_2) = true := bne_iff_ne.mpr c5; obtain rfl := zKq H; go_enter Try.func116, Try.ntmps116; go_wp2_with (first | ((with_reducible refine gate_dst (N := 2) rfl ?_); refine box_event qr (N := 2) qr (cs := #[.int .i64 a0_0, .int .i64 a0_1, .int .i64 a0_2, .int .i64 a0_3, .slice A0_4 l0_4.length c0_4]) (t := 71) qg ?_; intro gb101 hg w18 hbox hb; have n0_ := zA (zV qB hb); have n1_ := zA (hbox); have n2_ := zA ((qS : w.heap.size ≤ gb101)); have n3_ := zA ((qS : w.heap.size ≤ gb101)); clear HB; have HB := n0_; have BK101 := n1_; have GW101 := n2_; have GE101 := n3_; clear n0_ n1_ n2_ n3_ hb hbox hg) | ((with_reducible refine gate_dst (N := 3) rfl ?_); refine box_event qr (N := 3) qr (cs := #[.int .i64 a1_0, .int .i64 a1_1, .int .i64 a1_2, .int .i64 a1_3, .slice A1_4 l1_4.length c1_4]) (t := 71) qg ?_; intro gb102 hg w19 hbox hb; have n0_ := zA (qX BK101.out hb); have n1_ := zA (zV qB hb); have n2_ := zA (hbox); have n3_ := zA ((qS : w.heap.size ≤ gb102)); have n4_ := zA ((qS : w.heap.size ≤ gb102)); have n5_ := zA ((by rw [hg]; exact zLq (qL BK101.out) : gb101 ≠ gb102)); have n6_ := zA ((by rw [hg]; exact zMq (qL BK101.out) : gb102 ≠ gb101)); clear BK101 HB; have BK101 := n0_; have HB := n1_; have BK102 := n2_; have GW102 := n3_; have GE102 := n4_; have NB101_102 := n5_; have NB102_101 := n6_; clear n0_ n1_ n2_ n3_ n4_ n5_ n6_ hb hbox hg; have hnb20 := NB101_102.out; have hnc20 := NB102_101.out; obtain ⟨_, _, _, _, _, _, _, _, _, _⟩ := qc5f BK101.out; obtain ⟨_, _, _, _, _, _, _, _, _, _⟩ := qc5f BK102.out)); go_ret; exact ⟨qE, qB⟩
    rw [if_neg c4] at H; have c4b0 : (a0_1 == a1_1) = false := beq_eq_false_iff_ne.mpr c4; have c4b1 : (a0_1 != a1_1) = true := bne_iff_ne.mpr c4; obtain rfl := zKq H; go_enter Try.func116, Try.ntmps116; go_wp2_with (first | ((with_reducible refine gate_dst (N := 2) rfl ?_); refine box_event qr (N := 2) qr (cs := #[.int .i64 a0_0, .int .i64 a0_1, .int .i64 a0_2, .int .i64 a0_3, .slice A0_4 l0_4.length c0_4]) (t := 71) qg ?_; intro gb101 hg w23 hbox hb; have n0_ := zA (zV qB hb); have n1_ := zA (hbox); have n2_ := zA ((qS : w.heap.size ≤ gb101)); have n3_ := zA ((qS : w.heap.size ≤ gb101)); clear HB; have HB := n0_; have BK101 := n1_; have GW101 := n2_; have GE101 := n3_; clear n0_ n1_ n2_ n3_ hb hbox hg) | ((with_reducible refine gate_dst (N := 3) rfl ?_); refine box_event qr (N := 3) qr (cs := #[.int .i64 a1_0, .int .i64 a1_1, .int .i64 a1_2, .int .i64 a1_3, .slice A1_4 l1_4.length c1_4]) (t := 71) qg ?_; intro gb102 hg w24 hbox hb; have n0_ := zA (qX BK101.out hb); have n1_ := zA (zV qB hb); have n2_ := zA (hbox); have n3_ := zA ((qS : w.heap.size ≤ gb102)); have n4_ := zA ((qS : w.heap.size ≤ gb102)); have n5_ := zA ((by rw [hg]; exact zLq (qL BK101.out) : gb101 ≠ gb102)); have n6_ := zA ((by rw [hg]; exact zMq (qL BK101.out) : gb102 ≠ gb101)); clear BK101 HB; have BK101 := n0_; have HB := n1_; have BK102 := n2_; have GW102 := n3_; have GE102 := n4_; have NB101_102 := n5_; have NB102_101 := n6_; clear n0_ n1_ n2_ n3_ n4_ n5_ n6_ hb hbox hg; have hnb25 := NB101_102.out; have hnc25 := NB102_101.out; obtain ⟨_, _, _, _, _, _, _, _, _, _⟩ := qc5f BK101.out; obtain ⟨_, _, _, _, _, _, _, _, _, _⟩ := qc5f BK102.out)); go_ret; exact ⟨qE, qB⟩
  rw [if_neg c3] at H
  have c3b0 : (a0_0 == a1_0) = false := beq_eq_false_iff_ne.mpr c3
  have c3b1 : (a0_0 != a1_0) = true := bne_iff_ne.mpr c3
  obtain rfl := zKq H
  go_enter Try.func116, Try.ntmps116
  go_wp2_with (first | ((with_reducible refine gate_dst (N := 2) rfl ?_); refine box_event qr (N := 2) qr (cs := #[.int .i64 a0_0, .int .i64 a0_1, .int .i64 a0_2, .int .i64 a0_3, .slice A0_4 l0_4.length c0_4]) (t := 71) qg ?_; intro gb101 hg w28 hbox hb; have n0_ := zA (zV qB hb); have n1_ := zA (hbox); have n2_ := zA ((qS : w.heap.size ≤ gb101)); have n3_ := zA ((qS : w.heap.size ≤ gb101)); clear HB; have HB := n0_; have BK101 := n1_; have GW101 := n2_; have GE101 := n3_; clear n0_ n1_ n2_ n3_ hb hbox hg) | ((with_reducible refine gate_dst (N := 3) rfl ?_); refine box_event qr (N := 3) qr (cs := #[.int .i64 a1_0, .int .i64 a1_1, .int .i64 a1_2, .int .i64 a1_3, .slice A1_4 l1_4.length c1_4]) (t := 71) qg ?_; intro gb102 hg w29 hbox hb; have n0_ := zA (qX BK101.out hb); have n1_ := zA (zV qB hb); have n2_ := zA (hbox); have n3_ := zA ((qS : w.heap.size ≤ gb102)); have n4_ := zA ((qS : w.heap.size ≤ gb102)); have n5_ := zA ((by rw [hg]; exact zLq (qL BK101.out) : gb101 ≠ gb102)); have n6_ := zA ((by rw [hg]; exact zMq (qL BK101.out) : gb102 ≠ gb101)); clear BK101 HB; have BK101 := n0_; have HB := n1_; have BK102 := n2_; have GW102 := n3_; have GE102 := n4_; have NB101_102 := n5_; have NB102_101 := n6_; clear n0_ n1_ n2_ n3_ n4_ n5_ n6_ hb hbox hg; have hnb30 := NB101_102.out; have hnc30 := NB102_101.out; obtain ⟨_, _, _, _, _, _, _, _, _, _⟩ := qc5f BK101.out; obtain ⟨_, _, _, _, _, _, _, _, _, _⟩ := qc5f BK102.out))
  go_ret
  exact ⟨qE, qB⟩
def backhaulref21_SameLines.l0 : Nat → List (S71) → List (S71) → Int → Option (Bool)
  | 0, _, _, _ => none
  | k + 1, x0, x1, x5 => if x5 < (x0.length : Int) then (if 0 ≤ x5 then (if x5 < (x1.length : Int) then ((backhaulref21_SameLine.f k ((rd_T71 x0 x5).f0) ((rd_T71 x0 x5).f1) ((rd_T71 x0 x5).f2) ((rd_T71 x0 x5).f3) ((rd_T71 x0 x5).f4) ((rd_T71 x1 x5).f0) ((rd_T71 x1 x5).f1) ((rd_T71 x1 x5).f2) ((rd_T71 x1 x5).f3) ((rd_T71 x1 x5).f4)).bind fun t103 => (if t103 = true then (backhaulref21_SameLines.l0 k x0 x1 (wrap64 (x5 + 1))) else (some false))) else (none)) else (none)) else (some true)
def backhaulref21_SameLines.f (k : Nat) (l0 : List (S71)) (l1 : List (S71)) : Option (Bool) := if (l0.length : Int) = (l1.length : Int) then (backhaulref21_SameLines.l0 k l0 l1 0) else (some false)
theorem backhaulref21_SameLines.mono_l : ∀ k, (∀ y0 y1 y2, LeO (backhaulref21_SameLines.l0 k y0 y1 y2) (backhaulref21_SameLines.l0 (k + 1) y0 y1 y2))
  | 0 => fun _ _ _ r h => by simp [backhaulref21_SameLines.l0] at h
  | k + 1 => by
    have ih0 := backhaulref21_SameLines.mono_l k
    intro y0 y1 y2
    unfold backhaulref21_SameLines.l0
    repeat' (with_reducible first | exact ih0 _ _ _ | exact backhaulref21_SameLine.mono _ _ _ _ _ _ _ _ _ _ _ | exact LeO.refl _ | exact LeO.none _ | refine LeO.ite ?_ ?_ | refine LeO.bind ?_ (fun _ => ?_))
theorem backhaulref21_SameLines.mono : ∀ a0 a1 k, LeO (backhaulref21_SameLines.f k a0 a1) (backhaulref21_SameLines.f (k + 1) a0 a1) := by
  intro a0 a1 k
  have ih0 := backhaulref21_SameLines.mono_l k
  unfold backhaulref21_SameLines.f
  repeat' (with_reducible first | exact ih0 _ _ _ | exact backhaulref21_SameLine.mono _ _ _ _ _ _ _ _ _ _ _ | exact LeO.refl _ | exact LeO.none _ | refine LeO.ite ?_ ?_ | refine LeO.bind ?_ (fun _ => ?_))
def backhaulref21_SameLines.T6 : Bool × List (List Nat × List Nat) := (true, [([], []), ([], []), ([0, 1], [0, 1]), ([2], [2]), ([], []), ([], []), ([4, 5], [4, 5]), ([6], [6]), ([3, 7], [3, 7]), ([8], [8])])
def backhaulref21_SameLines.B6 : List Nat := [0, 0, 3, 7, 0, 0, 48, 112, 255, 511]
theorem backhaulref21_SameLines.tab6 : rtab .any (opsOf Try.f64 6) = backhaulref21_SameLines.T6 := by kernel_rfl
theorem backhaulref21_SameLines.bits6 : waitsOk backhaulref21_SameLines.T6.2 backhaulref21_SameLines.B6 = true := by kernel_rfl
set_option maxHeartbeats 8000000 in
set_option maxRecDepth 100000 in
theorem backhaulref21_SameLines.calls (k : Nat) (A0 : Option Addr) (c0 : Nat) (l0 : List (S71)) (A1 : Option Addr) (c1 : Nat) (l1 : List (S71)) (r : Bool) (w : World) (hr0 : Kd.C k71 w A0 l0.length l0) (hc0 : l0.length ≤ c0) (hr1 : Kd.C k71 w A1 l1.length l1) (hc1 : l1.length ≤ c1) (h : backhaulref21_SameLines.f k l0 l1 = some r) :
    Calls Try.prog 64 #[.slice A0 l0.length c0, .slice A1 l1.length c1] w fun e w' => e = .returned (.bool r) ∧ Below w.heap.size w w' := by
  have hu71 := Try.underlying71
  have HR0 := zA hr0
  have HC0 := zA hc0
  clear hr0 hc0
  have HR1 := zA hr1
  have HC1 := zA hc1
  clear hr1 hc1
  have HB := zA (Below.refl w.heap.size w)
  have H : (if (l0.length : Int) = (l1.length : Int) then (backhaulref21_SameLines.l0 k l0 l1 0) else (some false)) = some r := h
  clear h
  by_cases c3 : (l0.length : Int) = (l1.length : Int)
  · rw [if_pos c3] at H
    have c3b0 : ((l0.length : Int) == (l1.length : Int)) = true := beq_iff_eq.mpr c3; have c3b1 : ((l0.length : Int) != (l1.length : Int)) = false := bne_eq_false_iff_eq.mpr c3; have c3b2 : (l0.length == l1.length) = true := by first | simpa using c3 | (simp at c3 ⊢; omega)
    clear c3; have H' := zA H; clear H; go_enter Try.func64, Try.ntmps64; go_wp2; go_loopg [5] k (fun kq v5 w' => ∃ (x5_1 : Int), v5 = .int .i64 x5_1 ∧ Aside0 (backhaulref21_SameLines.l0 kq l0 l1 x5_1 = some r) ∧ Aside0 (kq ≤ k) ∧ Aside0 (Below w.heap.size w w'))
    case atStart => exact ⟨(0), (by first | rfl | (simp; done) | (simp [*]; done)), H', ⟨Nat.le_refl _⟩, ⟨qB⟩⟩
    case round =>
      clear H'; try clear c1
      try clear p2
      try clear c3
      try clear c3b0
      try clear c3b1
      try clear c3b2
      obtain ⟨x5_1, rfl, HA, HK1, HB⟩ := hrel; cases gk with
      | zero => exact absurd HA.out (by simp [backhaulref21_SameLines.l0])
      | succ k1 =>
        have H := HA.out; clear HA; simp only [backhaulref21_SameLines.l0] at H; by_cases c4 : x5_1 < (l0.length : Int)
        · rw [if_pos c4] at H
          have c4b0 : decide (x5_1 < (l0.length : Int)) = true := zFq c4; clear c4; by_cases c5 : 0 ≤ x5_1
          · rw [if_pos c5] at H
            have c5b0 : decide (0 ≤ x5_1) = true := zFq c5; clear c5; by_cases c6 : x5_1 < (l1.length : Int)
            · rw [if_pos c6] at H
              have c6b0 : decide (x5_1 < (l1.length : Int)) = true := zFq c6; clear c6; replace H := Option.bind_eq_some_iff.mp H; obtain ⟨t103, A70, H⟩ := H; try dsimp only at H
              have A7 := zA A70; clear A70; by_cases c8 : t103 = true
              · subst c8
                have H1 : (backhaulref21_SameLines.l0 k1 l0 l1 (wrap64 (x5_1 + 1))) = some r := by first | (rw [if_pos rfl] at H; exact H) | rfl
                clear H; have H := H1; clear H1; have H' := zA H; clear H; try go_wp2
                have n0_ := zA (zC HB.out); clear HB; have HB := n0_; clear n0_; have p101 : 0 ≤ (x5_1 : Int) := of_decide_eq_true qA; have q101 : x5_1 < (l0.length : Int) := of_decide_eq_true qA; obtain ⟨ad101, A101_4, c101_4, e101, hx101_0, hx101_1, hx101_2, hx101_3, hx101_4, hl101_4, hi101_4⟩ := at_T71 HR0.out x5_1 p101 q101; have hw101_4 := hx101_4; have hw101_3 := hx101_3; have hw101_2 := hx101_2; have hw101_1 := hx101_1; have hw101_0 := hx101_0; cases e101
                replace hx101_0 := (HB.out.cell (zCq w _ hx101_0)).trans hx101_0; replace hx101_1 := (HB.out.cell (zCq w _ hx101_1)).trans hx101_1; replace hx101_2 := (HB.out.cell (zCq w _ hx101_2)).trans hx101_2; replace hx101_3 := (HB.out.cell (zCq w _ hx101_3)).trans hx101_3; replace hx101_4 := (HB.out.cell (zCq w _ hx101_4)).trans hx101_4; have HR101_4 := zA hi101_4; have HC101_4 := zA hl101_4; clear hi101_4 hl101_4; replace p101 := eq_true p101; replace q101 := eq_true q101; have p102 : 0 ≤ (x5_1 : Int) := of_decide_eq_true qA; have q102 : x5_1 < (l1.length : Int) := of_decide_eq_true qA; obtain ⟨ad102, A102_4, c102_4, e102, hx102_0, hx102_1, hx102_2, hx102_3, hx102_4, hl102_4, hi102_4⟩ := at_T71 HR1.out x5_1 p102 q102; have hw102_4 := hx102_4; have hw102_3 := hx102_3; have hw102_2 := hx102_2; have hw102_1 := hx102_1; have hw102_0 := hx102_0; cases e102
                replace hx102_0 := (HB.out.cell (zCq w _ hx102_0)).trans hx102_0; replace hx102_1 := (HB.out.cell (zCq w _ hx102_1)).trans hx102_1; replace hx102_2 := (HB.out.cell (zCq w _ hx102_2)).trans hx102_2; replace hx102_3 := (HB.out.cell (zCq w _ hx102_3)).trans hx102_3; replace hx102_4 := (HB.out.cell (zCq w _ hx102_4)).trans hx102_4; have HR102_4 := zA hi102_4; have HC102_4 := zA hl102_4; clear hi102_4 hl102_4; replace p102 := eq_true p102; replace q102 := eq_true q102; refine start_ (n := 10) (S := fun w' => w'.cell? (ad101.add ((x5_1).toNat * 5)) = some (.int .i64 ((rd_T71 l0 x5_1).f0)) ∧ w'.cell? ⟨(ad101.add ((x5_1).toNat * 5)).block, (ad101.add ((x5_1).toNat * 5)).off + 1, none⟩ = some (.int .i64 ((rd_T71 l0 x5_1).f1)) ∧ w'.cell? ⟨(ad101.add ((x5_1).toNat * 5)).block, (ad101.add ((x5_1).toNat * 5)).off + 2, none⟩ = some (.int .i64 ((rd_T71 l0 x5_1).f2)) ∧ w'.cell? ⟨(ad101.add ((x5_1).toNat * 5)).block, (ad101.add ((x5_1).toNat * 5)).off + 3, none⟩ = some (.int .i64 ((rd_T71 l0 x5_1).f3)) ∧ w'.cell? ⟨(ad101.add ((x5_1).toNat * 5)).block, (ad101.add ((x5_1).toNat * 5)).off + 4, none⟩ = some (.slice A101_4 ((rd_T71 l0 x5_1).f4).length c101_4) ∧ w'.cell? (ad102.add ((x5_1).toNat * 5)) = some (.int .i64 ((rd_T71 l1 x5_1).f0)) ∧ w'.cell? ⟨(ad102.add ((x5_1).toNat * 5)).block, (ad102.add ((x5_1).toNat * 5)).off + 1, none⟩ = some (.int .i64 ((rd_T71 l1 x5_1).f1)) ∧ w'.cell? ⟨(ad102.add ((x5_1).toNat * 5)).block, (ad102.add ((x5_1).toNat * 5)).off + 2, none⟩ = some (.int .i64 ((rd_T71 l1 x5_1).f2)) ∧ w'.cell? ⟨(ad102.add ((x5_1).toNat * 5)).block, (ad102.add ((x5_1).toNat * 5)).off + 3, none⟩ = some (.int .i64 ((rd_T71 l1 x5_1).f3)) ∧ w'.cell? ⟨(ad102.add ((x5_1).toNat * 5)).block, (ad102.add ((x5_1).toNat * 5)).off + 4, none⟩ = some (.slice A102_4 ((rd_T71 l1 x5_1).f4).length c102_4)) (ds := []) #[o0, o0, o0, o0, o0, o0, o0, o0, o0, o0] (by kernel_rfl) rfl rfl ⟨((HB.out.cell (zCq w _ hw101_0)).trans hw101_0), ((HB.out.cell (zCq w _ hw101_1)).trans hw101_1), ((HB.out.cell (zCq w _ hw101_2)).trans hw101_2), ((HB.out.cell (zCq w _ hw101_3)).trans hw101_3), ((HB.out.cell (zCq w _ hw101_4)).trans hw101_4), ((HB.out.cell (zCq w _ hw102_0)).trans hw102_0), ((HB.out.cell (zCq w _ hw102_1)).trans hw102_1), ((HB.out.cell (zCq w _ hw102_2)).trans hw102_2), ((HB.out.cell (zCq w _ hw102_3)).trans hw102_3), ((HB.out.cell (zCq w _ hw102_4)).trans hw102_4)⟩ (fun hHeld => ?_); refine with_tabW backhaulref21_SameLines.tab6 backhaulref21_SameLines.bits6 (fun HT_ HW_ => ?_); generalize wr.drew = w9 at HB HR101_4 HR102_4 hx101_0 hx101_1 hx101_2 hx101_3 hx101_4 hx102_0 hx102_1 hx102_2 hx102_3 hx102_4 hHeld ⊢; refine pure_ (i := 0) (N := some 17) #[o1, o0, o0, o0, o0, o0, o0, o0, o0, o0] rfl rfl (any_of HT_.out (by kernel_rfl)) (fun _ _ _ h => h) (Or.inl ⟨by rfl, qy⟩) qz ?_
                refine pure_ (i := 1) (N := some 18) #[o1, o1, o0, o0, o0, o0, o0, o0, o0, o0] rfl rfl (any_of HT_.out (by kernel_rfl)) (fun _ _ _ h => h) (Or.inl ⟨by rfl, qy⟩) qz ?_; refine pure_ (i := 2) (N := some 19) #[o1, o1, o1, o0, o0, o0, o0, o0, o0, o0] rfl rfl (any_of HT_.out (by kernel_rfl)) (fun _ _ _ h => h) (Or.inl ⟨by rfl, qy⟩) qz ?_; refine pure_ (i := 4) (N := some 21) #[o1, o1, o1, o0, o1, o0, o0, o0, o0, o0] rfl rfl (any_of HT_.out (by kernel_rfl)) (fun _ _ _ h => h) (Or.inl ⟨by rfl, qy⟩) qz ?_; refine pure_ (i := 5) (N := some 22) #[o1, o1, o1, o0, o1, o1, o0, o0, o0, o0] rfl rfl (any_of HT_.out (by kernel_rfl)) (fun _ _ _ h => h) (Or.inl ⟨by rfl, qy⟩) qz ?_; refine pure_ (i := 6) (N := some 23) #[o1, o1, o1, o0, o1, o1, o1, o0, o0, o0] rfl rfl (any_of HT_.out (by kernel_rfl)) (fun _ _ _ h => h) (Or.inl ⟨by rfl, qy⟩) qz ?_; refine take_ (i := 3) (N := some 20) (v := ?_) (a' := ?_) #[o1, o1, o1, o1, o1, o1, o1, o0, o0, o0] rfl rfl (take_ofW HT_.out HW_.out (by kernel_rfl)) (fun _ _ _ h => h) (Or.inl ⟨by rfl, ?_⟩) hHeld ?_ ?_; rotate_left
                · rintro w' ⟨s0, s1, s2, s3, s4, s5, s6, s7, s8, s9⟩
                  go_simp; with_reducible rfl
                rotate_left
                · simp only [Act.put, zH, zI, zJ, i64_w, i32_w]
                  rfl
                refine take_ (i := 7) (N := some 24) (v := ?_) (a' := ?_) #[o1, o1, o1, o1, o1, o1, o1, o1, o0, o0] rfl rfl (take_ofW HT_.out HW_.out (by kernel_rfl)) (fun _ _ _ h => h) (Or.inl ⟨by rfl, ?_⟩) hHeld ?_ ?_; rotate_left
                · rintro w' ⟨s0, s1, s2, s3, s4, s5, s6, s7, s8, s9⟩
                  go_simp; with_reducible rfl
                rotate_left
                · simp only [Act.put, zH, zI, zJ, i64_w, i32_w]
                  rfl
                refine one_ (i := 8) (N := some 25) #[o1, o1, o1, o1, o1, o1, o1, o1, o1, o0] rfl rfl (one_of HT_.out (by kernel_rfl)) (by decide) (fun K hK => ?_); refine goes_ Try.func116 (by kernel_rfl) rfl #[.agg #[.int .i64 ((rd_T71 l0 x5_1).f0), .int .i64 ((rd_T71 l0 x5_1).f1), .int .i64 ((rd_T71 l0 x5_1).f2), .int .i64 ((rd_T71 l0 x5_1).f3), .slice A101_4 ((rd_T71 l0 x5_1).f4).length c101_4], .agg #[.int .i64 ((rd_T71 l1 x5_1).f0), .int .i64 ((rd_T71 l1 x5_1).f1), .int .i64 ((rd_T71 l1 x5_1).f2), .int .i64 ((rd_T71 l1 x5_1).f3), .slice A102_4 ((rd_T71 l1 x5_1).f4).length c102_4]] (by rfl) rfl rfl qG ?_; with_reducible refine (backhaulref21_SameLine.calls k1 ((rd_T71 l0 x5_1).f0) ((rd_T71 l0 x5_1).f1) ((rd_T71 l0 x5_1).f2) ((rd_T71 l0 x5_1).f3) _ _ ((rd_T71 l0 x5_1).f4) ((rd_T71 l1 x5_1).f0) ((rd_T71 l1 x5_1).f1) ((rd_T71 l1 x5_1).f2) ((rd_T71 l1 x5_1).f3) _ _ ((rd_T71 l1 x5_1).f4) true _ ?side1 ?side2 ?side3 ?side4 A7.out).mono ?_
                (case side1 => exact qC (Kd.C_below HR101_4.out HB.out))
                (case side2 => exact HC101_4.out)
                (case side3 => exact qC (Kd.C_below HR102_4.out HB.out))
                (case side4 => exact HC102_4.out)
                rintro e w10 ⟨rfl, hb⟩; refine ⟨_, rfl, ?_⟩; have n0_ := zA (zV qB hb); clear HB; have HB := n0_; clear n0_; (try clear hb); (try clear hb2); (try clear hk); (try clear hi); refine hK.out _ _ ⟨((HB.out.cell (zCq w _ hw101_0)).trans hw101_0), ((HB.out.cell (zCq w _ hw101_1)).trans hw101_1), ((HB.out.cell (zCq w _ hw101_2)).trans hw101_2), ((HB.out.cell (zCq w _ hw101_3)).trans hw101_3), ((HB.out.cell (zCq w _ hw101_4)).trans hw101_4), ((HB.out.cell (zCq w _ hw102_0)).trans hw102_0), ((HB.out.cell (zCq w _ hw102_1)).trans hw102_1), ((HB.out.cell (zCq w _ hw102_2)).trans hw102_2), ((HB.out.cell (zCq w _ hw102_3)).trans hw102_3), ((HB.out.cell (zCq w _ hw102_4)).trans hw102_4)⟩ (fun hHeld => ?_); clear hK K; refine norm_ (a' := ?_) ?_ ?_; rotate_left
                · show Act.put _ (some 25) _ = _
                  simp only [Act.put, zH, zI, zJ, i64_w, i32_w]; rfl
                refine pure_ (i := 9) (N := some 26) #[o1, o1, o1, o1, o1, o1, o1, o1, o1, o1] rfl rfl (any_of HT_.out (by kernel_rfl)) (fun _ _ _ h => h) (Or.inl ⟨by rfl, qy⟩) qz ?_; refine done_ (done_of HT_.out (by kernel_rfl)) ?_; try go_wp2
                go_roundg k1
                case measure => have := HK1.out; omega
                case rel => exact ⟨(wrap64 (x5_1 + 1)), (by first | rfl | (simp; done) | (simp [*]; done)), H', ⟨by have := HK1.out; omega⟩, ⟨qB⟩⟩
              replace c8 := Bool.eq_false_iff.mpr c8; subst c8; have H1 : (some false) = some r := by first | (rw [if_neg (show ¬ (false = true) by decide)] at H; exact H) | rfl
              clear H; have H := H1; clear H1; obtain rfl := zKq H; try go_wp2
              have n0_ := zA (zC HB.out); clear HB; have HB := n0_; clear n0_; have p101 : 0 ≤ (x5_1 : Int) := of_decide_eq_true qA; have q101 : x5_1 < (l0.length : Int) := of_decide_eq_true qA; obtain ⟨ad101, A101_4, c101_4, e101, hx101_0, hx101_1, hx101_2, hx101_3, hx101_4, hl101_4, hi101_4⟩ := at_T71 HR0.out x5_1 p101 q101; have hw101_4 := hx101_4; have hw101_3 := hx101_3; have hw101_2 := hx101_2; have hw101_1 := hx101_1; have hw101_0 := hx101_0; cases e101
              replace hx101_0 := (HB.out.cell (zCq w _ hx101_0)).trans hx101_0; replace hx101_1 := (HB.out.cell (zCq w _ hx101_1)).trans hx101_1; replace hx101_2 := (HB.out.cell (zCq w _ hx101_2)).trans hx101_2; replace hx101_3 := (HB.out.cell (zCq w _ hx101_3)).trans hx101_3; replace hx101_4 := (HB.out.cell (zCq w _ hx101_4)).trans hx101_4; have HR101_4 := zA hi101_4; have HC101_4 := zA hl101_4; clear hi101_4 hl101_4; replace p101 := eq_true p101; replace q101 := eq_true q101; have p102 : 0 ≤ (x5_1 : Int) := of_decide_eq_true qA; have q102 : x5_1 < (l1.length : Int) := of_decide_eq_true qA; obtain ⟨ad102, A102_4, c102_4, e102, hx102_0, hx102_1, hx102_2, hx102_3, hx102_4, hl102_4, hi102_4⟩ := at_T71 HR1.out x5_1 p102 q102; have hw102_4 := hx102_4; have hw102_3 := hx102_3; have hw102_2 := hx102_2; have hw102_1 := hx102_1; have hw102_0 := hx102_0; cases e102
              replace hx102_0 := (HB.out.cell (zCq w _ hx102_0)).trans hx102_0; replace hx102_1 := (HB.out.cell (zCq w _ hx102_1)).trans hx102_1; replace hx102_2 := (HB.out.cell (zCq w _ hx102_2)).trans hx102_2; replace hx102_3 := (HB.out.cell (zCq w _ hx102_3)).trans hx102_3; replace hx102_4 := (HB.out.cell (zCq w _ hx102_4)).trans hx102_4; have HR102_4 := zA hi102_4; have HC102_4 := zA hl102_4; clear hi102_4 hl102_4; replace p102 := eq_true p102; replace q102 := eq_true q102; refine start_ (n := 10) (S := fun w' => w'.cell? (ad101.add ((x5_1).toNat * 5)) = some (.int .i64 ((rd_T71 l0 x5_1).f0)) ∧ w'.cell? ⟨(ad101.add ((x5_1).toNat * 5)).block, (ad101.add ((x5_1).toNat * 5)).off + 1, none⟩ = some (.int .i64 ((rd_T71 l0 x5_1).f1)) ∧ w'.cell? ⟨(ad101.add ((x5_1).toNat * 5)).block, (ad101.add ((x5_1).toNat * 5)).off + 2, none⟩ = some (.int .i64 ((rd_T71 l0 x5_1).f2)) ∧ w'.cell? ⟨(ad101.add ((x5_1).toNat * 5)).block, (ad101.add ((x5_1).toNat * 5)).off + 3, none⟩ = some (.int .i64 ((rd_T71 l0 x5_1).f3)) ∧ w'.cell? ⟨(ad101.add ((x5_1).toNat * 5)).block, (ad101.add ((x5_1).toNat * 5)).off + 4, none⟩ = some (.slice A101_4 ((rd_T71 l0 x5_1).f4).length c101_4) ∧ w'.cell? (ad102.add ((x5_1).toNat * 5)) = some (.int .i64 ((rd_T71 l1 x5_1).f0)) ∧ w'.cell? ⟨(ad102.add ((x5_1).toNat * 5)).block, (ad102.add ((x5_1).toNat * 5)).off + 1, none⟩ = some (.int .i64 ((rd_T71 l1 x5_1).f1)) ∧ w'.cell? ⟨(ad102.add ((x5_1).toNat * 5)).block, (ad102.add ((x5_1).toNat * 5)).off + 2, none⟩ = some (.int .i64 ((rd_T71 l1 x5_1).f2)) ∧ w'.cell? ⟨(ad102.add ((x5_1).toNat * 5)).block, (ad102.add ((x5_1).toNat * 5)).off + 3, none⟩ = some (.int .i64 ((rd_T71 l1 x5_1).f3)) ∧ w'.cell? ⟨(ad102.add ((x5_1).toNat * 5)).block, (ad102.add ((x5_1).toNat * 5)).off + 4, none⟩ = some (.slice A102_4 ((rd_T71 l1 x5_1).f4).length c102_4)) (ds := []) #[o0, o0, o0, o0, o0, o0, o0, o0, o0, o0] (by kernel_rfl) rfl rfl ⟨((HB.out.cell (zCq w _ hw101_0)).trans hw101_0), ((HB.out.cell (zCq w _ hw101_1)).trans hw101_1), ((HB.out.cell (zCq w _ hw101_2)).trans hw101_2), ((HB.out.cell (zCq w _ hw101_3)).trans hw101_3), ((HB.out.cell (zCq w _ hw101_4)).trans hw101_4), ((HB.out.cell (zCq w _ hw102_0)).trans hw102_0), ((HB.out.cell (zCq w _ hw102_1)).trans hw102_1), ((HB.out.cell (zCq w _ hw102_2)).trans hw102_2), ((HB.out.cell (zCq w _ hw102_3)).trans hw102_3), ((HB.out.cell (zCq w _ hw102_4)).trans hw102_4)⟩ (fun hHeld => ?_); refine with_tabW backhaulref21_SameLines.tab6 backhaulref21_SameLines.bits6 (fun HT_ HW_ => ?_); generalize wr.drew = w11 at HB HR101_4 HR102_4 hx101_0 hx101_1 hx101_2 hx101_3 hx101_4 hx102_0 hx102_1 hx102_2 hx102_3 hx102_4 hHeld ⊢; refine pure_ (i := 0) (N := some 17) #[o1, o0, o0, o0, o0, o0, o0, o0, o0, o0] rfl rfl (any_of HT_.out (by kernel_rfl)) (fun _ _ _ h => h) (Or.inl ⟨by rfl, qy⟩) qz ?_
              refine pure_ (i := 1) (N := some 18) #[o1, o1, o0, o0, o0, o0, o0, o0, o0, o0] rfl rfl (any_of HT_.out (by kernel_rfl)) (fun _ _ _ h => h) (Or.inl ⟨by rfl, qy⟩) qz ?_; refine pure_ (i := 2) (N := some 19) #[o1, o1, o1, o0, o0, o0, o0, o0, o0, o0] rfl rfl (any_of HT_.out (by kernel_rfl)) (fun _ _ _ h => h) (Or.inl ⟨by rfl, qy⟩) qz ?_; refine pure_ (i := 4) (N := some 21) #[o1, o1, o1, o0, o1, o0, o0, o0, o0, o0] rfl rfl (any_of HT_.out (by kernel_rfl)) (fun _ _ _ h => h) (Or.inl ⟨by rfl, qy⟩) qz ?_; refine pure_ (i := 5) (N := some 22) #[o1, o1, o1, o0, o1, o1, o0, o0, o0, o0] rfl rfl (any_of HT_.out (by kernel_rfl)) (fun _ _ _ h => h) (Or.inl ⟨by rfl, qy⟩) qz ?_; refine pure_ (i := 6) (N := some 23) #[o1, o1, o1, o0, o1, o1, o1, o0, o0, o0] rfl rfl (any_of HT_.out (by kernel_rfl)) (fun _ _ _ h => h) (Or.inl ⟨by rfl, qy⟩) qz ?_; refine take_ (i := 3) (N := some 20) (v := ?_) (a' := ?_) #[o1, o1, o1, o1, o1, o1, o1, o0, o0, o0] rfl rfl (take_ofW HT_.out HW_.out (by kernel_rfl)) (fun _ _ _ h => h) (Or.inl ⟨by rfl, ?_⟩) hHeld ?_ ?_; rotate_left
              · rintro w' ⟨s0, s1, s2, s3, s4, s5, s6, s7, s8, s9⟩
                go_simp; with_reducible rfl
              rotate_left
              · simp only [Act.put, zH, zI, zJ, i64_w, i32_w]
                rfl
              refine take_ (i := 7) (N := some 24) (v := ?_) (a' := ?_) #[o1, o1, o1, o1, o1, o1, o1, o1, o0, o0] rfl rfl (take_ofW HT_.out HW_.out (by kernel_rfl)) (fun _ _ _ h => h) (Or.inl ⟨by rfl, ?_⟩) hHeld ?_ ?_; rotate_left
              · rintro w' ⟨s0, s1, s2, s3, s4, s5, s6, s7, s8, s9⟩
                go_simp; with_reducible rfl
              rotate_left
              · simp only [Act.put, zH, zI, zJ, i64_w, i32_w]
                rfl
              refine one_ (i := 8) (N := some 25) #[o1, o1, o1, o1, o1, o1, o1, o1, o1, o0] rfl rfl (one_of HT_.out (by kernel_rfl)) (by decide) (fun K hK => ?_); refine goes_ Try.func116 (by kernel_rfl) rfl #[.agg #[.int .i64 ((rd_T71 l0 x5_1).f0), .int .i64 ((rd_T71 l0 x5_1).f1), .int .i64 ((rd_T71 l0 x5_1).f2), .int .i64 ((rd_T71 l0 x5_1).f3), .slice A101_4 ((rd_T71 l0 x5_1).f4).length c101_4], .agg #[.int .i64 ((rd_T71 l1 x5_1).f0), .int .i64 ((rd_T71 l1 x5_1).f1), .int .i64 ((rd_T71 l1 x5_1).f2), .int .i64 ((rd_T71 l1 x5_1).f3), .slice A102_4 ((rd_T71 l1 x5_1).f4).length c102_4]] (by rfl) rfl rfl qG ?_; with_reducible refine (backhaulref21_SameLine.calls k1 ((rd_T71 l0 x5_1).f0) ((rd_T71 l0 x5_1).f1) ((rd_T71 l0 x5_1).f2) ((rd_T71 l0 x5_1).f3) _ _ ((rd_T71 l0 x5_1).f4) ((rd_T71 l1 x5_1).f0) ((rd_T71 l1 x5_1).f1) ((rd_T71 l1 x5_1).f2) ((rd_T71 l1 x5_1).f3) _ _ ((rd_T71 l1 x5_1).f4) false _ ?side1 ?side2 ?side3 ?side4 A7.out).mono ?_
              (case side1 => exact qC (Kd.C_below HR101_4.out HB.out))
              (case side2 => exact HC101_4.out)
              (case side3 => exact qC (Kd.C_below HR102_4.out HB.out))
              (case side4 => exact HC102_4.out)
              rintro e w12 ⟨rfl, hb⟩; refine ⟨_, rfl, ?_⟩; have n0_ := zA (zV qB hb); clear HB; have HB := n0_; clear n0_; (try clear hb); (try clear hb2); (try clear hk); (try clear hi); refine hK.out _ _ ⟨((HB.out.cell (zCq w _ hw101_0)).trans hw101_0), ((HB.out.cell (zCq w _ hw101_1)).trans hw101_1), ((HB.out.cell (zCq w _ hw101_2)).trans hw101_2), ((HB.out.cell (zCq w _ hw101_3)).trans hw101_3), ((HB.out.cell (zCq w _ hw101_4)).trans hw101_4), ((HB.out.cell (zCq w _ hw102_0)).trans hw102_0), ((HB.out.cell (zCq w _ hw102_1)).trans hw102_1), ((HB.out.cell (zCq w _ hw102_2)).trans hw102_2), ((HB.out.cell (zCq w _ hw102_3)).trans hw102_3), ((HB.out.cell (zCq w _ hw102_4)).trans hw102_4)⟩ (fun hHeld => ?_); clear hK K; refine norm_ (a' := ?_) ?_ ?_; rotate_left
              · show Act.put _ (some 25) _ = _
                simp only [Act.put, zH, zI, zJ, i64_w, i32_w]; rfl
              refine pure_ (i := 9) (N := some 26) #[o1, o1, o1, o1, o1, o1, o1, o1, o1, o1] rfl rfl (any_of HT_.out (by kernel_rfl)) (fun _ _ _ h => h) (Or.inl ⟨by rfl, qy⟩) qz ?_; refine done_ (done_of HT_.out (by kernel_rfl)) ?_; try go_wp2
              go_ret; exact ⟨qE, qB⟩
            rw [if_neg c6] at H; exact absurd H (by simp)
          rw [if_neg c5] at H; exact absurd H (by simp)
        rw [if_neg c4] at H; have c4b0 : decide (x5_1 < (l0.length : Int)) = false := zGq c4; clear c4; obtain rfl := zKq H; go_wp2; go_ret; exact ⟨qE, qB⟩
  rw [if_neg c3] at H
  have c3b0 : ((l0.length : Int) == (l1.length : Int)) = false := beq_eq_false_iff_ne.mpr c3
  have c3b1 : ((l0.length : Int) != (l1.length : Int)) = true := bne_iff_ne.mpr c3
  have c3b2 : (l0.length == l1.length) = false := by first | simpa using c3 | (simp at c3 ⊢; omega)
  obtain rfl := zKq H
  go_enter Try.func64, Try.ntmps64
  go_wp2
  go_ret
  exact ⟨qE, qB⟩
def backhaullaw21_LineDeals.f (k : Nat) (l0 : List (S71)) (a1 : Int) (a2 : Int) : Option (Bool) := (backhaullaw21_Few.f k l0).bind fun t101 => (if t101 = true then ((line_Deal.f k l0 a1 a2).bind fun bt103 => ((backhaulref21_Deal.f k l0 a1 a2).bind fun bt107 => ((backhaulref21_SameLines.f k bt103.1 bt107.1).bind fun t111 => (if t111 = true then (if bt103.2 = bt107.2 then ((backhaullaw21_awake.f).bind fun t112 => (if t112 = true then (some true) else (some false))) else (some false)) else (some false))))) else ((backhaullaw21_awake.f).bind fun t102 => (if t102 = true then (some true) else (some false))))
theorem backhaullaw21_LineDeals.mono : ∀ a0 a1 a2 k, LeO (backhaullaw21_LineDeals.f k a0 a1 a2) (backhaullaw21_LineDeals.f (k + 1) a0 a1 a2) := by
  intro a0 a1 a2 k
  unfold backhaullaw21_LineDeals.f
  repeat' (with_reducible first | exact backhaullaw21_Few.mono _ _ | exact backhaulref21_Deal.mono _ _ _ _ | exact backhaulref21_SameLines.mono _ _ _ | exact line_Deal.mono _ _ _ _ | exact LeO.refl _ | exact LeO.none _ | refine LeO.ite ?_ ?_ | refine LeO.bind ?_ (fun _ => ?_))
set_option maxHeartbeats 8000000 in
set_option maxRecDepth 100000 in
theorem backhaullaw21_LineDeals.calls (k : Nat) (A0 : Option Addr) (c0 : Nat) (l0 : List (S71)) (a1 : Int) (a2 : Int) (w : World) (hr0 : Kd.C k71 w A0 l0.length l0) (hc0 : l0.length ≤ c0) (h : backhaullaw21_LineDeals.f k l0 a1 a2 = some true) :
    Calls Try.prog 13 #[.slice A0 l0.length c0, .int .i64 a1, .int .i64 a2] w fun e w' => e = .returned (.bool true) ∧ Below w.heap.size w w' := by
  have HR0 := zA hr0
  have HC0 := zA hc0
  clear hr0 hc0
  have HB := zA (Below.refl w.heap.size w)
  have H : ((backhaullaw21_Few.f k l0).bind fun t101 => (if t101 = true then ((line_Deal.f k l0 a1 a2).bind fun bt103 => ((backhaulref21_Deal.f k l0 a1 a2).bind fun bt107 => ((backhaulref21_SameLines.f k bt103.1 bt107.1).bind fun t111 => (if t111 = true then (if bt103.2 = bt107.2 then ((backhaullaw21_awake.f).bind fun t112 => (if t112 = true then (some true) else (some false))) else (some false)) else (some false))))) else ((backhaullaw21_awake.f).bind fun t102 => (if t102 = true then (some true) else (some false))))) = some true := h
  clear h
  replace H := Option.bind_eq_some_iff.mp H
  obtain ⟨t101, A40, H⟩ := H
  try dsimp only at H
  have A4 := zA A40
  clear A40
  by_cases c5 : t101 = true
  · subst c5
    have H1 : ((line_Deal.f k l0 a1 a2).bind fun bt103 => ((backhaulref21_Deal.f k l0 a1 a2).bind fun bt107 => ((backhaulref21_SameLines.f k bt103.1 bt107.1).bind fun t111 => (if t111 = true then (if bt103.2 = bt107.2 then ((backhaullaw21_awake.f).bind fun t112 => (if t112 = true then (some true) else (some false))) else (some false)) else (some false))))) = some true := by first | (rw [if_pos rfl] at H; exact H) | rfl
    clear H; have H := H1; clear H1; replace H := Option.bind_eq_some_iff.mp H; obtain ⟨⟨t103, t106⟩, A60, H⟩ := H; try dsimp only at H
    have A6 := zA A60; clear A60; replace H := Option.bind_eq_some_iff.mp H; obtain ⟨⟨t107, t110⟩, A70, H⟩ := H; try dsimp only at H
    have A7 := zA A70; clear A70; replace H := Option.bind_eq_some_iff.mp H; obtain ⟨t111, A80, H⟩ := H; try dsimp only at H
    have A8 := zA A80; clear A80; by_cases c9 : t111 = true
    · subst c9
      have H1 : (if t106 = t110 then ((backhaullaw21_awake.f).bind fun t112 => (if t112 = true then (some true) else (some false))) else (some false)) = some true := by first | (rw [if_pos rfl] at H; exact H) | rfl
      clear H; have H := H1; clear H1; by_cases c10 : t106 = t110
      · rw [if_pos c10] at H
        have c10b0 : (t106 == t110) = true := beq_iff_eq.mpr c10; have c10b1 : (t106 != t110) = false := bne_eq_false_iff_eq.mpr c10; clear c10; replace H := Option.bind_eq_some_iff.mp H; obtain ⟨t112, A110, H⟩ := H; try dsimp only at H
        have A11 := zA A110; clear A110; by_cases c12 : t112 = true
        · subst c12
          have H1 : (some true) = some true := by first | (rw [if_pos rfl] at H; exact H) | rfl
          clear H; have H := H1; clear H1; clear H; go_enter Try.func13, Try.ntmps13; go_wp2_with (first | ((with_reducible refine zJq (f := 60) rfl ?_); refine goesL_ (some 12) rfl rfl Try.func60 (by kernel_rfl) rfl #[.slice A0 l0.length c0] rfl qG ?_; (with_reducible refine (backhaullaw21_Few.calls k _ _ l0 true _ ?side1 ?side2 A4.out).mono ?_); (case side1 => repeat (first | exact HR0.out | (with_reducible refine Kd.C_alloc ?_ _) | (with_reducible refine Kd.C_drewN ?_ _) | (with_reducible refine Kd.C_drew ?_))); (case side2 => exact HC0.out); rintro e w' ⟨rfl, ⟨nd, rfl⟩⟩; refine ⟨_, rfl, ?_⟩) | ((with_reducible refine zJq (f := 62) rfl ?_); refine goesL_ (some 19) rfl rfl Try.func62 (by kernel_rfl) rfl #[.slice A0 l0.length c0, .int .i64 a1, .int .i64 a2] rfl qG ?_; (with_reducible refine (line_Deal.calls k (fun k_ => k_ < w.heap.size) _ _ l0 a1 a2 t103 t106 _ ?side1 A6.out).mono ?_); (case side1 => exact Kd.V_mk HC0.out (Kd.F_below (Kd.C_F k71_heap HR0.out) qB)); rintro e w13 ⟨v104, rfl, ho0, hb⟩; refine ⟨_, rfl, ?_⟩; have n0_ := zA (Kd.N_lower (Kd.N_mono (ok' := fun k_ => True) ho0 (fun k_ hk_ => trivial)) (zW qB)); have n1_ := zA (zV qB hb); clear HB; have HO105 := n0_; have HB := n1_; clear n0_ n1_; (try clear hb); (try clear ho0)) | ((with_reducible refine zJq (f := 63) rfl ?_); refine goesL_ (some 26) rfl rfl Try.func63 (by kernel_rfl) rfl #[.slice A0 l0.length c0, .int .i64 a1, .int .i64 a2] rfl qG ?_; (with_reducible refine (backhaulref21_Deal.calls k (fun k_ => k_ < w.heap.size) _ _ l0 a1 a2 t107 t110 _ ?side1 A7.out).mono ?_); (case side1 => exact Kd.V_mk HC0.out (Kd.F_below (Kd.C_F k71_heap HR0.out) qB)); rintro e w14 ⟨v108, rfl, ho0, hb⟩; refine ⟨_, rfl, ?_⟩; have n0_ := zA (Kd.N_elder' (by (with_reducible repeat (first | apply Kd.N_alloc | apply Kd.N_drewN | apply Kd.N_drew)); exact HO105.out) (Kd.N_base ho0) hb); have n1_ := zA (Kd.N_lower (Kd.N_mono (ok' := fun k_ => some k_ ≠ (v104 : Value).ownBlock) ho0 (fun k_ hk_ => Or.elim hk_ (fun hs_ => fun e_ => Nat.not_le.2 hs_ (Kd.N_base HO105.out k_ e_.symm)) (fun hn_ => (Kd.fresh' (Kd.N_lt (by (with_reducible repeat (first | apply Kd.N_alloc | apply Kd.N_drewN | apply Kd.N_drew)); exact HO105.out)) k_ hn_)))) (zW qB)); have n2_ := zA (zV qB hb); clear HO105 HB; have HO105 := n0_; have HO109 := n1_; have HB := n2_; clear n0_ n1_ n2_; (try clear hb); (try clear ho0); obtain ⟨Ao15, co15, eo15⟩ := Kd.N_slice HO105.out; subst eo15; obtain ⟨Ao16, co16, eo16⟩ := Kd.N_slice HO109.out; subst eo16) | ((with_reducible refine zJq (f := 64) rfl ?_); refine goesL_ (some 31) rfl rfl Try.func64 (by kernel_rfl) rfl #[.slice Ao15 t103.length co15, .slice Ao16 t107.length co16] rfl qG ?_; (with_reducible refine (backhaulref21_SameLines.calls k _ _ t103 _ _ t107 true _ ?side1 ?side2 ?side3 ?side4 A8.out).mono ?_); (case side1 => repeat (first | exact (Kd.N_reads' HO105.out).2.2 | (with_reducible refine Kd.C_alloc ?_ _) | (with_reducible refine Kd.C_drewN ?_ _) | (with_reducible refine Kd.C_drew ?_))); (case side2 => exact (Kd.N_reads' HO105.out).2.1); (case side3 => repeat (first | exact (Kd.N_reads' HO109.out).2.2 | (with_reducible refine Kd.C_alloc ?_ _) | (with_reducible refine Kd.C_drewN ?_ _) | (with_reducible refine Kd.C_drew ?_))); (case side4 => exact (Kd.N_reads' HO109.out).2.1); rintro e w17 ⟨rfl, hb⟩; refine ⟨_, rfl, ?_⟩; have n0_ := zA (Kd.N_below (by (with_reducible repeat (first | apply Kd.N_alloc | apply Kd.N_drewN | apply Kd.N_drew)); exact HO105.out) hb); have n1_ := zA (Kd.N_below (by (with_reducible repeat (first | apply Kd.N_alloc | apply Kd.N_drewN | apply Kd.N_drew)); exact HO109.out) hb); have n2_ := zA (zV qB hb); clear HO105 HO109 HB; have HO105 := n0_; have HO109 := n1_; have HB := n2_; clear n0_ n1_ n2_; (try clear hb)) | (go_at_call 61; (with_reducible refine (backhaullaw21_awake.calls  true _ A11.out).mono ?_); rintro e w18 ⟨rfl, hb⟩; have n0_ := zA (Kd.N_below (by (with_reducible repeat (first | apply Kd.N_alloc | apply Kd.N_drewN | apply Kd.N_drew)); exact HO105.out) hb); have n1_ := zA (Kd.N_below (by (with_reducible repeat (first | apply Kd.N_alloc | apply Kd.N_drewN | apply Kd.N_drew)); exact HO109.out) hb); have n2_ := zA (zV qB hb); clear HO105 HO109 HB; have HO105 := n0_; have HO109 := n1_; have HB := n2_; clear n0_ n1_ n2_; (try clear hb)))
          go_ret; exact ⟨qE, qB⟩
        replace c12 := Bool.eq_false_iff.mpr c12; subst c12; have H1 : (some false) = some true := by first | (rw [if_neg (show ¬ (false = true) by decide)] at H; exact H) | rfl
        clear H; have H := H1; clear H1; exact absurd H (by simp)
      rw [if_neg c10] at H; have c10b0 : (t106 == t110) = false := beq_eq_false_iff_ne.mpr c10; have c10b1 : (t106 != t110) = true := bne_iff_ne.mpr c10; exact absurd H (by simp)
    replace c9 := Bool.eq_false_iff.mpr c9; subst c9; have H1 : (some false) = some true := by first | (rw [if_neg (show ¬ (false = true) by decide)] at H; exact H) | rfl
    clear H; have H := H1; clear H1; exact absurd H (by simp)
  replace c5 := Bool.eq_false_iff.mpr c5
  subst c5
  have H1 : ((backhaullaw21_awake.f).bind fun t102 => (if t102 = true then (some true) else (some false))) = some true := by first | (rw [if_neg (show ¬ (false = true) by decide)] at H; exact H) | rfl
  clear H
  have H := H1
  clear H1
  replace H := Option.bind_eq_some_iff.mp H
  obtain ⟨t102, A190, H⟩ := H
  try dsimp only at H
  have A19 := zA A190
  clear A190
  by_cases c20 : t102 = true
  · subst c20
    have H1 : (some true) = some true := by first | (rw [if_pos rfl] at H; exact H) | rfl
    clear H; have H := H1; clear H1; clear H; go_enter Try.func13, Try.ntmps13; go_wp2_with (first | ((with_reducible refine zJq (f := 60) rfl ?_); refine goesL_ (some 12) rfl rfl Try.func60 (by kernel_rfl) rfl #[.slice A0 l0.length c0] rfl qG ?_; (with_reducible refine (backhaullaw21_Few.calls k _ _ l0 false _ ?side1 ?side2 A4.out).mono ?_); (case side1 => repeat (first | exact HR0.out | (with_reducible refine Kd.C_alloc ?_ _) | (with_reducible refine Kd.C_drewN ?_ _) | (with_reducible refine Kd.C_drew ?_))); (case side2 => exact HC0.out); rintro e w' ⟨rfl, ⟨nd, rfl⟩⟩; refine ⟨_, rfl, ?_⟩) | ((with_reducible refine zJq (f := 61) rfl ?_); refine goesL_ (some 14) rfl rfl Try.func61 (by kernel_rfl) rfl #[] rfl qG ?_; (with_reducible refine (backhaullaw21_awake.calls  true _ A19.out).mono ?_); rintro e w21 ⟨rfl, hb⟩; refine ⟨_, rfl, ?_⟩; have n0_ := zA (zV qB hb); clear HB; have HB := n0_; clear n0_; (try clear hb))); go_ret; exact ⟨qE, qB⟩
  replace c20 := Bool.eq_false_iff.mpr c20
  subst c20
  have H1 : (some false) = some true := by first | (rw [if_neg (show ¬ (false = true) by decide)] at H; exact H) | rfl
  clear H
  have H := H1
  clear H1
  exact absurd H (by simp)
def backhaullaw21_LineDeals.Pure : Prop := ∀ (l0 : List (S71)) (a1 : Int) (a2 : Int), (l0.length ≤ maxLen ∧ ∀ x ∈ l0, ((Lit.int .i64 x.f0).wf = true ∧ (Lit.int .i64 x.f1).wf = true ∧ (Lit.int .i64 x.f2).wf = true ∧ (Lit.int .i64 x.f3).wf = true ∧ (x.f4.length ≤ maxLen ∧ ∀ y ∈ x.f4, y.size ≤ maxLen))) → (Lit.int .i64 a1).wf = true → (Lit.int .i64 a2).wf = true → ∃ k, backhaullaw21_LineDeals.f k l0 a1 a2 = some true
end Go.Proofs.Ytefhljhpcpajgaa.F
set_option linter.unusedVariables false
namespace Go.Proofs.Ytefhljhpcpajgaa.Q
open Go.RowKit
def sumI (l : List Int) : Int := l.foldr (· + ·) 0
theorem sumI_cons (a : Int) (l : List Int) : sumI (a :: l) = a + sumI l := rfl
theorem sumI_append (a b : List Int) : sumI (a ++ b) = sumI a + sumI b := by
  induction a with
  | nil => simp [sumI]
  | cons x a ih => rw [List.cons_append, sumI_cons, sumI_cons, ih]; omega
theorem sumI_mul (l : List Int) (c : Int) : sumI (l.map (fun x => c * x)) = c * sumI l := by
  induction l with
  | nil => simp [sumI]
  | cons x l ih => rw [List.map_cons, sumI_cons, sumI_cons, ih, Int.mul_add]
theorem sumI_add {α : Type} (l : List α) (f g : α → Int) : sumI (l.map (fun x => f x + g x)) = sumI (l.map f) + sumI (l.map g) := by
  induction l with
  | nil => simp [sumI]
  | cons x l ih => simp only [List.map_cons, sumI_cons, ih]; omega
theorem sumI_nonneg {l : List Int} (h : ∀ x ∈ l, 0 ≤ x) : 0 ≤ sumI l := by
  induction l with
  | nil => simp [sumI]
  | cons x l ih =>
    have := h x List.mem_cons_self
    have := ih (fun y hy => h y (List.mem_cons_of_mem _ hy))
    rw [sumI_cons]; omega
theorem sumI_mem_le {l : List Int} (h : ∀ x ∈ l, 0 ≤ x) {a : Int} (ha : a ∈ l) : a ≤ sumI l := by
  induction l with
  | nil => cases ha
  | cons x l ih =>
    have h0 := h x List.mem_cons_self
    have h1 := sumI_nonneg (fun y hy => h y (List.mem_cons_of_mem _ hy))
    rw [sumI_cons]
    rcases List.mem_cons.1 ha with rfl | ha
    · omega
    have := ih (fun y hy => h y (List.mem_cons_of_mem _ hy)) ha; omega
theorem countP_sum {α : Type} (p : α → Bool) (l : List α) : ((l.countP p : Nat) : Int) = sumI (l.map (fun x => if p x = true then 1 else 0)) := by
  induction l with
  | nil => simp [sumI]
  | cons x l ih =>
    rw [List.map_cons, sumI_cons, List.countP_cons, ← ih]
    split <;> omega
def prt (t s w : Int) : Int := t * w / s
def rst (t s w : Int) : Int := t * w % s
def leftI (t s : Int) (l : List Int) : Int := t - sumI (l.map (prt t s))
theorem left_mul {t s : Int} {l : List Int} (hs : sumI l = s) : leftI t s l * s = sumI (l.map (rst t s)) := by
  have e : sumI (l.map (fun w => t * w)) = sumI (l.map (fun w => s * prt t s w)) + sumI (l.map (rst t s)) := by
    rw [← sumI_add]
    congr 1
    refine List.map_congr_left fun w _ => ?_
    unfold prt rst
    rw [Int.add_comm]
    exact (Int.emod_add_mul_ediv (t * w) s).symm
  have e2 : sumI (l.map (fun w => s * prt t s w)) = s * sumI (l.map (prt t s)) := by
    rw [← sumI_mul, List.map_map]; rfl
  rw [sumI_mul, hs] at e
  unfold leftI
  rw [Int.sub_mul, e, e2, Int.mul_comm s]
  omega
theorem sum_rests {t s : Int} (hs : 0 < s) (l : List Int) : 0 ≤ sumI (l.map (rst t s)) ∧ sumI (l.map (rst t s)) ≤ ((l.countP (fun w => decide (0 < rst t s w)) : Nat) : Int) * (s - 1) := by
  induction l with
  | nil => simp [sumI]
  | cons w l ih =>
    have h0 : 0 ≤ rst t s w := Int.emod_nonneg _ (by omega)
    have h1 : rst t s w < s := Int.emod_lt_of_pos _ hs
    rw [List.map_cons, sumI_cons, List.countP_cons]
    refine ⟨by omega, ?_⟩
    by_cases h : 0 < rst t s w
    · rw [if_pos (decide_eq_true h), Int.natCast_add, Int.add_mul]
      omega
    rw [if_neg (by simpa using h)]
    simp only [Int.natCast_add, Int.natCast_zero, Int.add_zero]
    omega
theorem left_bound {t s : Int} {l : List Int} (hs : sumI l = s) (h0 : 0 < s) : 0 ≤ leftI t s l ∧ leftI t s l ≤ ((l.countP (fun w => decide (0 < rst t s w)) : Nat) : Int) ∧ (leftI t s l = 0 ∨ leftI t s l < ((l.countP (fun w => decide (0 < rst t s w)) : Nat) : Int)) := by
  have e := left_mul (t := t) hs
  obtain ⟨h1, h2⟩ := sum_rests (t := t) h0 l
  rw [← e] at h1 h2
  have p0 : 0 ≤ leftI t s l := Int.nonneg_of_mul_nonneg_left h1 h0
  have hC0 : (0 : Int) ≤ ((l.countP (fun w => decide (0 < rst t s w)) : Nat) : Int) := Int.natCast_nonneg _
  generalize hL : leftI t s l = L at *
  generalize ((l.countP (fun w => decide (0 < rst t s w)) : Nat) : Int) = C at *
  have p1 : L * s ≤ C * s - C := by rw [Int.mul_sub, Int.mul_one] at h2; exact h2
  have p2 : L = 0 ∨ L < C := by
    apply Classical.byContradiction
    intro hn
    have h3 : 0 < L ∧ C ≤ L := by omega
    have h4 : C * s ≤ L * s := Int.mul_le_mul_of_nonneg_right h3.2 (by omega)
    have h5 : 0 < L * s := Int.mul_pos h3.1 h0
    by_cases hC : 0 < C
    · omega
    have : C * s ≤ 0 := by
      have := Int.mul_le_mul_of_nonneg_right (show C ≤ 0 by omega) (show 0 ≤ s by omega)
      rwa [Int.zero_mul] at this
    have : C * (s - 1) ≤ 0 := by
      have := Int.mul_le_mul_of_nonneg_right (show C ≤ 0 by omega) (show 0 ≤ s - 1 by omega)
      rwa [Int.zero_mul] at this
    omega
  refine ⟨p0, ?_, p2⟩
  rcases p2 with h | h
  · omega
  omega
def wt (l : List Int) (i : Nat) : Int := l.getD i 0
def outAt (t s : Int) (l : List Int) (i : Nat) : Int := prt t s (wt l i) + if (rank (fun j => rst t s (wt l j)) l.length i : Int) < leftI t s l then 1 else 0
def outL (t s : Int) (l : List Int) : List Int := (List.range l.length).map (outAt t s l)
theorem range_map {α : Type} [Inhabited α] (l : List α) (d : α) : (List.range l.length).map (fun i => l.getD i d) = l := by
  apply List.ext_getElem
  · simp
  intro i h1 h2
  simp [List.getD_eq_getElem?_getD, h2]
theorem out_sum {t s : Int} {l : List Int} (hs : sumI l = s) (h0 : 0 < s) : sumI (outL t s l) = t := by
  obtain ⟨b0, b1, _⟩ := left_bound (t := t) hs h0
  have hl : l.countP (fun w => decide (0 < rst t s w)) ≤ l.length := List.countP_le_length
  obtain ⟨L, hL⟩ := Int.eq_ofNat_of_zero_le b0
  have e1 : outL t s l = (List.range l.length).map (fun i => prt t s (wt l i) + if decide (rank (fun j => rst t s (wt l j)) l.length i < L) = true then 1 else 0) := by
    unfold outL outAt
    refine List.map_congr_left fun i _ => ?_
    rw [hL]
    congr 1
    by_cases h : rank (fun j => rst t s (wt l j)) l.length i < L
    · rw [if_pos (by omega), if_pos (by simpa using h)]
    rw [if_neg (by omega), if_neg (by simpa using h)]
  have e2 : sumI ((List.range l.length).map (fun i => prt t s (wt l i))) = sumI (l.map (prt t s)) := by
    have h : (List.range l.length).map (fun i => prt t s (wt l i)) = l.map (prt t s) := by
      have := congrArg (List.map (prt t s)) (range_map l 0)
      rw [List.map_map] at this
      exact this
    rw [h]
  rw [e1, sumI_add, e2, ← countP_sum, rank_count _ _ L (by omega)]
  unfold leftI at hL
  omega
theorem left_zero {s : Int} {l : List Int} : leftI 0 s l = 0 := by
  unfold leftI
  have : l.map (prt 0 s) = l.map (fun x => 0 * x) := List.map_congr_left fun x _ => by unfold prt; simp
  rw [this, sumI_mul]; simp
end Go.Proofs.Ytefhljhpcpajgaa.Q
set_option linter.unusedVariables false
namespace Go.Proofs.Ytefhljhpcpajgaa.Q
open Go.RowKit Go.Proofs.Ytefhljhpcpajgaa.F Go.Proofs.YtefhljhpcpajgaaW.PrintWords Go.Proofs.YtefhljhpcpajgaaW.PrintLast Go.Proofs.YtefhljhpcpajgaaW.PrintMore
def amt (n : Int) : Prop := -1000000000000 ≤ n ∧ n ≤ 1000000000000
instance (n : Int) : Decidable (amt n) := by unfold amt; infer_instance
def toldS (n : Int) : Int × Int := if amt n then (n, 0) else (0, 8)
def sumS : Int → List Int → Int × Int
  | n, [] => (n, 0)
  | n, x :: xs => if amt x ∧ amt (n + x) then sumS (n + x) xs else (0, 8)
theorem in_f (n : Int) : cents_In.f n = some (decide (amt n)) := by
  unfold cents_In.f amt
  by_cases h : n ≥ -1000000000000
  · rw [if_pos h]; congr 1; exact decide_eq_decide.2 ⟨fun a => ⟨h, a⟩, fun a => a.2⟩
  rw [if_neg h]; congr 1; exact (decide_eq_false (fun a => h a.1)).symm
theorem told_f (n : Int) : cents_told.f n = some (toldS n) := by
  unfold cents_told.f toldS
  rw [in_f]
  by_cases h : amt n
  · simp [h]
  simp [h]
theorem cents_Add_l0 {l : List Int} (hl : l.length < 9223372036854775807) (d : Nat) : ∀ (i : Nat) (n : Int), l.length - i = d → i ≤ l.length → amt n →
    Ev (fun k => cents_Add.l0 k n l (l.length : Int) (i : Int)) (sumS n (l.drop i)) := by
  induction d with
  | zero =>
    intro i n hd hi hn
    refine Ev.step (fun k => by simp only [cents_Add.l0]; rfl) ?_
    refine Ev.neg (by omega) (Ev.ok ?_)
    rw [List.drop_eq_nil_of_le (by omega)]; rfl
  | succ d ih =>
    intro i n hd hi hn
    have h : i < l.length := by omega
    refine Ev.step (fun k => by simp only [cents_Add.l0]; rfl) ?_
    refine Ev.pos (by omega) (Ev.pos (by omega) (Ev.pos (by omega) ?_))
    rw [drop_cons h, rd_nat h]
    refine Q.Ev.bindc (in_f _) ?_
    by_cases h1 : amt l[i]
    · refine Ev.pos (decide_eq_true h1) ?_
      have hw : wrap64 (n + l[i]) = n + l[i] := by unfold amt at hn h1; exact wrap_eq (by omega) (by omega)
      rw [hw]
      refine Q.Ev.bindc (in_f _) ?_
      by_cases h2 : amt (n + l[i])
      · refine Ev.pos (decide_eq_true h2) ?_
        simp only [sumS]
        rw [if_pos ⟨h1, h2⟩, wrap_eq (by omega) (by omega)]
        exact ih (i + 1) _ (by omega) (by omega) h2
      refine Ev.neg (by simp [h2]) (Ev.ok ?_)
      simp only [sumS]; rw [if_neg (fun a => h2 a.2)]
    refine Ev.neg (by simp [h1]) (Ev.ok ?_)
    simp only [sumS]; rw [if_neg (fun a => h1 a.1)]
theorem amt0 : amt 0 := by unfold amt; omega
theorem cents_Add_f {l : List Int} (hl : l.length < 9223372036854775807) : Ev (fun k => cents_Add.f k l) (sumS 0 l) := by
  unfold cents_Add.f
  exact cents_Add_l0 hl l.length 0 0 (by omega) (by omega) amt0
theorem and32 {x : Int} (h0 : 0 ≤ x) (h1 : x < 18446744073709551616) : Go.bits .and .u64 x 4294967295 = x % 4294967296 :=
  Go.bits_mask .u64 64 (by decide) (fun n h0 h1 => u64_eq h0 h1) 32 (by decide) x h0 h1
theorem mul64_f {a b : Int} (ha0 : 0 ≤ a) (ha : a < 18446744073709551616) (hb0 : 0 ≤ b) (hb : b < 18446744073709551616) :
    bits_Mul64.f a b = some (a * b / 18446744073709551616, a * b % 18446744073709551616) := by
  unfold bits_Mul64.f
  rw [and32 ha0 ha, and32 hb0 hb]
  obtain ⟨ah, hah⟩ : ∃ x, x = a / 4294967296 := ⟨_, rfl⟩
  obtain ⟨al, hal⟩ : ∃ x, x = a % 4294967296 := ⟨_, rfl⟩
  obtain ⟨bh, hbh⟩ : ∃ x, x = b / 4294967296 := ⟨_, rfl⟩
  obtain ⟨bl, hbl⟩ : ∃ x, x = b % 4294967296 := ⟨_, rfl⟩
  rw [← hah, ← hal, ← hbh, ← hbl]
  have ea : a = ah * 4294967296 + al := by omega
  have eb : b = bh * 4294967296 + bl := by omega
  have bnd : ∀ x y : Int, 0 ≤ x → x ≤ 4294967295 → 0 ≤ y → y ≤ 4294967295 → 0 ≤ x * y ∧ x * y ≤ 18446744065119617025 := by
    intro x y hx0 hx hy0 hy
    refine ⟨Int.mul_nonneg hx0 hy0, ?_⟩
    have := Int.mul_le_mul hx hy hy0 (by omega)
    omega
  obtain ⟨p, hp⟩ : ∃ x, x = ah * bh := ⟨_, rfl⟩
  obtain ⟨q, hq⟩ : ∃ x, x = ah * bl := ⟨_, rfl⟩
  obtain ⟨r, hr⟩ : ∃ x, x = al * bh := ⟨_, rfl⟩
  obtain ⟨s, hs⟩ : ∃ x, x = al * bl := ⟨_, rfl⟩
  have bp := bnd ah bh (by omega) (by omega) (by omega) (by omega)
  have bq := bnd ah bl (by omega) (by omega) (by omega) (by omega)
  have br := bnd al bh (by omega) (by omega) (by omega) (by omega)
  have bs := bnd al bl (by omega) (by omega) (by omega) (by omega)
  have e : a * b = p * 18446744073709551616 + (q + r) * 4294967296 + s := by
    rw [ea, eb, hp, hq, hr, hs]
    simp only [Int.add_mul, Int.mul_add]
    rw [show ah * 4294967296 * (bh * 4294967296) = ah * bh * 18446744073709551616 by rw [Int.mul_assoc, Int.mul_left_comm 4294967296 bh, Int.mul_assoc ah bh]; rfl, show ah * 4294967296 * bl = ah * bl * 4294967296 by rw [Int.mul_right_comm], show al * (bh * 4294967296) = al * bh * 4294967296 by rw [Int.mul_assoc]]
    omega
  rw [← hp] at bp
  rw [← hq] at bq
  rw [← hr] at br
  rw [← hs] at bs
  rw [← hp, ← hq, ← hr, ← hs, e]
  clear e hp hq hr hs ea eb hah hal hbh hbl
  rw [u64_eq (x := p) (by omega) (by omega), u64_eq (x := q) (by omega) (by omega), u64_eq (x := r) (by omega) (by omega), u64_eq (x := s) (by omega) (by omega)]
  rw [u64_eq (x := q + s / 4294967296) (by omega) (by omega)]
  rw [u64_eq (x := p + (q + s / 4294967296) / 4294967296) (by omega) (by omega)]
  rw [and32 (x := q + s / 4294967296) (by omega) (by omega)]
  rw [u64_eq (x := (q + s / 4294967296) % 4294967296 + r) (by omega) (by omega)]
  rw [u64_eq (x := p + (q + s / 4294967296) / 4294967296 + ((q + s / 4294967296) % 4294967296 + r) / 4294967296) (by omega) (by omega)]
  have hw : IntKind.u64.wrap (p * 18446744073709551616 + (q + r) * 4294967296 + s) = (p * 18446744073709551616 + (q + r) * 4294967296 + s) % 18446744073709551616 := by simp [IntKind.wrap, IntKind.signed, IntKind.bits]
  rw [hw]
  congr 2
  omega
theorem product_f {a b : Int} (ha0 : 0 ≤ a) (ha : a < 18446744073709551616) (hb0 : 0 ≤ b) (hb : b < 18446744073709551616) :
    cents_product.f a b = some (a * b / 18446744073709551616, a * b % 18446744073709551616) := by
  unfold cents_product.f
  rw [mul64_f ha0 ha hb0 hb]
  rfl
theorem above_f {x y : Int} (hx0 : 0 ≤ x) (hy0 : 0 ≤ y) : cents_wide_above.f (x / 18446744073709551616) (x % 18446744073709551616) (y / 18446744073709551616) (y % 18446744073709551616) = some (decide (x > y)) := by
  unfold cents_wide_above.f
  split
  · exact congrArg some (decide_eq_true (by omega)).symm
  split
  · exact congrArg some (decide_eq_decide.2 (by omega))
  exact congrArg some (decide_eq_false (by omega)).symm
end Go.Proofs.Ytefhljhpcpajgaa.Q
set_option linter.unusedVariables false
set_option maxRecDepth 4000
namespace Go.Proofs.Ytefhljhpcpajgaa.Q
open Go.RowKit Go.Proofs.Ytefhljhpcpajgaa.F Go.Proofs.YtefhljhpcpajgaaW.PrintWords Go.Proofs.YtefhljhpcpajgaaW.PrintLast Go.Proofs.YtefhljhpcpajgaaW.PrintMore
abbrev tab8 : ByteArray := (⟨#[0, 1, 2, 2, 3, 3, 3, 3, 4, 4, 4, 4, 4, 4, 4, 4, 5, 5, 5, 5, 5, 5, 5, 5, 5, 5, 5, 5, 5, 5, 5, 5, 6, 6, 6, 6, 6, 6, 6, 6, 6, 6, 6, 6, 6, 6, 6, 6, 6, 6, 6, 6, 6, 6, 6, 6, 6, 6, 6, 6, 6, 6, 6, 6, 7, 7, 7, 7, 7, 7, 7, 7, 7, 7, 7, 7, 7, 7, 7, 7, 7, 7, 7, 7, 7, 7, 7, 7, 7, 7, 7, 7, 7, 7, 7, 7, 7, 7, 7, 7, 7, 7, 7, 7, 7, 7, 7, 7, 7, 7, 7, 7, 7, 7, 7, 7, 7, 7, 7, 7, 7, 7, 7, 7, 7, 7, 7, 7, 8, 8, 8, 8, 8, 8, 8, 8, 8, 8, 8, 8, 8, 8, 8, 8, 8, 8, 8, 8, 8, 8, 8, 8, 8, 8, 8, 8, 8, 8, 8, 8, 8, 8, 8, 8, 8, 8, 8, 8, 8, 8, 8, 8, 8, 8, 8, 8, 8, 8, 8, 8, 8, 8, 8, 8, 8, 8, 8, 8, 8, 8, 8, 8, 8, 8, 8, 8, 8, 8, 8, 8, 8, 8, 8, 8, 8, 8, 8, 8, 8, 8, 8, 8, 8, 8, 8, 8, 8, 8, 8, 8, 8, 8, 8, 8, 8, 8, 8, 8, 8, 8, 8, 8, 8, 8, 8, 8, 8, 8, 8, 8, 8, 8, 8, 8, 8, 8, 8, 8, 8, 8, 8, 8, 8, 8, 8, 8]⟩ : ByteArray)
def len8ok (x : Nat) : Bool := let t := (bt tab8 (x : Int)).toNat; decide (bt tab8 (x : Int) = (t : Int)) && decide (t ≤ 8) && decide (x < 2 ^ t) && (x == 0 || (decide (1 ≤ t) && decide (2 ^ (t - 1) ≤ x)))
theorem len8_all : (List.range 256).all len8ok = true := by decide +kernel
theorem len8 {x : Int} (h0 : 0 ≤ x) (h1 : x < 256) : ∃ t : Nat, bt tab8 x = (t : Int) ∧ t ≤ 8 ∧ x < (2 : Int) ^ t ∧ (0 < x → 1 ≤ t ∧ (2 : Int) ^ (t - 1) ≤ x) := by
  obtain ⟨n, rfl⟩ := Int.eq_ofNat_of_zero_le h0
  have h := List.all_eq_true.1 len8_all n (List.mem_range.2 (by omega))
  unfold len8ok at h
  simp only [Bool.and_eq_true, decide_eq_true_eq, Bool.or_eq_true, beq_iff_eq] at h
  obtain ⟨⟨⟨ha, hb⟩, hc⟩, hd⟩ := h
  refine ⟨_, ha, hb, by exact_mod_cast hc, fun hp => ?_⟩
  rcases hd with hd | hd
  · omega
  exact ⟨hd.1, by exact_mod_cast hd.2⟩
theorem up_pow {x : Int} {m t : Nat} (hx : 0 ≤ x) (ht : 1 ≤ t) (h1 : (2 : Int) ^ (t - 1) ≤ x / 2 ^ m) (h2 : x / 2 ^ m < (2 : Int) ^ t) : (2 : Int) ^ (m + t - 1) ≤ x ∧ x < (2 : Int) ^ (m + t) := by
  have hp : (0 : Int) < 2 ^ m := Int.pow_pos (by decide)
  constructor
  · rw [show m + t - 1 = (t - 1) + m by omega, Int.pow_add]
    exact (Int.le_ediv_iff_mul_le hp).1 h1
  rw [Nat.add_comm, Int.pow_add]
  exact (Int.ediv_lt_iff_lt_mul hp).1 h2
theorem len64_j0 {x c : Int} (hx0 : 0 < x) (hx : x < 4294967296) (hc0 : 0 ≤ c) (hc : c ≤ 32) : ∃ n : Nat, Ev (fun k => bits_Len64.j0 k x c) (c + n) ∧ 1 ≤ n ∧ n ≤ 32 ∧ (2 : Int) ^ (n - 1) ≤ x ∧ x < (2 : Int) ^ n := by
  by_cases h1 : x ≥ 65536
  · by_cases h2 : x / 65536 ≥ 256
    · obtain ⟨t, e, ht, hlt, hpos⟩ := len8 (x := x / 65536 / 256 % 256) (by omega) (by omega)
      obtain ⟨h3, h4⟩ := hpos (by omega)
      have e2 : x / 65536 / 256 % 256 = x / 2 ^ 24 := by rw [show (2 : Int) ^ 24 = 16777216 by decide]; omega
      rw [e2] at hlt h4
      obtain ⟨h5, h6⟩ := up_pow (m := 24) (by omega) h3 h4 hlt
      refine ⟨24 + t, Ev.step (fun k => by simp only [bits_Len64.j0]; rfl) ?_, by omega, by omega, h5, h6⟩
      refine Ev.pos h1 (Ev.pos h2 (Ev.pos (by omega) (Ev.pos (by omega) (Ev.ok ?_))))
      rw [e, wrap_eq (x := c + 16) (by omega) (by omega), wrap_eq (x := (t : Int)) (by omega) (by omega), wrap_eq (x := c + 16 + 8) (by omega) (by omega), wrap_eq (by omega) (by omega)]
      omega
    obtain ⟨t, e, ht, hlt, hpos⟩ := len8 (x := x / 65536 % 256) (by omega) (by omega)
    obtain ⟨h3, h4⟩ := hpos (by omega)
    have e2 : x / 65536 % 256 = x / 2 ^ 16 := by rw [show (2 : Int) ^ 16 = 65536 by decide]; omega
    rw [e2] at hlt h4
    obtain ⟨h5, h6⟩ := up_pow (m := 16) (by omega) h3 h4 hlt
    refine ⟨16 + t, Ev.step (fun k => by simp only [bits_Len64.j0]; rfl) ?_, by omega, by omega, h5, h6⟩
    refine Ev.pos h1 (Ev.neg h2 (Ev.pos (by omega) (Ev.pos (by omega) (Ev.ok ?_))))
    rw [e, wrap_eq (x := c + 16) (by omega) (by omega), wrap_eq (x := (t : Int)) (by omega) (by omega), wrap_eq (by omega) (by omega)]
    omega
  by_cases h2 : x ≥ 256
  · obtain ⟨t, e, ht, hlt, hpos⟩ := len8 (x := x / 256 % 256) (by omega) (by omega)
    obtain ⟨h3, h4⟩ := hpos (by omega)
    have e2 : x / 256 % 256 = x / 2 ^ 8 := by rw [show (2 : Int) ^ 8 = 256 by decide]; omega
    rw [e2] at hlt h4
    obtain ⟨h5, h6⟩ := up_pow (m := 8) (by omega) h3 h4 hlt
    refine ⟨8 + t, Ev.step (fun k => by simp only [bits_Len64.j0]; rfl) ?_, by omega, by omega, h5, h6⟩
    refine Ev.neg h1 (Ev.pos h2 (Ev.pos (by omega) (Ev.pos (by omega) (Ev.ok ?_))))
    rw [e, wrap_eq (x := c + 8) (by omega) (by omega), wrap_eq (x := (t : Int)) (by omega) (by omega), wrap_eq (by omega) (by omega)]
    omega
  obtain ⟨t, e, ht, hlt, hpos⟩ := len8 (x := x % 256) (by omega) (by omega)
  obtain ⟨h3, h4⟩ := hpos (by omega)
  have e2 : x % 256 = x := by omega
  rw [e2] at hlt h4
  refine ⟨t, Ev.step (fun k => by simp only [bits_Len64.j0]; rfl) ?_, by omega, by omega, h4, hlt⟩
  refine Ev.neg h1 (Ev.neg h2 (Ev.pos (by omega) (Ev.pos (by omega) (Ev.ok ?_))))
  rw [e, wrap_eq (x := (t : Int)) (by omega) (by omega), wrap_eq (by omega) (by omega)]
theorem len64_f {x : Int} (hx0 : 0 < x) (hx : x < 18446744073709551616) : ∃ n : Nat, Ev (fun k => bits_Len64.f k x) (n : Int) ∧ 1 ≤ n ∧ n ≤ 64 ∧ (2 : Int) ^ (n - 1) ≤ x ∧ x < (2 : Int) ^ n := by
  by_cases h : x ≥ 4294967296
  · obtain ⟨n, h1, h2, h3, h4, h5⟩ := len64_j0 (x := x / 4294967296) (c := 32) (by omega) (by omega) (by omega) (by omega)
    have e2 : (4294967296 : Int) = 2 ^ 32 := by decide
    obtain ⟨h6, h7⟩ := up_pow (m := 32) (x := x) (by omega) h2 (by rw [← e2]; exact h4) (by rw [← e2]; exact h5)
    refine ⟨32 + n, ?_, by omega, by omega, h6, h7⟩
    unfold bits_Len64.f
    refine Ev.pos h ?_
    have := h1
    rwa [show (32 : Int) + n = ((32 + n : Nat) : Int) by omega] at this
  obtain ⟨n, h1, h2, h3, h4, h5⟩ := len64_j0 (x := x) (c := 0) (by omega) (by omega) (by omega) (by omega)
  refine ⟨n, ?_, by omega, by omega, h4, h5⟩
  unfold bits_Len64.f
  refine Ev.neg h ?_
  rwa [Int.zero_add] at h1
theorem u64_mod (x : Int) : IntKind.u64.wrap x = x % 18446744073709551616 := by simp [IntKind.wrap, IntKind.signed, IntKind.bits]
theorem digit {Y y1 y0 u d q r U Q : Int} (hY : Y = y1 * 4294967296 + y0) (h1 : 2147483648 ≤ y1) (h0 : 0 ≤ y0) (h0' : y0 < 4294967296) (hu0 : 0 ≤ u) (hu : u < Y) (hd0 : 0 ≤ d) (hd : d < 4294967296)
    (hU : U = u * 4294967296 + d) (hQ : Q = U / Y) (hqr : q * y1 + r = u) (hq0 : 0 ≤ q) (hq : q ≤ 4294967297) (hr0 : 0 ≤ r) (hr : r < 4294967296) (hge : Q ≤ q) :
    ((q ≥ 4294967296 ∨ q < 4294967296 ∧ 4294967296 * r + d < q * y0) ∧ Q ≤ q - 1 ∧ 1 ≤ q ∧ (r + y1 ≥ 4294967296 → q - 1 = Q)) ∨ (q < 4294967296 ∧ ¬ (4294967296 * r + d < q * y0) ∧ q = Q) := by
  have hYp : 0 < Y := by omega
  have eq : q * Y = (u - r) * 4294967296 + q * y0 := by
    rw [hY, Int.mul_add, ← Int.mul_assoc, show q * y1 = u - r by omega]
  have hlt : ∀ z : Int, Q < z ↔ U < z * Y := fun z => by rw [hQ]; exact Int.ediv_lt_iff_lt_mul hYp
  have hQ0 : 0 ≤ Q := by rw [hQ]; exact Int.ediv_nonneg (by omega) (by omega)
  have brk : Q ≤ q - 1 → r + y1 ≥ 4294967296 → q - 1 = Q := by
    intro h2 h3
    have h4 : ¬ (Q < q - 1) := by
      rw [hlt, Int.sub_mul, eq, hY, Int.one_mul]
      have : (q - 1) * y0 ≤ 4294967296 * y0 := Int.mul_le_mul_of_nonneg_right (by omega) h0
      rw [Int.sub_mul, Int.one_mul] at this
      omega
    omega
  by_cases h2 : q ≥ 4294967296
  · have h3 : Q < q := by
      have : Q < 4294967296 := by rw [hlt]; omega
      omega
    exact .inl ⟨.inl h2, by omega, by omega, brk (by omega)⟩
  by_cases h3 : 4294967296 * r + d < q * y0
  · have h4 : Q < q := by rw [hlt, eq]; omega
    exact .inl ⟨.inr ⟨by omega, h3⟩, by omega, by omega, brk (by omega)⟩
  have h4 : ¬ Q < q := by rw [hlt, eq]; omega
  exact .inr ⟨by omega, h3, by omega⟩
theorem rest_word {Y u d U Q : Int} (hY : 0 < Y) (hY' : Y < 18446744073709551616) (hU : U = u * 4294967296 + d) (hQ : Q = U / Y) : IntKind.u64.wrap (IntKind.u64.wrap (IntKind.u64.wrap (u * 4294967296) + d) - IntKind.u64.wrap (Q * Y)) = U % Y := by
  simp only [u64_mod]
  have h1 := Int.emod_nonneg U (show Y ≠ 0 by omega)
  have h2 := Int.emod_lt_of_pos U hY
  have h3 : U % Y = U - Q * Y := by rw [Int.emod_def, hQ, Int.mul_comm]
  rw [h3] at h1 h2 ⊢
  omega
structure Div1 (Y y1 y0 : Int) : Prop where
  eq : Y = y1 * 4294967296 + y0
  lo : 2147483648 ≤ y1
  hi : y1 < 4294967296
  z0 : 0 ≤ y0
  z1 : y0 < 4294967296
theorem div_l1 {Y y1 y0 u d s q1 U Q : Int} (D : Div1 Y y1 y0) (hu0 : 0 ≤ u) (hu : u < Y) (hd0 : 0 ≤ d) (hd : d < 4294967296) (hs : 0 ≤ s) (hU : U = u * 4294967296 + d) (hQ : Q = U / Y) (m : Nat) :
    ∀ q r : Int, q * y1 + r = u → 0 ≤ q → q ≤ 4294967297 → 0 ≤ r → r < 4294967296 → Q ≤ q → 4294967296 ≤ r + m * 2147483648 →
    Ev (fun k => bits_Div64.l1 k Y s y1 y0 d q1 r u q) (IntKind.u64.wrap (IntKind.u64.wrap (q1 * 4294967296) + Q), shr .u64 (U % Y) s) := by
  obtain ⟨hY, h1, h1', h0, h0'⟩ := D
  induction m with
  | zero => intro q r _ _ _ _ _ _ hm; omega
  | succ m ih =>
    intro q r hqr hq0 hq hr0 hr hge hm
    have H := digit hY h1 h0 h0' hu0 hu hd0 hd hU hQ hqr hq0 hq hr0 hr hge
    have rw_ := rest_word (show 0 < Y by omega) (by omega) hU hQ
    have yes : ((q ≥ 4294967296 ∨ q < 4294967296 ∧ 4294967296 * r + d < q * y0) ∧ Q ≤ q - 1 ∧ 1 ≤ q ∧ (r + y1 ≥ 4294967296 → q - 1 = Q)) → Ev (fun k => bits_Div64.j4 k Y s y1 y0 d q1 r u q true) (IntKind.u64.wrap (IntKind.u64.wrap (q1 * 4294967296) + Q), shr .u64 (U % Y) s) := by
      rintro ⟨_, h3, h4, h5⟩
      refine Ev.step (fun k => by simp only [bits_Div64.j4]; rfl) ?_
      refine Ev.pos (by first | trivial | rfl) ?_
      rw [u64_eq (x := r + y1) (by omega) (by omega), u64_eq (x := q - 1) (by omega) (by omega)]
      refine Ev.ite (fun h6 => Ev.pos hs (Ev.ok ?_)) (fun h6 => ?_)
      · rw [h5 h6, rw_]
      exact ih (q - 1) (r + y1) (by rw [Int.sub_mul]; omega) (by omega) (by omega) (by omega) (by omega) h3 (by omega)
    have no : q = Q → Ev (fun k => bits_Div64.j4 k Y s y1 y0 d q1 r u q false) (IntKind.u64.wrap (IntKind.u64.wrap (q1 * 4294967296) + Q), shr .u64 (U % Y) s) := by
      rintro rfl
      refine Ev.step (fun k => by simp only [bits_Div64.j4]; rfl) ?_
      refine Ev.neg (by decide) (Ev.pos hs (Ev.ok ?_))
      rw [rw_]
    refine Ev.step (fun k => by simp only [bits_Div64.l1]; rfl) ?_
    refine Ev.ite (fun h6 => ?_) (fun h6 => ?_)
    · rcases H with H | H
      · exact yes H
      omega
    have hb : q * y0 ≤ 4294967295 * 4294967295 := Int.mul_le_mul (by omega) (by omega) h0 (by decide)
    have hb0 : 0 ≤ q * y0 := Int.mul_nonneg hq0 h0
    rw [u64_eq (x := q * y0) hb0 (by omega), u64_eq (x := 4294967296 * r) (by omega) (by omega), u64_eq (x := 4294967296 * r + d) (by omega) (by omega)]
    rcases H with H | H
    · rw [decide_eq_true (by omega)]; exact yes H
    rw [decide_eq_false (by omega)]; exact no H.2.2
theorem div_l0 {Y y1 y0 u d d0 s U Q : Int} {R : Int × Int} (D : Div1 Y y1 y0) (hu0 : 0 ≤ u) (hu : u < Y) (hd0 : 0 ≤ d) (hd : d < 4294967296) (hU : U = u * 4294967296 + d) (hQ : Q = U / Y)
    (next : Ev (fun k => bits_Div64.j2 k Y s y1 y0 u d d0 Q) R) (m : Nat) :
    ∀ q r : Int, q * y1 + r = u → 0 ≤ q → q ≤ 4294967297 → 0 ≤ r → r < 4294967296 → Q ≤ q → 4294967296 ≤ r + m * 2147483648 →
    Ev (fun k => bits_Div64.l0 k Y s y1 y0 u d d0 q r) R := by
  obtain ⟨hY, h1, h1', h0, h0'⟩ := D
  induction m with
  | zero => intro q r _ _ _ _ _ _ hm; omega
  | succ m ih =>
    intro q r hqr hq0 hq hr0 hr hge hm
    have H := digit hY h1 h0 h0' hu0 hu hd0 hd hU hQ hqr hq0 hq hr0 hr hge
    have yes : ((q ≥ 4294967296 ∨ q < 4294967296 ∧ 4294967296 * r + d < q * y0) ∧ Q ≤ q - 1 ∧ 1 ≤ q ∧ (r + y1 ≥ 4294967296 → q - 1 = Q)) → Ev (fun k => bits_Div64.j1 k Y s y1 y0 u d d0 q r true) R := by
      rintro ⟨_, h3, h4, h5⟩
      refine Ev.step (fun k => by simp only [bits_Div64.j1]; rfl) ?_
      refine Ev.pos (by first | trivial | rfl) ?_
      rw [u64_eq (x := r + y1) (by omega) (by omega), u64_eq (x := q - 1) (by omega) (by omega)]
      refine Ev.ite (fun h6 => ?_) (fun h6 => ?_)
      · rw [h5 h6]; exact next
      exact ih (q - 1) (r + y1) (by rw [Int.sub_mul]; omega) (by omega) (by omega) (by omega) (by omega) h3 (by omega)
    have no : q = Q → Ev (fun k => bits_Div64.j1 k Y s y1 y0 u d d0 q r false) R := by
      rintro rfl
      refine Ev.step (fun k => by simp only [bits_Div64.j1]; rfl) ?_
      exact Ev.neg (by decide) next
    refine Ev.step (fun k => by simp only [bits_Div64.l0]; rfl) ?_
    refine Ev.ite (fun h6 => ?_) (fun h6 => ?_)
    · rcases H with H | H
      · exact yes H
      omega
    have hb : q * y0 ≤ 4294967295 * 4294967295 := Int.mul_le_mul (by omega) (by omega) h0 (by decide)
    have hb0 : 0 ≤ q * y0 := Int.mul_nonneg hq0 h0
    rw [u64_eq (x := q * y0) hb0 (by omega), u64_eq (x := 4294967296 * r) (by omega) (by omega), u64_eq (x := 4294967296 * r + d) (by omega) (by omega)]
    rcases H with H | H
    · rw [decide_eq_true (by omega)]; exact yes H
    rw [decide_eq_false (by omega)]; exact no H.2.2
theorem guess {Y y1 y0 u d U Q : Int} (D : Div1 Y y1 y0) (hu0 : 0 ≤ u) (hu : u < Y) (hd0 : 0 ≤ d) (hd : d < 4294967296) (hU : U = u * 4294967296 + d) (hQ : Q = U / Y) :
    ∃ q r : Int, IntKind.u64.wrap (Int.tdiv u y1) = q ∧ IntKind.u64.wrap (u - IntKind.u64.wrap (q * y1)) = r ∧ q * y1 + r = u ∧ 0 ≤ q ∧ q ≤ 4294967297 ∧ 0 ≤ r ∧ r < 4294967296 ∧ Q ≤ q := by
  obtain ⟨hY, h1, h1', h0, h0'⟩ := D
  have hq0 : 0 ≤ u / y1 := Int.ediv_nonneg hu0 (by omega)
  have hq : u / y1 < 4294967298 := by rw [Int.ediv_lt_iff_lt_mul (by omega)]; omega
  have hm := Int.emod_def u y1
  have hr0 := Int.emod_nonneg u (show y1 ≠ 0 by omega)
  have hr := Int.emod_lt_of_pos u (show 0 < y1 by omega)
  have hc : u / y1 * y1 = u - u % y1 := by rw [Int.mul_comm]; omega
  have hcp : 0 ≤ u / y1 * y1 := Int.mul_nonneg hq0 (by omega)
  refine ⟨u / y1, u % y1, ?_, ?_, by omega, hq0, by omega, hr0, by omega, ?_⟩
  · rw [Int.tdiv_eq_ediv_of_nonneg hu0, u64_eq hq0 (by omega)]
  · rw [hc, u64_eq (x := u - u % y1) (by omega) (by omega), show u - (u - u % y1) = u % y1 by omega, u64_eq (by omega) (by omega)]
  have hlt : Q < u / y1 + 1 := by
    rw [hQ, Int.ediv_lt_iff_lt_mul (by omega), hY, Int.mul_add, ← Int.mul_assoc, Int.add_mul, hc, Int.one_mul]
    have : 0 ≤ (u / y1 + 1) * y0 := Int.mul_nonneg (by omega) h0
    omega
  omega
theorem shl_at {x y s : Int} {n : Nat} (hs : s = (n : Int)) (hn : n ≤ 64) (h : x * 2 ^ n = y) (h0 : 0 ≤ y) (h1 : y < 18446744073709551616) : shl .u64 x s = y := by
  unfold shl
  rw [hs, Int.toNat_natCast, Nat.min_eq_left (by simpa [IntKind.bits] using hn), h, u64_eq h0 h1]
theorem and32' {x : Int} (h0 : 0 ≤ x) (h1 : x < 18446744073709551616) : Go.bits .and .u64 x 4294967295 = x % 4294967296 :=
  Go.bits_mask .u64 64 (by decide) (fun n h0 h1 => u64_eq h0 h1) 32 (by decide) x h0 h1
theorem div64_f {a b c : Int} (ha0 : 0 ≤ a) (ha : a < c) (hb0 : 0 ≤ b) (hb : b < 18446744073709551616) (hc : c < 18446744073709551616) :
    Ev (fun k => bits_Div64.f k a b c) ((a * 18446744073709551616 + b) / c, (a * 18446744073709551616 + b) % c) := by
  have hc0 : 0 < c := by omega
  unfold bits_Div64.f
  refine Ev.neg (by omega) (Ev.neg (by omega) ?_)
  by_cases hz : a = 0
  · refine Ev.pos hz (Ev.ok ?_)
    subst hz
    rw [Int.zero_mul, Int.zero_add, Int.tdiv_eq_ediv_of_nonneg hb0, Int.tmod_eq_emod_of_nonneg hb0]
    have h1 := Int.ediv_nonneg hb0 (show 0 ≤ c by omega)
    have h2 := Int.ediv_le_self c hb0
    rw [u64_eq h1 (by omega)]
  refine Ev.neg hz ?_
  obtain ⟨n, hev, hn1, hn2, hlo, hhi⟩ := len64_f hc0 hc
  obtain ⟨s, hs⟩ : ∃ s : Nat, s = 64 - n := ⟨_, rfl⟩
  have hsn : s + n = 64 := by omega
  have hs63 : s ≤ 63 := by omega
  obtain ⟨p, hp⟩ : ∃ p : Int, p = 2 ^ s := ⟨_, rfl⟩
  obtain ⟨r, hr⟩ : ∃ r : Int, r = 2 ^ n := ⟨_, rfl⟩
  have hp0 : 0 < p := by rw [hp]; exact Int.pow_pos (by decide)
  have hr0 : 0 < r := by rw [hr]; exact Int.pow_pos (by decide)
  have hpr : p * r = 18446744073709551616 := by rw [hp, hr, ← Int.pow_add, hsn]; decide
  have hY1 : c * p < 18446744073709551616 := by
    rw [← hpr, Int.mul_comm p r]
    exact Int.mul_lt_mul_of_pos_right (by rw [hr]; exact hhi) hp0
  have hY0 : 9223372036854775808 ≤ c * p := by
    have h1 : (2 : Int) ^ (n - 1) * p ≤ c * p := Int.mul_le_mul_of_nonneg_right hlo (by omega)
    have h2 : (2 : Int) ^ (n - 1) * p = 9223372036854775808 := by
      rw [hp, ← Int.pow_add, show n - 1 + s = 63 by omega]; decide
    omega
  obtain ⟨Y, hY⟩ : ∃ Y, Y = c * p := ⟨_, rfl⟩
  rw [← hY] at hY0 hY1
  have haY : a * p < Y := by rw [hY]; exact Int.mul_lt_mul_of_pos_right ha hp0
  have hap0 : 0 ≤ a * p := Int.mul_nonneg ha0 (by omega)
  have hbr0 : 0 ≤ b / r := Int.ediv_nonneg hb0 (by omega)
  have hbr : b / r < p := by rw [Int.ediv_lt_iff_lt_mul hr0, hpr]; exact hb
  have eY : shl .u64 c (s : Int) = Y := shl_at rfl (by omega) (by rw [hY, hp]) (by omega) hY1
  have ea : shl .u64 a (s : Int) = a * p := shl_at rfl (by omega) (by rw [hp]) hap0 (by omega)
  have eb : shr .u64 b (n : Int) = b / r := by
    unfold shr
    rw [Int.toNat_natCast, Nat.min_eq_left (by simpa [IntKind.bits] using hn2), hr]
  have eb2 : shl .u64 b (s : Int) = (b * p) % 18446744073709551616 := by
    unfold shl
    rw [Int.toNat_natCast, Nat.min_eq_left (by simp [IntKind.bits]; omega), u64_mod, hp]
  have hor : Go.bits .or .u64 (a * p) (b / r) = a * p + b / r := by
    refine Go.bits_join .u64 64 (by decide) (fun n h0 h1 => u64_eq h0 h1) s (a * p) (b / r) hap0 ?_ ?_ hbr0 ?_ ?_
    · rw [hp]; exact Int.mul_emod_left _ _
    · exact Int.lt_trans haY hY1
    · rw [← hp]; exact hbr
    have : p ≤ 18446744073709551616 := by
      rw [← hpr]
      have := Int.mul_le_mul_of_nonneg_left (show (1 : Int) ≤ r by omega) (show 0 ≤ p by omega)
      omega
    exact Int.lt_of_lt_of_le hbr this
  obtain ⟨u, hu⟩ : ∃ u, u = a * p + b / r := ⟨_, rfl⟩
  rw [← hu] at hor
  have huY : u < Y := by
    have h1 : (a + 1) * p ≤ c * p := Int.mul_le_mul_of_nonneg_right (by omega) (by omega)
    rw [Int.add_mul, Int.one_mul, ← hY] at h1
    omega
  have hu0 : 0 ≤ u := by omega
  obtain ⟨v, hv⟩ : ∃ v, v = (b * p) % 18446744073709551616 := ⟨_, rfl⟩
  rw [← hv] at eb2
  have hv0 : 0 ≤ v := by omega
  have hv1 : v < 18446744073709551616 := by omega
  have hbp : b * p = (b / r) * 18446744073709551616 + v := by
    have h1 : b * p / 18446744073709551616 = b / r := by
      rw [← hpr, Int.mul_comm p r]
      exact Int.mul_ediv_mul_of_pos_left b r hp0
    have h2 := Int.mul_ediv_add_emod (b * p) 18446744073709551616
    rw [h1, ← hv] at h2
    omega
  have hN : (a * 18446744073709551616 + b) * p = u * 18446744073709551616 + v := by
    rw [Int.add_mul, hbp, hu, Int.add_mul, Int.mul_right_comm]
    omega
  have ew : IntKind.u64.wrap (wrap64 (64 - (n : Int))) = (s : Int) := by
    rw [wrap_eq (by omega) (by omega), u64_eq (by omega) (by omega)]; omega
  have ew2 : IntKind.u64.wrap (64 - (s : Int)) = (n : Int) := by rw [u64_eq (by omega) (by omega)]; omega
  have hlz : Ev (fun k => bits_LeadingZeros64.f k c) (wrap64 (64 - (n : Int))) := by
    unfold bits_LeadingZeros64.f
    exact Ev.bind hev (Ev.ok rfl)
  refine Ev.bind hlz ?_
  simp only [ew, ew2, eY, ea, eb, eb2, hor]
  have D : Div1 Y (Y / 4294967296) (Go.bits .and .u64 Y 4294967295) := by
    rw [and32' (by omega) hY1]
    exact ⟨by omega, by omega, by omega, by omega, by omega⟩
  rw [and32' hv0 hv1]
  refine Ev.pos (by omega) (Ev.pos (by omega) (Ev.neg (by have := D.lo; omega) ?_))
  obtain ⟨y1, hy1⟩ : ∃ x, x = Y / 4294967296 := ⟨_, rfl⟩
  obtain ⟨y0, hy0⟩ : ∃ x, x = Go.bits .and .u64 Y 4294967295 := ⟨_, rfl⟩
  rw [← hy1, ← hy0] at D ⊢
  obtain ⟨d1, hd1⟩ : ∃ x, x = v / 4294967296 := ⟨_, rfl⟩
  obtain ⟨d0, hd0⟩ : ∃ x, x = v % 4294967296 := ⟨_, rfl⟩
  rw [← hd1, ← hd0]
  obtain ⟨U1, hU1⟩ : ∃ x, x = u * 4294967296 + d1 := ⟨_, rfl⟩
  obtain ⟨Q1, hQ1⟩ : ∃ x, x = U1 / Y := ⟨_, rfl⟩
  obtain ⟨R1, hR1⟩ : ∃ x, x = U1 % Y := ⟨_, rfl⟩
  obtain ⟨U0, hU0⟩ : ∃ x, x = R1 * 4294967296 + d0 := ⟨_, rfl⟩
  obtain ⟨Q0, hQ0⟩ : ∃ x, x = U0 / Y := ⟨_, rfl⟩
  have hYp : 0 < Y := by omega
  have hR10 : 0 ≤ R1 := by rw [hR1]; exact Int.emod_nonneg _ (by omega)
  have hR1Y : R1 < Y := by rw [hR1]; exact Int.emod_lt_of_pos _ hYp
  have e1 : U1 = Q1 * Y + R1 := by rw [hQ1, hR1, Int.mul_comm]; exact (Int.mul_ediv_add_emod U1 Y).symm
  have hQ1lt : Q1 < 4294967296 := by rw [hQ1, Int.ediv_lt_iff_lt_mul hYp]; omega
  have hQ10 : 0 ≤ Q1 := by rw [hQ1]; exact Int.ediv_nonneg (by omega) (by omega)
  have hQ0lt : Q0 < 4294967296 := by rw [hQ0, Int.ediv_lt_iff_lt_mul hYp]; omega
  have hQ00 : 0 ≤ Q0 := by rw [hQ0]; exact Int.ediv_nonneg (by omega) (by omega)
  have hNU : (a * 18446744073709551616 + b) * p = U0 + (Q1 * 4294967296) * Y := by
    rw [hN, hU0, Int.mul_right_comm]
    have : Q1 * Y = U1 - R1 := by omega
    rw [this]
    omega
  have hq : (a * 18446744073709551616 + b) / c = Q1 * 4294967296 + Q0 := by
    rw [← Int.mul_ediv_mul_of_pos_left _ c hp0, ← hY, hNU, Int.add_mul_ediv_right _ _ (by omega), ← hQ0]
    omega
  have hm : (a * 18446744073709551616 + b) % c = (U0 % Y) / p := by
    have h1 : (a * 18446744073709551616 + b) * p % (c * p) = (a * 18446744073709551616 + b) % c * p := by
      rw [Int.mul_comm _ p, Int.mul_comm c p, Int.mul_emod_mul_of_pos _ _ hp0, Int.mul_comm]
    rw [← hY, hNU, Int.add_mul_emod_self_right] at h1
    rw [h1, Int.mul_ediv_cancel _ (by omega)]
  have last : shr .u64 (U0 % Y) (s : Int) = (a * 18446744073709551616 + b) % c := by
    rw [hm, hp]
    unfold shr
    rw [Int.toNat_natCast, Nat.min_eq_left (by simp [IntKind.bits]; omega)]
  have res : (IntKind.u64.wrap (IntKind.u64.wrap (Q1 * 4294967296) + Q0), shr .u64 (U0 % Y) (s : Int)) = ((a * 18446744073709551616 + b) / c, (a * 18446744073709551616 + b) % c) := by
    rw [last, hq, u64_eq (x := Q1 * 4294967296) (by omega) (by omega), u64_eq (by omega) (by omega)]
  rw [← res]
  obtain ⟨q, rr, g1, g2, g3, g4, g5, g6, g7, g8⟩ := guess D hu0 huY (by omega) (by omega) hU1 hQ1
  rw [g1, g2]
  refine div_l0 D hu0 huY (by omega) (by omega) hU1 hQ1 ?_ 2 q rr g3 g4 g5 g6 g7 g8 (by omega)
  refine Ev.step (fun k => by simp only [bits_Div64.j2]; rfl) ?_
  refine Ev.neg (by have := D.lo; omega) ?_
  rw [rest_word hYp hY1 hU1 hQ1, ← hR1]
  obtain ⟨q', r', g1, g2, g3, g4, g5, g6, g7, g8⟩ := guess D hR10 hR1Y (by omega) (by omega) hU0 hQ0
  rw [g1, g2]
  exact div_l1 D hR10 hR1Y (by omega) (by omega) (by omega) hU0 hQ0 2 q' r' g3 g4 g5 g6 g7 g8 (by omega)
end Go.Proofs.Ytefhljhpcpajgaa.Q
