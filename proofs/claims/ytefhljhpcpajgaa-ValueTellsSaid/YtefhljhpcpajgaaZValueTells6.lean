-- merged and pruned by prune.py (the session's own program); its words go back to the kit's print
import Derived.Test.YtefhljhpcpajgaaProg
import Derived.Below
import Derived.Deep.Draws
import Derived.Deep.AppendLies
import Derived.Maps.AppendAt
import Derived.OwnWalk
import Derived.Laws.BytesArg
import Derived.Laws.MakeOwn
import Derived.Laws.OwnMore
import Derived.Deep.OwnRows
import Derived.Tactics
import Derived.Lib.ConvBytes
import Derived.Laws.Slices
import Derived.WalkKit
import Derived.KernelRfl
import Derived.RowKit3
import Derived.Deep.LoopGhost
import Derived.Deep.QuietTactic
import Derived.BigQuiet
import Derived.WideLaws
import Derived.Deep.DeepCutAuto
import Derived.Deep.CutBlock
import Derived.Deep.RegionHeld3
import Derived.Laws.Rows
import Derived.Lib.AppendStr
import Derived.ArgAppend
import Derived.Laws.IdiomCopy
import Derived.OrdersHeld
import Derived.Laws.BitsLemmas
import Derived.RowKit
import Derived.Laws.StructEq
import Derived.Deep.RegionLawGrows
import Derived.Lib.SliceRun
import Derived.Lib.OthersKept
import Derived.Lib.RuneCount
import Derived.Laws.Cover4
import Derived.Outline
import Derived.Shelf.Small.Bits
import Derived.Shelf.Utf8.RuneCount
import Derived.Shelf.Strconv.Itoa0
import Derived.Shelf.Strings.Prefix
import Derived.Shelf.Strings.RuneCount
import Derived.Shelf.Bits.Mul64
import Derived.Ground.Names2Prog
import Derived.Shelf.Slices.SearchI
import Derived.Ground.SlsfProg
import Derived.Shelf.SlSortCmp.Insertion
import Derived.Shelf.SlSortCmp.Insertion1
import Derived.Sort.LotA
import Derived.Sort.OwnSortedInts
import Derived.Test.YtefhljhpcpajgaaZValueTells5
namespace Go.Proofs.Ytefhljhpcpajgaa.F
open Go.RowKit Go.Proofs.YtefhljhpcpajgaaX Go.Proofs.YtefhljhpcpajgaaW.PrintWords Go.Proofs.YtefhljhpcpajgaaW.PrintLast Go.Proofs.YtefhljhpcpajgaaW.PrintMore
attribute [local go_sem] max2_int min2_int max_two min_two max_three min_three max_four min_four   
attribute [local go_sem high] str_geq str_leq str_gtr
set_option linter.unusedVariables false
set_option linter.unusedSimpArgs false
def backhaulref01_Check.f (k : Nat) (a0 : ByteArray) : Option (Int) := (backhaulref01_Fold.f k a0).bind fun bt101 => (if bt101.2 = 0 then (if bt101.1.toList = a0.toList then (some 0) else (some 9)) else (some 9))
theorem backhaulref01_Check.mono : ∀ a0 k, LeO (backhaulref01_Check.f k a0) (backhaulref01_Check.f (k + 1) a0) := by
  intro a0 k
  unfold backhaulref01_Check.f
  repeat' first
      | (with_reducible exact backhaulref01_Fold.mono _ _)
      | (with_reducible exact LeO.refl _)
      | (with_reducible exact LeO.none _)
      | (with_reducible refine LeO.ite ?_ ?_)
      | (with_reducible refine LeO.bind ?_ (fun _ => ?_))
      | exact backhaulref01_Fold.mono _ _
      | exact LeO.none _
      | refine LeO.ite ?_ ?_
      | refine LeO.bind ?_ (fun _ => ?_)
set_option maxHeartbeats 8000000 in
set_option maxRecDepth 100000 in
theorem backhaulref01_Check.calls (k : Nat) (a0 : ByteArray) (r : Int) (w : World) (h : backhaulref01_Check.f k a0 = some r) :
    Calls Try.prog 143 #[.string a0] w fun e w' => e = .returned (.int .i64 r) ∧ Below w.heap.size w w' := by
  have HB := zA (Below.refl w.heap.size w)
  have H : ((backhaulref01_Fold.f k a0).bind fun bt101 => (if bt101.2 = 0 then (if bt101.1.toList = a0.toList then (some 0) else (some 9)) else (some 9))) = some r := h
  clear h
  replace H := Option.bind_eq_some_iff.mp H
  obtain ⟨⟨t101, t102⟩, A20, H⟩ := H
  replace H : (if t102 = 0 then (if t101.toList = a0.toList then (some 0) else (some 9)) else (some 9)) = some r := H
  have A2 := zA A20
  clear A20
  by_cases c3 : t102 = 0
  · rw [if_pos c3] at H
    have c3b0 : (t102 == 0) = true := beq_iff_eq.mpr c3; have c3b1 : (t102 != 0) = false := bne_eq_false_iff_eq.mpr c3; clear c3; by_cases c4 : t101.toList = a0.toList
    · rw [if_pos c4] at H
      have c4b0 : (t101.toList == a0.toList) = true := beq_iff_eq.mpr c4; have c4b1 : (t101.toList != a0.toList) = false := bne_eq_false_iff_eq.mpr c4; clear c4; obtain rfl := zKq H; go_enter Try.func143, Try.ntmps143; go_wp2_with (first | ((with_reducible refine zJq (f := 151) rfl ?_); refine goesL_ (some 7) rfl rfl Try.func151 (by kernel_rfl) rfl #[.string a0] rfl (by (try simp only [zR, zS, zT]); first | done | rfl | (simp only [zP, zQ]; rfl)) ?_; (with_reducible refine (backhaulref01_Fold.calls k a0 t101 t102 _ A2.out).mono ?_); rintro e w5 ⟨rfl, hb⟩; refine ⟨_, rfl, ?_⟩; have n0_ := zA (zV qB hb); clear HB; have HB := n0_; clear n0_; (try clear hb); (try clear hb2); (try clear hk); (try clear hi))); go_ret; exact ⟨qE, qB⟩
    rw [if_neg c4] at H; have c4b0 : (t101.toList == a0.toList) = false := beq_eq_false_iff_ne.mpr c4; have c4b1 : (t101.toList != a0.toList) = true := bne_iff_ne.mpr c4; obtain rfl := zKq H; go_enter Try.func143, Try.ntmps143; go_wp2_with (first | ((with_reducible refine zJq (f := 151) rfl ?_); refine goesL_ (some 7) rfl rfl Try.func151 (by kernel_rfl) rfl #[.string a0] rfl (by (try simp only [zR, zS, zT]); first | done | rfl | (simp only [zP, zQ]; rfl)) ?_; (with_reducible refine (backhaulref01_Fold.calls k a0 t101 t102 _ A2.out).mono ?_); rintro e w6 ⟨rfl, hb⟩; refine ⟨_, rfl, ?_⟩; have n0_ := zA (zV qB hb); clear HB; have HB := n0_; clear n0_; (try clear hb); (try clear hb2); (try clear hk); (try clear hi))); go_ret; exact ⟨qE, qB⟩
  rw [if_neg c3] at H
  have c3b0 : (t102 == 0) = false := beq_eq_false_iff_ne.mpr c3
  have c3b1 : (t102 != 0) = true := bne_iff_ne.mpr c3
  obtain rfl := zKq H
  go_enter Try.func143, Try.ntmps143
  go_wp2_with (first | ((with_reducible refine zJq (f := 151) rfl ?_); refine goesL_ (some 7) rfl rfl Try.func151 (by kernel_rfl) rfl #[.string a0] rfl (by (try simp only [zR, zS, zT]); first | done | rfl | (simp only [zP, zQ]; rfl)) ?_; (with_reducible refine (backhaulref01_Fold.calls k a0 t101 t102 _ A2.out).mono ?_); rintro e w7 ⟨rfl, hb⟩; refine ⟨_, rfl, ?_⟩; have n0_ := zA (zV qB hb); clear HB; have HB := n0_; clear n0_; (try clear hb); (try clear hb2); (try clear hk); (try clear hi)))
  go_ret
  exact ⟨qE, qB⟩
def backhaulref01_Row.l0 : Nat → List ByteArray → Int → Option (Int)
  | 0, _, _ => none
  | k + 1, x0, x3 => if x3 < (x0.length : Int) then (if 0 ≤ x3 then ((backhaulref01_Check.f k (rdOf ByteArray.empty x0 x3)).bind fun t102 => (if t102 = 0 then (if x3 > 0 then (if 0 ≤ (wrap64 (x3 - 1)) then (if (wrap64 (x3 - 1)) < (x0.length : Int) then (if ((Op.bytesLess ((rdOf ByteArray.empty x0 (wrap64 (x3 - 1))).toList) ((rdOf ByteArray.empty x0 x3).toList)) = true) then (backhaulref01_Row.l0 k x0 (wrap64 (x3 + 1))) else (some 32)) else (none)) else (none)) else (backhaulref01_Row.l0 k x0 (wrap64 (x3 + 1)))) else (some 9))) else (none)) else (some 0)
def backhaulref01_Row.f (k : Nat) (l0 : List ByteArray) : Option (Int) := backhaulref01_Row.l0 k l0 0
theorem backhaulref01_Row.mono_l : ∀ k, (∀ y0 y1, LeO (backhaulref01_Row.l0 k y0 y1) (backhaulref01_Row.l0 (k + 1) y0 y1))
  | 0 => fun _ _ r h => by simp [backhaulref01_Row.l0] at h
  | k + 1 => by
    have ih0 := backhaulref01_Row.mono_l k
    intro y0 y1
    unfold backhaulref01_Row.l0
    repeat' first
    | (with_reducible exact ih0 _ _)
    | (with_reducible exact backhaulref01_Check.mono _ _)
    | (with_reducible exact LeO.refl _)
    | (with_reducible exact LeO.none _)
    | (with_reducible refine LeO.ite ?_ ?_)
    | (with_reducible refine LeO.bind ?_ (fun _ => ?_))
    | exact ih0 _ _
    | exact backhaulref01_Check.mono _ _
    | exact LeO.none _
    | refine LeO.ite ?_ ?_
    | refine LeO.bind ?_ (fun _ => ?_)
theorem backhaulref01_Row.mono : ∀ a0 k, LeO (backhaulref01_Row.f k a0) (backhaulref01_Row.f (k + 1) a0) := by
  intro a0 k
  have ih0 := backhaulref01_Row.mono_l k
  unfold backhaulref01_Row.f
  repeat' first
      | (with_reducible exact ih0 _ _)
      | (with_reducible exact backhaulref01_Check.mono _ _)
      | (with_reducible exact LeO.refl _)
      | (with_reducible exact LeO.none _)
      | (with_reducible refine LeO.ite ?_ ?_)
      | (with_reducible refine LeO.bind ?_ (fun _ => ?_))
      | exact ih0 _ _
      | exact backhaulref01_Check.mono _ _
      | exact LeO.none _
      | refine LeO.ite ?_ ?_
      | refine LeO.bind ?_ (fun _ => ?_)
set_option maxHeartbeats 8000000 in
set_option maxRecDepth 100000 in
theorem backhaulref01_Row.calls (k : Nat) (A0 : Option Addr) (c0 : Nat) (l0 : List ByteArray) (r : Int) (w : World) (hr0 : Kd.C Kd.string w A0 l0.length l0) (hc0 : l0.length ≤ c0) (h : backhaulref01_Row.f k l0 = some r) :
    Calls Try.prog 120 #[.slice A0 l0.length c0] w fun e w' => e = .returned (.int .i64 r) ∧ Below w.heap.size w w' := by
  have HR0 := zA hr0
  have HC0 := zA hc0
  clear hr0 hc0
  have HB := zA (Below.refl w.heap.size w)
  have H : (backhaulref01_Row.l0 k l0 0) = some r := h
  clear h
  have H' := zA H
  clear H
  go_enter Try.func120, Try.ntmps120
  go_wp2
  repeat (go_quiet (fail); try go_wp2)
  go_loopg [3] k (fun kq v3 w' => ∃ (x3_1 : Int), v3 = .int .i64 x3_1 ∧ Aside0 (backhaulref01_Row.l0 kq l0 x3_1 = some r) ∧ Aside0 (kq ≤ k) ∧ Aside0 (Below w.heap.size w w'))
  case atStart => exact ⟨(0), (by first | rfl | (simp; done) | (simp [*]; done)), H', ⟨Nat.le_refl _⟩, ⟨qB⟩⟩
  case round =>
    clear H'; try clear c1
    obtain ⟨x3_1, rfl, HA, HK1, HB⟩ := hrel; cases gk with
    | zero => exact absurd HA.out (by simp [backhaulref01_Row.l0])
    | succ k1 =>
      have H := HA.out; clear HA; simp only [backhaulref01_Row.l0] at H; by_cases c2 : x3_1 < (l0.length : Int)
      · rw [if_pos c2] at H
        have c2b0 : decide (x3_1 < (l0.length : Int)) = true := zFq c2; clear c2; by_cases c3 : 0 ≤ x3_1
        · rw [if_pos c3] at H
          have c3b0 : decide (0 ≤ x3_1) = true := zFq c3; clear c3; replace H := Option.bind_eq_some_iff.mp H; obtain ⟨t102, A40, H⟩ := H; replace H : (if t102 = 0 then (if x3_1 > 0 then (if 0 ≤ (wrap64 (x3_1 - 1)) then (if (wrap64 (x3_1 - 1)) < (l0.length : Int) then (if ((Op.bytesLess ((rdOf ByteArray.empty l0 (wrap64 (x3_1 - 1))).toList) ((rdOf ByteArray.empty l0 x3_1).toList)) = true) then (backhaulref01_Row.l0 k1 l0 (wrap64 (x3_1 + 1))) else (some 32)) else (none)) else (none)) else (backhaulref01_Row.l0 k1 l0 (wrap64 (x3_1 + 1)))) else (some 9)) = some r := H; have A4 := zA A40; clear A40; by_cases c5 : t102 = 0
          · rw [if_pos c5] at H
            have c5b0 : (t102 == 0) = true := beq_iff_eq.mpr c5; have c5b1 : (t102 != 0) = false := bne_eq_false_iff_eq.mpr c5; clear c5; by_cases c6 : x3_1 > 0
            · rw [if_pos c6] at H
              have c6b0 : decide (0 < x3_1) = true := zFq c6; clear c6; obtain ⟨ji7, hji7⟩ : ∃ j_ : Int, (wrap64 (x3_1 - 1)) = j_ := ⟨_, rfl⟩
              replace H : (if 0 ≤ (ji7) then (if (ji7) < (l0.length : Int) then (if ((Op.bytesLess ((rdOf ByteArray.empty l0 (ji7)).toList) ((rdOf ByteArray.empty l0 x3_1).toList)) = true) then (backhaulref01_Row.l0 k1 l0 (wrap64 (x3_1 + 1))) else (some 32)) else (none)) else (none)) = some r := by first | (rw [hji7] at H; exact H) | (simp only [hji7] at H ⊢; exact H)
              (try rw [hji7] at A4)
              have hji7w : (IntKind.i64.wrap (x3_1 - 1)) = ji7 := (i64_w _).trans hji7; by_cases c8 : 0 ≤ (ji7)
              · rw [if_pos c8] at H
                have c8b0 : decide (0 ≤ (ji7)) = true := zFq c8; clear c8; by_cases c9 : (ji7) < (l0.length : Int)
                · rw [if_pos c9] at H
                  have c9b0 : decide ((ji7) < (l0.length : Int)) = true := zFq c9; clear c9; by_cases c10 : ((Op.bytesLess ((rdOf ByteArray.empty l0 (ji7)).toList) ((rdOf ByteArray.empty l0 x3_1).toList)) = true)
                  · rw [if_pos c10] at H
                    have c10b0 : (Op.bytesLess ((rdOf ByteArray.empty l0 (ji7)).toList) ((rdOf ByteArray.empty l0 x3_1).toList)) = true := c10; clear c10; have H' := zA H; clear H; have p101 : 0 ≤ (x3_1 : Int) := of_decide_eq_true qA; have q101 : x3_1 < (l0.length : Int) := of_decide_eq_true qA; obtain ⟨ad101, e101, hx101_0⟩ := Kd.at_string HR0.out x3_1 p101 q101; cases e101
                    replace hx101_0 := (HB.out.cell (zCq w _ hx101_0)).trans hx101_0; replace p101 := eq_true p101; replace q101 := eq_true q101; go_wp2_with (first | (go_at_call 143; (with_reducible refine (backhaulref01_Check.calls k1 (rdOf ByteArray.empty l0 x3_1) t102 _ A4.out).mono ?_); rintro e w11 ⟨rfl, hb⟩; have n0_ := zA (zV qB hb); clear HB; have HB := n0_; clear n0_; (try clear hb); (try clear hb2); (try clear hk); (try clear hi); have p103 : 0 ≤ (x3_1 : Int) := of_decide_eq_true qA; have q103 : x3_1 < (l0.length : Int) := of_decide_eq_true qA; obtain ⟨ad103, e103, hx103_0⟩ := Kd.at_string HR0.out x3_1 p103 q103; obtain rfl : ad101 = ad103 := (by injection e103); replace hx103_0 := (HB.out.cell (zCq w _ hx103_0)).trans hx103_0; replace p103 := eq_true p103; replace q103 := eq_true q103; have p104 : 0 ≤ ((ji7) : Int) := of_decide_eq_true qA; have q104 : (ji7) < (l0.length : Int) := of_decide_eq_true qA; obtain ⟨ad104, e104, hx104_0⟩ := Kd.at_string HR0.out (ji7) p104 q104; obtain rfl : ad101 = ad104 := (by injection e104); replace hx104_0 := (HB.out.cell (zCq w _ hx104_0)).trans hx104_0; replace p104 := eq_true p104; replace q104 := eq_true q104)); repeat (go_quiet (first | (go_at_call 143; (with_reducible refine (backhaulref01_Check.calls k1 (rdOf ByteArray.empty l0 x3_1) t102 _ A4.out).mono ?_); rintro e w11 ⟨rfl, hb⟩; have n0_ := zA (zV qB hb); clear HB; have HB := n0_; clear n0_; (try clear hb); (try clear hb2); (try clear hk); (try clear hi); have p103 : 0 ≤ (x3_1 : Int) := of_decide_eq_true qA; have q103 : x3_1 < (l0.length : Int) := of_decide_eq_true qA; obtain ⟨ad103, e103, hx103_0⟩ := Kd.at_string HR0.out x3_1 p103 q103; obtain rfl : ad101 = ad103 := (by injection e103); replace hx103_0 := (HB.out.cell (zCq w _ hx103_0)).trans hx103_0; replace p103 := eq_true p103; replace q103 := eq_true q103; have p104 : 0 ≤ ((ji7) : Int) := of_decide_eq_true qA; have q104 : (ji7) < (l0.length : Int) := of_decide_eq_true qA; obtain ⟨ad104, e104, hx104_0⟩ := Kd.at_string HR0.out (ji7) p104 q104; obtain rfl : ad101 = ad104 := (by injection e104); replace hx104_0 := (HB.out.cell (zCq w _ hx104_0)).trans hx104_0; replace p104 := eq_true p104; replace q104 := eq_true q104)); try go_wp2_with (first | (go_at_call 143; (with_reducible refine (backhaulref01_Check.calls k1 (rdOf ByteArray.empty l0 x3_1) t102 _ A4.out).mono ?_); rintro e w11 ⟨rfl, hb⟩; have n0_ := zA (zV qB hb); clear HB; have HB := n0_; clear n0_; (try clear hb); (try clear hb2); (try clear hk); (try clear hi); have p103 : 0 ≤ (x3_1 : Int) := of_decide_eq_true qA; have q103 : x3_1 < (l0.length : Int) := of_decide_eq_true qA; obtain ⟨ad103, e103, hx103_0⟩ := Kd.at_string HR0.out x3_1 p103 q103; obtain rfl : ad101 = ad103 := (by injection e103); replace hx103_0 := (HB.out.cell (zCq w _ hx103_0)).trans hx103_0; replace p103 := eq_true p103; replace q103 := eq_true q103; have p104 : 0 ≤ ((ji7) : Int) := of_decide_eq_true qA; have q104 : (ji7) < (l0.length : Int) := of_decide_eq_true qA; obtain ⟨ad104, e104, hx104_0⟩ := Kd.at_string HR0.out (ji7) p104 q104; obtain rfl : ad101 = ad104 := (by injection e104); replace hx104_0 := (HB.out.cell (zCq w _ hx104_0)).trans hx104_0; replace p104 := eq_true p104; replace q104 := eq_true q104)))
                    go_roundg k1
                    case measure => have := HK1.out; omega
                    case rel => exact ⟨(wrap64 (x3_1 + 1)), (by first | rfl | (simp; done) | (simp [*]; done)), H', ⟨by have := HK1.out; omega⟩, ⟨qB⟩⟩
                  rw [if_neg c10] at H; have c10b0 : (Op.bytesLess ((rdOf ByteArray.empty l0 (ji7)).toList) ((rdOf ByteArray.empty l0 x3_1).toList)) = false := by simpa using c10
                  clear c10; obtain rfl := zKq H; have p101 : 0 ≤ (x3_1 : Int) := of_decide_eq_true qA; have q101 : x3_1 < (l0.length : Int) := of_decide_eq_true qA; obtain ⟨ad101, e101, hx101_0⟩ := Kd.at_string HR0.out x3_1 p101 q101; cases e101
                  replace hx101_0 := (HB.out.cell (zCq w _ hx101_0)).trans hx101_0; replace p101 := eq_true p101; replace q101 := eq_true q101; go_wp2_with (first | (go_at_call 143; (with_reducible refine (backhaulref01_Check.calls k1 (rdOf ByteArray.empty l0 x3_1) t102 _ A4.out).mono ?_); rintro e w12 ⟨rfl, hb⟩; have n0_ := zA (zV qB hb); clear HB; have HB := n0_; clear n0_; (try clear hb); (try clear hb2); (try clear hk); (try clear hi); have p103 : 0 ≤ (x3_1 : Int) := of_decide_eq_true qA; have q103 : x3_1 < (l0.length : Int) := of_decide_eq_true qA; obtain ⟨ad103, e103, hx103_0⟩ := Kd.at_string HR0.out x3_1 p103 q103; obtain rfl : ad101 = ad103 := (by injection e103); replace hx103_0 := (HB.out.cell (zCq w _ hx103_0)).trans hx103_0; replace p103 := eq_true p103; replace q103 := eq_true q103; have p104 : 0 ≤ ((ji7) : Int) := of_decide_eq_true qA; have q104 : (ji7) < (l0.length : Int) := of_decide_eq_true qA; obtain ⟨ad104, e104, hx104_0⟩ := Kd.at_string HR0.out (ji7) p104 q104; obtain rfl : ad101 = ad104 := (by injection e104); replace hx104_0 := (HB.out.cell (zCq w _ hx104_0)).trans hx104_0; replace p104 := eq_true p104; replace q104 := eq_true q104)); repeat (go_quiet (first | (go_at_call 143; (with_reducible refine (backhaulref01_Check.calls k1 (rdOf ByteArray.empty l0 x3_1) t102 _ A4.out).mono ?_); rintro e w12 ⟨rfl, hb⟩; have n0_ := zA (zV qB hb); clear HB; have HB := n0_; clear n0_; (try clear hb); (try clear hb2); (try clear hk); (try clear hi); have p103 : 0 ≤ (x3_1 : Int) := of_decide_eq_true qA; have q103 : x3_1 < (l0.length : Int) := of_decide_eq_true qA; obtain ⟨ad103, e103, hx103_0⟩ := Kd.at_string HR0.out x3_1 p103 q103; obtain rfl : ad101 = ad103 := (by injection e103); replace hx103_0 := (HB.out.cell (zCq w _ hx103_0)).trans hx103_0; replace p103 := eq_true p103; replace q103 := eq_true q103; have p104 : 0 ≤ ((ji7) : Int) := of_decide_eq_true qA; have q104 : (ji7) < (l0.length : Int) := of_decide_eq_true qA; obtain ⟨ad104, e104, hx104_0⟩ := Kd.at_string HR0.out (ji7) p104 q104; obtain rfl : ad101 = ad104 := (by injection e104); replace hx104_0 := (HB.out.cell (zCq w _ hx104_0)).trans hx104_0; replace p104 := eq_true p104; replace q104 := eq_true q104)); try go_wp2_with (first | (go_at_call 143; (with_reducible refine (backhaulref01_Check.calls k1 (rdOf ByteArray.empty l0 x3_1) t102 _ A4.out).mono ?_); rintro e w12 ⟨rfl, hb⟩; have n0_ := zA (zV qB hb); clear HB; have HB := n0_; clear n0_; (try clear hb); (try clear hb2); (try clear hk); (try clear hi); have p103 : 0 ≤ (x3_1 : Int) := of_decide_eq_true qA; have q103 : x3_1 < (l0.length : Int) := of_decide_eq_true qA; obtain ⟨ad103, e103, hx103_0⟩ := Kd.at_string HR0.out x3_1 p103 q103; obtain rfl : ad101 = ad103 := (by injection e103); replace hx103_0 := (HB.out.cell (zCq w _ hx103_0)).trans hx103_0; replace p103 := eq_true p103; replace q103 := eq_true q103; have p104 : 0 ≤ ((ji7) : Int) := of_decide_eq_true qA; have q104 : (ji7) < (l0.length : Int) := of_decide_eq_true qA; obtain ⟨ad104, e104, hx104_0⟩ := Kd.at_string HR0.out (ji7) p104 q104; obtain rfl : ad101 = ad104 := (by injection e104); replace hx104_0 := (HB.out.cell (zCq w _ hx104_0)).trans hx104_0; replace p104 := eq_true p104; replace q104 := eq_true q104)))
                  go_ret; exact ⟨by first | rfl | (simp [errW_none, errW_some] <;> rfl) | (simp only [← hji7]; first | rfl | (simp [errW_none, errW_some] <;> rfl)) | (simp [*, errW_none, errW_some] <;> rfl), qB⟩
                rw [if_neg c9] at H; exact absurd H (by simp)
              rw [if_neg c8] at H; exact absurd H (by simp)
            rw [if_neg c6] at H; have c6b0 : decide (0 < x3_1) = false := zGq c6; clear c6; have H' := zA H; clear H; have p101 : 0 ≤ (x3_1 : Int) := of_decide_eq_true qA; have q101 : x3_1 < (l0.length : Int) := of_decide_eq_true qA; obtain ⟨ad101, e101, hx101_0⟩ := Kd.at_string HR0.out x3_1 p101 q101; cases e101
            replace hx101_0 := (HB.out.cell (zCq w _ hx101_0)).trans hx101_0; replace p101 := eq_true p101; replace q101 := eq_true q101; go_wp2_with (first | (go_at_call 143; (with_reducible refine (backhaulref01_Check.calls k1 (rdOf ByteArray.empty l0 x3_1) t102 _ A4.out).mono ?_); rintro e w13 ⟨rfl, hb⟩; have n0_ := zA (zV qB hb); clear HB; have HB := n0_; clear n0_; (try clear hb); (try clear hb2); (try clear hk); (try clear hi))); repeat (go_quiet (first | (go_at_call 143; (with_reducible refine (backhaulref01_Check.calls k1 (rdOf ByteArray.empty l0 x3_1) t102 _ A4.out).mono ?_); rintro e w13 ⟨rfl, hb⟩; have n0_ := zA (zV qB hb); clear HB; have HB := n0_; clear n0_; (try clear hb); (try clear hb2); (try clear hk); (try clear hi))); try go_wp2_with (first | (go_at_call 143; (with_reducible refine (backhaulref01_Check.calls k1 (rdOf ByteArray.empty l0 x3_1) t102 _ A4.out).mono ?_); rintro e w13 ⟨rfl, hb⟩; have n0_ := zA (zV qB hb); clear HB; have HB := n0_; clear n0_; (try clear hb); (try clear hb2); (try clear hk); (try clear hi))))
            go_roundg k1
            case measure => have := HK1.out; omega
            case rel => exact ⟨(wrap64 (x3_1 + 1)), (by first | rfl | (simp; done) | (simp [*]; done)), H', ⟨by have := HK1.out; omega⟩, ⟨qB⟩⟩
          rw [if_neg c5] at H; have c5b0 : (t102 == 0) = false := beq_eq_false_iff_ne.mpr c5; have c5b1 : (t102 != 0) = true := bne_iff_ne.mpr c5; obtain rfl := zKq H; have p101 : 0 ≤ (x3_1 : Int) := of_decide_eq_true qA; have q101 : x3_1 < (l0.length : Int) := of_decide_eq_true qA; obtain ⟨ad101, e101, hx101_0⟩ := Kd.at_string HR0.out x3_1 p101 q101; cases e101
          replace hx101_0 := (HB.out.cell (zCq w _ hx101_0)).trans hx101_0; replace p101 := eq_true p101; replace q101 := eq_true q101; go_wp2_with (first | (go_at_call 143; (with_reducible refine (backhaulref01_Check.calls k1 (rdOf ByteArray.empty l0 x3_1) t102 _ A4.out).mono ?_); rintro e w14 ⟨rfl, hb⟩; have n0_ := zA (zV qB hb); clear HB; have HB := n0_; clear n0_; (try clear hb); (try clear hb2); (try clear hk); (try clear hi))); repeat (go_quiet (first | (go_at_call 143; (with_reducible refine (backhaulref01_Check.calls k1 (rdOf ByteArray.empty l0 x3_1) t102 _ A4.out).mono ?_); rintro e w14 ⟨rfl, hb⟩; have n0_ := zA (zV qB hb); clear HB; have HB := n0_; clear n0_; (try clear hb); (try clear hb2); (try clear hk); (try clear hi))); try go_wp2_with (first | (go_at_call 143; (with_reducible refine (backhaulref01_Check.calls k1 (rdOf ByteArray.empty l0 x3_1) t102 _ A4.out).mono ?_); rintro e w14 ⟨rfl, hb⟩; have n0_ := zA (zV qB hb); clear HB; have HB := n0_; clear n0_; (try clear hb); (try clear hb2); (try clear hk); (try clear hi))))
          go_ret; exact ⟨qE, qB⟩
        rw [if_neg c3] at H; exact absurd H (by simp)
      rw [if_neg c2] at H; have c2b0 : decide (x3_1 < (l0.length : Int)) = false := zGq c2; clear c2; obtain rfl := zKq H; go_wp2; repeat (go_quiet (fail); try go_wp2)
      go_ret; exact ⟨qE, qB⟩
mutual
def backhaulref21_Check.j0 : Nat → Bool → Int → Int → Int → Int → List ByteArray → Option (Int)
  | 0, _, _, _, _, _, _ => none
  | k + 1, x10, x102000, x102001, x102002, x102003, x102004 => if x10 = true then (some 2) else (if x102001 < 0 then (backhaulref21_Check.j1 k true x102000 x102001 x102002 x102003 x102004) else (if x102001 > 1000000000000 then (backhaulref21_Check.j1 k true x102000 x102001 x102002 x102003 x102004) else (if x102002 < 0 then (backhaulref21_Check.j1 k true x102000 x102001 x102002 x102003 x102004) else (if x102002 > x102001 then (backhaulref21_Check.j1 k true x102000 x102001 x102002 x102003 x102004) else (if x102003 < 0 then (backhaulref21_Check.j1 k true x102000 x102001 x102002 x102003 x102004) else (if x102003 > 1000000000000 then (backhaulref21_Check.j1 k true x102000 x102001 x102002 x102003 x102004) else (backhaulref21_Check.j1 k (decide ((wrap64 (x102002 + x102003)) > 1000000000000)) x102000 x102001 x102002 x102003 x102004)))))))
def backhaulref21_Check.j1 : Nat → Bool → Int → Int → Int → Int → List ByteArray → Option (Int)
  | 0, _, _, _, _, _, _ => none
  | k + 1, x48, x102000, x102001, x102002, x102003, x102004 => if x48 = true then (some 8) else (if (x102004.length : Int) < 1 then (some 9) else (if (x102004.length : Int) > 20 then (some 9) else ((backhaulref01_Row.f k x102004).bind fun t102 => (if t102 = 0 then (some 0) else (some 9)))))
end
def backhaulref21_Check.f (k : Nat) (a0_0 : Int) (a0_1 : Int) (a0_2 : Int) (a0_3 : Int) (l0_4 : List ByteArray) : Option (Int) := if a0_0 < 1 then (backhaulref21_Check.j0 k true a0_0 a0_1 a0_2 a0_3 l0_4) else (backhaulref21_Check.j0 k (decide (a0_0 > 999999)) a0_0 a0_1 a0_2 a0_3 l0_4)
theorem backhaulref21_Check.mono_l : ∀ k, (∀ y0 y1 y2 y3 y4 y5, LeO (backhaulref21_Check.j0 k y0 y1 y2 y3 y4 y5) (backhaulref21_Check.j0 (k + 1) y0 y1 y2 y3 y4 y5)) ∧ (∀ y0 y1 y2 y3 y4 y5, LeO (backhaulref21_Check.j1 k y0 y1 y2 y3 y4 y5) (backhaulref21_Check.j1 (k + 1) y0 y1 y2 y3 y4 y5))
  | 0 => ⟨fun _ _ _ _ _ _ r h => by simp [backhaulref21_Check.j0] at h, fun _ _ _ _ _ _ r h => by simp [backhaulref21_Check.j1] at h⟩
  | k + 1 => by
    obtain ⟨ih0, ih1⟩ := backhaulref21_Check.mono_l k
    refine ⟨?_, ?_⟩
    · intro y0 y1 y2 y3 y4 y5
      unfold backhaulref21_Check.j0
      repeat' first
      | (with_reducible exact ih0 _ _ _ _ _ _)
      | (with_reducible exact ih1 _ _ _ _ _ _)
      | (with_reducible exact backhaulref01_Row.mono _ _)
      | (with_reducible exact LeO.refl _)
      | (with_reducible exact LeO.none _)
      | (with_reducible refine LeO.ite ?_ ?_)
      | (with_reducible refine LeO.bind ?_ (fun _ => ?_))
      | exact ih0 _ _ _ _ _ _
      | exact ih1 _ _ _ _ _ _
      | exact backhaulref01_Row.mono _ _
      | exact LeO.none _
      | refine LeO.ite ?_ ?_
      | refine LeO.bind ?_ (fun _ => ?_)
    intro y0 y1 y2 y3 y4 y5
    unfold backhaulref21_Check.j1
    repeat' first
    | (with_reducible exact ih0 _ _ _ _ _ _)
    | (with_reducible exact ih1 _ _ _ _ _ _)
    | (with_reducible exact backhaulref01_Row.mono _ _)
    | (with_reducible exact LeO.refl _)
    | (with_reducible exact LeO.none _)
    | (with_reducible refine LeO.ite ?_ ?_)
    | (with_reducible refine LeO.bind ?_ (fun _ => ?_))
    | exact ih0 _ _ _ _ _ _
    | exact ih1 _ _ _ _ _ _
    | exact backhaulref01_Row.mono _ _
    | exact LeO.none _
    | refine LeO.ite ?_ ?_
    | refine LeO.bind ?_ (fun _ => ?_)
theorem backhaulref21_Check.mono : ∀ a0 a1 a2 a3 a4 k, LeO (backhaulref21_Check.f k a0 a1 a2 a3 a4) (backhaulref21_Check.f (k + 1) a0 a1 a2 a3 a4) := by
  intro a0 a1 a2 a3 a4 k
  obtain ⟨ih0, ih1⟩ := backhaulref21_Check.mono_l k
  unfold backhaulref21_Check.f
  repeat' first
      | (with_reducible exact ih0 _ _ _ _ _ _)
      | (with_reducible exact ih1 _ _ _ _ _ _)
      | (with_reducible exact backhaulref01_Row.mono _ _)
      | (with_reducible exact LeO.refl _)
      | (with_reducible exact LeO.none _)
      | (with_reducible refine LeO.ite ?_ ?_)
      | (with_reducible refine LeO.bind ?_ (fun _ => ?_))
      | exact ih0 _ _ _ _ _ _
      | exact ih1 _ _ _ _ _ _
      | exact backhaulref01_Row.mono _ _
      | exact LeO.none _
      | refine LeO.ite ?_ ?_
      | refine LeO.bind ?_ (fun _ => ?_)
set_option maxHeartbeats 8000000 in
set_option maxRecDepth 100000 in
theorem backhaulref21_Check.calls (k : Nat) (a0_0 : Int) (a0_1 : Int) (a0_2 : Int) (a0_3 : Int) (A0_4 : Option Addr) (c0_4 : Nat) (l0_4 : List ByteArray) (r : Int) (w : World) (hr0_4 : Kd.C Kd.string w A0_4 l0_4.length l0_4) (hc0_4 : l0_4.length ≤ c0_4) (h : backhaulref21_Check.f k a0_0 a0_1 a0_2 a0_3 l0_4 = some r) :
    Calls Try.prog 70 #[.agg #[.int .i64 a0_0, .int .i64 a0_1, .int .i64 a0_2, .int .i64 a0_3, .slice A0_4 l0_4.length c0_4]] w fun e w' => e = .returned (.int .i64 r) ∧ Below w.heap.size w w' := by
  have hu71 := Try.underlying71
  have HR0_4 := zA hr0_4
  have HC0_4 := zA hc0_4
  clear hr0_4 hc0_4
  have HB := zA (Below.refl w.heap.size w)
  have H : (if a0_0 < 1 then (backhaulref21_Check.j0 k true a0_0 a0_1 a0_2 a0_3 l0_4) else (backhaulref21_Check.j0 k (decide (a0_0 > 999999)) a0_0 a0_1 a0_2 a0_3 l0_4)) = some r := h
  clear h
  have HC2 := zA H
  clear H
  go_enter Try.func70, Try.ntmps70
  go_upto_region 1 with (first | ((with_reducible refine gate_dst (N := 1) rfl ?_); (try (refine gate_guard (by rfl) ?_; dsimp only)); refine box_event qr (N := 1) qr (cs := #[.int .i64 a0_0, .int .i64 a0_1, .int .i64 a0_2, .int .i64 a0_3, .slice A0_4 l0_4.length c0_4]) (t := 71) qg ?_; intro gb101 hg w3 hbox hb; have n0_ := zA (zV qB hb); have n1_ := zA (hbox); have n2_ := zA ((qS : w.heap.size ≤ gb101)); have n3_ := zA ((qS : w.heap.size ≤ gb101)); clear HB; have HB := n0_; have BK101 := n1_; have GW101 := n2_; have GE101 := n3_; clear n0_ n1_ n2_ n3_ hb hbox hg))
  (try simp only [Act.put, zH, zI, zJ])
  go_cut [10] (fun v10 wc => ∃ (kq : Nat) (x10_1 : Bool), v10 = .bool x10_1 ∧ Aside0 (backhaulref21_Check.j0 kq x10_1 a0_0 a0_1 a0_2 a0_3 l0_4 = some r) ∧ Aside0 (kq ≤ k) ∧ Aside0 (wc.heap[gb101]? = some (.cells #[.int .i64 a0_0, .int .i64 a0_1, .int .i64 a0_2, .int .i64 a0_3, (.slice A0_4 l0_4.length c0_4)] 71 (0, 0))) ∧ Aside0 (Below w.heap.size w wc))
  case first =>
    have H := HC2.out; clear HC2; by_cases c4 : a0_0 < 1
    · rw [if_pos c4] at H
      have c4b0 : decide (a0_0 < 1) = true := zFq c4; clear c4; (first | rw [c4b0] | (simp only [i64_w, i32_w]; rw [c4b0]) | skip)
      have H' := zA H; clear H; obtain ⟨_, _, _, _, _, _, _, _, _, _⟩ := qc5f BK101.out; go_wp2; go_meet
      case rel => exact ⟨_, (true), (by first | rfl | (simp; done) | (simp [*]; done)), H', ⟨by first | omega | exact Nat.le_refl _⟩, ⟨by exact BK101.out⟩, ⟨qB⟩⟩
    rw [if_neg c4] at H; have c4b0 : decide (a0_0 < 1) = false := zGq c4; clear c4; (first | rw [c4b0] | (simp only [i64_w, i32_w]; rw [c4b0]) | skip)
    have H' := zA H; clear H; obtain ⟨_, _, _, _, _, _, _, _, _, _⟩ := qc5f BK101.out; go_wp2; go_meet
    case rel => exact ⟨_, (decide (a0_0 > 999999)), (by first | rfl | (simp; done) | (simp [*]; done)), H', ⟨by first | omega | exact Nat.le_refl _⟩, ⟨by exact BK101.out⟩, ⟨qB⟩⟩
  case rest =>
    clear HC2; try clear p2
    try clear c4
    try clear c4b0
    obtain ⟨kq, x10_1, rfl, HA, HJ1, BK101, HB⟩ := hcut; cases kq with
    | zero => exact absurd HA.out (by simp [backhaulref21_Check.j0])
    | succ kj1 =>
      have H := HA.out; clear HA; simp only [backhaulref21_Check.j0] at H; by_cases c7 : x10_1 = true
      · subst c7
        have H1 : (some 2) = some r := by first | (rw [if_pos rfl] at H; exact H) | rfl
        clear H; have H := H1; clear H1; obtain rfl := zKq H; go_wp2; go_ret; exact ⟨qE, qB⟩
      replace c7 := Bool.eq_false_iff.mpr c7; subst c7; have H1 : (if a0_1 < 0 then (backhaulref21_Check.j1 kj1 true a0_0 a0_1 a0_2 a0_3 l0_4) else (if a0_1 > 1000000000000 then (backhaulref21_Check.j1 kj1 true a0_0 a0_1 a0_2 a0_3 l0_4) else (if a0_2 < 0 then (backhaulref21_Check.j1 kj1 true a0_0 a0_1 a0_2 a0_3 l0_4) else (if a0_2 > a0_1 then (backhaulref21_Check.j1 kj1 true a0_0 a0_1 a0_2 a0_3 l0_4) else (if a0_3 < 0 then (backhaulref21_Check.j1 kj1 true a0_0 a0_1 a0_2 a0_3 l0_4) else (if a0_3 > 1000000000000 then (backhaulref21_Check.j1 kj1 true a0_0 a0_1 a0_2 a0_3 l0_4) else (backhaulref21_Check.j1 kj1 (decide ((wrap64 (a0_2 + a0_3)) > 1000000000000)) a0_0 a0_1 a0_2 a0_3 l0_4))))))) = some r := by first | (rw [if_neg (show ¬ (false = true) by decide)] at H; exact H) | rfl
      clear H; have H := H1; clear H1; have HC8 := zA H; clear H; go_upto_region 3 with (fail)
      go_cut [48] (fun v48 wc => ∃ (kq : Nat) (x48_7 : Bool), v48 = .bool x48_7 ∧ Aside0 (backhaulref21_Check.j1 kq x48_7 a0_0 a0_1 a0_2 a0_3 l0_4 = some r) ∧ Aside0 (kq ≤ kj1) ∧ Aside0 (wc.heap[gb101]? = some (.cells #[.int .i64 a0_0, .int .i64 a0_1, .int .i64 a0_2, .int .i64 a0_3, (.slice A0_4 l0_4.length c0_4)] 71 (0, 0))) ∧ Aside0 (Below w.heap.size w wc))
      case first =>
        have H := HC8.out; clear HC8; by_cases c9 : a0_1 < 0
        · rw [if_pos c9] at H
          have c9b0 : decide (a0_1 < 0) = true := zFq c9; clear c9; (first | rw [c9b0] | (simp only [i64_w, i32_w]; rw [c9b0]) | skip)
          have H' := zA H; clear H; obtain ⟨_, _, _, _, _, _, _, _, _, _⟩ := qc5f BK101.out; go_wp2; go_meet
          case rel => exact ⟨_, (true), (by first | rfl | (simp; done) | (simp [*]; done)), H', ⟨by have := HJ1.out; first | omega | exact Nat.le_refl _⟩, ⟨by exact BK101.out⟩, ⟨qB⟩⟩
        rw [if_neg c9] at H; have c9b0 : decide (a0_1 < 0) = false := zGq c9; clear c9; (first | rw [c9b0] | (simp only [i64_w, i32_w]; rw [c9b0]) | skip)
        by_cases c11 : a0_1 > 1000000000000
        · rw [if_pos c11] at H
          have c11b0 : decide (1000000000000 < a0_1) = true := zFq c11; clear c11; have H' := zA H; clear H; obtain ⟨_, _, _, _, _, _, _, _, _, _⟩ := qc5f BK101.out; go_wp2; go_meet
          case rel => exact ⟨_, (true), (by first | rfl | (simp; done) | (simp [*]; done)), H', ⟨by have := HJ1.out; first | omega | exact Nat.le_refl _⟩, ⟨by exact BK101.out⟩, ⟨qB⟩⟩
        rw [if_neg c11] at H; have c11b0 : decide (1000000000000 < a0_1) = false := zGq c11; clear c11; by_cases c13 : a0_2 < 0
        · rw [if_pos c13] at H
          have c13b0 : decide (a0_2 < 0) = true := zFq c13; clear c13; have H' := zA H; clear H; obtain ⟨_, _, _, _, _, _, _, _, _, _⟩ := qc5f BK101.out; go_wp2; go_meet
          case rel => exact ⟨_, (true), (by first | rfl | (simp; done) | (simp [*]; done)), H', ⟨by have := HJ1.out; first | omega | exact Nat.le_refl _⟩, ⟨by exact BK101.out⟩, ⟨qB⟩⟩
        rw [if_neg c13] at H; have c13b0 : decide (a0_2 < 0) = false := zGq c13; clear c13; by_cases c15 : a0_2 > a0_1
        · rw [if_pos c15] at H
          have c15b0 : decide (a0_1 < a0_2) = true := zFq c15; clear c15; have H' := zA H; clear H; obtain ⟨_, _, _, _, _, _, _, _, _, _⟩ := qc5f BK101.out; go_wp2; go_meet
          case rel => exact ⟨_, (true), (by first | rfl | (simp; done) | (simp [*]; done)), H', ⟨by have := HJ1.out; first | omega | exact Nat.le_refl _⟩, ⟨by exact BK101.out⟩, ⟨qB⟩⟩
        rw [if_neg c15] at H; have c15b0 : decide (a0_1 < a0_2) = false := zGq c15; clear c15; by_cases c17 : a0_3 < 0
        · rw [if_pos c17] at H
          have c17b0 : decide (a0_3 < 0) = true := zFq c17; clear c17; have H' := zA H; clear H; obtain ⟨_, _, _, _, _, _, _, _, _, _⟩ := qc5f BK101.out; go_wp2; go_meet
          case rel => exact ⟨_, (true), (by first | rfl | (simp; done) | (simp [*]; done)), H', ⟨by have := HJ1.out; first | omega | exact Nat.le_refl _⟩, ⟨by exact BK101.out⟩, ⟨qB⟩⟩
        rw [if_neg c17] at H; have c17b0 : decide (a0_3 < 0) = false := zGq c17; clear c17; by_cases c19 : a0_3 > 1000000000000
        · rw [if_pos c19] at H
          have c19b0 : decide (1000000000000 < a0_3) = true := zFq c19; clear c19; have H' := zA H; clear H; obtain ⟨_, _, _, _, _, _, _, _, _, _⟩ := qc5f BK101.out; go_wp2; go_meet
          case rel => exact ⟨_, (true), (by first | rfl | (simp; done) | (simp [*]; done)), H', ⟨by have := HJ1.out; first | omega | exact Nat.le_refl _⟩, ⟨by exact BK101.out⟩, ⟨qB⟩⟩
        rw [if_neg c19] at H; have c19b0 : decide (1000000000000 < a0_3) = false := zGq c19; clear c19; have H' := zA H; clear H; obtain ⟨_, _, _, _, _, _, _, _, _, _⟩ := qc5f BK101.out; go_wp2; go_meet
        case rel => exact ⟨_, (decide ((wrap64 (a0_2 + a0_3)) > 1000000000000)), (by first | rfl | (simp; done) | (simp [*]; done)), H', ⟨by have := HJ1.out; first | omega | exact Nat.le_refl _⟩, ⟨by exact BK101.out⟩, ⟨qB⟩⟩
      case rest =>
        clear HC8; try clear c1
        try clear p2
        try clear c4
        try clear c4b0
        try clear p6
        try clear c7
        try clear c9
        try clear c9b0
        try clear c11
        try clear c11b0
        try clear c13
        try clear c13b0
        try clear c15
        try clear c15b0
        try clear c17
        try clear c17b0
        try clear c19
        try clear c19b0
        try clear p2
        obtain ⟨kq, x48_7, rfl, HA, HJ7, BK101, HB⟩ := hcut; cases kq with
        | zero => exact absurd HA.out (by simp [backhaulref21_Check.j1])
        | succ kj7 =>
          have H := HA.out; clear HA; simp only [backhaulref21_Check.j1] at H; by_cases c22 : x48_7 = true
          · subst c22
            have H1 : (some 8) = some r := by first | (rw [if_pos rfl] at H; exact H) | rfl
            clear H; have H := H1; clear H1; obtain rfl := zKq H; go_wp2; go_ret; exact ⟨qE, qB⟩
          replace c22 := Bool.eq_false_iff.mpr c22; subst c22; have H1 : (if (l0_4.length : Int) < 1 then (some 9) else (if (l0_4.length : Int) > 20 then (some 9) else ((backhaulref01_Row.f kj7 l0_4).bind fun t102 => (if t102 = 0 then (some 0) else (some 9))))) = some r := by first | (rw [if_neg (show ¬ (false = true) by decide)] at H; exact H) | rfl
          clear H; have H := H1; clear H1; by_cases c23 : (l0_4.length : Int) < 1
          · rw [if_pos c23] at H
            have c23b0 : decide ((l0_4.length : Int) < 1) = true := zFq c23; have c23b1 : decide (l0_4.length < 1) = true := zFq (by omega); clear c23; obtain rfl := zKq H; obtain ⟨_, _, _, _, _, _, _, _, _, _⟩ := qc5f BK101.out; go_wp2; go_ret; exact ⟨qE, qB⟩
          rw [if_neg c23] at H; have c23b0 : decide ((l0_4.length : Int) < 1) = false := zGq c23; have c23b1 : decide (l0_4.length < 1) = false := zGq (by omega); clear c23; by_cases c25 : (l0_4.length : Int) > 20
          · rw [if_pos c25] at H
            have c25b0 : decide (20 < (l0_4.length : Int)) = true := zFq c25; have c25b1 : decide (20 < l0_4.length) = true := zFq (by omega); clear c25; obtain rfl := zKq H; obtain ⟨_, _, _, _, _, _, _, _, _, _⟩ := qc5f BK101.out; go_wp2; go_ret; exact ⟨qE, qB⟩
          rw [if_neg c25] at H; have c25b0 : decide (20 < (l0_4.length : Int)) = false := zGq c25; have c25b1 : decide (20 < l0_4.length) = false := zGq (by omega); clear c25; replace H := Option.bind_eq_some_iff.mp H; obtain ⟨t102, A270, H⟩ := H; replace H : (if t102 = 0 then (some 0) else (some 9)) = some r := H; have A27 := zA A270; clear A270; by_cases c28 : t102 = 0
          · rw [if_pos c28] at H
            have c28b0 : (t102 == 0) = true := beq_iff_eq.mpr c28; have c28b1 : (t102 != 0) = false := bne_eq_false_iff_eq.mpr c28; clear c28; obtain rfl := zKq H; obtain ⟨_, _, _, _, _, _, _, _, _, _⟩ := qc5f BK101.out; go_wp2_with (first | (go_at_call 120; (with_reducible refine (backhaulref01_Row.calls kj7 _ _ l0_4 t102 _ ?side1 ?side2 A27.out).mono ?_); (case side1 => exact qC (Kd.C_below HR0_4.out HB.out)); (case side2 => exact HC0_4.out); rintro e w30 ⟨rfl, hb⟩; have n0_ := zA (qX BK101.out hb); have n1_ := zA (zV qB hb); clear BK101 HB; have BK101 := n0_; have HB := n1_; clear n0_ n1_; (try clear hb); (try clear hb2); (try clear hk); (try clear hi))); go_ret; exact ⟨qE, qB⟩
          rw [if_neg c28] at H; have c28b0 : (t102 == 0) = false := beq_eq_false_iff_ne.mpr c28; have c28b1 : (t102 != 0) = true := bne_iff_ne.mpr c28; obtain rfl := zKq H; obtain ⟨_, _, _, _, _, _, _, _, _, _⟩ := qc5f BK101.out; go_wp2_with (first | (go_at_call 120; (with_reducible refine (backhaulref01_Row.calls kj7 _ _ l0_4 t102 _ ?side1 ?side2 A27.out).mono ?_); (case side1 => exact qC (Kd.C_below HR0_4.out HB.out)); (case side2 => exact HC0_4.out); rintro e w32 ⟨rfl, hb⟩; have n0_ := zA (qX BK101.out hb); have n1_ := zA (zV qB hb); clear BK101 HB; have BK101 := n0_; have HB := n1_; clear n0_ n1_; (try clear hb); (try clear hb2); (try clear hk); (try clear hi))); go_ret; exact ⟨qE, qB⟩
def backhaulref21_Unit.j0 : Nat → Int → Bool → Int → Int → Int → Int → List ByteArray → Option (Int × Int × Int)
  | 0, _, _, _, _, _, _, _ => none
  | k + 1, x1, x25, x102000, x102001, x102002, x102003, x102004 => if x25 = true then (some (0, 0, 2)) else ((backhaulref03_Evenly.f k x102002 (x102004.length : Int)).bind fun bt103 => ((backhaulref03_Evenly.f k x102003 (x102004.length : Int)).bind fun bt107 => (if 0 ≤ x1 then (if x1 < (bt103.1.length : Int) then (if x1 < (bt107.1.length : Int) then (some (rd bt103.1 x1, rd bt107.1 x1, 0)) else (none)) else (none)) else (none))))
def backhaulref21_Unit.f (k : Nat) (a0_0 : Int) (a0_1 : Int) (a0_2 : Int) (a0_3 : Int) (l0_4 : List ByteArray) (a1 : Int) : Option (Int × Int × Int) := (backhaulref21_Check.f k a0_0 a0_1 a0_2 a0_3 l0_4).bind fun t102 => (if t102 = 0 then (if a1 < 0 then (backhaulref21_Unit.j0 k a1 true a0_0 a0_1 a0_2 a0_3 l0_4) else (backhaulref21_Unit.j0 k a1 (decide (a1 ≥ (l0_4.length : Int))) a0_0 a0_1 a0_2 a0_3 l0_4)) else (some (0, 0, t102)))
theorem backhaulref21_Unit.mono_l : ∀ k, (∀ y0 y1 y2 y3 y4 y5 y6, LeO (backhaulref21_Unit.j0 k y0 y1 y2 y3 y4 y5 y6) (backhaulref21_Unit.j0 (k + 1) y0 y1 y2 y3 y4 y5 y6))
  | 0 => fun _ _ _ _ _ _ _ r h => by simp [backhaulref21_Unit.j0] at h
  | k + 1 => by
    have ih0 := backhaulref21_Unit.mono_l k
    intro y0 y1 y2 y3 y4 y5 y6
    unfold backhaulref21_Unit.j0
    repeat' first
    | (with_reducible exact ih0 _ _ _ _ _ _ _)
    | (with_reducible exact backhaulref03_Evenly.mono _ _ _)
    | (with_reducible exact backhaulref21_Check.mono _ _ _ _ _ _)
    | (with_reducible exact LeO.refl _)
    | (with_reducible exact LeO.none _)
    | (with_reducible refine LeO.ite ?_ ?_)
    | (with_reducible refine LeO.bind ?_ (fun _ => ?_))
    | exact ih0 _ _ _ _ _ _ _
    | exact backhaulref03_Evenly.mono _ _ _
    | exact backhaulref21_Check.mono _ _ _ _ _ _
    | exact LeO.none _
    | refine LeO.ite ?_ ?_
    | refine LeO.bind ?_ (fun _ => ?_)
theorem backhaulref21_Unit.mono : ∀ a0 a1 a2 a3 a4 a5 k, LeO (backhaulref21_Unit.f k a0 a1 a2 a3 a4 a5) (backhaulref21_Unit.f (k + 1) a0 a1 a2 a3 a4 a5) := by
  intro a0 a1 a2 a3 a4 a5 k
  have ih0 := backhaulref21_Unit.mono_l k
  unfold backhaulref21_Unit.f
  repeat' first
      | (with_reducible exact ih0 _ _ _ _ _ _ _)
      | (with_reducible exact backhaulref03_Evenly.mono _ _ _)
      | (with_reducible exact backhaulref21_Check.mono _ _ _ _ _ _)
      | (with_reducible exact LeO.refl _)
      | (with_reducible exact LeO.none _)
      | (with_reducible refine LeO.ite ?_ ?_)
      | (with_reducible refine LeO.bind ?_ (fun _ => ?_))
      | exact ih0 _ _ _ _ _ _ _
      | exact backhaulref03_Evenly.mono _ _ _
      | exact backhaulref21_Check.mono _ _ _ _ _ _
      | exact LeO.none _
      | refine LeO.ite ?_ ?_
      | refine LeO.bind ?_ (fun _ => ?_)
set_option maxHeartbeats 8000000 in
set_option maxRecDepth 100000 in
theorem backhaulref21_Unit.calls (k : Nat) (a0_0 : Int) (a0_1 : Int) (a0_2 : Int) (a0_3 : Int) (A0_4 : Option Addr) (c0_4 : Nat) (l0_4 : List ByteArray) (a1 : Int) (r1 : Int) (r2 : Int) (r3 : Int) (w : World) (hr0_4 : Kd.C Kd.string w A0_4 l0_4.length l0_4) (hc0_4 : l0_4.length ≤ c0_4) (h : backhaulref21_Unit.f k a0_0 a0_1 a0_2 a0_3 l0_4 a1 = some (r1, r2, r3)) :
    Calls Try.prog 66 #[.agg #[.int .i64 a0_0, .int .i64 a0_1, .int .i64 a0_2, .int .i64 a0_3, .slice A0_4 l0_4.length c0_4], .int .i64 a1] w fun e w' => e = .returned (.tuple #[.int .i64 r1, .int .i64 r2, .int .i64 r3]) ∧ Below w.heap.size w w' := by
  have hu71 := Try.underlying71
  have HR0_4 := zA hr0_4
  have HC0_4 := zA hc0_4
  clear hr0_4 hc0_4
  have HB := zA (Below.refl w.heap.size w)
  have H : ((backhaulref21_Check.f k a0_0 a0_1 a0_2 a0_3 l0_4).bind fun t102 => (if t102 = 0 then (if a1 < 0 then (backhaulref21_Unit.j0 k a1 true a0_0 a0_1 a0_2 a0_3 l0_4) else (backhaulref21_Unit.j0 k a1 (decide (a1 ≥ (l0_4.length : Int))) a0_0 a0_1 a0_2 a0_3 l0_4)) else (some (0, 0, t102)))) = some (r1, r2, r3) := h
  clear h
  replace H := Option.bind_eq_some_iff.mp H
  obtain ⟨t102, A30, H⟩ := H
  replace H : (if t102 = 0 then (if a1 < 0 then (backhaulref21_Unit.j0 k a1 true a0_0 a0_1 a0_2 a0_3 l0_4) else (backhaulref21_Unit.j0 k a1 (decide (a1 ≥ (l0_4.length : Int))) a0_0 a0_1 a0_2 a0_3 l0_4)) else (some (0, 0, t102))) = some (r1, r2, r3) := H
  have A3 := zA A30
  clear A30
  by_cases c4 : t102 = 0
  · rw [if_pos c4] at H
    have c4b0 : (t102 == 0) = true := beq_iff_eq.mpr c4; have c4b1 : (t102 != 0) = false := bne_eq_false_iff_eq.mpr c4; clear c4; have HC5 := zA H; clear H; go_enter Try.func66, Try.ntmps66; go_upto_region 4 with (first | ((with_reducible refine gate_dst (N := 2) rfl ?_); (try (refine gate_guard (by rfl) ?_; dsimp only)); refine box_event qr (N := 2) qr (cs := #[.int .i64 a0_0, .int .i64 a0_1, .int .i64 a0_2, .int .i64 a0_3, .slice A0_4 l0_4.length c0_4]) (t := 71) qg ?_; intro gb101 hg w6 hbox hb; have n0_ := zA (zV qB hb); have n1_ := zA (hbox); have n2_ := zA ((qS : w.heap.size ≤ gb101)); have n3_ := zA ((qS : w.heap.size ≤ gb101)); clear HB; have HB := n0_; have BK101 := n1_; have GW101 := n2_; have GE101 := n3_; clear n0_ n1_ n2_ n3_ hb hbox hg; obtain ⟨hcz7_0, hcz7_1, hcz7_2, hcz7_3, hcz7_4, hfz7_0, hfz7_1, hfz7_2, hfz7_3, hfz7_4⟩ := qc5f BK101.out) | (go_at_call 70; (with_reducible refine (backhaulref21_Check.calls k a0_0 a0_1 a0_2 a0_3 _ _ l0_4 t102 _ ?side1 ?side2 A3.out).mono ?_); (case side1 => exact qC (Kd.C_below HR0_4.out HB.out)); (case side2 => exact HC0_4.out); rintro e w8 ⟨rfl, hb⟩; have n0_ := zA (qX BK101.out hb); have n1_ := zA (zV qB hb); clear BK101 HB; have BK101 := n0_; have HB := n1_; clear n0_ n1_; (try clear hb); (try clear hb2); (try clear hk); (try clear hi)))
    repeat (go_quiet (first | ((with_reducible refine gate_dst (N := 2) rfl ?_); (try (refine gate_guard (by rfl) ?_; dsimp only)); refine box_event qr (N := 2) qr (cs := #[.int .i64 a0_0, .int .i64 a0_1, .int .i64 a0_2, .int .i64 a0_3, .slice A0_4 l0_4.length c0_4]) (t := 71) qg ?_; intro gb101 hg w6 hbox hb; have n0_ := zA (zV qB hb); have n1_ := zA (hbox); have n2_ := zA ((qS : w.heap.size ≤ gb101)); have n3_ := zA ((qS : w.heap.size ≤ gb101)); clear HB; have HB := n0_; have BK101 := n1_; have GW101 := n2_; have GE101 := n3_; clear n0_ n1_ n2_ n3_ hb hbox hg; obtain ⟨hcz7_0, hcz7_1, hcz7_2, hcz7_3, hcz7_4, hfz7_0, hfz7_1, hfz7_2, hfz7_3, hfz7_4⟩ := qc5f BK101.out) | (go_at_call 70; (with_reducible refine (backhaulref21_Check.calls k a0_0 a0_1 a0_2 a0_3 _ _ l0_4 t102 _ ?side1 ?side2 A3.out).mono ?_); (case side1 => exact qC (Kd.C_below HR0_4.out HB.out)); (case side2 => exact HC0_4.out); rintro e w8 ⟨rfl, hb⟩; have n0_ := zA (qX BK101.out hb); have n1_ := zA (zV qB hb); clear BK101 HB; have BK101 := n0_; have HB := n1_; clear n0_ n1_; (try clear hb); (try clear hb2); (try clear hk); (try clear hi))); go_upto_region 4 with (first | ((with_reducible refine gate_dst (N := 2) rfl ?_); (try (refine gate_guard (by rfl) ?_; dsimp only)); refine box_event qr (N := 2) qr (cs := #[.int .i64 a0_0, .int .i64 a0_1, .int .i64 a0_2, .int .i64 a0_3, .slice A0_4 l0_4.length c0_4]) (t := 71) qg ?_; intro gb101 hg w6 hbox hb; have n0_ := zA (zV qB hb); have n1_ := zA (hbox); have n2_ := zA ((qS : w.heap.size ≤ gb101)); have n3_ := zA ((qS : w.heap.size ≤ gb101)); clear HB; have HB := n0_; have BK101 := n1_; have GW101 := n2_; have GE101 := n3_; clear n0_ n1_ n2_ n3_ hb hbox hg; obtain ⟨hcz7_0, hcz7_1, hcz7_2, hcz7_3, hcz7_4, hfz7_0, hfz7_1, hfz7_2, hfz7_3, hfz7_4⟩ := qc5f BK101.out) | (go_at_call 70; (with_reducible refine (backhaulref21_Check.calls k a0_0 a0_1 a0_2 a0_3 _ _ l0_4 t102 _ ?side1 ?side2 A3.out).mono ?_); (case side1 => exact qC (Kd.C_below HR0_4.out HB.out)); (case side2 => exact HC0_4.out); rintro e w8 ⟨rfl, hb⟩; have n0_ := zA (qX BK101.out hb); have n1_ := zA (zV qB hb); clear BK101 HB; have BK101 := n0_; have HB := n1_; clear n0_ n1_; (try clear hb); (try clear hb2); (try clear hk); (try clear hi))))
    (try simp only [Act.put, zH, zI, zJ])
    go_cut [25] (fun v25 wc => ∃ (kq : Nat) (x25_4 : Bool), v25 = .bool x25_4 ∧ Aside0 (backhaulref21_Unit.j0 kq a1 x25_4 a0_0 a0_1 a0_2 a0_3 l0_4 = some (r1, r2, r3)) ∧ Aside0 (kq ≤ k) ∧ Aside0 (wc.heap[gb101]? = some (.cells #[.int .i64 a0_0, .int .i64 a0_1, .int .i64 a0_2, .int .i64 a0_3, (.slice A0_4 l0_4.length c0_4)] 71 (0, 0))) ∧ Aside0 (Below w.heap.size w wc))
    case first =>
      have H := HC5.out; clear HC5; by_cases c9 : a1 < 0
      · rw [if_pos c9] at H
        have c9b0 : decide (a1 < 0) = true := zFq c9; clear c9; (first | rw [c9b0] | (simp only [i64_w, i32_w]; rw [c9b0]) | skip)
        have H' := zA H; clear H; go_wp2; repeat (go_quiet (fail); try go_wp2)
        go_meet
        case rel => exact ⟨_, (true), (by first | rfl | (simp; done) | (simp [*]; done)), H', ⟨by first | omega | exact Nat.le_refl _⟩, ⟨by exact BK101.out⟩, ⟨qB⟩⟩
      rw [if_neg c9] at H; have c9b0 : decide (a1 < 0) = false := zGq c9; clear c9; (first | rw [c9b0] | (simp only [i64_w, i32_w]; rw [c9b0]) | skip)
      have H' := zA H; clear H; obtain ⟨_, _, _, _, _, _, _, _, _, _⟩ := qc5f BK101.out; go_wp2; repeat (go_quiet (fail); try go_wp2)
      go_meet
      case rel => exact ⟨_, (decide (a1 ≥ (l0_4.length : Int))), (by first | rfl | (simp; done) | (simp [*]; done)), H', ⟨by first | omega | exact Nat.le_refl _⟩, ⟨by exact BK101.out⟩, ⟨qB⟩⟩
    case rest =>
      clear HC5; try clear p2
      try clear c4
      try clear c4b0
      try clear c4b1
      try clear c6
      try clear c9
      try clear c9b0
      try clear hcz7_0
      try clear hcz7_1
      try clear hcz7_2
      try clear hcz7_3
      try clear hcz7_4
      try clear hfz7_0
      try clear hfz7_1
      try clear hfz7_2
      try clear hfz7_3
      try clear hfz7_4
      obtain ⟨kq, x25_4, rfl, HA, HJ4, BK101, HB⟩ := hcut; cases kq with
      | zero => exact absurd HA.out (by simp [backhaulref21_Unit.j0])
      | succ kj4 =>
        have H := HA.out; clear HA; simp only [backhaulref21_Unit.j0] at H; by_cases c11 : x25_4 = true
        · subst c11
          have H1 : (some (0, 0, 2)) = some (r1, r2, r3) := by first | (rw [if_pos rfl] at H; exact H) | rfl
          clear H; have H := H1; clear H1; simp only [zNq, zOq] at H; obtain ⟨rfl, rfl, rfl⟩ := H; go_wp2; repeat (go_quiet (fail); try go_wp2)
          go_ret3; exact ⟨qE, qB⟩
        replace c11 := Bool.eq_false_iff.mpr c11; subst c11; have H1 : ((backhaulref03_Evenly.f kj4 a0_2 (l0_4.length : Int)).bind fun bt103 => ((backhaulref03_Evenly.f kj4 a0_3 (l0_4.length : Int)).bind fun bt107 => (if 0 ≤ a1 then (if a1 < (bt103.1.length : Int) then (if a1 < (bt107.1.length : Int) then (some (rd bt103.1 a1, rd bt107.1 a1, 0)) else (none)) else (none)) else (none)))) = some (r1, r2, r3) := by first | (rw [if_neg (show ¬ (false = true) by decide)] at H; exact H) | rfl
        clear H; have H := H1; clear H1; replace H := Option.bind_eq_some_iff.mp H; obtain ⟨⟨t103, t104⟩, A120, H⟩ := H; replace H : ((backhaulref03_Evenly.f kj4 a0_3 (l0_4.length : Int)).bind fun bt107 => (if 0 ≤ a1 then (if a1 < (t103.length : Int) then (if a1 < (bt107.1.length : Int) then (some (rd t103 a1, rd bt107.1 a1, 0)) else (none)) else (none)) else (none))) = some (r1, r2, r3) := H; have A12 := zA A120; clear A120; replace H := Option.bind_eq_some_iff.mp H; obtain ⟨⟨t107, t108⟩, A130, H⟩ := H; replace H : (if 0 ≤ a1 then (if a1 < (t103.length : Int) then (if a1 < (t107.length : Int) then (some (rd t103 a1, rd t107 a1, 0)) else (none)) else (none)) else (none)) = some (r1, r2, r3) := H; have A13 := zA A130; clear A130; by_cases c14 : 0 ≤ a1
        · rw [if_pos c14] at H
          have c14b0 : decide (0 ≤ a1) = true := zFq c14; clear c14; by_cases c15 : a1 < (t103.length : Int)
          · rw [if_pos c15] at H
            have c15b0 : decide (a1 < (t103.length : Int)) = true := zFq c15; clear c15; by_cases c16 : a1 < (t107.length : Int)
            · rw [if_pos c16] at H
              have c16b0 : decide (a1 < (t107.length : Int)) = true := zFq c16; clear c16; simp only [zNq, zOq] at H; obtain ⟨rfl, rfl, rfl⟩ := H; obtain ⟨_, _, _, _, _, _, _, _, _, _⟩ := qc5f BK101.out; go_wp2_with (first | (go_at_call 54; (with_reducible refine (backhaulref03_Evenly.calls kj4 a0_2 (l0_4.length : Int) t103 t104 _ A12.out).mono ?_); rintro e w18 ⟨v105, rfl, ho0, hb⟩; have n0_ := zA (Kd.R_lower ho0 (zW qB)); have n1_ := zA (qX BK101.out hb); have n2_ := zA (zV qB hb); clear BK101 HB; have HO106 := n0_; have BK101 := n1_; have HB := n2_; clear n0_ n1_ n2_; (try clear hb); (try clear hb2); (try clear hk); (try clear hi); (try clear ho0); obtain ⟨hcz19_0, hcz19_1, hcz19_2, hcz19_3, hcz19_4, hfz19_0, hfz19_1, hfz19_2, hfz19_3, hfz19_4⟩ := qc5f BK101.out) | (go_at_call 54; (with_reducible refine (backhaulref03_Evenly.calls kj4 a0_3 (l0_4.length : Int) t107 t108 _ A13.out).mono ?_); rintro e w20 ⟨v109, rfl, ho0, hb⟩; have n0_ := zA (Kd.R_elder' (by (with_reducible repeat (first | apply Kd.R_alloc | apply Kd.R_drewN | apply Kd.R_drew)); exact HO106.out) (Kd.R_base ho0) hb); have n1_ := zA (Kd.R_lower (Kd.R_new' ho0 (Kd.R_lt (by (with_reducible repeat (first | apply Kd.R_alloc | apply Kd.R_drewN | apply Kd.R_drew)); exact HO106.out))) (zW qB)); have n2_ := zA (qX BK101.out hb); have n3_ := zA (zV qB hb); clear HO106 BK101 HB; have HO106 := n0_; have HO110 := n1_; have BK101 := n2_; have HB := n3_; clear n0_ n1_ n2_ n3_; (try clear hb); (try clear hb2); (try clear hk); (try clear hi); (try clear ho0); obtain ⟨Ao21, co21, eo21⟩ := Kd.R_slice HO106.out; subst eo21; have p111 : 0 ≤ (a1 : Int) := of_decide_eq_true qA; have q111 : a1 < (t103.length : Int) := of_decide_eq_true qA; obtain ⟨ad111, e111, hx111_0⟩ := Kd.at_int (Kd.R_reads' HO106.out).2.2 a1 p111 q111; cases e111; replace p111 := eq_true p111; replace q111 := eq_true q111; obtain ⟨Ao22, co22, eo22⟩ := Kd.R_slice HO110.out; subst eo22; have p112 : 0 ≤ (a1 : Int) := of_decide_eq_true qA; have q112 : a1 < (t107.length : Int) := of_decide_eq_true qA; obtain ⟨ad112, e112, hx112_0⟩ := Kd.at_int (Kd.R_reads' HO110.out).2.2 a1 p112 q112; cases e112; replace p112 := eq_true p112; replace q112 := eq_true q112)); repeat (go_quiet (first | (go_at_call 54; (with_reducible refine (backhaulref03_Evenly.calls kj4 a0_2 (l0_4.length : Int) t103 t104 _ A12.out).mono ?_); rintro e w18 ⟨v105, rfl, ho0, hb⟩; have n0_ := zA (Kd.R_lower ho0 (zW qB)); have n1_ := zA (qX BK101.out hb); have n2_ := zA (zV qB hb); clear BK101 HB; have HO106 := n0_; have BK101 := n1_; have HB := n2_; clear n0_ n1_ n2_; (try clear hb); (try clear hb2); (try clear hk); (try clear hi); (try clear ho0); obtain ⟨hcz19_0, hcz19_1, hcz19_2, hcz19_3, hcz19_4, hfz19_0, hfz19_1, hfz19_2, hfz19_3, hfz19_4⟩ := qc5f BK101.out) | (go_at_call 54; (with_reducible refine (backhaulref03_Evenly.calls kj4 a0_3 (l0_4.length : Int) t107 t108 _ A13.out).mono ?_); rintro e w20 ⟨v109, rfl, ho0, hb⟩; have n0_ := zA (Kd.R_elder' (by (with_reducible repeat (first | apply Kd.R_alloc | apply Kd.R_drewN | apply Kd.R_drew)); exact HO106.out) (Kd.R_base ho0) hb); have n1_ := zA (Kd.R_lower (Kd.R_new' ho0 (Kd.R_lt (by (with_reducible repeat (first | apply Kd.R_alloc | apply Kd.R_drewN | apply Kd.R_drew)); exact HO106.out))) (zW qB)); have n2_ := zA (qX BK101.out hb); have n3_ := zA (zV qB hb); clear HO106 BK101 HB; have HO106 := n0_; have HO110 := n1_; have BK101 := n2_; have HB := n3_; clear n0_ n1_ n2_ n3_; (try clear hb); (try clear hb2); (try clear hk); (try clear hi); (try clear ho0); obtain ⟨Ao21, co21, eo21⟩ := Kd.R_slice HO106.out; subst eo21; have p111 : 0 ≤ (a1 : Int) := of_decide_eq_true qA; have q111 : a1 < (t103.length : Int) := of_decide_eq_true qA; obtain ⟨ad111, e111, hx111_0⟩ := Kd.at_int (Kd.R_reads' HO106.out).2.2 a1 p111 q111; cases e111; replace p111 := eq_true p111; replace q111 := eq_true q111; obtain ⟨Ao22, co22, eo22⟩ := Kd.R_slice HO110.out; subst eo22; have p112 : 0 ≤ (a1 : Int) := of_decide_eq_true qA; have q112 : a1 < (t107.length : Int) := of_decide_eq_true qA; obtain ⟨ad112, e112, hx112_0⟩ := Kd.at_int (Kd.R_reads' HO110.out).2.2 a1 p112 q112; cases e112; replace p112 := eq_true p112; replace q112 := eq_true q112)); try go_wp2_with (first | (go_at_call 54; (with_reducible refine (backhaulref03_Evenly.calls kj4 a0_2 (l0_4.length : Int) t103 t104 _ A12.out).mono ?_); rintro e w18 ⟨v105, rfl, ho0, hb⟩; have n0_ := zA (Kd.R_lower ho0 (zW qB)); have n1_ := zA (qX BK101.out hb); have n2_ := zA (zV qB hb); clear BK101 HB; have HO106 := n0_; have BK101 := n1_; have HB := n2_; clear n0_ n1_ n2_; (try clear hb); (try clear hb2); (try clear hk); (try clear hi); (try clear ho0); obtain ⟨hcz19_0, hcz19_1, hcz19_2, hcz19_3, hcz19_4, hfz19_0, hfz19_1, hfz19_2, hfz19_3, hfz19_4⟩ := qc5f BK101.out) | (go_at_call 54; (with_reducible refine (backhaulref03_Evenly.calls kj4 a0_3 (l0_4.length : Int) t107 t108 _ A13.out).mono ?_); rintro e w20 ⟨v109, rfl, ho0, hb⟩; have n0_ := zA (Kd.R_elder' (by (with_reducible repeat (first | apply Kd.R_alloc | apply Kd.R_drewN | apply Kd.R_drew)); exact HO106.out) (Kd.R_base ho0) hb); have n1_ := zA (Kd.R_lower (Kd.R_new' ho0 (Kd.R_lt (by (with_reducible repeat (first | apply Kd.R_alloc | apply Kd.R_drewN | apply Kd.R_drew)); exact HO106.out))) (zW qB)); have n2_ := zA (qX BK101.out hb); have n3_ := zA (zV qB hb); clear HO106 BK101 HB; have HO106 := n0_; have HO110 := n1_; have BK101 := n2_; have HB := n3_; clear n0_ n1_ n2_ n3_; (try clear hb); (try clear hb2); (try clear hk); (try clear hi); (try clear ho0); obtain ⟨Ao21, co21, eo21⟩ := Kd.R_slice HO106.out; subst eo21; have p111 : 0 ≤ (a1 : Int) := of_decide_eq_true qA; have q111 : a1 < (t103.length : Int) := of_decide_eq_true qA; obtain ⟨ad111, e111, hx111_0⟩ := Kd.at_int (Kd.R_reads' HO106.out).2.2 a1 p111 q111; cases e111; replace p111 := eq_true p111; replace q111 := eq_true q111; obtain ⟨Ao22, co22, eo22⟩ := Kd.R_slice HO110.out; subst eo22; have p112 : 0 ≤ (a1 : Int) := of_decide_eq_true qA; have q112 : a1 < (t107.length : Int) := of_decide_eq_true qA; obtain ⟨ad112, e112, hx112_0⟩ := Kd.at_int (Kd.R_reads' HO110.out).2.2 a1 p112 q112; cases e112; replace p112 := eq_true p112; replace q112 := eq_true q112)))
              go_ret3; exact ⟨qE, qB⟩
            rw [if_neg c16] at H; exact absurd H (by simp)
          rw [if_neg c15] at H; exact absurd H (by simp)
        rw [if_neg c14] at H; exact absurd H (by simp)
  rw [if_neg c4] at H
  have c4b0 : (t102 == 0) = false := beq_eq_false_iff_ne.mpr c4
  have c4b1 : (t102 != 0) = true := bne_iff_ne.mpr c4
  simp only [zNq, zOq] at H
  obtain ⟨rfl, rfl, rfl⟩ := H
  go_enter Try.func66, Try.ntmps66
  go_wp2_with (first | ((with_reducible refine gate_dst (N := 2) rfl ?_); (try (refine gate_guard (by rfl) ?_; dsimp only)); refine box_event qr (N := 2) qr (cs := #[.int .i64 a0_0, .int .i64 a0_1, .int .i64 a0_2, .int .i64 a0_3, .slice A0_4 l0_4.length c0_4]) (t := 71) qg ?_; intro gb101 hg w23 hbox hb; have n0_ := zA (zV qB hb); have n1_ := zA (hbox); have n2_ := zA ((qS : w.heap.size ≤ gb101)); have n3_ := zA ((qS : w.heap.size ≤ gb101)); clear HB; have HB := n0_; have BK101 := n1_; have GW101 := n2_; have GE101 := n3_; clear n0_ n1_ n2_ n3_ hb hbox hg; obtain ⟨hcz24_0, hcz24_1, hcz24_2, hcz24_3, hcz24_4, hfz24_0, hfz24_1, hfz24_2, hfz24_3, hfz24_4⟩ := qc5f BK101.out) | (go_at_call 70; (with_reducible refine (backhaulref21_Check.calls k a0_0 a0_1 a0_2 a0_3 _ _ l0_4 t102 _ ?side1 ?side2 A3.out).mono ?_); (case side1 => exact qC (Kd.C_below HR0_4.out HB.out)); (case side2 => exact HC0_4.out); rintro e w25 ⟨rfl, hb⟩; have n0_ := zA (qX BK101.out hb); have n1_ := zA (zV qB hb); clear BK101 HB; have BK101 := n0_; have HB := n1_; clear n0_ n1_; (try clear hb); (try clear hb2); (try clear hk); (try clear hi)))
  repeat (go_quiet (first | ((with_reducible refine gate_dst (N := 2) rfl ?_); (try (refine gate_guard (by rfl) ?_; dsimp only)); refine box_event qr (N := 2) qr (cs := #[.int .i64 a0_0, .int .i64 a0_1, .int .i64 a0_2, .int .i64 a0_3, .slice A0_4 l0_4.length c0_4]) (t := 71) qg ?_; intro gb101 hg w23 hbox hb; have n0_ := zA (zV qB hb); have n1_ := zA (hbox); have n2_ := zA ((qS : w.heap.size ≤ gb101)); have n3_ := zA ((qS : w.heap.size ≤ gb101)); clear HB; have HB := n0_; have BK101 := n1_; have GW101 := n2_; have GE101 := n3_; clear n0_ n1_ n2_ n3_ hb hbox hg; obtain ⟨hcz24_0, hcz24_1, hcz24_2, hcz24_3, hcz24_4, hfz24_0, hfz24_1, hfz24_2, hfz24_3, hfz24_4⟩ := qc5f BK101.out) | (go_at_call 70; (with_reducible refine (backhaulref21_Check.calls k a0_0 a0_1 a0_2 a0_3 _ _ l0_4 t102 _ ?side1 ?side2 A3.out).mono ?_); (case side1 => exact qC (Kd.C_below HR0_4.out HB.out)); (case side2 => exact HC0_4.out); rintro e w25 ⟨rfl, hb⟩; have n0_ := zA (qX BK101.out hb); have n1_ := zA (zV qB hb); clear BK101 HB; have BK101 := n0_; have HB := n1_; clear n0_ n1_; (try clear hb); (try clear hb2); (try clear hk); (try clear hi))); try go_wp2_with (first | ((with_reducible refine gate_dst (N := 2) rfl ?_); (try (refine gate_guard (by rfl) ?_; dsimp only)); refine box_event qr (N := 2) qr (cs := #[.int .i64 a0_0, .int .i64 a0_1, .int .i64 a0_2, .int .i64 a0_3, .slice A0_4 l0_4.length c0_4]) (t := 71) qg ?_; intro gb101 hg w23 hbox hb; have n0_ := zA (zV qB hb); have n1_ := zA (hbox); have n2_ := zA ((qS : w.heap.size ≤ gb101)); have n3_ := zA ((qS : w.heap.size ≤ gb101)); clear HB; have HB := n0_; have BK101 := n1_; have GW101 := n2_; have GE101 := n3_; clear n0_ n1_ n2_ n3_ hb hbox hg; obtain ⟨hcz24_0, hcz24_1, hcz24_2, hcz24_3, hcz24_4, hfz24_0, hfz24_1, hfz24_2, hfz24_3, hfz24_4⟩ := qc5f BK101.out) | (go_at_call 70; (with_reducible refine (backhaulref21_Check.calls k a0_0 a0_1 a0_2 a0_3 _ _ l0_4 t102 _ ?side1 ?side2 A3.out).mono ?_); (case side1 => exact qC (Kd.C_below HR0_4.out HB.out)); (case side2 => exact HC0_4.out); rintro e w25 ⟨rfl, hb⟩; have n0_ := zA (qX BK101.out hb); have n1_ := zA (zV qB hb); clear BK101 HB; have BK101 := n0_; have HB := n1_; clear n0_ n1_; (try clear hb); (try clear hb2); (try clear hk); (try clear hi))))
  go_ret3
  exact ⟨qE, qB⟩
def backhaulref22_Full.f (k : Nat) (a0_0 : Int) (a0_1 : Int) (a0_2 : Int) (a0_3 : Int) (l0_4 : List ByteArray) (a1 : Int) : Option (Int × Int) := (backhaulref21_Unit.f k a0_0 a0_1 a0_2 a0_3 l0_4 a1).bind fun bt102 => (some (wrap64 (bt102.1 + bt102.2.1), bt102.2.2))
theorem backhaulref22_Full.mono : ∀ a0 a1 a2 a3 a4 a5 k, LeO (backhaulref22_Full.f k a0 a1 a2 a3 a4 a5) (backhaulref22_Full.f (k + 1) a0 a1 a2 a3 a4 a5) := by
  intro a0 a1 a2 a3 a4 a5 k
  unfold backhaulref22_Full.f
  repeat' first
      | (with_reducible exact backhaulref21_Unit.mono _ _ _ _ _ _ _)
      | (with_reducible exact LeO.refl _)
      | (with_reducible exact LeO.none _)
      | (with_reducible refine LeO.ite ?_ ?_)
      | (with_reducible refine LeO.bind ?_ (fun _ => ?_))
      | exact backhaulref21_Unit.mono _ _ _ _ _ _ _
      | exact LeO.none _
      | refine LeO.ite ?_ ?_
      | refine LeO.bind ?_ (fun _ => ?_)
set_option maxHeartbeats 8000000 in
set_option maxRecDepth 100000 in
theorem backhaulref22_Full.calls (k : Nat) (a0_0 : Int) (a0_1 : Int) (a0_2 : Int) (a0_3 : Int) (A0_4 : Option Addr) (c0_4 : Nat) (l0_4 : List ByteArray) (a1 : Int) (r1 : Int) (r2 : Int) (w : World) (hr0_4 : Kd.C Kd.string w A0_4 l0_4.length l0_4) (hc0_4 : l0_4.length ≤ c0_4) (h : backhaulref22_Full.f k a0_0 a0_1 a0_2 a0_3 l0_4 a1 = some (r1, r2)) :
    Calls Try.prog 75 #[.agg #[.int .i64 a0_0, .int .i64 a0_1, .int .i64 a0_2, .int .i64 a0_3, .slice A0_4 l0_4.length c0_4], .int .i64 a1] w fun e w' => e = .returned (.tuple #[.int .i64 r1, .int .i64 r2]) ∧ Below w.heap.size w w' := by
  have hu71 := Try.underlying71
  have HR0_4 := zA hr0_4
  have HC0_4 := zA hc0_4
  clear hr0_4 hc0_4
  have HB := zA (Below.refl w.heap.size w)
  have H : ((backhaulref21_Unit.f k a0_0 a0_1 a0_2 a0_3 l0_4 a1).bind fun bt102 => (some (wrap64 (bt102.1 + bt102.2.1), bt102.2.2))) = some (r1, r2) := h
  clear h
  replace H := Option.bind_eq_some_iff.mp H
  obtain ⟨⟨t102, t103, t104⟩, A30, H⟩ := H
  replace H : (some (wrap64 (t102 + t103), t104)) = some (r1, r2) := H
  have A3 := zA A30
  clear A30
  simp only [zNq, zOq] at H
  obtain ⟨rfl, rfl⟩ := H
  go_enter Try.func75, Try.ntmps75
  go_wp2_with (first | ((with_reducible refine gate_dst (N := 2) rfl ?_); refine box_event qr (N := 2) qr (cs := #[.int .i64 a0_0, .int .i64 a0_1, .int .i64 a0_2, .int .i64 a0_3, .slice A0_4 l0_4.length c0_4]) (t := 71) qg ?_; intro gb101 hg w4 hbox hb; have n0_ := zA (zV qB hb); have n1_ := zA (hbox); have n2_ := zA ((qS : w.heap.size ≤ gb101)); have n3_ := zA ((qS : w.heap.size ≤ gb101)); clear HB; have HB := n0_; have BK101 := n1_; have GW101 := n2_; have GE101 := n3_; clear n0_ n1_ n2_ n3_ hb hbox hg; obtain ⟨_, _, _, _, _, _, _, _, _, _⟩ := qc5f BK101.out) | ((with_reducible refine zJq (f := 66) rfl ?_); refine goesL_ (some 12) rfl rfl Try.func66 (by kernel_rfl) rfl #[.agg #[.int .i64 a0_0, .int .i64 a0_1, .int .i64 a0_2, .int .i64 a0_3, .slice A0_4 l0_4.length c0_4], .int .i64 a1] rfl (by (try simp only [zR, zS, zT]); first | done | rfl | (simp only [zP, zQ]; rfl)) ?_; (with_reducible refine (backhaulref21_Unit.calls k a0_0 a0_1 a0_2 a0_3 _ _ l0_4 a1 t102 t103 t104 _ ?side1 ?side2 A3.out).mono ?_); (case side1 => exact qC (Kd.C_below HR0_4.out HB.out)); (case side2 => exact HC0_4.out); rintro e w6 ⟨rfl, hb⟩; refine ⟨_, rfl, ?_⟩; have n0_ := zA (qX BK101.out hb); have n1_ := zA (zV qB hb); clear BK101 HB; have BK101 := n0_; have HB := n1_; clear n0_ n1_; (try clear hb); (try clear hb2); (try clear hk); (try clear hi)))
  go_ret2
  exact ⟨qE, qB⟩
def backhaulref04_Of.j0 : Nat → Int → Int → Bool → Option (Int × Int)
  | 0, _, _, _ => none
  | k + 1, x0, x1, x11 => if x11 = true then (some (0, 2)) else (if x0 < 0 then (some (0, 8)) else (if x0 > 1000000000000 then (some (0, 8)) else (some (wrap64 (Int.tdiv (wrap64 ((wrap64 ((wrap64 (2 * x0)) * x1)) + 10000)) 20000), 0))))
def backhaulref04_Of.f (k : Nat) (a0 : Int) (a1 : Int) : Option (Int × Int) := if a1 < 0 then (backhaulref04_Of.j0 k a0 a1 true) else (backhaulref04_Of.j0 k a0 a1 (decide (a1 > 10000)))
theorem backhaulref04_Of.mono_l : ∀ k, (∀ y0 y1 y2, LeO (backhaulref04_Of.j0 k y0 y1 y2) (backhaulref04_Of.j0 (k + 1) y0 y1 y2))
  | 0 => fun _ _ _ r h => by simp [backhaulref04_Of.j0] at h
  | k + 1 => by
    have ih0 := backhaulref04_Of.mono_l k
    intro y0 y1 y2
    unfold backhaulref04_Of.j0
    repeat' first
    | (with_reducible exact ih0 _ _ _)
    | (with_reducible exact LeO.refl _)
    | (with_reducible exact LeO.none _)
    | (with_reducible refine LeO.ite ?_ ?_)
    | (with_reducible refine LeO.bind ?_ (fun _ => ?_))
    | exact ih0 _ _ _
    | exact LeO.none _
    | refine LeO.ite ?_ ?_
    | refine LeO.bind ?_ (fun _ => ?_)
theorem backhaulref04_Of.mono : ∀ a0 a1 k, LeO (backhaulref04_Of.f k a0 a1) (backhaulref04_Of.f (k + 1) a0 a1) := by
  intro a0 a1 k
  have ih0 := backhaulref04_Of.mono_l k
  unfold backhaulref04_Of.f
  repeat' first
      | (with_reducible exact ih0 _ _ _)
      | (with_reducible exact LeO.refl _)
      | (with_reducible exact LeO.none _)
      | (with_reducible refine LeO.ite ?_ ?_)
      | (with_reducible refine LeO.bind ?_ (fun _ => ?_))
      | exact ih0 _ _ _
      | exact LeO.none _
      | refine LeO.ite ?_ ?_
      | refine LeO.bind ?_ (fun _ => ?_)
set_option maxHeartbeats 8000000 in
set_option maxRecDepth 100000 in
theorem backhaulref04_Of.calls (k : Nat) (a0 : Int) (a1 : Int) (r1 : Int) (r2 : Int) (w : World) (h : backhaulref04_Of.f k a0 a1 = some (r1, r2)) :
    Calls Try.prog 41 #[.int .i64 a0, .int .i64 a1] w fun e w' => e = .returned (.tuple #[.int .i64 r1, .int .i64 r2]) ∧ Drawn0 w w' := by
  have H : (if a1 < 0 then (backhaulref04_Of.j0 k a0 a1 true) else (backhaulref04_Of.j0 k a0 a1 (decide (a1 > 10000)))) = some (r1, r2) := h
  clear h
  have HC3 := zA H
  clear H
  go_enter Try.func41, Try.ntmps41
  go_upto_region 1 with (fail)
  go_cut [11] (fun v11 wc => ∃ (kq : Nat) (x11_2 : Bool), v11 = .bool x11_2 ∧ Aside0 (backhaulref04_Of.j0 kq a0 a1 x11_2 = some (r1, r2)) ∧ Aside0 (kq ≤ k) ∧ Drawn0 w wc)
  case first =>
    have H := HC3.out; clear HC3; by_cases c4 : a1 < 0
    · rw [if_pos c4] at H
      have c4b0 : decide (a1 < 0) = true := zFq c4; clear c4; (first | rw [c4b0] | (simp only [i64_w, i32_w]; rw [c4b0]) | skip)
      have H' := zA H; clear H; go_wp2; go_meet
      case rel => exact ⟨_, (true), (by first | rfl | (simp; done) | (simp [*]; done)), H', ⟨by first | omega | exact Nat.le_refl _⟩, by repeat (first | exact Drawn0.refl _ | apply Drawn0.step)⟩
    rw [if_neg c4] at H; have c4b0 : decide (a1 < 0) = false := zGq c4; clear c4; (first | rw [c4b0] | (simp only [i64_w, i32_w]; rw [c4b0]) | skip)
    have H' := zA H; clear H; go_wp2; go_meet
    case rel => exact ⟨_, (decide (a1 > 10000)), (by first | rfl | (simp; done) | (simp [*]; done)), H', ⟨by first | omega | exact Nat.le_refl _⟩, by repeat (first | exact Drawn0.refl _ | apply Drawn0.step)⟩
  case rest =>
    clear HC3; try clear p2
    try clear c4
    try clear c4b0
    obtain ⟨kq, x11_2, rfl, HA, HJ2, ⟨mc2, rfl⟩⟩ := hcut; cases kq with
    | zero => exact absurd HA.out (by simp [backhaulref04_Of.j0])
    | succ kj2 =>
      have H := HA.out; clear HA; simp only [backhaulref04_Of.j0] at H; by_cases c5 : x11_2 = true
      · subst c5
        have H1 : (some (0, 2)) = some (r1, r2) := by first | (rw [if_pos rfl] at H; exact H) | rfl
        clear H; have H := H1; clear H1; simp only [zNq, zOq] at H; obtain ⟨rfl, rfl⟩ := H; go_wp2; go_ret2; exact ⟨by first | rfl | (simp; done) | (simp [*]; done), by repeat (first | exact Drawn0.refl _ | apply Drawn0.step)⟩
      replace c5 := Bool.eq_false_iff.mpr c5; subst c5; have H1 : (if a0 < 0 then (some (0, 8)) else (if a0 > 1000000000000 then (some (0, 8)) else (some (wrap64 (Int.tdiv (wrap64 ((wrap64 ((wrap64 (2 * a0)) * a1)) + 10000)) 20000), 0)))) = some (r1, r2) := by first | (rw [if_neg (show ¬ (false = true) by decide)] at H; exact H) | rfl
      clear H; have H := H1; clear H1; by_cases c6 : a0 < 0
      · rw [if_pos c6] at H
        have c6b0 : decide (a0 < 0) = true := zFq c6; clear c6; simp only [zNq, zOq] at H; obtain ⟨rfl, rfl⟩ := H; go_wp2; go_ret2; exact ⟨by first | rfl | (simp; done) | (simp [*]; done), by repeat (first | exact Drawn0.refl _ | apply Drawn0.step)⟩
      rw [if_neg c6] at H; have c6b0 : decide (a0 < 0) = false := zGq c6; clear c6; by_cases c7 : a0 > 1000000000000
      · rw [if_pos c7] at H
        have c7b0 : decide (1000000000000 < a0) = true := zFq c7; clear c7; simp only [zNq, zOq] at H; obtain ⟨rfl, rfl⟩ := H; go_wp2; go_ret2; exact ⟨by first | rfl | (simp; done) | (simp [*]; done), by repeat (first | exact Drawn0.refl _ | apply Drawn0.step)⟩
      rw [if_neg c7] at H; have c7b0 : decide (1000000000000 < a0) = false := zGq c7; clear c7; simp only [zNq, zOq] at H; obtain ⟨rfl, rfl⟩ := H; go_wp2; go_ret2; exact ⟨by first | rfl | (simp; done) | (simp [*]; done), by repeat (first | exact Drawn0.refl _ | apply Drawn0.step)⟩
def backhaulref04_Less.f (k : Nat) (a0 : Int) (a1 : Int) : Option (Int × Int) := (backhaulref04_Of.f k a0 a1).bind fun bt101 => (if bt101.2 = 0 then (some (wrap64 (a0 - bt101.1), 0)) else (some (0, bt101.2)))
theorem backhaulref04_Less.mono : ∀ a0 a1 k, LeO (backhaulref04_Less.f k a0 a1) (backhaulref04_Less.f (k + 1) a0 a1) := by
  intro a0 a1 k
  unfold backhaulref04_Less.f
  repeat' first
      | (with_reducible exact backhaulref04_Of.mono _ _ _)
      | (with_reducible exact LeO.refl _)
      | (with_reducible exact LeO.none _)
      | (with_reducible refine LeO.ite ?_ ?_)
      | (with_reducible refine LeO.bind ?_ (fun _ => ?_))
      | exact backhaulref04_Of.mono _ _ _
      | exact LeO.none _
      | refine LeO.ite ?_ ?_
      | refine LeO.bind ?_ (fun _ => ?_)
set_option maxHeartbeats 8000000 in
set_option maxRecDepth 100000 in
theorem backhaulref04_Less.calls (k : Nat) (a0 : Int) (a1 : Int) (r1 : Int) (r2 : Int) (w : World) (h : backhaulref04_Less.f k a0 a1 = some (r1, r2)) :
    Calls Try.prog 43 #[.int .i64 a0, .int .i64 a1] w fun e w' => e = .returned (.tuple #[.int .i64 r1, .int .i64 r2]) ∧ Drawn0 w w' := by
  have H : ((backhaulref04_Of.f k a0 a1).bind fun bt101 => (if bt101.2 = 0 then (some (wrap64 (a0 - bt101.1), 0)) else (some (0, bt101.2)))) = some (r1, r2) := h
  clear h
  replace H := Option.bind_eq_some_iff.mp H
  obtain ⟨⟨t101, t102⟩, A30, H⟩ := H
  replace H : (if t102 = 0 then (some (wrap64 (a0 - t101), 0)) else (some (0, t102))) = some (r1, r2) := H
  have A3 := zA A30
  clear A30
  by_cases c4 : t102 = 0
  · rw [if_pos c4] at H
    have c4b0 : (t102 == 0) = true := beq_iff_eq.mpr c4; have c4b1 : (t102 != 0) = false := bne_eq_false_iff_eq.mpr c4; clear c4; simp only [zNq, zOq] at H; obtain ⟨rfl, rfl⟩ := H; go_enter Try.func43, Try.ntmps43; go_wp2_with (first | ((with_reducible refine zJq (f := 41) rfl ?_); refine goesL_ (some 11) rfl rfl Try.func41 (by kernel_rfl) rfl #[.int .i64 a0, .int .i64 a1] rfl (by (try simp only [zR, zS, zT]); first | done | rfl | (simp only [zP, zQ]; rfl)) ?_; (with_reducible refine (backhaulref04_Of.calls k a0 a1 t101 t102 _ A3.out).mono ?_); rintro e w' ⟨rfl, ⟨nd, rfl⟩⟩; refine ⟨_, rfl, ?_⟩)); go_ret2; exact ⟨by first | rfl | (simp; done) | (simp [*]; done), by repeat (first | exact Drawn0.refl _ | apply Drawn0.step)⟩
  rw [if_neg c4] at H
  have c4b0 : (t102 == 0) = false := beq_eq_false_iff_ne.mpr c4
  have c4b1 : (t102 != 0) = true := bne_iff_ne.mpr c4
  simp only [zNq, zOq] at H
  obtain ⟨rfl, rfl⟩ := H
  go_enter Try.func43, Try.ntmps43
  go_wp2_with (first | ((with_reducible refine zJq (f := 41) rfl ?_); refine goesL_ (some 11) rfl rfl Try.func41 (by kernel_rfl) rfl #[.int .i64 a0, .int .i64 a1] rfl (by (try simp only [zR, zS, zT]); first | done | rfl | (simp only [zP, zQ]; rfl)) ?_; (with_reducible refine (backhaulref04_Of.calls k a0 a1 t101 t102 _ A3.out).mono ?_); rintro e w' ⟨rfl, ⟨nd, rfl⟩⟩; refine ⟨_, rfl, ?_⟩))
  go_ret2
  exact ⟨by first | rfl | (simp; done) | (simp [*]; done), by repeat (first | exact Drawn0.refl _ | apply Drawn0.step)⟩
def backhaulref04_Check.l0 : Nat → List Int → Int → Option (Int)
  | 0, _, _ => none
  | k + 1, x0, x3 => if x3 < 4 then (if 0 ≤ x3 then (if x3 < (x0.length : Int) then (if (rd x0 x3) < 0 then (some 36) else (if (rd x0 x3) > 10000 then (some 36) else (if x3 > 0 then (if 0 ≤ (wrap64 (x3 - 1)) then (if (wrap64 (x3 - 1)) < (x0.length : Int) then (if (rd x0 x3) < (rd x0 (wrap64 (x3 - 1))) then (some 36) else (backhaulref04_Check.l0 k x0 (wrap64 (x3 + 1)))) else (none)) else (none)) else (backhaulref04_Check.l0 k x0 (wrap64 (x3 + 1)))))) else (none)) else (none)) else (some 0)
def backhaulref04_Check.f (k : Nat) (l0 : List Int) : Option (Int) := if (l0.length : Int) = 4 then (backhaulref04_Check.l0 k l0 0) else (some 36)
theorem backhaulref04_Check.mono_l : ∀ k, (∀ y0 y1, LeO (backhaulref04_Check.l0 k y0 y1) (backhaulref04_Check.l0 (k + 1) y0 y1))
  | 0 => fun _ _ r h => by simp [backhaulref04_Check.l0] at h
  | k + 1 => by
    have ih0 := backhaulref04_Check.mono_l k
    intro y0 y1
    unfold backhaulref04_Check.l0
    repeat' first
    | (with_reducible exact ih0 _ _)
    | (with_reducible exact LeO.refl _)
    | (with_reducible exact LeO.none _)
    | (with_reducible refine LeO.ite ?_ ?_)
    | (with_reducible refine LeO.bind ?_ (fun _ => ?_))
    | exact ih0 _ _
    | exact LeO.none _
    | refine LeO.ite ?_ ?_
    | refine LeO.bind ?_ (fun _ => ?_)
theorem backhaulref04_Check.mono : ∀ a0 k, LeO (backhaulref04_Check.f k a0) (backhaulref04_Check.f (k + 1) a0) := by
  intro a0 k
  have ih0 := backhaulref04_Check.mono_l k
  unfold backhaulref04_Check.f
  repeat' first
      | (with_reducible exact ih0 _ _)
      | (with_reducible exact LeO.refl _)
      | (with_reducible exact LeO.none _)
      | (with_reducible refine LeO.ite ?_ ?_)
      | (with_reducible refine LeO.bind ?_ (fun _ => ?_))
      | exact ih0 _ _
      | exact LeO.none _
      | refine LeO.ite ?_ ?_
      | refine LeO.bind ?_ (fun _ => ?_)
set_option maxHeartbeats 8000000 in
set_option maxRecDepth 100000 in
theorem backhaulref04_Check.calls (k : Nat) (A0 : Option Addr) (c0 : Nat) (l0 : List Int) (r : Int) (w : World) (hr0 : Kd.C (Kd.int .i64) w A0 l0.length l0) (hc0 : l0.length ≤ c0) (h : backhaulref04_Check.f k l0 = some r) :
    Calls Try.prog 49 #[.slice A0 l0.length c0] w fun e w' => e = .returned (.int .i64 r) ∧ Drawn0 w w' := by
  have HR0 := zA hr0
  have HC0 := zA hc0
  clear hr0 hc0
  have H : (if (l0.length : Int) = 4 then (backhaulref04_Check.l0 k l0 0) else (some 36)) = some r := h
  clear h
  by_cases c2 : (l0.length : Int) = 4
  · rw [if_pos c2] at H
    have c2b0 : ((l0.length : Int) == 4) = true := beq_iff_eq.mpr c2; have c2b1 : ((l0.length : Int) != 4) = false := bne_eq_false_iff_eq.mpr c2; clear c2; have H' := zA H; clear H; go_enter Try.func49, Try.ntmps49; go_wp2; repeat (go_quiet (fail); try go_wp2)
    go_loopg [3] k (fun kq v3 w' => ∃ (x3_1 : Int), v3 = .int .i64 x3_1 ∧ Aside0 (backhaulref04_Check.l0 kq l0 x3_1 = some r) ∧ Aside0 (kq ≤ k) ∧ Drawn0 w w')
    case atStart => exact ⟨(0), (by first | rfl | (simp; done) | (simp [*]; done)), H', ⟨Nat.le_refl _⟩, by repeat (first | exact Drawn0.refl _ | apply Drawn0.step)⟩
    case round =>
      clear H'; try clear c2
      try clear c2b0
      try clear c2b1
      try clear p2
      obtain ⟨x3_1, rfl, HA, HK1, ⟨m1, rfl⟩⟩ := hrel; cases gk with
      | zero => exact absurd HA.out (by simp [backhaulref04_Check.l0])
      | succ k1 =>
        have H := HA.out; clear HA; simp only [backhaulref04_Check.l0] at H; by_cases c3 : x3_1 < 4
        · rw [if_pos c3] at H
          have c3b0 : decide (x3_1 < 4) = true := zFq c3; clear c3; by_cases c4 : 0 ≤ x3_1
          · rw [if_pos c4] at H
            have c4b0 : decide (0 ≤ x3_1) = true := zFq c4; clear c4; by_cases c5 : x3_1 < (l0.length : Int)
            · rw [if_pos c5] at H
              have c5b0 : decide (x3_1 < (l0.length : Int)) = true := zFq c5; clear c5; by_cases c6 : (rd l0 x3_1) < 0
              · rw [if_pos c6] at H
                have c6b0 : decide ((rd l0 x3_1) < 0) = true := zFq c6; clear c6; obtain rfl := zKq H; have p101 : 0 ≤ (x3_1 : Int) := of_decide_eq_true qA; have q101 : x3_1 < (l0.length : Int) := of_decide_eq_true qA; obtain ⟨ad101, e101, hx101_0⟩ := Kd.at_int HR0.out x3_1 p101 q101; cases e101
                replace p101 := eq_true p101; replace q101 := eq_true q101; go_wp2; repeat (go_quiet (fail); try go_wp2)
                go_ret; exact ⟨by first | rfl | (simp; done) | (simp [*]; done), by repeat (first | exact Drawn0.refl _ | apply Drawn0.step)⟩
              rw [if_neg c6] at H; have c6b0 : decide ((rd l0 x3_1) < 0) = false := zGq c6; clear c6; by_cases c7 : (rd l0 x3_1) > 10000
              · rw [if_pos c7] at H
                have c7b0 : decide (10000 < (rd l0 x3_1)) = true := zFq c7; clear c7; obtain rfl := zKq H; have p101 : 0 ≤ (x3_1 : Int) := of_decide_eq_true qA; have q101 : x3_1 < (l0.length : Int) := of_decide_eq_true qA; obtain ⟨ad101, e101, hx101_0⟩ := Kd.at_int HR0.out x3_1 p101 q101; cases e101
                replace p101 := eq_true p101; replace q101 := eq_true q101; have p102 : 0 ≤ (x3_1 : Int) := of_decide_eq_true qA; have q102 : x3_1 < (l0.length : Int) := of_decide_eq_true qA; obtain ⟨ad102, e102, hx102_0⟩ := Kd.at_int HR0.out x3_1 p102 q102; obtain rfl : ad101 = ad102 := (by injection e102)
                replace p102 := eq_true p102; replace q102 := eq_true q102; go_wp2; repeat (go_quiet (fail); try go_wp2)
                go_ret; exact ⟨by first | rfl | (simp; done) | (simp [*]; done), by repeat (first | exact Drawn0.refl _ | apply Drawn0.step)⟩
              rw [if_neg c7] at H; have c7b0 : decide (10000 < (rd l0 x3_1)) = false := zGq c7; clear c7; by_cases c8 : x3_1 > 0
              · rw [if_pos c8] at H
                have c8b0 : decide (0 < x3_1) = true := zFq c8; clear c8; obtain ⟨ji9, hji9⟩ : ∃ j_ : Int, (wrap64 (x3_1 - 1)) = j_ := ⟨_, rfl⟩
                replace H : (if 0 ≤ (ji9) then (if (ji9) < (l0.length : Int) then (if (rd l0 x3_1) < (rd l0 (ji9)) then (some 36) else (backhaulref04_Check.l0 k1 l0 (wrap64 (x3_1 + 1)))) else (none)) else (none)) = some r := by first | (rw [hji9] at H; exact H) | (simp only [hji9] at H ⊢; exact H)
                have hji9w : (IntKind.i64.wrap (x3_1 - 1)) = ji9 := (i64_w _).trans hji9; by_cases c10 : 0 ≤ (ji9)
                · rw [if_pos c10] at H
                  have c10b0 : decide (0 ≤ (ji9)) = true := zFq c10; clear c10; by_cases c11 : (ji9) < (l0.length : Int)
                  · rw [if_pos c11] at H
                    have c11b0 : decide ((ji9) < (l0.length : Int)) = true := zFq c11; clear c11; by_cases c12 : (rd l0 x3_1) < (rd l0 (ji9))
                    · rw [if_pos c12] at H
                      have c12b0 : decide ((rd l0 x3_1) < (rd l0 (ji9))) = true := zFq c12; clear c12; obtain rfl := zKq H; have p101 : 0 ≤ (x3_1 : Int) := of_decide_eq_true qA; have q101 : x3_1 < (l0.length : Int) := of_decide_eq_true qA; obtain ⟨ad101, e101, hx101_0⟩ := Kd.at_int HR0.out x3_1 p101 q101; cases e101
                      replace p101 := eq_true p101; replace q101 := eq_true q101; have p102 : 0 ≤ (x3_1 : Int) := of_decide_eq_true qA; have q102 : x3_1 < (l0.length : Int) := of_decide_eq_true qA; obtain ⟨ad102, e102, hx102_0⟩ := Kd.at_int HR0.out x3_1 p102 q102; obtain rfl : ad101 = ad102 := (by injection e102)
                      replace p102 := eq_true p102; replace q102 := eq_true q102; have p103 : 0 ≤ (x3_1 : Int) := of_decide_eq_true qA; have q103 : x3_1 < (l0.length : Int) := of_decide_eq_true qA; obtain ⟨ad103, e103, hx103_0⟩ := Kd.at_int HR0.out x3_1 p103 q103; obtain rfl : ad101 = ad103 := (by injection e103)
                      replace p103 := eq_true p103; replace q103 := eq_true q103; have p104 : 0 ≤ ((ji9) : Int) := of_decide_eq_true qA; have q104 : (ji9) < (l0.length : Int) := of_decide_eq_true qA; obtain ⟨ad104, e104, hx104_0⟩ := Kd.at_int HR0.out (ji9) p104 q104; obtain rfl : ad101 = ad104 := (by injection e104)
                      replace p104 := eq_true p104; replace q104 := eq_true q104; go_wp2; repeat (go_quiet (fail); try go_wp2)
                      go_ret; exact ⟨by first | rfl | (simp; done) | (simp only [← hji9] <;> (first | rfl | simp)) | (simp [*]; done), by repeat (first | exact Drawn0.refl _ | apply Drawn0.step)⟩
                    rw [if_neg c12] at H; have c12b0 : decide ((rd l0 x3_1) < (rd l0 (ji9))) = false := zGq c12; clear c12; have H' := zA H; clear H; have p101 : 0 ≤ (x3_1 : Int) := of_decide_eq_true qA; have q101 : x3_1 < (l0.length : Int) := of_decide_eq_true qA; obtain ⟨ad101, e101, hx101_0⟩ := Kd.at_int HR0.out x3_1 p101 q101; cases e101
                    replace p101 := eq_true p101; replace q101 := eq_true q101; have p102 : 0 ≤ (x3_1 : Int) := of_decide_eq_true qA; have q102 : x3_1 < (l0.length : Int) := of_decide_eq_true qA; obtain ⟨ad102, e102, hx102_0⟩ := Kd.at_int HR0.out x3_1 p102 q102; obtain rfl : ad101 = ad102 := (by injection e102)
                    replace p102 := eq_true p102; replace q102 := eq_true q102; have p103 : 0 ≤ (x3_1 : Int) := of_decide_eq_true qA; have q103 : x3_1 < (l0.length : Int) := of_decide_eq_true qA; obtain ⟨ad103, e103, hx103_0⟩ := Kd.at_int HR0.out x3_1 p103 q103; obtain rfl : ad101 = ad103 := (by injection e103)
                    replace p103 := eq_true p103; replace q103 := eq_true q103; have p104 : 0 ≤ ((ji9) : Int) := of_decide_eq_true qA; have q104 : (ji9) < (l0.length : Int) := of_decide_eq_true qA; obtain ⟨ad104, e104, hx104_0⟩ := Kd.at_int HR0.out (ji9) p104 q104; obtain rfl : ad101 = ad104 := (by injection e104)
                    replace p104 := eq_true p104; replace q104 := eq_true q104; go_wp2; repeat (go_quiet (fail); try go_wp2)
                    go_roundg k1
                    case measure => have := HK1.out; omega
                    case rel => exact ⟨(wrap64 (x3_1 + 1)), (by first | rfl | (simp; done) | (simp [*]; done)), H', ⟨by have := HK1.out; omega⟩, by repeat (first | exact Drawn0.refl _ | apply Drawn0.step)⟩
                  rw [if_neg c11] at H; exact absurd H (by simp)
                rw [if_neg c10] at H; exact absurd H (by simp)
              rw [if_neg c8] at H; have c8b0 : decide (0 < x3_1) = false := zGq c8; clear c8; have H' := zA H; clear H; have p101 : 0 ≤ (x3_1 : Int) := of_decide_eq_true qA; have q101 : x3_1 < (l0.length : Int) := of_decide_eq_true qA; obtain ⟨ad101, e101, hx101_0⟩ := Kd.at_int HR0.out x3_1 p101 q101; cases e101
              replace p101 := eq_true p101; replace q101 := eq_true q101; have p102 : 0 ≤ (x3_1 : Int) := of_decide_eq_true qA; have q102 : x3_1 < (l0.length : Int) := of_decide_eq_true qA; obtain ⟨ad102, e102, hx102_0⟩ := Kd.at_int HR0.out x3_1 p102 q102; obtain rfl : ad101 = ad102 := (by injection e102)
              replace p102 := eq_true p102; replace q102 := eq_true q102; go_wp2; repeat (go_quiet (fail); try go_wp2)
              go_roundg k1
              case measure => have := HK1.out; omega
              case rel => exact ⟨(wrap64 (x3_1 + 1)), (by first | rfl | (simp; done) | (simp [*]; done)), H', ⟨by have := HK1.out; omega⟩, by repeat (first | exact Drawn0.refl _ | apply Drawn0.step)⟩
            rw [if_neg c5] at H; exact absurd H (by simp)
          rw [if_neg c4] at H; exact absurd H (by simp)
        rw [if_neg c3] at H; have c3b0 : decide (x3_1 < 4) = false := zGq c3; clear c3; obtain rfl := zKq H; go_wp2; repeat (go_quiet (fail); try go_wp2)
        go_ret; exact ⟨by first | rfl | (simp; done) | (simp [*]; done), by repeat (first | exact Drawn0.refl _ | apply Drawn0.step)⟩
  rw [if_neg c2] at H
  have c2b0 : ((l0.length : Int) == 4) = false := beq_eq_false_iff_ne.mpr c2
  have c2b1 : ((l0.length : Int) != 4) = true := bne_iff_ne.mpr c2
  obtain rfl := zKq H
  go_enter Try.func49, Try.ntmps49
  go_wp2
  repeat (go_quiet (fail); try go_wp2)
  go_ret
  exact ⟨by first | rfl | (simp; done) | (simp [*]; done), by repeat (first | exact Drawn0.refl _ | apply Drawn0.step)⟩
def backhaulref04_Grade.f (k : Nat) (a0 : Int) (l1 : List Int) (a2 : Int) : Option (Int × Int) := (backhaulref04_Check.f k l1).bind fun t101 => (if t101 = 0 then (if a2 < 0 then (some (0, 2)) else (if a2 > 3 then (some (0, 2)) else (if 0 ≤ a2 then (if a2 < (l1.length : Int) then ((backhaulref04_Less.f k a0 (rd l1 a2)).bind fun bt103 => (some (bt103.1, bt103.2))) else (none)) else (none)))) else (some (0, 36)))
theorem backhaulref04_Grade.mono : ∀ a0 a1 a2 k, LeO (backhaulref04_Grade.f k a0 a1 a2) (backhaulref04_Grade.f (k + 1) a0 a1 a2) := by
  intro a0 a1 a2 k
  unfold backhaulref04_Grade.f
  repeat' first
      | (with_reducible exact backhaulref04_Check.mono _ _)
      | (with_reducible exact backhaulref04_Less.mono _ _ _)
      | (with_reducible exact LeO.refl _)
      | (with_reducible exact LeO.none _)
      | (with_reducible refine LeO.ite ?_ ?_)
      | (with_reducible refine LeO.bind ?_ (fun _ => ?_))
      | exact backhaulref04_Check.mono _ _
      | exact backhaulref04_Less.mono _ _ _
      | exact LeO.none _
      | refine LeO.ite ?_ ?_
      | refine LeO.bind ?_ (fun _ => ?_)
set_option maxHeartbeats 8000000 in
set_option maxRecDepth 100000 in
theorem backhaulref04_Grade.calls (k : Nat) (a0 : Int) (A1 : Option Addr) (c1 : Nat) (l1 : List Int) (a2 : Int) (r1 : Int) (r2 : Int) (w : World) (hr1 : Kd.C (Kd.int .i64) w A1 l1.length l1) (hc1 : l1.length ≤ c1) (h : backhaulref04_Grade.f k a0 l1 a2 = some (r1, r2)) :
    Calls Try.prog 45 #[.int .i64 a0, .slice A1 l1.length c1, .int .i64 a2] w fun e w' => e = .returned (.tuple #[.int .i64 r1, .int .i64 r2]) ∧ Drawn0 w w' := by
  have HR1 := zA hr1
  have HC1 := zA hc1
  clear hr1 hc1
  have H : ((backhaulref04_Check.f k l1).bind fun t101 => (if t101 = 0 then (if a2 < 0 then (some (0, 2)) else (if a2 > 3 then (some (0, 2)) else (if 0 ≤ a2 then (if a2 < (l1.length : Int) then ((backhaulref04_Less.f k a0 (rd l1 a2)).bind fun bt103 => (some (bt103.1, bt103.2))) else (none)) else (none)))) else (some (0, 36)))) = some (r1, r2) := h
  clear h
  replace H := Option.bind_eq_some_iff.mp H
  obtain ⟨t101, A40, H⟩ := H
  replace H : (if t101 = 0 then (if a2 < 0 then (some (0, 2)) else (if a2 > 3 then (some (0, 2)) else (if 0 ≤ a2 then (if a2 < (l1.length : Int) then ((backhaulref04_Less.f k a0 (rd l1 a2)).bind fun bt103 => (some (bt103.1, bt103.2))) else (none)) else (none)))) else (some (0, 36))) = some (r1, r2) := H
  have A4 := zA A40
  clear A40
  by_cases c5 : t101 = 0
  · rw [if_pos c5] at H
    have c5b0 : (t101 == 0) = true := beq_iff_eq.mpr c5; have c5b1 : (t101 != 0) = false := bne_eq_false_iff_eq.mpr c5; clear c5; by_cases c6 : a2 < 0
    · rw [if_pos c6] at H
      have c6b0 : decide (a2 < 0) = true := zFq c6; clear c6; simp only [zNq, zOq] at H; obtain ⟨rfl, rfl⟩ := H; go_enter Try.func45, Try.ntmps45; go_wp2_with (first | ((with_reducible refine zJq (f := 49) rfl ?_); refine goesL_ (some 9) rfl rfl Try.func49 (by kernel_rfl) rfl #[.slice A1 l1.length c1] rfl (by (try simp only [zR, zS, zT]); first | done | rfl | (simp only [zP, zQ]; rfl)) ?_; (with_reducible refine (backhaulref04_Check.calls k _ _ l1 t101 _ ?side1 ?side2 A4.out).mono ?_); (case side1 => repeat (first | exact HR1.out | (with_reducible refine Kd.C_alloc ?_ _) | (with_reducible refine Kd.C_drewN ?_ _) | (with_reducible refine Kd.C_drew ?_))); (case side2 => exact HC1.out); rintro e w' ⟨rfl, ⟨nd, rfl⟩⟩; refine ⟨_, rfl, ?_⟩)); go_ret2; exact ⟨by first | rfl | (simp; done) | (simp [*]; done), by repeat (first | exact Drawn0.refl _ | apply Drawn0.step)⟩
    rw [if_neg c6] at H; have c6b0 : decide (a2 < 0) = false := zGq c6; clear c6; by_cases c7 : a2 > 3
    · rw [if_pos c7] at H
      have c7b0 : decide (3 < a2) = true := zFq c7; clear c7; simp only [zNq, zOq] at H; obtain ⟨rfl, rfl⟩ := H; go_enter Try.func45, Try.ntmps45; go_wp2_with (first | ((with_reducible refine zJq (f := 49) rfl ?_); refine goesL_ (some 9) rfl rfl Try.func49 (by kernel_rfl) rfl #[.slice A1 l1.length c1] rfl (by (try simp only [zR, zS, zT]); first | done | rfl | (simp only [zP, zQ]; rfl)) ?_; (with_reducible refine (backhaulref04_Check.calls k _ _ l1 t101 _ ?side1 ?side2 A4.out).mono ?_); (case side1 => repeat (first | exact HR1.out | (with_reducible refine Kd.C_alloc ?_ _) | (with_reducible refine Kd.C_drewN ?_ _) | (with_reducible refine Kd.C_drew ?_))); (case side2 => exact HC1.out); rintro e w' ⟨rfl, ⟨nd, rfl⟩⟩; refine ⟨_, rfl, ?_⟩)); go_ret2; exact ⟨by first | rfl | (simp; done) | (simp [*]; done), by repeat (first | exact Drawn0.refl _ | apply Drawn0.step)⟩
    rw [if_neg c7] at H; have c7b0 : decide (3 < a2) = false := zGq c7; clear c7; by_cases c8 : 0 ≤ a2
    · rw [if_pos c8] at H
      have c8b0 : decide (0 ≤ a2) = true := zFq c8; clear c8; by_cases c9 : a2 < (l1.length : Int)
      · rw [if_pos c9] at H
        have c9b0 : decide (a2 < (l1.length : Int)) = true := zFq c9; clear c9; replace H := Option.bind_eq_some_iff.mp H; obtain ⟨⟨t103, t104⟩, A100, H⟩ := H; replace H : (some (t103, t104)) = some (r1, r2) := H; have A10 := zA A100; clear A100; simp only [zNq, zOq] at H; obtain ⟨rfl, rfl⟩ := H; go_enter Try.func45, Try.ntmps45; go_wp2_with (first | ((with_reducible refine zJq (f := 49) rfl ?_); refine goesL_ (some 9) rfl rfl Try.func49 (by kernel_rfl) rfl #[.slice A1 l1.length c1] rfl (by (try simp only [zR, zS, zT]); first | done | rfl | (simp only [zP, zQ]; rfl)) ?_; (with_reducible refine (backhaulref04_Check.calls k _ _ l1 t101 _ ?side1 ?side2 A4.out).mono ?_); (case side1 => repeat (first | exact HR1.out | (with_reducible refine Kd.C_alloc ?_ _) | (with_reducible refine Kd.C_drewN ?_ _) | (with_reducible refine Kd.C_drew ?_))); (case side2 => exact HC1.out); rintro e w' ⟨rfl, ⟨nd, rfl⟩⟩; refine ⟨_, rfl, ?_⟩; have p102 : 0 ≤ (a2 : Int) := of_decide_eq_true qA; have q102 : a2 < (l1.length : Int) := of_decide_eq_true qA; obtain ⟨ad102, e102, hx102_0⟩ := Kd.at_int HR1.out a2 p102 q102; cases e102; replace p102 := eq_true p102; replace q102 := eq_true q102) | ((with_reducible refine zJq (f := 43) rfl ?_); refine goesL_ (some 22) rfl rfl Try.func43 (by kernel_rfl) rfl #[.int .i64 a0, .int .i64 (rd l1 a2)] rfl (by (try simp only [zR, zS, zT]); first | done | rfl | (simp only [zP, zQ]; rfl)) ?_; (with_reducible refine (backhaulref04_Less.calls k a0 (rd l1 a2) t103 t104 _ A10.out).mono ?_); rintro e w' ⟨rfl, ⟨nd, rfl⟩⟩; refine ⟨_, rfl, ?_⟩)); go_ret2; exact ⟨by first | rfl | (simp; done) | (simp [*]; done), by repeat (first | exact Drawn0.refl _ | apply Drawn0.step)⟩
      rw [if_neg c9] at H; exact absurd H (by simp)
    rw [if_neg c8] at H; exact absurd H (by simp)
  rw [if_neg c5] at H
  have c5b0 : (t101 == 0) = false := beq_eq_false_iff_ne.mpr c5
  have c5b1 : (t101 != 0) = true := bne_iff_ne.mpr c5
  simp only [zNq, zOq] at H
  obtain ⟨rfl, rfl⟩ := H
  go_enter Try.func45, Try.ntmps45
  go_wp2_with (first | ((with_reducible refine zJq (f := 49) rfl ?_); refine goesL_ (some 9) rfl rfl Try.func49 (by kernel_rfl) rfl #[.slice A1 l1.length c1] rfl (by (try simp only [zR, zS, zT]); first | done | rfl | (simp only [zP, zQ]; rfl)) ?_; (with_reducible refine (backhaulref04_Check.calls k _ _ l1 t101 _ ?side1 ?side2 A4.out).mono ?_); (case side1 => repeat (first | exact HR1.out | (with_reducible refine Kd.C_alloc ?_ _) | (with_reducible refine Kd.C_drewN ?_ _) | (with_reducible refine Kd.C_drew ?_))); (case side2 => exact HC1.out); rintro e w' ⟨rfl, ⟨nd, rfl⟩⟩; refine ⟨_, rfl, ?_⟩))
  go_ret2
  exact ⟨by first | rfl | (simp; done) | (simp [*]; done), by repeat (first | exact Drawn0.refl _ | apply Drawn0.step)⟩
def backhaulref22_Of.f (k : Nat) (a0_0 : Int) (a0_1 : Int) (a0_2 : Int) (a0_3 : Int) (l0_4 : List ByteArray) (a1 : Int) (l2 : List Int) (a3 : Int) : Option (Int × Int) := (backhaulref22_Full.f k a0_0 a0_1 a0_2 a0_3 l0_4 a1).bind fun bt102 => (if bt102.2 = 0 then ((backhaulref04_Grade.f k bt102.1 l2 a3).bind fun bt104 => (some (bt104.1, bt104.2))) else (some (0, bt102.2)))
theorem backhaulref22_Of.mono : ∀ a0 a1 a2 a3 a4 a5 a6 a7 k, LeO (backhaulref22_Of.f k a0 a1 a2 a3 a4 a5 a6 a7) (backhaulref22_Of.f (k + 1) a0 a1 a2 a3 a4 a5 a6 a7) := by
  intro a0 a1 a2 a3 a4 a5 a6 a7 k
  unfold backhaulref22_Of.f
  repeat' first
      | (with_reducible exact backhaulref04_Grade.mono _ _ _ _)
      | (with_reducible exact backhaulref22_Full.mono _ _ _ _ _ _ _)
      | (with_reducible exact LeO.refl _)
      | (with_reducible exact LeO.none _)
      | (with_reducible refine LeO.ite ?_ ?_)
      | (with_reducible refine LeO.bind ?_ (fun _ => ?_))
      | exact backhaulref04_Grade.mono _ _ _ _
      | exact backhaulref22_Full.mono _ _ _ _ _ _ _
      | exact LeO.none _
      | refine LeO.ite ?_ ?_
      | refine LeO.bind ?_ (fun _ => ?_)
set_option maxHeartbeats 8000000 in
set_option maxRecDepth 100000 in
theorem backhaulref22_Of.calls (k : Nat) (a0_0 : Int) (a0_1 : Int) (a0_2 : Int) (a0_3 : Int) (A0_4 : Option Addr) (c0_4 : Nat) (l0_4 : List ByteArray) (a1 : Int) (A2 : Option Addr) (c2 : Nat) (l2 : List Int) (a3 : Int) (r1 : Int) (r2 : Int) (w : World) (hr0_4 : Kd.C Kd.string w A0_4 l0_4.length l0_4) (hc0_4 : l0_4.length ≤ c0_4) (hr2 : Kd.C (Kd.int .i64) w A2 l2.length l2) (hc2 : l2.length ≤ c2) (h : backhaulref22_Of.f k a0_0 a0_1 a0_2 a0_3 l0_4 a1 l2 a3 = some (r1, r2)) :
    Calls Try.prog 77 #[.agg #[.int .i64 a0_0, .int .i64 a0_1, .int .i64 a0_2, .int .i64 a0_3, .slice A0_4 l0_4.length c0_4], .int .i64 a1, .slice A2 l2.length c2, .int .i64 a3] w fun e w' => e = .returned (.tuple #[.int .i64 r1, .int .i64 r2]) ∧ Below w.heap.size w w' := by
  have hu71 := Try.underlying71
  have HR0_4 := zA hr0_4
  have HC0_4 := zA hc0_4
  clear hr0_4 hc0_4
  have HR2 := zA hr2
  have HC2 := zA hc2
  clear hr2 hc2
  have HB := zA (Below.refl w.heap.size w)
  have H : ((backhaulref22_Full.f k a0_0 a0_1 a0_2 a0_3 l0_4 a1).bind fun bt102 => (if bt102.2 = 0 then ((backhaulref04_Grade.f k bt102.1 l2 a3).bind fun bt104 => (some (bt104.1, bt104.2))) else (some (0, bt102.2)))) = some (r1, r2) := h
  clear h
  replace H := Option.bind_eq_some_iff.mp H
  obtain ⟨⟨t102, t103⟩, A50, H⟩ := H
  replace H : (if t103 = 0 then ((backhaulref04_Grade.f k t102 l2 a3).bind fun bt104 => (some (bt104.1, bt104.2))) else (some (0, t103))) = some (r1, r2) := H
  have A5 := zA A50
  clear A50
  by_cases c6 : t103 = 0
  · rw [if_pos c6] at H
    have c6b0 : (t103 == 0) = true := beq_iff_eq.mpr c6; have c6b1 : (t103 != 0) = false := bne_eq_false_iff_eq.mpr c6; clear c6; replace H := Option.bind_eq_some_iff.mp H; obtain ⟨⟨t104, t105⟩, A70, H⟩ := H; replace H : (some (t104, t105)) = some (r1, r2) := H; have A7 := zA A70; clear A70; simp only [zNq, zOq] at H; obtain ⟨rfl, rfl⟩ := H; go_enter Try.func77, Try.ntmps77; go_wp2_with (first | ((with_reducible refine gate_dst (N := 4) rfl ?_); refine box_event qr (N := 4) qr (cs := #[.int .i64 a0_0, .int .i64 a0_1, .int .i64 a0_2, .int .i64 a0_3, .slice A0_4 l0_4.length c0_4]) (t := 71) qg ?_; intro gb101 hg w8 hbox hb; have n0_ := zA (zV qB hb); have n1_ := zA (hbox); have n2_ := zA ((qS : w.heap.size ≤ gb101)); have n3_ := zA ((qS : w.heap.size ≤ gb101)); clear HB; have HB := n0_; have BK101 := n1_; have GW101 := n2_; have GE101 := n3_; clear n0_ n1_ n2_ n3_ hb hbox hg; obtain ⟨_, _, _, _, _, _, _, _, _, _⟩ := qc5f BK101.out) | ((with_reducible refine zJq (f := 75) rfl ?_); refine goesL_ (some 15) rfl rfl Try.func75 (by kernel_rfl) rfl #[.agg #[.int .i64 a0_0, .int .i64 a0_1, .int .i64 a0_2, .int .i64 a0_3, .slice A0_4 l0_4.length c0_4], .int .i64 a1] rfl (by (try simp only [zR, zS, zT]); first | done | rfl | (simp only [zP, zQ]; rfl)) ?_; (with_reducible refine (backhaulref22_Full.calls k a0_0 a0_1 a0_2 a0_3 _ _ l0_4 a1 t102 t103 _ ?side1 ?side2 A5.out).mono ?_); (case side1 => exact qC (Kd.C_below HR0_4.out HB.out)); (case side2 => exact HC0_4.out); rintro e w10 ⟨rfl, hb⟩; refine ⟨_, rfl, ?_⟩; have n0_ := zA (qX BK101.out hb); have n1_ := zA (zV qB hb); clear BK101 HB; have BK101 := n0_; have HB := n1_; clear n0_ n1_; (try clear hb); (try clear hb2); (try clear hk); (try clear hi)) | ((with_reducible refine zJq (f := 45) rfl ?_); refine goesL_ (some 24) rfl rfl Try.func45 (by kernel_rfl) rfl #[.int .i64 t102, .slice A2 l2.length c2, .int .i64 a3] rfl (by (try simp only [zR, zS, zT]); first | done | rfl | (simp only [zP, zQ]; rfl)) ?_; (with_reducible refine (backhaulref04_Grade.calls k t102 _ _ l2 a3 t104 t105 _ ?side1 ?side2 A7.out).mono ?_); (case side1 => exact qC (Kd.C_below HR2.out HB.out)); (case side2 => exact HC2.out); rintro e w' ⟨rfl, ⟨nd, rfl⟩⟩; refine ⟨_, rfl, ?_⟩)); go_ret2; exact ⟨qE, qB⟩
  rw [if_neg c6] at H
  have c6b0 : (t103 == 0) = false := beq_eq_false_iff_ne.mpr c6
  have c6b1 : (t103 != 0) = true := bne_iff_ne.mpr c6
  simp only [zNq, zOq] at H
  obtain ⟨rfl, rfl⟩ := H
  go_enter Try.func77, Try.ntmps77
  go_wp2_with (first | ((with_reducible refine gate_dst (N := 4) rfl ?_); refine box_event qr (N := 4) qr (cs := #[.int .i64 a0_0, .int .i64 a0_1, .int .i64 a0_2, .int .i64 a0_3, .slice A0_4 l0_4.length c0_4]) (t := 71) qg ?_; intro gb101 hg w11 hbox hb; have n0_ := zA (zV qB hb); have n1_ := zA (hbox); have n2_ := zA ((qS : w.heap.size ≤ gb101)); have n3_ := zA ((qS : w.heap.size ≤ gb101)); clear HB; have HB := n0_; have BK101 := n1_; have GW101 := n2_; have GE101 := n3_; clear n0_ n1_ n2_ n3_ hb hbox hg; obtain ⟨_, _, _, _, _, _, _, _, _, _⟩ := qc5f BK101.out) | ((with_reducible refine zJq (f := 75) rfl ?_); refine goesL_ (some 15) rfl rfl Try.func75 (by kernel_rfl) rfl #[.agg #[.int .i64 a0_0, .int .i64 a0_1, .int .i64 a0_2, .int .i64 a0_3, .slice A0_4 l0_4.length c0_4], .int .i64 a1] rfl (by (try simp only [zR, zS, zT]); first | done | rfl | (simp only [zP, zQ]; rfl)) ?_; (with_reducible refine (backhaulref22_Full.calls k a0_0 a0_1 a0_2 a0_3 _ _ l0_4 a1 t102 t103 _ ?side1 ?side2 A5.out).mono ?_); (case side1 => exact qC (Kd.C_below HR0_4.out HB.out)); (case side2 => exact HC0_4.out); rintro e w13 ⟨rfl, hb⟩; refine ⟨_, rfl, ?_⟩; have n0_ := zA (qX BK101.out hb); have n1_ := zA (zV qB hb); clear BK101 HB; have BK101 := n0_; have HB := n1_; clear n0_ n1_; (try clear hb); (try clear hb2); (try clear hk); (try clear hi)))
  go_ret2
  exact ⟨qE, qB⟩
def backhaulref22_All.l0 : Nat → List Int → List Int → List Int → Int → Int → Int → Int → Int → Int → List ByteArray → Option (List Int × Int × Int)
  | 0, _, _, _, _, _, _, _, _, _, _ => none
  | k + 1, x1, x2, x10, x11, x12, x102000, x102001, x102002, x102003, x102004 => if x12 < (x2.length : Int) then (if 0 ≤ x12 then ((backhaulref22_Of.f k x102000 x102001 x102002 x102003 x102004 x12 x1 (rd x2 x12)).bind fun bt104 => (if bt104.2 = 0 then (if x10.length < 17592186044416 then (backhaulref22_All.l0 k x1 x2 (x10 ++ [bt104.1]) (wrap64 (x11 + bt104.1)) (wrap64 (x12 + 1)) x102000 x102001 x102002 x102003 x102004) else (none)) else (some (([] : List Int), 0, bt104.2)))) else (none)) else (some (x10, x11, 0))
def backhaulref22_All.f (k : Nat) (a0_0 : Int) (a0_1 : Int) (a0_2 : Int) (a0_3 : Int) (l0_4 : List ByteArray) (l1 : List Int) (l2 : List Int) : Option (List Int × Int × Int) := (backhaulref21_Check.f k a0_0 a0_1 a0_2 a0_3 l0_4).bind fun t102 => (if t102 = 0 then (if (l2.length : Int) = (l0_4.length : Int) then (backhaulref22_All.l0 k l1 l2 ([] : List Int) 0 0 a0_0 a0_1 a0_2 a0_3 l0_4) else (some (([] : List Int), 0, 2))) else (some (([] : List Int), 0, t102)))
theorem backhaulref22_All.mono_l : ∀ k, (∀ y0 y1 y2 y3 y4 y5 y6 y7 y8 y9, LeO (backhaulref22_All.l0 k y0 y1 y2 y3 y4 y5 y6 y7 y8 y9) (backhaulref22_All.l0 (k + 1) y0 y1 y2 y3 y4 y5 y6 y7 y8 y9))
  | 0 => fun _ _ _ _ _ _ _ _ _ _ r h => by simp [backhaulref22_All.l0] at h
  | k + 1 => by
    have ih0 := backhaulref22_All.mono_l k
    intro y0 y1 y2 y3 y4 y5 y6 y7 y8 y9
    unfold backhaulref22_All.l0
    repeat' first
    | (with_reducible exact ih0 _ _ _ _ _ _ _ _ _ _)
    | (with_reducible exact backhaulref21_Check.mono _ _ _ _ _ _)
    | (with_reducible exact backhaulref22_Of.mono _ _ _ _ _ _ _ _ _)
    | (with_reducible exact LeO.refl _)
    | (with_reducible exact LeO.none _)
    | (with_reducible refine LeO.ite ?_ ?_)
    | (with_reducible refine LeO.bind ?_ (fun _ => ?_))
    | exact ih0 _ _ _ _ _ _ _ _ _ _
    | exact backhaulref21_Check.mono _ _ _ _ _ _
    | exact backhaulref22_Of.mono _ _ _ _ _ _ _ _ _
    | exact LeO.none _
    | refine LeO.ite ?_ ?_
    | refine LeO.bind ?_ (fun _ => ?_)
theorem backhaulref22_All.mono : ∀ a0 a1 a2 a3 a4 a5 a6 k, LeO (backhaulref22_All.f k a0 a1 a2 a3 a4 a5 a6) (backhaulref22_All.f (k + 1) a0 a1 a2 a3 a4 a5 a6) := by
  intro a0 a1 a2 a3 a4 a5 a6 k
  have ih0 := backhaulref22_All.mono_l k
  unfold backhaulref22_All.f
  repeat' first
      | (with_reducible exact ih0 _ _ _ _ _ _ _ _ _ _)
      | (with_reducible exact backhaulref21_Check.mono _ _ _ _ _ _)
      | (with_reducible exact backhaulref22_Of.mono _ _ _ _ _ _ _ _ _)
      | (with_reducible exact LeO.refl _)
      | (with_reducible exact LeO.none _)
      | (with_reducible refine LeO.ite ?_ ?_)
      | (with_reducible refine LeO.bind ?_ (fun _ => ?_))
      | exact ih0 _ _ _ _ _ _ _ _ _ _
      | exact backhaulref21_Check.mono _ _ _ _ _ _
      | exact backhaulref22_Of.mono _ _ _ _ _ _ _ _ _
      | exact LeO.none _
      | refine LeO.ite ?_ ?_
      | refine LeO.bind ?_ (fun _ => ?_)
def backhaulref22_All.T11 : Bool × List (List Nat × List Nat) := (true, [([], []), ([], []), ([], []), ([], []), ([], []), ([3, 4], [3, 4]), ([5], [5]), ([0, 1, 2, 6], [0, 1, 2, 6]), ([7], [7]), ([8], [8]), ([8], [8]), ([9, 7, 0, 1, 2, 3, 4, 5, 6, 7, 8, 9], [9]), ([10, 11, 0, 1, 2, 3, 4, 5, 6, 7, 8, 9, 10, 11], [10])])
def backhaulref22_All.B11 : List Nat := [0, 0, 0, 0, 0, 24, 56, 127, 255, 511, 511, 1023, 4095]
theorem backhaulref22_All.tab11 : rtab .any (opsOf Try.f79 11) = backhaulref22_All.T11 := by kernel_rfl
theorem backhaulref22_All.bits11 : waitsOk backhaulref22_All.T11.2 backhaulref22_All.B11 = true := by kernel_rfl
set_option maxHeartbeats 8000000 in
set_option maxRecDepth 100000 in
theorem backhaulref22_All.calls (k : Nat) (a0_0 : Int) (a0_1 : Int) (a0_2 : Int) (a0_3 : Int) (A0_4 : Option Addr) (c0_4 : Nat) (l0_4 : List ByteArray) (A1 : Option Addr) (c1 : Nat) (l1 : List Int) (A2 : Option Addr) (c2 : Nat) (l2 : List Int) (r1 : List Int) (r2 : Int) (r3 : Int) (w : World) (hr0_4 : Kd.C Kd.string w A0_4 l0_4.length l0_4) (hc0_4 : l0_4.length ≤ c0_4) (hr1 : Kd.C (Kd.int .i64) w A1 l1.length l1) (hc1 : l1.length ≤ c1) (hr2 : Kd.C (Kd.int .i64) w A2 l2.length l2) (hc2 : l2.length ≤ c2) (h : backhaulref22_All.f k a0_0 a0_1 a0_2 a0_3 l0_4 l1 l2 = some (r1, r2, r3)) :
    Calls Try.prog 79 #[.agg #[.int .i64 a0_0, .int .i64 a0_1, .int .i64 a0_2, .int .i64 a0_3, .slice A0_4 l0_4.length c0_4], .slice A1 l1.length c1, .slice A2 l2.length c2] w fun e w' => ∃ v0_ : Value, e = .returned (.tuple #[v0_, .int .i64 r2, .int .i64 r3]) ∧ Kd.R (Kd.int .i64) 3 w' w.heap.size (fun _ => True) v0_ r1 ∧ Below w.heap.size w w' := by
  have hu71 := Try.underlying71
  have HR0_4 := zA hr0_4
  have HC0_4 := zA hc0_4
  clear hr0_4 hc0_4
  have HR1 := zA hr1
  have HC1 := zA hc1
  clear hr1 hc1
  have HR2 := zA hr2
  have HC2 := zA hc2
  clear hr2 hc2
  have HB := zA (Below.refl w.heap.size w)
  have H : ((backhaulref21_Check.f k a0_0 a0_1 a0_2 a0_3 l0_4).bind fun t102 => (if t102 = 0 then (if (l2.length : Int) = (l0_4.length : Int) then (backhaulref22_All.l0 k l1 l2 ([] : List Int) 0 0 a0_0 a0_1 a0_2 a0_3 l0_4) else (some (([] : List Int), 0, 2))) else (some (([] : List Int), 0, t102)))) = some (r1, r2, r3) := h
  clear h
  replace H := Option.bind_eq_some_iff.mp H
  obtain ⟨t102, A40, H⟩ := H
  replace H : (if t102 = 0 then (if (l2.length : Int) = (l0_4.length : Int) then (backhaulref22_All.l0 k l1 l2 ([] : List Int) 0 0 a0_0 a0_1 a0_2 a0_3 l0_4) else (some (([] : List Int), 0, 2))) else (some (([] : List Int), 0, t102))) = some (r1, r2, r3) := H
  have A4 := zA A40
  clear A40
  by_cases c5 : t102 = 0
  · rw [if_pos c5] at H
    have c5b0 : (t102 == 0) = true := beq_iff_eq.mpr c5; have c5b1 : (t102 != 0) = false := bne_eq_false_iff_eq.mpr c5; clear c5; by_cases c6 : (l2.length : Int) = (l0_4.length : Int)
    · rw [if_pos c6] at H
      have c6b0 : ((l2.length : Int) == (l0_4.length : Int)) = true := beq_iff_eq.mpr c6; have c6b1 : ((l2.length : Int) != (l0_4.length : Int)) = false := bne_eq_false_iff_eq.mpr c6; have c6b2 : (l2.length == l0_4.length) = true := by first | simpa using c6 | (simp at c6 ⊢; omega)
      clear c6; have H' := zA H; clear H; go_enter Try.func79, Try.ntmps79; go_wp2_with (first | ((with_reducible refine gate_dst (N := 3) rfl ?_); refine box_event qr (N := 3) qr (cs := #[.int .i64 a0_0, .int .i64 a0_1, .int .i64 a0_2, .int .i64 a0_3, .slice A0_4 l0_4.length c0_4]) (t := 71) qg ?_; intro gb101 hg w7 hbox hb; have n0_ := zA (zV qB hb); have n1_ := zA (hbox); have n2_ := zA ((qS : w.heap.size ≤ gb101)); have n3_ := zA ((qS : w.heap.size ≤ gb101)); clear HB; have HB := n0_; have BK101 := n1_; have GW101 := n2_; have GE101 := n3_; clear n0_ n1_ n2_ n3_ hb hbox hg; obtain ⟨_, _, _, _, _, _, _, _, _, _⟩ := qc5f BK101.out) | ((with_reducible refine zJq (f := 70) rfl ?_); refine goesL_ (some 16) rfl rfl Try.func70 (by kernel_rfl) rfl #[.agg #[.int .i64 a0_0, .int .i64 a0_1, .int .i64 a0_2, .int .i64 a0_3, .slice A0_4 l0_4.length c0_4]] rfl (by (try simp only [zR, zS, zT]); first | done | rfl | (simp only [zP, zQ]; rfl)) ?_; (with_reducible refine (backhaulref21_Check.calls k a0_0 a0_1 a0_2 a0_3 _ _ l0_4 t102 _ ?side1 ?side2 A4.out).mono ?_); (case side1 => exact qC (Kd.C_below HR0_4.out HB.out)); (case side2 => exact HC0_4.out); rintro e w9 ⟨rfl, hb⟩; refine ⟨_, rfl, ?_⟩; have n0_ := zA (qX BK101.out hb); have n1_ := zA (zV qB hb); clear BK101 HB; have BK101 := n0_; have HB := n1_; clear n0_ n1_; (try clear hb); (try clear hb2); (try clear hk); (try clear hi); obtain ⟨_, _, _, _, _, _, _, _, _, _⟩ := qc5f BK101.out)); go_loopg [10, 11, 12] k (fun kq v10 v11 v12 w' => ∃ (x10_1 : List Int) (x11_1 : Int) (x12_1 : Int), v11 = .int .i64 x11_1 ∧ v12 = .int .i64 x12_1 ∧ Aside0 (backhaulref22_All.l0 kq l1 l2 x10_1 x11_1 x12_1 a0_0 a0_1 a0_2 a0_3 l0_4 = some (r1, r2, r3)) ∧ Aside0 (kq ≤ k) ∧ Aside0 (Kd.R (Kd.int .i64) 3 w' w.heap.size (fun _ => True) v10 x10_1) ∧ Aside0 (w'.heap[gb101]? = some (.cells #[.int .i64 a0_0, .int .i64 a0_1, .int .i64 a0_2, .int .i64 a0_3, (.slice A0_4 l0_4.length c0_4)] 71 (0, 0))) ∧ Aside0 (Below w.heap.size w w'))
      case atStart => exact ⟨(([] : List Int)), (0), (0), (by first | rfl | (simp; done) | (simp [*]; done)), (by first | rfl | (simp; done) | (simp [*]; done)), H', ⟨Nat.le_refl _⟩, ⟨qN⟩, ⟨by exact BK101.out⟩, ⟨qB⟩⟩
      case round =>
        clear H'; try clear c1
        try clear c2
        try clear p2
        try clear c5
        try clear c5b0
        try clear c5b1
        try clear c6
        try clear c6b0
        try clear c6b1
        try clear c6b2
        try clear c7
        obtain ⟨x10_1, x11_1, x12_1, rfl, rfl, HA, HK1, HO_10, BK101, HB⟩ := hrel; cases gk with
        | zero => exact absurd HA.out (by simp [backhaulref22_All.l0])
        | succ k1 =>
          have H := HA.out; clear HA; simp only [backhaulref22_All.l0] at H; by_cases c11 : x12_1 < (l2.length : Int)
          · rw [if_pos c11] at H
            have c11b0 : decide (x12_1 < (l2.length : Int)) = true := zFq c11; clear c11; by_cases c12 : 0 ≤ x12_1
            · rw [if_pos c12] at H
              have c12b0 : decide (0 ≤ x12_1) = true := zFq c12; clear c12; replace H := Option.bind_eq_some_iff.mp H; obtain ⟨⟨t104, t105⟩, A130, H⟩ := H; replace H : (if t105 = 0 then (if x10_1.length < 17592186044416 then (backhaulref22_All.l0 k1 l1 l2 (x10_1 ++ [t104]) (wrap64 (x11_1 + t104)) (wrap64 (x12_1 + 1)) a0_0 a0_1 a0_2 a0_3 l0_4) else (none)) else (some (([] : List Int), 0, t105))) = some (r1, r2, r3) := H; have A13 := zA A130; clear A130; by_cases c14 : t105 = 0
              · rw [if_pos c14] at H
                have c14b0 : (t105 == 0) = true := beq_iff_eq.mpr c14; have c14b1 : (t105 != 0) = false := bne_eq_false_iff_eq.mpr c14; clear c14; by_cases c15 : x10_1.length < 17592186044416
                · rw [if_pos c15] at H
                  have LMc15 := zA c15; clear c15; obtain ⟨y106, hy106⟩ : ∃ y_ : List Int, y_ = (x10_1 ++ [t104]) := ⟨_, rfl⟩
                  replace H : (backhaulref22_All.l0 k1 l1 l2 y106 (wrap64 (x11_1 + t104)) (wrap64 (x12_1 + 1)) a0_0 a0_1 a0_2 a0_3 l0_4) = some (r1, r2, r3) := by first | (rw [hy106]; with_reducible exact H) | (have H2_ := (Option.bind_some _ _).symm.trans H; rw [hy106]; with_reducible exact H2_) | (have H2_ := (Option.bind_some _ _).symm.trans H; with_reducible exact H2_) | with_reducible exact H | (rw [hy106]; exact H) | exact H
                  have Ny106 := zA hy106; clear hy106; have H' := zA H; clear H; try go_wp2
                  have n0_ := zA (Kd.R_drew HO_10.out); have n1_ := zA (zAq BK101.out); have n2_ := zA (zC HB.out); clear HO_10; clear BK101; clear HB; have HO_10 := n0_; have BK101 := n1_; have HB := n2_; clear n0_ n1_ n2_; have p103 : 0 ≤ (x12_1 : Int) := of_decide_eq_true qA; have q103 : x12_1 < (l2.length : Int) := of_decide_eq_true qA; obtain ⟨ad103, e103, hx103_0⟩ := Kd.at_int HR2.out x12_1 p103 q103; have hw103_0 := hx103_0; cases e103
                  replace hx103_0 := (HB.out.cell (zCq w _ hx103_0)).trans hx103_0; replace p103 := eq_true p103; replace q103 := eq_true q103; refine start_ (n := 13) (S := fun w' => w'.cell? ⟨gb101, 0, none⟩ = some (.int .i64 a0_0) ∧ w'.cell? ⟨gb101, 1, none⟩ = some (.int .i64 a0_1) ∧ w'.cell? ⟨gb101, 2, none⟩ = some (.int .i64 a0_2) ∧ w'.cell? ⟨gb101, 3, none⟩ = some (.int .i64 a0_3) ∧ w'.cell? ⟨gb101, 4, none⟩ = some (.slice A0_4 l0_4.length c0_4) ∧ w'.cell? (ad103.add (x12_1).toNat) = some (.int .i64 (rd l2 x12_1))) (ds := []) #[o0, o0, o0, o0, o0, o0, o0, o0, o0, o0, o0, o0, o0] (by kernel_rfl) rfl rfl ⟨(zF BK101.out 0).trans rfl, (zF BK101.out 1).trans rfl, (zF BK101.out 2).trans rfl, (zF BK101.out 3).trans rfl, (zF BK101.out 4).trans rfl, ((HB.out.cell (zCq w _ hw103_0)).trans hw103_0)⟩ (fun hHeld => ?_); refine with_tabW backhaulref22_All.tab11 backhaulref22_All.bits11 (fun HT_ HW_ => ?_); generalize wr.drew = w16 at HO_10 BK101 HB hx103_0 hHeld ⊢; refine pure_ (i := 1) (N := some 34) #[o0, o1, o0, o0, o0, o0, o0, o0, o0, o0, o0, o0, o0] rfl rfl (any_of HT_.out (by kernel_rfl)) (fun _ _ _ h => h) (Or.inl ⟨by rfl, qy⟩) qz ?_; refine pure_ (i := 2) (N := some 35) #[o0, o1, o1, o0, o0, o0, o0, o0, o0, o0, o0, o0, o0] rfl rfl (any_of HT_.out (by kernel_rfl)) (fun _ _ _ h => h) (Or.inl ⟨by rfl, qy⟩) qz ?_; refine pure_ (i := 3) (N := some 36) #[o0, o1, o1, o1, o0, o0, o0, o0, o0, o0, o0, o0, o0] rfl rfl (any_of HT_.out (by kernel_rfl)) (fun _ _ _ h => h) (Or.inl ⟨by rfl, qy⟩) qz ?_; refine pure_ (i := 4) (N := some 37) #[o0, o1, o1, o1, o1, o0, o0, o0, o0, o0, o0, o0, o0] rfl rfl (any_of HT_.out (by kernel_rfl)) (fun _ _ _ h => h) (Or.inl ⟨by rfl, qy⟩) qz ?_; refine pure_ (i := 5) (N := some 38) #[o0, o1, o1, o1, o1, o1, o0, o0, o0, o0, o0, o0, o0] rfl rfl (any_of HT_.out (by kernel_rfl)) (fun _ _ _ h => h) (Or.inl ⟨by rfl, qy⟩) qz ?_; refine take_ (i := 0) (N := some 33) (v := ?_) (a' := ?_) #[o1, o1, o1, o1, o1, o1, o0, o0, o0, o0, o0, o0, o0] rfl rfl (take_ofW HT_.out HW_.out (by kernel_rfl)) (fun _ _ _ h => h) (Or.inl ⟨by rfl, ?_⟩) hHeld ?_ ?_; rotate_left
                  · rintro w' ⟨s0, s1, s2, s3, s4, s5⟩
                    go_simp; with_reducible rfl
                  rotate_left
                  · simp only [Act.put, zH, zI, zJ, i64_w, i32_w]
                    rfl
                  refine take_ (i := 6) (N := some 39) (v := ?_) (a' := ?_) #[o1, o1, o1, o1, o1, o1, o1, o0, o0, o0, o0, o0, o0] rfl rfl (take_ofW HT_.out HW_.out (by kernel_rfl)) (fun _ _ _ h => h) (Or.inl ⟨by rfl, ?_⟩) hHeld ?_ ?_; rotate_left
                  · rintro w' ⟨s0, s1, s2, s3, s4, s5⟩
                    go_simp; with_reducible rfl
                  rotate_left
                  · simp only [Act.put, zH, zI, zJ, i64_w, i32_w]
                    rfl
                  refine one_ (i := 7) (N := some 40) #[o1, o1, o1, o1, o1, o1, o1, o1, o0, o0, o0, o0, o0] rfl rfl (one_of HT_.out (by kernel_rfl)) (by decide) (fun K hK => ?_); refine goes_ Try.func77 (by kernel_rfl) rfl #[.agg #[.int .i64 a0_0, .int .i64 a0_1, .int .i64 a0_2, .int .i64 a0_3, .slice A0_4 l0_4.length c0_4], .int .i64 x12_1, .slice A1 l1.length c1, .int .i64 (rd l2 x12_1)] (by rfl) rfl rfl (by (try simp only [zR, zS, zT]); first | done | rfl | (simp only [zP, zQ]; rfl)) ?_; with_reducible refine (backhaulref22_Of.calls k1 a0_0 a0_1 a0_2 a0_3 _ _ l0_4 x12_1 _ _ l1 (rd l2 x12_1) t104 t105 _ ?side1 ?side2 ?side3 ?side4 A13.out).mono ?_
                  (case side1 => exact qC (Kd.C_below HR0_4.out HB.out))
                  (case side2 => exact HC0_4.out)
                  (case side3 => exact qC (Kd.C_below HR1.out HB.out))
                  (case side4 => exact HC1.out)
                  rintro e w17 ⟨rfl, hb⟩; refine ⟨_, rfl, ?_⟩; have n0_ := zA (Kd.R_below (by (with_reducible repeat (first | apply Kd.R_alloc | apply Kd.R_drewN | apply Kd.R_drew)); exact HO_10.out) hb); have n1_ := zA (qX BK101.out hb); have n2_ := zA (zV qB hb); clear HO_10; clear BK101; clear HB; have HO_10 := n0_; have BK101 := n1_; have HB := n2_; clear n0_ n1_ n2_; (try clear hb); (try clear hb2); (try clear hk); (try clear hi); refine hK.out _ _ ⟨(zF BK101.out 0).trans rfl, (zF BK101.out 1).trans rfl, (zF BK101.out 2).trans rfl, (zF BK101.out 3).trans rfl, (zF BK101.out 4).trans rfl, ((HB.out.cell (zCq w _ hw103_0)).trans hw103_0)⟩ (fun hHeld => ?_); clear hK K; refine norm_ (a' := ?_) ?_ ?_; rotate_left
                  · show Act.put _ (some 40) _ = _
                    simp only [Act.put, zH, zI, zJ, i64_w, i32_w]; rfl
                  refine pure_ (i := 8) (N := some 32) #[o1, o1, o1, o1, o1, o1, o1, o1, o1, o0, o0, o0, o0] rfl rfl (any_of HT_.out (by kernel_rfl)) (fun _ _ _ h => h) (Or.inl ⟨by rfl, qy⟩) qz ?_; refine pure_ (i := 9) (N := some 41) #[o1, o1, o1, o1, o1, o1, o1, o1, o1, o1, o0, o0, o0] rfl rfl (any_of HT_.out (by kernel_rfl)) (fun _ _ _ h => h) (Or.inl ⟨by rfl, qy⟩) qz ?_; refine pure_ (i := 10) (N := some 42) #[o1, o1, o1, o1, o1, o1, o1, o1, o1, o1, o1, o0, o0] rfl rfl (any_of HT_.out (by kernel_rfl)) (fun _ _ _ h => h) (Or.inl ⟨by rfl, qy⟩) qz ?_; refine pure_ (i := 11) (N := some 13) #[o1, o1, o1, o1, o1, o1, o1, o1, o1, o1, o1, o1, o0] rfl rfl (any_of HT_.out (by kernel_rfl)) (fun _ _ _ h => h) (Or.inl ⟨by rfl, qy⟩) qz ?_; refine pure_ (i := 12) (N := some 14) #[o1, o1, o1, o1, o1, o1, o1, o1, o1, o1, o1, o1, o1] rfl rfl (any_of HT_.out (by kernel_rfl)) (fun _ _ _ h => h) (Or.inl ⟨by rfl, qy⟩) qz ?_; refine done_ (done_of HT_.out (by kernel_rfl)) ?_; try go_wp2_with (first | ((with_reducible refine gate_builtin (b := .append) (xs := #[.tmp 46, .tmp 48]) rfl ?_); at_builtin; refine Kd.R_append (Kd.int .i64) (w0 := w) w.heap.size rfl (.tmp 46) (.tmp 48) 22 3 (.int .i64 0) 8 rfl Try.underlying22 info3 rfl (by decide) (by omega) u10 x10_1 t104 [.int .i64 t104] (fun _ => True) (fun _ => False) rfl rfl ?aP (fun _ hk => hk.elim) ?aF ?aO ?aB ?aS ?aL ?_; (case aP => exact rfl); (case aB => exact qB); (case aF => exact (fun _ _ => trivial)); (case aO => exact (by (with_reducible repeat (first | apply Kd.R_alloc | apply Kd.R_drewN | apply Kd.R_drew)); exact HO_10.out)); (case aS => exact (zW qB)); (case aL => have := LMc15.out; omega); intro v107 w18 ho hb hg hat; rw [← Ny106.out] at ho; have n0_ := zA (blk_grown (g := gb101) (o := .cells #[.int .i64 a0_0, .int .i64 a0_1, .int .i64 a0_2, .int .i64 a0_3, .slice A0_4 l0_4.length c0_4] 71 (0, 0)) (qW BK101.out) hg (Kd.R_ne HO_10.out BK101.out (by decide))); have n1_ := zA (hb); have n2_ := zA (ho); clear BK101 HB HO_10; have BK101 := n0_; have HB := n1_; have HO108 := n2_; clear n0_ n1_ n2_ ho hb hg hat))
                  go_roundg k1
                  case measure => have := HK1.out; omega
                  case rel => exact ⟨(y106), (wrap64 (x11_1 + t104)), (wrap64 (x12_1 + 1)), (by first | rfl | (simp; done) | (simp [*]; done)), (by first | rfl | (simp; done) | (simp [*]; done)), H', ⟨by have := HK1.out; omega⟩, ⟨by (with_reducible repeat (first | apply Kd.R_alloc | apply Kd.R_drewN | apply Kd.R_drew)); exact HO108.out⟩, ⟨by exact BK101.out⟩, ⟨qB⟩⟩
                rw [if_neg c15] at H; exact absurd H (by simp)
              rw [if_neg c14] at H; have c14b0 : (t105 == 0) = false := beq_eq_false_iff_ne.mpr c14; have c14b1 : (t105 != 0) = true := bne_iff_ne.mpr c14; simp only [zNq, zOq] at H; obtain ⟨rfl, rfl, rfl⟩ := H; try go_wp2
              have n0_ := zA (Kd.R_drew HO_10.out); have n1_ := zA (zAq BK101.out); have n2_ := zA (zC HB.out); clear HO_10; clear BK101; clear HB; have HO_10 := n0_; have BK101 := n1_; have HB := n2_; clear n0_ n1_ n2_; have p103 : 0 ≤ (x12_1 : Int) := of_decide_eq_true qA; have q103 : x12_1 < (l2.length : Int) := of_decide_eq_true qA; obtain ⟨ad103, e103, hx103_0⟩ := Kd.at_int HR2.out x12_1 p103 q103; have hw103_0 := hx103_0; cases e103
              replace hx103_0 := (HB.out.cell (zCq w _ hx103_0)).trans hx103_0; replace p103 := eq_true p103; replace q103 := eq_true q103; refine start_ (n := 13) (S := fun w' => w'.cell? ⟨gb101, 0, none⟩ = some (.int .i64 a0_0) ∧ w'.cell? ⟨gb101, 1, none⟩ = some (.int .i64 a0_1) ∧ w'.cell? ⟨gb101, 2, none⟩ = some (.int .i64 a0_2) ∧ w'.cell? ⟨gb101, 3, none⟩ = some (.int .i64 a0_3) ∧ w'.cell? ⟨gb101, 4, none⟩ = some (.slice A0_4 l0_4.length c0_4) ∧ w'.cell? (ad103.add (x12_1).toNat) = some (.int .i64 (rd l2 x12_1))) (ds := []) #[o0, o0, o0, o0, o0, o0, o0, o0, o0, o0, o0, o0, o0] (by kernel_rfl) rfl rfl ⟨(zF BK101.out 0).trans rfl, (zF BK101.out 1).trans rfl, (zF BK101.out 2).trans rfl, (zF BK101.out 3).trans rfl, (zF BK101.out 4).trans rfl, ((HB.out.cell (zCq w _ hw103_0)).trans hw103_0)⟩ (fun hHeld => ?_); refine with_tabW backhaulref22_All.tab11 backhaulref22_All.bits11 (fun HT_ HW_ => ?_); generalize wr.drew = w19 at HO_10 BK101 HB hx103_0 hHeld ⊢; refine pure_ (i := 1) (N := some 34) #[o0, o1, o0, o0, o0, o0, o0, o0, o0, o0, o0, o0, o0] rfl rfl (any_of HT_.out (by kernel_rfl)) (fun _ _ _ h => h) (Or.inl ⟨by rfl, qy⟩) qz ?_; refine pure_ (i := 2) (N := some 35) #[o0, o1, o1, o0, o0, o0, o0, o0, o0, o0, o0, o0, o0] rfl rfl (any_of HT_.out (by kernel_rfl)) (fun _ _ _ h => h) (Or.inl ⟨by rfl, qy⟩) qz ?_; refine pure_ (i := 3) (N := some 36) #[o0, o1, o1, o1, o0, o0, o0, o0, o0, o0, o0, o0, o0] rfl rfl (any_of HT_.out (by kernel_rfl)) (fun _ _ _ h => h) (Or.inl ⟨by rfl, qy⟩) qz ?_; refine pure_ (i := 4) (N := some 37) #[o0, o1, o1, o1, o1, o0, o0, o0, o0, o0, o0, o0, o0] rfl rfl (any_of HT_.out (by kernel_rfl)) (fun _ _ _ h => h) (Or.inl ⟨by rfl, qy⟩) qz ?_; refine pure_ (i := 5) (N := some 38) #[o0, o1, o1, o1, o1, o1, o0, o0, o0, o0, o0, o0, o0] rfl rfl (any_of HT_.out (by kernel_rfl)) (fun _ _ _ h => h) (Or.inl ⟨by rfl, qy⟩) qz ?_; refine take_ (i := 0) (N := some 33) (v := ?_) (a' := ?_) #[o1, o1, o1, o1, o1, o1, o0, o0, o0, o0, o0, o0, o0] rfl rfl (take_ofW HT_.out HW_.out (by kernel_rfl)) (fun _ _ _ h => h) (Or.inl ⟨by rfl, ?_⟩) hHeld ?_ ?_; rotate_left
              · rintro w' ⟨s0, s1, s2, s3, s4, s5⟩
                go_simp; with_reducible rfl
              rotate_left
              · simp only [Act.put, zH, zI, zJ, i64_w, i32_w]
                rfl
              refine take_ (i := 6) (N := some 39) (v := ?_) (a' := ?_) #[o1, o1, o1, o1, o1, o1, o1, o0, o0, o0, o0, o0, o0] rfl rfl (take_ofW HT_.out HW_.out (by kernel_rfl)) (fun _ _ _ h => h) (Or.inl ⟨by rfl, ?_⟩) hHeld ?_ ?_; rotate_left
              · rintro w' ⟨s0, s1, s2, s3, s4, s5⟩
                go_simp; with_reducible rfl
              rotate_left
              · simp only [Act.put, zH, zI, zJ, i64_w, i32_w]
                rfl
              refine one_ (i := 7) (N := some 40) #[o1, o1, o1, o1, o1, o1, o1, o1, o0, o0, o0, o0, o0] rfl rfl (one_of HT_.out (by kernel_rfl)) (by decide) (fun K hK => ?_); refine goes_ Try.func77 (by kernel_rfl) rfl #[.agg #[.int .i64 a0_0, .int .i64 a0_1, .int .i64 a0_2, .int .i64 a0_3, .slice A0_4 l0_4.length c0_4], .int .i64 x12_1, .slice A1 l1.length c1, .int .i64 (rd l2 x12_1)] (by rfl) rfl rfl (by (try simp only [zR, zS, zT]); first | done | rfl | (simp only [zP, zQ]; rfl)) ?_; with_reducible refine (backhaulref22_Of.calls k1 a0_0 a0_1 a0_2 a0_3 _ _ l0_4 x12_1 _ _ l1 (rd l2 x12_1) t104 t105 _ ?side1 ?side2 ?side3 ?side4 A13.out).mono ?_
              (case side1 => exact qC (Kd.C_below HR0_4.out HB.out))
              (case side2 => exact HC0_4.out)
              (case side3 => exact qC (Kd.C_below HR1.out HB.out))
              (case side4 => exact HC1.out)
              rintro e w20 ⟨rfl, hb⟩; refine ⟨_, rfl, ?_⟩; have n0_ := zA (Kd.R_below (by (with_reducible repeat (first | apply Kd.R_alloc | apply Kd.R_drewN | apply Kd.R_drew)); exact HO_10.out) hb); have n1_ := zA (qX BK101.out hb); have n2_ := zA (zV qB hb); clear HO_10; clear BK101; clear HB; have HO_10 := n0_; have BK101 := n1_; have HB := n2_; clear n0_ n1_ n2_; (try clear hb); (try clear hb2); (try clear hk); (try clear hi); refine hK.out _ _ ⟨(zF BK101.out 0).trans rfl, (zF BK101.out 1).trans rfl, (zF BK101.out 2).trans rfl, (zF BK101.out 3).trans rfl, (zF BK101.out 4).trans rfl, ((HB.out.cell (zCq w _ hw103_0)).trans hw103_0)⟩ (fun hHeld => ?_); clear hK K; refine norm_ (a' := ?_) ?_ ?_; rotate_left
              · show Act.put _ (some 40) _ = _
                simp only [Act.put, zH, zI, zJ, i64_w, i32_w]; rfl
              refine pure_ (i := 8) (N := some 32) #[o1, o1, o1, o1, o1, o1, o1, o1, o1, o0, o0, o0, o0] rfl rfl (any_of HT_.out (by kernel_rfl)) (fun _ _ _ h => h) (Or.inl ⟨by rfl, qy⟩) qz ?_; refine pure_ (i := 9) (N := some 41) #[o1, o1, o1, o1, o1, o1, o1, o1, o1, o1, o0, o0, o0] rfl rfl (any_of HT_.out (by kernel_rfl)) (fun _ _ _ h => h) (Or.inl ⟨by rfl, qy⟩) qz ?_; refine pure_ (i := 10) (N := some 42) #[o1, o1, o1, o1, o1, o1, o1, o1, o1, o1, o1, o0, o0] rfl rfl (any_of HT_.out (by kernel_rfl)) (fun _ _ _ h => h) (Or.inl ⟨by rfl, qy⟩) qz ?_; refine pure_ (i := 11) (N := some 13) #[o1, o1, o1, o1, o1, o1, o1, o1, o1, o1, o1, o1, o0] rfl rfl (any_of HT_.out (by kernel_rfl)) (fun _ _ _ h => h) (Or.inl ⟨by rfl, qy⟩) qz ?_; refine pure_ (i := 12) (N := some 14) #[o1, o1, o1, o1, o1, o1, o1, o1, o1, o1, o1, o1, o1] rfl rfl (any_of HT_.out (by kernel_rfl)) (fun _ _ _ h => h) (Or.inl ⟨by rfl, qy⟩) qz ?_; refine done_ (done_of HT_.out (by kernel_rfl)) ?_; try go_wp2
              go_ret3; exact ⟨_, qE, qN, qB⟩
            rw [if_neg c12] at H; exact absurd H (by simp)
          rw [if_neg c11] at H; have c11b0 : decide (x12_1 < (l2.length : Int)) = false := zGq c11; clear c11; simp only [zNq, zOq] at H; obtain ⟨rfl, rfl, rfl⟩ := H; go_wp2; go_ret3; exact ⟨_, qE, by (with_reducible repeat (first | apply Kd.R_alloc | apply Kd.R_drewN | apply Kd.R_drew)); exact HO_10.out, qB⟩
    rw [if_neg c6] at H; have c6b0 : ((l2.length : Int) == (l0_4.length : Int)) = false := beq_eq_false_iff_ne.mpr c6; have c6b1 : ((l2.length : Int) != (l0_4.length : Int)) = true := bne_iff_ne.mpr c6; have c6b2 : (l2.length == l0_4.length) = false := by first | simpa using c6 | (simp at c6 ⊢; omega)
    simp only [zNq, zOq] at H; obtain ⟨rfl, rfl, rfl⟩ := H; go_enter Try.func79, Try.ntmps79; go_wp2_with (first | ((with_reducible refine gate_dst (N := 3) rfl ?_); refine box_event qr (N := 3) qr (cs := #[.int .i64 a0_0, .int .i64 a0_1, .int .i64 a0_2, .int .i64 a0_3, .slice A0_4 l0_4.length c0_4]) (t := 71) qg ?_; intro gb101 hg w21 hbox hb; have n0_ := zA (zV qB hb); have n1_ := zA (hbox); have n2_ := zA ((qS : w.heap.size ≤ gb101)); have n3_ := zA ((qS : w.heap.size ≤ gb101)); clear HB; have HB := n0_; have BK101 := n1_; have GW101 := n2_; have GE101 := n3_; clear n0_ n1_ n2_ n3_ hb hbox hg; obtain ⟨_, _, _, _, _, _, _, _, _, _⟩ := qc5f BK101.out) | ((with_reducible refine zJq (f := 70) rfl ?_); refine goesL_ (some 16) rfl rfl Try.func70 (by kernel_rfl) rfl #[.agg #[.int .i64 a0_0, .int .i64 a0_1, .int .i64 a0_2, .int .i64 a0_3, .slice A0_4 l0_4.length c0_4]] rfl (by (try simp only [zR, zS, zT]); first | done | rfl | (simp only [zP, zQ]; rfl)) ?_; (with_reducible refine (backhaulref21_Check.calls k a0_0 a0_1 a0_2 a0_3 _ _ l0_4 t102 _ ?side1 ?side2 A4.out).mono ?_); (case side1 => exact qC (Kd.C_below HR0_4.out HB.out)); (case side2 => exact HC0_4.out); rintro e w23 ⟨rfl, hb⟩; refine ⟨_, rfl, ?_⟩; have n0_ := zA (qX BK101.out hb); have n1_ := zA (zV qB hb); clear BK101 HB; have BK101 := n0_; have HB := n1_; clear n0_ n1_; (try clear hb); (try clear hb2); (try clear hk); (try clear hi); obtain ⟨_, _, _, _, _, _, _, _, _, _⟩ := qc5f BK101.out)); go_ret3; exact ⟨_, qE, qN, qB⟩
  rw [if_neg c5] at H
  have c5b0 : (t102 == 0) = false := beq_eq_false_iff_ne.mpr c5
  have c5b1 : (t102 != 0) = true := bne_iff_ne.mpr c5
  simp only [zNq, zOq] at H
  obtain ⟨rfl, rfl, rfl⟩ := H
  go_enter Try.func79, Try.ntmps79
  go_wp2_with (first | ((with_reducible refine gate_dst (N := 3) rfl ?_); refine box_event qr (N := 3) qr (cs := #[.int .i64 a0_0, .int .i64 a0_1, .int .i64 a0_2, .int .i64 a0_3, .slice A0_4 l0_4.length c0_4]) (t := 71) qg ?_; intro gb101 hg w25 hbox hb; have n0_ := zA (zV qB hb); have n1_ := zA (hbox); have n2_ := zA ((qS : w.heap.size ≤ gb101)); have n3_ := zA ((qS : w.heap.size ≤ gb101)); clear HB; have HB := n0_; have BK101 := n1_; have GW101 := n2_; have GE101 := n3_; clear n0_ n1_ n2_ n3_ hb hbox hg; obtain ⟨_, _, _, _, _, _, _, _, _, _⟩ := qc5f BK101.out) | ((with_reducible refine zJq (f := 70) rfl ?_); refine goesL_ (some 16) rfl rfl Try.func70 (by kernel_rfl) rfl #[.agg #[.int .i64 a0_0, .int .i64 a0_1, .int .i64 a0_2, .int .i64 a0_3, .slice A0_4 l0_4.length c0_4]] rfl (by (try simp only [zR, zS, zT]); first | done | rfl | (simp only [zP, zQ]; rfl)) ?_; (with_reducible refine (backhaulref21_Check.calls k a0_0 a0_1 a0_2 a0_3 _ _ l0_4 t102 _ ?side1 ?side2 A4.out).mono ?_); (case side1 => exact qC (Kd.C_below HR0_4.out HB.out)); (case side2 => exact HC0_4.out); rintro e w27 ⟨rfl, hb⟩; refine ⟨_, rfl, ?_⟩; have n0_ := zA (qX BK101.out hb); have n1_ := zA (zV qB hb); clear BK101 HB; have BK101 := n0_; have HB := n1_; clear n0_ n1_; (try clear hb); (try clear hb2); (try clear hk); (try clear hi)))
  go_ret3
  exact ⟨_, qE, qN, qB⟩
def backhaulref22_Most.l0 : Nat → List Int → Int → Int → Int → Int → Int → Int → List ByteArray → Option (Int × Int)
  | 0, _, _, _, _, _, _, _, _ => none
  | k + 1, x1, x7, x8, x102000, x102001, x102002, x102003, x102004 => if x8 < (x102004.length : Int) then ((backhaulref22_Of.f k x102000 x102001 x102002 x102003 x102004 x8 x1 0).bind fun bt104 => (backhaulref22_Most.l0 k x1 (wrap64 (x7 + bt104.1)) (wrap64 (x8 + 1)) x102000 x102001 x102002 x102003 x102004)) else (some (x7, 0))
def backhaulref22_Most.f (k : Nat) (a0_0 : Int) (a0_1 : Int) (a0_2 : Int) (a0_3 : Int) (l0_4 : List ByteArray) (l1 : List Int) : Option (Int × Int) := (backhaulref21_Check.f k a0_0 a0_1 a0_2 a0_3 l0_4).bind fun t102 => (if t102 = 0 then ((backhaulref04_Check.f k l1).bind fun t103 => (if t103 = 0 then (backhaulref22_Most.l0 k l1 0 0 a0_0 a0_1 a0_2 a0_3 l0_4) else (some (0, t103)))) else (some (0, t102)))
theorem backhaulref22_Most.mono_l : ∀ k, (∀ y0 y1 y2 y3 y4 y5 y6 y7, LeO (backhaulref22_Most.l0 k y0 y1 y2 y3 y4 y5 y6 y7) (backhaulref22_Most.l0 (k + 1) y0 y1 y2 y3 y4 y5 y6 y7))
  | 0 => fun _ _ _ _ _ _ _ _ r h => by simp [backhaulref22_Most.l0] at h
  | k + 1 => by
    have ih0 := backhaulref22_Most.mono_l k
    intro y0 y1 y2 y3 y4 y5 y6 y7
    unfold backhaulref22_Most.l0
    repeat' first
    | (with_reducible exact ih0 _ _ _ _ _ _ _ _)
    | (with_reducible exact backhaulref04_Check.mono _ _)
    | (with_reducible exact backhaulref21_Check.mono _ _ _ _ _ _)
    | (with_reducible exact backhaulref22_Of.mono _ _ _ _ _ _ _ _ _)
    | (with_reducible exact LeO.refl _)
    | (with_reducible exact LeO.none _)
    | (with_reducible refine LeO.ite ?_ ?_)
    | (with_reducible refine LeO.bind ?_ (fun _ => ?_))
    | exact ih0 _ _ _ _ _ _ _ _
    | exact backhaulref04_Check.mono _ _
    | exact backhaulref21_Check.mono _ _ _ _ _ _
    | exact backhaulref22_Of.mono _ _ _ _ _ _ _ _ _
    | exact LeO.none _
    | refine LeO.ite ?_ ?_
    | refine LeO.bind ?_ (fun _ => ?_)
theorem backhaulref22_Most.mono : ∀ a0 a1 a2 a3 a4 a5 k, LeO (backhaulref22_Most.f k a0 a1 a2 a3 a4 a5) (backhaulref22_Most.f (k + 1) a0 a1 a2 a3 a4 a5) := by
  intro a0 a1 a2 a3 a4 a5 k
  have ih0 := backhaulref22_Most.mono_l k
  unfold backhaulref22_Most.f
  repeat' first
      | (with_reducible exact ih0 _ _ _ _ _ _ _ _)
      | (with_reducible exact backhaulref04_Check.mono _ _)
      | (with_reducible exact backhaulref21_Check.mono _ _ _ _ _ _)
      | (with_reducible exact backhaulref22_Of.mono _ _ _ _ _ _ _ _ _)
      | (with_reducible exact LeO.refl _)
      | (with_reducible exact LeO.none _)
      | (with_reducible refine LeO.ite ?_ ?_)
      | (with_reducible refine LeO.bind ?_ (fun _ => ?_))
      | exact ih0 _ _ _ _ _ _ _ _
      | exact backhaulref04_Check.mono _ _
      | exact backhaulref21_Check.mono _ _ _ _ _ _
      | exact backhaulref22_Of.mono _ _ _ _ _ _ _ _ _
      | exact LeO.none _
      | refine LeO.ite ?_ ?_
      | refine LeO.bind ?_ (fun _ => ?_)
set_option maxHeartbeats 8000000 in
set_option maxRecDepth 100000 in
theorem backhaulref22_Most.calls (k : Nat) (a0_0 : Int) (a0_1 : Int) (a0_2 : Int) (a0_3 : Int) (A0_4 : Option Addr) (c0_4 : Nat) (l0_4 : List ByteArray) (A1 : Option Addr) (c1 : Nat) (l1 : List Int) (r1 : Int) (r2 : Int) (w : World) (hr0_4 : Kd.C Kd.string w A0_4 l0_4.length l0_4) (hc0_4 : l0_4.length ≤ c0_4) (hr1 : Kd.C (Kd.int .i64) w A1 l1.length l1) (hc1 : l1.length ≤ c1) (h : backhaulref22_Most.f k a0_0 a0_1 a0_2 a0_3 l0_4 l1 = some (r1, r2)) :
    Calls Try.prog 81 #[.agg #[.int .i64 a0_0, .int .i64 a0_1, .int .i64 a0_2, .int .i64 a0_3, .slice A0_4 l0_4.length c0_4], .slice A1 l1.length c1] w fun e w' => e = .returned (.tuple #[.int .i64 r1, .int .i64 r2]) ∧ Below w.heap.size w w' := by
  have hu71 := Try.underlying71
  have HR0_4 := zA hr0_4
  have HC0_4 := zA hc0_4
  clear hr0_4 hc0_4
  have HR1 := zA hr1
  have HC1 := zA hc1
  clear hr1 hc1
  have HB := zA (Below.refl w.heap.size w)
  have H : ((backhaulref21_Check.f k a0_0 a0_1 a0_2 a0_3 l0_4).bind fun t102 => (if t102 = 0 then ((backhaulref04_Check.f k l1).bind fun t103 => (if t103 = 0 then (backhaulref22_Most.l0 k l1 0 0 a0_0 a0_1 a0_2 a0_3 l0_4) else (some (0, t103)))) else (some (0, t102)))) = some (r1, r2) := h
  clear h
  replace H := Option.bind_eq_some_iff.mp H
  obtain ⟨t102, A30, H⟩ := H
  replace H : (if t102 = 0 then ((backhaulref04_Check.f k l1).bind fun t103 => (if t103 = 0 then (backhaulref22_Most.l0 k l1 0 0 a0_0 a0_1 a0_2 a0_3 l0_4) else (some (0, t103)))) else (some (0, t102))) = some (r1, r2) := H
  have A3 := zA A30
  clear A30
  by_cases c4 : t102 = 0
  · rw [if_pos c4] at H
    have c4b0 : (t102 == 0) = true := beq_iff_eq.mpr c4; have c4b1 : (t102 != 0) = false := bne_eq_false_iff_eq.mpr c4; clear c4; replace H := Option.bind_eq_some_iff.mp H; obtain ⟨t103, A50, H⟩ := H; replace H : (if t103 = 0 then (backhaulref22_Most.l0 k l1 0 0 a0_0 a0_1 a0_2 a0_3 l0_4) else (some (0, t103))) = some (r1, r2) := H; have A5 := zA A50; clear A50; by_cases c6 : t103 = 0
    · rw [if_pos c6] at H
      have c6b0 : (t103 == 0) = true := beq_iff_eq.mpr c6; have c6b1 : (t103 != 0) = false := bne_eq_false_iff_eq.mpr c6; clear c6; have H' := zA H; clear H; go_enter Try.func81, Try.ntmps81; go_wp2_with (first | ((with_reducible refine gate_dst (N := 2) rfl ?_); refine box_event qr (N := 2) qr (cs := #[.int .i64 a0_0, .int .i64 a0_1, .int .i64 a0_2, .int .i64 a0_3, .slice A0_4 l0_4.length c0_4]) (t := 71) qg ?_; intro gb101 hg w7 hbox hb; have n0_ := zA (zV qB hb); have n1_ := zA (hbox); have n2_ := zA ((qS : w.heap.size ≤ gb101)); have n3_ := zA ((qS : w.heap.size ≤ gb101)); clear HB; have HB := n0_; have BK101 := n1_; have GW101 := n2_; have GE101 := n3_; clear n0_ n1_ n2_ n3_ hb hbox hg; obtain ⟨_, _, _, _, _, _, _, _, _, _⟩ := qc5f BK101.out) | ((with_reducible refine zJq (f := 70) rfl ?_); refine goesL_ (some 12) rfl rfl Try.func70 (by kernel_rfl) rfl #[.agg #[.int .i64 a0_0, .int .i64 a0_1, .int .i64 a0_2, .int .i64 a0_3, .slice A0_4 l0_4.length c0_4]] rfl (by (try simp only [zR, zS, zT]); first | done | rfl | (simp only [zP, zQ]; rfl)) ?_; (with_reducible refine (backhaulref21_Check.calls k a0_0 a0_1 a0_2 a0_3 _ _ l0_4 t102 _ ?side1 ?side2 A3.out).mono ?_); (case side1 => exact qC (Kd.C_below HR0_4.out HB.out)); (case side2 => exact HC0_4.out); rintro e w9 ⟨rfl, hb⟩; refine ⟨_, rfl, ?_⟩; have n0_ := zA (qX BK101.out hb); have n1_ := zA (zV qB hb); clear BK101 HB; have BK101 := n0_; have HB := n1_; clear n0_ n1_; (try clear hb); (try clear hb2); (try clear hk); (try clear hi)) | ((with_reducible refine zJq (f := 49) rfl ?_); refine goesL_ (some 17) rfl rfl Try.func49 (by kernel_rfl) rfl #[.slice A1 l1.length c1] rfl (by (try simp only [zR, zS, zT]); first | done | rfl | (simp only [zP, zQ]; rfl)) ?_; (with_reducible refine (backhaulref04_Check.calls k _ _ l1 t103 _ ?side1 ?side2 A5.out).mono ?_); (case side1 => exact qC (Kd.C_below HR1.out HB.out)); (case side2 => exact HC1.out); rintro e w' ⟨rfl, ⟨nd, rfl⟩⟩; refine ⟨_, rfl, ?_⟩)); go_loopg [7, 8] k (fun kq v7 v8 w' => ∃ (x7_1 : Int) (x8_1 : Int), v7 = .int .i64 x7_1 ∧ v8 = .int .i64 x8_1 ∧ Aside0 (backhaulref22_Most.l0 kq l1 x7_1 x8_1 a0_0 a0_1 a0_2 a0_3 l0_4 = some (r1, r2)) ∧ Aside0 (kq ≤ k) ∧ Aside0 (w'.heap[gb101]? = some (.cells #[.int .i64 a0_0, .int .i64 a0_1, .int .i64 a0_2, .int .i64 a0_3, (.slice A0_4 l0_4.length c0_4)] 71 (0, 0))) ∧ Aside0 (Below w.heap.size w w'))
      case atStart => exact ⟨(0), (0), (by first | rfl | (simp; done) | (simp [*]; done)), (by first | rfl | (simp; done) | (simp [*]; done)), H', ⟨Nat.le_refl _⟩, ⟨by exact BK101.out⟩, ⟨qB⟩⟩
      case round =>
        clear H'; try clear c1
        try clear p2
        try clear c4
        try clear c4b0
        try clear c4b1
        try clear c6
        try clear c6b0
        try clear c6b1
        try clear c7
        try clear c8
        obtain ⟨x7_1, x8_1, rfl, rfl, HA, HK1, BK101, HB⟩ := hrel; cases gk with
        | zero => exact absurd HA.out (by simp [backhaulref22_Most.l0])
        | succ k1 =>
          have H := HA.out; clear HA; simp only [backhaulref22_Most.l0] at H; by_cases c10 : x8_1 < (l0_4.length : Int)
          · rw [if_pos c10] at H
            have c10b0 : decide (x8_1 < (l0_4.length : Int)) = true := zFq c10; clear c10; replace H := Option.bind_eq_some_iff.mp H; obtain ⟨⟨t104, t105⟩, A110, H⟩ := H; replace H : (backhaulref22_Most.l0 k1 l1 (wrap64 (x7_1 + t104)) (wrap64 (x8_1 + 1)) a0_0 a0_1 a0_2 a0_3 l0_4) = some (r1, r2) := H; have A11 := zA A110; clear A110; have H' := zA H; clear H; obtain ⟨_, _, _, _, _, _, _, _, _, _⟩ := qc5f BK101.out; go_wp2_with (first | ((with_reducible refine zJq (f := 77) rfl ?_); refine goesL_ (some 32) rfl rfl Try.func77 (by kernel_rfl) rfl #[.agg #[.int .i64 a0_0, .int .i64 a0_1, .int .i64 a0_2, .int .i64 a0_3, .slice A0_4 l0_4.length c0_4], .int .i64 x8_1, .slice A1 l1.length c1, .int .i64 0] rfl (by (try simp only [zR, zS, zT]); first | done | rfl | (simp only [zP, zQ]; rfl)) ?_; (with_reducible refine (backhaulref22_Of.calls k1 a0_0 a0_1 a0_2 a0_3 _ _ l0_4 x8_1 _ _ l1 0 t104 t105 _ ?side1 ?side2 ?side3 ?side4 A11.out).mono ?_); (case side1 => exact qC (Kd.C_below HR0_4.out HB.out)); (case side2 => exact HC0_4.out); (case side3 => exact qC (Kd.C_below HR1.out HB.out)); (case side4 => exact HC1.out); rintro e w13 ⟨rfl, hb⟩; refine ⟨_, rfl, ?_⟩; have n0_ := zA (qX BK101.out hb); have n1_ := zA (zV qB hb); clear BK101 HB; have BK101 := n0_; have HB := n1_; clear n0_ n1_; (try clear hb); (try clear hb2); (try clear hk); (try clear hi))); go_roundg k1
            case measure => have := HK1.out; omega
            case rel => exact ⟨(wrap64 (x7_1 + t104)), (wrap64 (x8_1 + 1)), (by first | rfl | (simp; done) | (simp [*]; done)), (by first | rfl | (simp; done) | (simp [*]; done)), H', ⟨by have := HK1.out; omega⟩, ⟨by exact BK101.out⟩, ⟨qB⟩⟩
          rw [if_neg c10] at H; have c10b0 : decide (x8_1 < (l0_4.length : Int)) = false := zGq c10; clear c10; simp only [zNq, zOq] at H; obtain ⟨rfl, rfl⟩ := H; obtain ⟨_, _, _, _, _, _, _, _, _, _⟩ := qc5f BK101.out; go_wp2; go_ret2; exact ⟨qE, qB⟩
    rw [if_neg c6] at H; have c6b0 : (t103 == 0) = false := beq_eq_false_iff_ne.mpr c6; have c6b1 : (t103 != 0) = true := bne_iff_ne.mpr c6; simp only [zNq, zOq] at H; obtain ⟨rfl, rfl⟩ := H; go_enter Try.func81, Try.ntmps81; go_wp2_with (first | ((with_reducible refine gate_dst (N := 2) rfl ?_); refine box_event qr (N := 2) qr (cs := #[.int .i64 a0_0, .int .i64 a0_1, .int .i64 a0_2, .int .i64 a0_3, .slice A0_4 l0_4.length c0_4]) (t := 71) qg ?_; intro gb101 hg w15 hbox hb; have n0_ := zA (zV qB hb); have n1_ := zA (hbox); have n2_ := zA ((qS : w.heap.size ≤ gb101)); have n3_ := zA ((qS : w.heap.size ≤ gb101)); clear HB; have HB := n0_; have BK101 := n1_; have GW101 := n2_; have GE101 := n3_; clear n0_ n1_ n2_ n3_ hb hbox hg; obtain ⟨_, _, _, _, _, _, _, _, _, _⟩ := qc5f BK101.out) | ((with_reducible refine zJq (f := 70) rfl ?_); refine goesL_ (some 12) rfl rfl Try.func70 (by kernel_rfl) rfl #[.agg #[.int .i64 a0_0, .int .i64 a0_1, .int .i64 a0_2, .int .i64 a0_3, .slice A0_4 l0_4.length c0_4]] rfl (by (try simp only [zR, zS, zT]); first | done | rfl | (simp only [zP, zQ]; rfl)) ?_; (with_reducible refine (backhaulref21_Check.calls k a0_0 a0_1 a0_2 a0_3 _ _ l0_4 t102 _ ?side1 ?side2 A3.out).mono ?_); (case side1 => exact qC (Kd.C_below HR0_4.out HB.out)); (case side2 => exact HC0_4.out); rintro e w17 ⟨rfl, hb⟩; refine ⟨_, rfl, ?_⟩; have n0_ := zA (qX BK101.out hb); have n1_ := zA (zV qB hb); clear BK101 HB; have BK101 := n0_; have HB := n1_; clear n0_ n1_; (try clear hb); (try clear hb2); (try clear hk); (try clear hi)) | ((with_reducible refine zJq (f := 49) rfl ?_); refine goesL_ (some 17) rfl rfl Try.func49 (by kernel_rfl) rfl #[.slice A1 l1.length c1] rfl (by (try simp only [zR, zS, zT]); first | done | rfl | (simp only [zP, zQ]; rfl)) ?_; (with_reducible refine (backhaulref04_Check.calls k _ _ l1 t103 _ ?side1 ?side2 A5.out).mono ?_); (case side1 => exact qC (Kd.C_below HR1.out HB.out)); (case side2 => exact HC1.out); rintro e w' ⟨rfl, ⟨nd, rfl⟩⟩; refine ⟨_, rfl, ?_⟩)); go_ret2; exact ⟨qE, qB⟩
  rw [if_neg c4] at H
  have c4b0 : (t102 == 0) = false := beq_eq_false_iff_ne.mpr c4
  have c4b1 : (t102 != 0) = true := bne_iff_ne.mpr c4
  simp only [zNq, zOq] at H
  obtain ⟨rfl, rfl⟩ := H
  go_enter Try.func81, Try.ntmps81
  go_wp2_with (first | ((with_reducible refine gate_dst (N := 2) rfl ?_); refine box_event qr (N := 2) qr (cs := #[.int .i64 a0_0, .int .i64 a0_1, .int .i64 a0_2, .int .i64 a0_3, .slice A0_4 l0_4.length c0_4]) (t := 71) qg ?_; intro gb101 hg w18 hbox hb; have n0_ := zA (zV qB hb); have n1_ := zA (hbox); have n2_ := zA ((qS : w.heap.size ≤ gb101)); have n3_ := zA ((qS : w.heap.size ≤ gb101)); clear HB; have HB := n0_; have BK101 := n1_; have GW101 := n2_; have GE101 := n3_; clear n0_ n1_ n2_ n3_ hb hbox hg; obtain ⟨_, _, _, _, _, _, _, _, _, _⟩ := qc5f BK101.out) | ((with_reducible refine zJq (f := 70) rfl ?_); refine goesL_ (some 12) rfl rfl Try.func70 (by kernel_rfl) rfl #[.agg #[.int .i64 a0_0, .int .i64 a0_1, .int .i64 a0_2, .int .i64 a0_3, .slice A0_4 l0_4.length c0_4]] rfl (by (try simp only [zR, zS, zT]); first | done | rfl | (simp only [zP, zQ]; rfl)) ?_; (with_reducible refine (backhaulref21_Check.calls k a0_0 a0_1 a0_2 a0_3 _ _ l0_4 t102 _ ?side1 ?side2 A3.out).mono ?_); (case side1 => exact qC (Kd.C_below HR0_4.out HB.out)); (case side2 => exact HC0_4.out); rintro e w20 ⟨rfl, hb⟩; refine ⟨_, rfl, ?_⟩; have n0_ := zA (qX BK101.out hb); have n1_ := zA (zV qB hb); clear BK101 HB; have BK101 := n0_; have HB := n1_; clear n0_ n1_; (try clear hb); (try clear hb2); (try clear hk); (try clear hi)))
  go_ret2
  exact ⟨qE, qB⟩
mutual
def backhaullaw22_ValueTells.j0 : Nat → List Int → List Int → Bool → Int → Int → Int → Int → List ByteArray → Option (Bool)
  | 0, _, _, _, _, _, _, _, _ => none
  | k + 1, x1, x2, x40, x102000, x102001, x102002, x102003, x102004 => if x40 = true then ((backhaullaw22_awake.f).bind fun t106 => (if t106 = true then (some true) else (some false))) else (backhaullaw22_ValueTells.l0 k x1 x2 (-1) x102000 x102001 x102002 x102003 x102004)
def backhaullaw22_ValueTells.l0 : Nat → List Int → List Int → Int → Int → Int → Int → Int → List ByteArray → Option (Bool)
  | 0, _, _, _, _, _, _, _, _ => none
  | k + 1, x1, x2, x7, x102000, x102001, x102002, x102003, x102004 => if x7 < (x2.length : Int) then (if x7 ≥ 0 then (if 0 ≤ x7 then (backhaullaw22_ValueTells.j2 k x1 x2 x7 (rd x2 x7) x102000 x102001 x102002 x102003 x102004) else (none)) else (backhaullaw22_ValueTells.j2 k x1 x2 x7 x7 x102000 x102001 x102002 x102003 x102004)) else ((value_All.f k x102000 x102001 x102002 x102003 x102004 x1 x2).bind fun bt116 => ((backhaulref22_All.f k x102000 x102001 x102002 x102003 x102004 x1 x2).bind fun bt121 => ((value_Most.f k x102000 x102001 x102002 x102003 x102004 x1).bind fun bt126 => ((backhaulref22_Most.f k x102000 x102001 x102002 x102003 x102004 x1).bind fun bt128 => ((backhaulref02_SameInts.f k bt116.1 bt121.1).bind fun t130 => (if t130 = true then (if bt116.2.1 = bt121.2.1 then (if bt116.2.2 = bt121.2.2 then (if bt126.1 = bt128.1 then (if bt126.2 = bt128.2 then ((backhaullaw22_awake.f).bind fun t131 => (if t131 = true then (some true) else (some false))) else (some false)) else (some false)) else (some false)) else (some false)) else (some false)))))))
def backhaullaw22_ValueTells.j2 : Nat → List Int → List Int → Int → Int → Int → Int → Int → Int → List ByteArray → Option (Bool)
  | 0, _, _, _, _, _, _, _, _, _ => none
  | k + 1, x1, x2, x7, x8, x102000, x102001, x102002, x102003, x102004 => (value_Full.f k x102000 x102001 x102002 x102003 x102004 x7).bind fun bt108 => ((backhaulref22_Full.f k x102000 x102001 x102002 x102003 x102004 x7).bind fun bt110 => ((value_Of.f k x102000 x102001 x102002 x102003 x102004 x7 x1 x8).bind fun bt112 => ((backhaulref22_Of.f k x102000 x102001 x102002 x102003 x102004 x7 x1 x8).bind fun bt114 => (if bt108.1 = bt110.1 then (if bt108.2 = bt110.2 then (if bt112.1 = bt114.1 then (if bt112.2 = bt114.2 then (backhaullaw22_ValueTells.l0 k x1 x2 (wrap64 (x7 + 1)) x102000 x102001 x102002 x102003 x102004) else (some false)) else (some false)) else (some false)) else (some false)))))
end
def backhaullaw22_ValueTells.f (k : Nat) (a0_0 : Int) (a0_1 : Int) (a0_2 : Int) (a0_3 : Int) (l0_4 : List ByteArray) (l1 : List Int) (l2 : List Int) : Option (Bool) := (backhaullaw21_Few.f k (([(⟨a0_0, a0_1, a0_2, a0_3, l0_4⟩ : S71)] : List (S71)))).bind fun t105 => (if t105 = true then (if (l1.length : Int) > 100 then (backhaullaw22_ValueTells.j0 k l1 l2 true a0_0 a0_1 a0_2 a0_3 l0_4) else (backhaullaw22_ValueTells.j0 k l1 l2 (decide ((l2.length : Int) > 100)) a0_0 a0_1 a0_2 a0_3 l0_4)) else (backhaullaw22_ValueTells.j0 k l1 l2 true a0_0 a0_1 a0_2 a0_3 l0_4))
theorem backhaullaw22_ValueTells.mono_l : ∀ k, (∀ y0 y1 y2 y3 y4 y5 y6 y7, LeO (backhaullaw22_ValueTells.j0 k y0 y1 y2 y3 y4 y5 y6 y7) (backhaullaw22_ValueTells.j0 (k + 1) y0 y1 y2 y3 y4 y5 y6 y7)) ∧ (∀ y0 y1 y2 y3 y4 y5 y6 y7, LeO (backhaullaw22_ValueTells.l0 k y0 y1 y2 y3 y4 y5 y6 y7) (backhaullaw22_ValueTells.l0 (k + 1) y0 y1 y2 y3 y4 y5 y6 y7)) ∧ (∀ y0 y1 y2 y3 y4 y5 y6 y7 y8, LeO (backhaullaw22_ValueTells.j2 k y0 y1 y2 y3 y4 y5 y6 y7 y8) (backhaullaw22_ValueTells.j2 (k + 1) y0 y1 y2 y3 y4 y5 y6 y7 y8))
  | 0 => ⟨fun _ _ _ _ _ _ _ _ r h => by simp [backhaullaw22_ValueTells.j0] at h, fun _ _ _ _ _ _ _ _ r h => by simp [backhaullaw22_ValueTells.l0] at h, fun _ _ _ _ _ _ _ _ _ r h => by simp [backhaullaw22_ValueTells.j2] at h⟩
  | k + 1 => by
    obtain ⟨ih0, ih1, ih2⟩ := backhaullaw22_ValueTells.mono_l k
    refine ⟨?_, ?_, ?_⟩
    · intro y0 y1 y2 y3 y4 y5 y6 y7
      unfold backhaullaw22_ValueTells.j0
      repeat' first
      | (with_reducible exact ih0 _ _ _ _ _ _ _ _)
      | (with_reducible exact ih1 _ _ _ _ _ _ _ _)
      | (with_reducible exact ih2 _ _ _ _ _ _ _ _ _)
      | (with_reducible exact backhaullaw21_Few.mono _ _)
      | (with_reducible exact backhaulref02_SameInts.mono _ _ _)
      | (with_reducible exact backhaulref22_All.mono _ _ _ _ _ _ _ _)
      | (with_reducible exact backhaulref22_Full.mono _ _ _ _ _ _ _)
      | (with_reducible exact backhaulref22_Most.mono _ _ _ _ _ _ _)
      | (with_reducible exact backhaulref22_Of.mono _ _ _ _ _ _ _ _ _)
      | (with_reducible exact value_All.mono _ _ _ _ _ _ _ _)
      | (with_reducible exact value_Full.mono _ _ _ _ _ _ _)
      | (with_reducible exact value_Most.mono _ _ _ _ _ _ _)
      | (with_reducible exact value_Of.mono _ _ _ _ _ _ _ _ _)
      | (with_reducible exact LeO.refl _)
      | (with_reducible exact LeO.none _)
      | (with_reducible refine LeO.ite ?_ ?_)
      | (with_reducible refine LeO.bind ?_ (fun _ => ?_))
      | exact ih0 _ _ _ _ _ _ _ _
      | exact ih1 _ _ _ _ _ _ _ _
      | exact ih2 _ _ _ _ _ _ _ _ _
      | exact backhaullaw21_Few.mono _ _
      | exact backhaulref02_SameInts.mono _ _ _
      | exact backhaulref22_All.mono _ _ _ _ _ _ _ _
      | exact backhaulref22_Full.mono _ _ _ _ _ _ _
      | exact backhaulref22_Most.mono _ _ _ _ _ _ _
      | exact backhaulref22_Of.mono _ _ _ _ _ _ _ _ _
      | exact value_All.mono _ _ _ _ _ _ _ _
      | exact value_Full.mono _ _ _ _ _ _ _
      | exact value_Most.mono _ _ _ _ _ _ _
      | exact value_Of.mono _ _ _ _ _ _ _ _ _
      | exact LeO.none _
      | refine LeO.ite ?_ ?_
      | refine LeO.bind ?_ (fun _ => ?_)
    · intro y0 y1 y2 y3 y4 y5 y6 y7
      unfold backhaullaw22_ValueTells.l0
      repeat' first
      | (with_reducible exact ih0 _ _ _ _ _ _ _ _)
      | (with_reducible exact ih1 _ _ _ _ _ _ _ _)
      | (with_reducible exact ih2 _ _ _ _ _ _ _ _ _)
      | (with_reducible exact backhaullaw21_Few.mono _ _)
      | (with_reducible exact backhaulref02_SameInts.mono _ _ _)
      | (with_reducible exact backhaulref22_All.mono _ _ _ _ _ _ _ _)
      | (with_reducible exact backhaulref22_Full.mono _ _ _ _ _ _ _)
      | (with_reducible exact backhaulref22_Most.mono _ _ _ _ _ _ _)
      | (with_reducible exact backhaulref22_Of.mono _ _ _ _ _ _ _ _ _)
      | (with_reducible exact value_All.mono _ _ _ _ _ _ _ _)
      | (with_reducible exact value_Full.mono _ _ _ _ _ _ _)
      | (with_reducible exact value_Most.mono _ _ _ _ _ _ _)
      | (with_reducible exact value_Of.mono _ _ _ _ _ _ _ _ _)
      | (with_reducible exact LeO.refl _)
      | (with_reducible exact LeO.none _)
      | (with_reducible refine LeO.ite ?_ ?_)
      | (with_reducible refine LeO.bind ?_ (fun _ => ?_))
      | exact ih0 _ _ _ _ _ _ _ _
      | exact ih1 _ _ _ _ _ _ _ _
      | exact ih2 _ _ _ _ _ _ _ _ _
      | exact backhaullaw21_Few.mono _ _
      | exact backhaulref02_SameInts.mono _ _ _
      | exact backhaulref22_All.mono _ _ _ _ _ _ _ _
      | exact backhaulref22_Full.mono _ _ _ _ _ _ _
      | exact backhaulref22_Most.mono _ _ _ _ _ _ _
      | exact backhaulref22_Of.mono _ _ _ _ _ _ _ _ _
      | exact value_All.mono _ _ _ _ _ _ _ _
      | exact value_Full.mono _ _ _ _ _ _ _
      | exact value_Most.mono _ _ _ _ _ _ _
      | exact value_Of.mono _ _ _ _ _ _ _ _ _
      | exact LeO.none _
      | refine LeO.ite ?_ ?_
      | refine LeO.bind ?_ (fun _ => ?_)
    intro y0 y1 y2 y3 y4 y5 y6 y7 y8
    unfold backhaullaw22_ValueTells.j2
    repeat' first
    | (with_reducible exact ih0 _ _ _ _ _ _ _ _)
    | (with_reducible exact ih1 _ _ _ _ _ _ _ _)
    | (with_reducible exact ih2 _ _ _ _ _ _ _ _ _)
    | (with_reducible exact backhaullaw21_Few.mono _ _)
    | (with_reducible exact backhaulref02_SameInts.mono _ _ _)
    | (with_reducible exact backhaulref22_All.mono _ _ _ _ _ _ _ _)
    | (with_reducible exact backhaulref22_Full.mono _ _ _ _ _ _ _)
    | (with_reducible exact backhaulref22_Most.mono _ _ _ _ _ _ _)
    | (with_reducible exact backhaulref22_Of.mono _ _ _ _ _ _ _ _ _)
    | (with_reducible exact value_All.mono _ _ _ _ _ _ _ _)
    | (with_reducible exact value_Full.mono _ _ _ _ _ _ _)
    | (with_reducible exact value_Most.mono _ _ _ _ _ _ _)
    | (with_reducible exact value_Of.mono _ _ _ _ _ _ _ _ _)
    | (with_reducible exact LeO.refl _)
    | (with_reducible exact LeO.none _)
    | (with_reducible refine LeO.ite ?_ ?_)
    | (with_reducible refine LeO.bind ?_ (fun _ => ?_))
    | exact ih0 _ _ _ _ _ _ _ _
    | exact ih1 _ _ _ _ _ _ _ _
    | exact ih2 _ _ _ _ _ _ _ _ _
    | exact backhaullaw21_Few.mono _ _
    | exact backhaulref02_SameInts.mono _ _ _
    | exact backhaulref22_All.mono _ _ _ _ _ _ _ _
    | exact backhaulref22_Full.mono _ _ _ _ _ _ _
    | exact backhaulref22_Most.mono _ _ _ _ _ _ _
    | exact backhaulref22_Of.mono _ _ _ _ _ _ _ _ _
    | exact value_All.mono _ _ _ _ _ _ _ _
    | exact value_Full.mono _ _ _ _ _ _ _
    | exact value_Most.mono _ _ _ _ _ _ _
    | exact value_Of.mono _ _ _ _ _ _ _ _ _
    | exact LeO.none _
    | refine LeO.ite ?_ ?_
    | refine LeO.bind ?_ (fun _ => ?_)
theorem backhaullaw22_ValueTells.mono : ∀ a0 a1 a2 a3 a4 a5 a6 k, LeO (backhaullaw22_ValueTells.f k a0 a1 a2 a3 a4 a5 a6) (backhaullaw22_ValueTells.f (k + 1) a0 a1 a2 a3 a4 a5 a6) := by
  intro a0 a1 a2 a3 a4 a5 a6 k
  obtain ⟨ih0, ih1, ih2⟩ := backhaullaw22_ValueTells.mono_l k
  unfold backhaullaw22_ValueTells.f
  repeat' first
      | (with_reducible exact ih0 _ _ _ _ _ _ _ _)
      | (with_reducible exact ih1 _ _ _ _ _ _ _ _)
      | (with_reducible exact ih2 _ _ _ _ _ _ _ _ _)
      | (with_reducible exact backhaullaw21_Few.mono _ _)
      | (with_reducible exact backhaulref02_SameInts.mono _ _ _)
      | (with_reducible exact backhaulref22_All.mono _ _ _ _ _ _ _ _)
      | (with_reducible exact backhaulref22_Full.mono _ _ _ _ _ _ _)
      | (with_reducible exact backhaulref22_Most.mono _ _ _ _ _ _ _)
      | (with_reducible exact backhaulref22_Of.mono _ _ _ _ _ _ _ _ _)
      | (with_reducible exact value_All.mono _ _ _ _ _ _ _ _)
      | (with_reducible exact value_Full.mono _ _ _ _ _ _ _)
      | (with_reducible exact value_Most.mono _ _ _ _ _ _ _)
      | (with_reducible exact value_Of.mono _ _ _ _ _ _ _ _ _)
      | (with_reducible exact LeO.refl _)
      | (with_reducible exact LeO.none _)
      | (with_reducible refine LeO.ite ?_ ?_)
      | (with_reducible refine LeO.bind ?_ (fun _ => ?_))
      | exact ih0 _ _ _ _ _ _ _ _
      | exact ih1 _ _ _ _ _ _ _ _
      | exact ih2 _ _ _ _ _ _ _ _ _
      | exact backhaullaw21_Few.mono _ _
      | exact backhaulref02_SameInts.mono _ _ _
      | exact backhaulref22_All.mono _ _ _ _ _ _ _ _
      | exact backhaulref22_Full.mono _ _ _ _ _ _ _
      | exact backhaulref22_Most.mono _ _ _ _ _ _ _
      | exact backhaulref22_Of.mono _ _ _ _ _ _ _ _ _
      | exact value_All.mono _ _ _ _ _ _ _ _
      | exact value_Full.mono _ _ _ _ _ _ _
      | exact value_Most.mono _ _ _ _ _ _ _
      | exact value_Of.mono _ _ _ _ _ _ _ _ _
      | exact LeO.none _
      | refine LeO.ite ?_ ?_
      | refine LeO.bind ?_ (fun _ => ?_)
set_option maxHeartbeats 8000000 in
set_option maxRecDepth 100000 in
theorem backhaullaw22_ValueTells.calls (k : Nat) (a0_0 : Int) (a0_1 : Int) (a0_2 : Int) (a0_3 : Int) (P0_4_ : Nat → Prop) (A0_4 : Option Addr) (c0_4 : Nat) (l0_4 : List ByteArray) (A1 : Option Addr) (c1 : Nat) (l1 : List Int) (A2 : Option Addr) (c2 : Nat) (l2 : List Int) (w : World) (hs0_4 : Kd.V Kd.string 9 w w.heap.size (fun k_ => P0_4_ k_) (.slice A0_4 l0_4.length c0_4) l0_4) (hr1 : Kd.C (Kd.int .i64) w A1 l1.length l1) (hc1 : l1.length ≤ c1) (hr2 : Kd.C (Kd.int .i64) w A2 l2.length l2) (hc2 : l2.length ≤ c2) (h : backhaullaw22_ValueTells.f k a0_0 a0_1 a0_2 a0_3 l0_4 l1 l2 = some true) :
    Calls Try.prog 17 #[.agg #[.int .i64 a0_0, .int .i64 a0_1, .int .i64 a0_2, .int .i64 a0_3, .slice A0_4 l0_4.length c0_4], .slice A1 l1.length c1, .slice A2 l2.length c2] w fun e w' => e = .returned (.bool true) ∧ Below w.heap.size w w' := by
  have hu71 := Try.underlying71
  have HO0_4 := zA (show Kd.V Kd.string 9 w w.heap.size (fun k_ => (P0_4_ k_ ∨ w.heap.size ≤ k_)) (.slice A0_4 l0_4.length c0_4) l0_4 from Kd.V_mono hs0_4 (fun k_ hk => .inl hk))
  have HR1 := zA hr1
  have HC1 := zA hc1
  clear hr1 hc1
  have HR2 := zA hr2
  have HC2 := zA hc2
  clear hr2 hc2
  have HB := zA (Below.refl w.heap.size w)
  have H : ((backhaullaw21_Few.f k (([(⟨a0_0, a0_1, a0_2, a0_3, l0_4⟩ : S71)] : List (S71)))).bind fun t105 => (if t105 = true then (if (l1.length : Int) > 100 then (backhaullaw22_ValueTells.j0 k l1 l2 true a0_0 a0_1 a0_2 a0_3 l0_4) else (backhaullaw22_ValueTells.j0 k l1 l2 (decide ((l2.length : Int) > 100)) a0_0 a0_1 a0_2 a0_3 l0_4)) else (backhaullaw22_ValueTells.j0 k l1 l2 true a0_0 a0_1 a0_2 a0_3 l0_4))) = some true := h
  clear h
  have HC4 := zA H
  clear H
  go_enter Try.func17, Try.ntmps17
  go_upto_region 1 with (first | ((with_reducible refine gate_dst (N := 3) rfl ?_); (try (refine gate_guard (by rfl) ?_; dsimp only)); refine box_event qr (N := 3) qr (cs := #[.int .i64 a0_0, .int .i64 a0_1, .int .i64 a0_2, .int .i64 a0_3, .slice A0_4 l0_4.length c0_4]) (t := 71) qg ?_; intro gb101 hg w5 hbox hb; have n0_ := zA (Kd.V_below (Kd.V_elderB (by (with_reducible repeat (first | apply Kd.V_alloc | apply Kd.V_drewN | apply Kd.V_drew)); exact HO0_4.out) gb101 (Nat.le_of_eq hg.symm)) hb); have n1_ := zA (zV qB hb); have n2_ := zA (hbox); have n3_ := zA ((qS : w.heap.size ≤ gb101)); have n4_ := zA ((qS : w.heap.size ≤ gb101)); clear HO0_4 HB; have HO0_4 := n0_; have HB := n1_; have BK101 := n2_; have GW101 := n3_; have GE101 := n4_; clear n0_ n1_ n2_ n3_ n4_ hb hbox hg))
  (try simp only [Act.put, zH, zI, zJ])
  go_cut [40] (fun v40 wc => ∃ (kq : Nat) (x40_3 : Bool), v40 = .bool x40_3 ∧ Aside0 (backhaullaw22_ValueTells.j0 kq l1 l2 x40_3 a0_0 a0_1 a0_2 a0_3 l0_4 = some true) ∧ Aside0 (kq ≤ k) ∧ Aside0 (Kd.V Kd.string 9 wc w.heap.size (fun k_ => (P0_4_ k_ ∨ w.heap.size ≤ k_) ∧ k_ ≠ gb101) (.slice A0_4 l0_4.length c0_4) l0_4) ∧ Aside0 (wc.heap[gb101]? = some (.cells #[.int .i64 a0_0, .int .i64 a0_1, .int .i64 a0_2, .int .i64 a0_3, (.slice A0_4 l0_4.length c0_4)] 71 (0, 0))) ∧ Aside0 (Below w.heap.size w wc))
  case first =>
    have H := HC4.out; clear HC4; obtain ⟨y102, hy102⟩ : ∃ y_ : List (S71), y_ = (([(⟨a0_0, a0_1, a0_2, a0_3, l0_4⟩ : S71)] : List (S71))) := ⟨_, rfl⟩
    replace H : ((backhaullaw21_Few.f k y102).bind fun t105 => (if t105 = true then (if (l1.length : Int) > 100 then (backhaullaw22_ValueTells.j0 k l1 l2 true a0_0 a0_1 a0_2 a0_3 l0_4) else (backhaullaw22_ValueTells.j0 k l1 l2 (decide ((l2.length : Int) > 100)) a0_0 a0_1 a0_2 a0_3 l0_4)) else (backhaullaw22_ValueTells.j0 k l1 l2 true a0_0 a0_1 a0_2 a0_3 l0_4))) = some true := by first | (rw [hy102]; with_reducible exact H) | (have H2_ := (Option.bind_some _ _).symm.trans H; rw [hy102]; with_reducible exact H2_) | (have H2_ := (Option.bind_some _ _).symm.trans H; with_reducible exact H2_) | with_reducible exact H | (rw [hy102]; exact H) | exact H
    have Ny102 := zA hy102; clear hy102; replace H := Option.bind_eq_some_iff.mp H; obtain ⟨t105, A60, H⟩ := H; replace H : (if t105 = true then (if (l1.length : Int) > 100 then (backhaullaw22_ValueTells.j0 k l1 l2 true a0_0 a0_1 a0_2 a0_3 l0_4) else (backhaullaw22_ValueTells.j0 k l1 l2 (decide ((l2.length : Int) > 100)) a0_0 a0_1 a0_2 a0_3 l0_4)) else (backhaullaw22_ValueTells.j0 k l1 l2 true a0_0 a0_1 a0_2 a0_3 l0_4)) = some true := H; have A6 := zA A60; clear A60; by_cases c7 : t105 = true
    · subst c7
      have H1 : (if (l1.length : Int) > 100 then (backhaullaw22_ValueTells.j0 k l1 l2 true a0_0 a0_1 a0_2 a0_3 l0_4) else (backhaullaw22_ValueTells.j0 k l1 l2 (decide ((l2.length : Int) > 100)) a0_0 a0_1 a0_2 a0_3 l0_4)) = some true := by first | (rw [if_pos rfl] at H; exact H) | rfl
      clear H; have H := H1; clear H1; by_cases c8 : (l1.length : Int) > 100
      · rw [if_pos c8] at H
        have c8b0 : decide (100 < (l1.length : Int)) = true := zFq c8; have c8b1 : decide (100 < l1.length) = true := zFq (by omega); clear c8; (first | rw [c8b0] | (simp only [i64_w, i32_w]; rw [c8b0]) | skip)
        have H' := zA H; clear H; obtain ⟨_, _, _, _, _, _, _, _, _, _⟩ := qc5f BK101.out; go_wp2_with (first | ((with_reducible refine gate_dst (N := 28) rfl ?_); (try (refine gate_guard (by rfl) ?_; dsimp only)); refine Kd.N_lit k71 _ 71 ?hg (N' := 28) ?hd (xs := ([(⟨a0_0, a0_1, a0_2, a0_3, l0_4⟩ : S71)] : List (S71))) (inner := [.int .i64 a0_0, .int .i64 a0_1, .int .i64 a0_2, .int .i64 a0_3, .slice A0_4 l0_4.length c0_4]) (ok := (fun k_ => (P0_4_ k_ ∨ w.heap.size ≤ k_) ∧ k_ ≠ gb101)) (okp := (fun k_ => (P0_4_ k_ ∨ w.heap.size ≤ k_) ∧ k_ ≠ gb101)) ?hr ?hp (fun _ hk => hk) ((show ∀ k_, w5.heap.size ≤ k_ → (fun k_ => (P0_4_ k_ ∨ w.heap.size ≤ k_) ∧ k_ ≠ gb101) k_ from fun k_ hk => ⟨(.inr (Nat.le_trans (zW qB) hk)), Kd.freshB (g := gb101) (o := .cells #[.int .i64 a0_0, .int .i64 a0_1, .int .i64 a0_2, .int .i64 a0_3, .slice A0_4 l0_4.length c0_4] 71 (0, 0)) (qW BK101.out) k_ hk⟩) _ (Nat.le_refl _)) (Below.refl _ _) (Nat.le_refl _) (by simp) ?_; (case hd => rfl); (case hg => rfl); (case hr => first | (go_simp; done) | (go_simp; rfl)); (case hp => exact (Reps.c5 (show Kd.FK k71 _ _ (⟨a0_0, a0_1, a0_2, a0_3, l0_4⟩ : S71) [.int .i64 a0_0, .int .i64 a0_1, .int .i64 a0_2, .int .i64 a0_3, .slice A0_4 l0_4.length c0_4] from (k71_mkF _ _ (⟨a0_0, a0_1, a0_2, a0_3, l0_4⟩ : S71) (Kd.V_reads' (Kd.V_mono (ok' := (fun k_ => (P0_4_ k_ ∨ w.heap.size ≤ k_) ∧ k_ ≠ gb101)) (HO0_4.out) (fun k_ hk => ⟨hk.1, hk.2⟩))).2.1 (Kd.V_F (Kd.V_mono (ok' := (fun k_ => (P0_4_ k_ ∨ w.heap.size ≤ k_) ∧ k_ ≠ gb101)) (HO0_4.out) (fun k_ hk => ⟨hk.1, hk.2⟩))))) (Reps.none _ _))); intro v103 w10 ho11 hb hg_ hnew_; clear hg_ hnew_; (first | rw [← Ny102.out] at ho11 | (simp only [Int.reduceToNat] at ho11; rw [← Ny102.out] at ho11)); have n0_ := zA (Kd.V_elder' (by (with_reducible repeat (first | apply Kd.V_alloc | apply Kd.V_drewN | apply Kd.V_drew)); exact HO0_4.out) (Kd.N_base ho11) hb); have n1_ := zA (Kd.N_lower ho11 (zW qB)); have n2_ := zA (qX BK101.out hb); have n3_ := zA (zV qB hb); clear HO0_4 BK101 HB; have HO0_4 := n0_; have HO104 := n1_; have BK101 := n2_; have HB := n3_; clear n0_ n1_ n2_ n3_ hb ho11; obtain ⟨Ao12, co12, eo12⟩ := Kd.N_slice HO104.out; subst eo12) | ((with_reducible refine zJq (f := 60) rfl ?_); refine goesL_ (some 29) rfl rfl Try.func60 (by kernel_rfl) rfl #[.slice Ao12 y102.length co12] rfl (by (try simp only [zR, zS, zT]); first | done | rfl | (simp only [zP, zQ]; rfl)) ?_; (with_reducible refine (backhaullaw21_Few.calls k _ _ y102 true _ ?side1 ?side2 A6.out).mono ?_); (case side1 => repeat (first | exact (Kd.N_reads' HO104.out).2.2 | (with_reducible refine Kd.C_alloc ?_ _) | (with_reducible refine Kd.C_drewN ?_ _) | (with_reducible refine Kd.C_drew ?_))); (case side2 => exact (Kd.N_reads' HO104.out).2.1); rintro e w' ⟨rfl, ⟨nd, rfl⟩⟩; refine ⟨_, rfl, ?_⟩)); go_meet
        case rel => exact ⟨_, (true), (by first | rfl | (simp; done) | (simp [*]; done)), H', ⟨by first | omega | exact Nat.le_refl _⟩, ⟨by (with_reducible repeat (first | apply Kd.V_alloc | apply Kd.V_drewN | apply Kd.V_drew)); exact Kd.V_mono HO0_4.out (fun _ hk => ⟨hk.1.1, hk.1.2⟩)⟩, ⟨by exact BK101.out⟩, ⟨qB⟩⟩
      rw [if_neg c8] at H; have c8b0 : decide (100 < (l1.length : Int)) = false := zGq c8; have c8b1 : decide (100 < l1.length) = false := zGq (by omega); clear c8; (first | rw [c8b0] | (simp only [i64_w, i32_w]; rw [c8b0]) | skip)
      have H' := zA H; clear H; obtain ⟨_, _, _, _, _, _, _, _, _, _⟩ := qc5f BK101.out; go_wp2_with (first | ((with_reducible refine gate_dst (N := 28) rfl ?_); (try (refine gate_guard (by rfl) ?_; dsimp only)); refine Kd.N_lit k71 _ 71 ?hg (N' := 28) ?hd (xs := ([(⟨a0_0, a0_1, a0_2, a0_3, l0_4⟩ : S71)] : List (S71))) (inner := [.int .i64 a0_0, .int .i64 a0_1, .int .i64 a0_2, .int .i64 a0_3, .slice A0_4 l0_4.length c0_4]) (ok := (fun k_ => (P0_4_ k_ ∨ w.heap.size ≤ k_) ∧ k_ ≠ gb101)) (okp := (fun k_ => (P0_4_ k_ ∨ w.heap.size ≤ k_) ∧ k_ ≠ gb101)) ?hr ?hp (fun _ hk => hk) ((show ∀ k_, w5.heap.size ≤ k_ → (fun k_ => (P0_4_ k_ ∨ w.heap.size ≤ k_) ∧ k_ ≠ gb101) k_ from fun k_ hk => ⟨(.inr (Nat.le_trans (zW qB) hk)), Kd.freshB (g := gb101) (o := .cells #[.int .i64 a0_0, .int .i64 a0_1, .int .i64 a0_2, .int .i64 a0_3, .slice A0_4 l0_4.length c0_4] 71 (0, 0)) (qW BK101.out) k_ hk⟩) _ (Nat.le_refl _)) (Below.refl _ _) (Nat.le_refl _) (by simp) ?_; (case hd => rfl); (case hg => rfl); (case hr => first | (go_simp; done) | (go_simp; rfl)); (case hp => exact (Reps.c5 (show Kd.FK k71 _ _ (⟨a0_0, a0_1, a0_2, a0_3, l0_4⟩ : S71) [.int .i64 a0_0, .int .i64 a0_1, .int .i64 a0_2, .int .i64 a0_3, .slice A0_4 l0_4.length c0_4] from (k71_mkF _ _ (⟨a0_0, a0_1, a0_2, a0_3, l0_4⟩ : S71) (Kd.V_reads' (Kd.V_mono (ok' := (fun k_ => (P0_4_ k_ ∨ w.heap.size ≤ k_) ∧ k_ ≠ gb101)) (HO0_4.out) (fun k_ hk => ⟨hk.1, hk.2⟩))).2.1 (Kd.V_F (Kd.V_mono (ok' := (fun k_ => (P0_4_ k_ ∨ w.heap.size ≤ k_) ∧ k_ ≠ gb101)) (HO0_4.out) (fun k_ hk => ⟨hk.1, hk.2⟩))))) (Reps.none _ _))); intro v103 w14 ho15 hb hg_ hnew_; clear hg_ hnew_; (first | rw [← Ny102.out] at ho15 | (simp only [Int.reduceToNat] at ho15; rw [← Ny102.out] at ho15)); have n0_ := zA (Kd.V_elder' (by (with_reducible repeat (first | apply Kd.V_alloc | apply Kd.V_drewN | apply Kd.V_drew)); exact HO0_4.out) (Kd.N_base ho15) hb); have n1_ := zA (Kd.N_lower ho15 (zW qB)); have n2_ := zA (qX BK101.out hb); have n3_ := zA (zV qB hb); clear HO0_4 BK101 HB; have HO0_4 := n0_; have HO104 := n1_; have BK101 := n2_; have HB := n3_; clear n0_ n1_ n2_ n3_ hb ho15; obtain ⟨Ao16, co16, eo16⟩ := Kd.N_slice HO104.out; subst eo16) | ((with_reducible refine zJq (f := 60) rfl ?_); refine goesL_ (some 29) rfl rfl Try.func60 (by kernel_rfl) rfl #[.slice Ao16 y102.length co16] rfl (by (try simp only [zR, zS, zT]); first | done | rfl | (simp only [zP, zQ]; rfl)) ?_; (with_reducible refine (backhaullaw21_Few.calls k _ _ y102 true _ ?side1 ?side2 A6.out).mono ?_); (case side1 => repeat (first | exact (Kd.N_reads' HO104.out).2.2 | (with_reducible refine Kd.C_alloc ?_ _) | (with_reducible refine Kd.C_drewN ?_ _) | (with_reducible refine Kd.C_drew ?_))); (case side2 => exact (Kd.N_reads' HO104.out).2.1); rintro e w' ⟨rfl, ⟨nd, rfl⟩⟩; refine ⟨_, rfl, ?_⟩)); go_meet
      case rel => exact ⟨_, (decide ((l2.length : Int) > 100)), (by first | rfl | (simp; done) | (simp [*]; done)), H', ⟨by first | omega | exact Nat.le_refl _⟩, ⟨by (with_reducible repeat (first | apply Kd.V_alloc | apply Kd.V_drewN | apply Kd.V_drew)); exact Kd.V_mono HO0_4.out (fun _ hk => ⟨hk.1.1, hk.1.2⟩)⟩, ⟨by exact BK101.out⟩, ⟨qB⟩⟩
    replace c7 := Bool.eq_false_iff.mpr c7; subst c7; have H1 : (backhaullaw22_ValueTells.j0 k l1 l2 true a0_0 a0_1 a0_2 a0_3 l0_4) = some true := by first | (rw [if_neg (show ¬ (false = true) by decide)] at H; exact H) | rfl
    clear H; have H := H1; clear H1; have H' := zA H; clear H; obtain ⟨_, _, _, _, _, _, _, _, _, _⟩ := qc5f BK101.out; go_wp2_with (first | ((with_reducible refine gate_dst (N := 28) rfl ?_); (try (refine gate_guard (by rfl) ?_; dsimp only)); refine Kd.N_lit k71 _ 71 ?hg (N' := 28) ?hd (xs := ([(⟨a0_0, a0_1, a0_2, a0_3, l0_4⟩ : S71)] : List (S71))) (inner := [.int .i64 a0_0, .int .i64 a0_1, .int .i64 a0_2, .int .i64 a0_3, .slice A0_4 l0_4.length c0_4]) (ok := (fun k_ => (P0_4_ k_ ∨ w.heap.size ≤ k_) ∧ k_ ≠ gb101)) (okp := (fun k_ => (P0_4_ k_ ∨ w.heap.size ≤ k_) ∧ k_ ≠ gb101)) ?hr ?hp (fun _ hk => hk) ((show ∀ k_, w5.heap.size ≤ k_ → (fun k_ => (P0_4_ k_ ∨ w.heap.size ≤ k_) ∧ k_ ≠ gb101) k_ from fun k_ hk => ⟨(.inr (Nat.le_trans (zW qB) hk)), Kd.freshB (g := gb101) (o := .cells #[.int .i64 a0_0, .int .i64 a0_1, .int .i64 a0_2, .int .i64 a0_3, .slice A0_4 l0_4.length c0_4] 71 (0, 0)) (qW BK101.out) k_ hk⟩) _ (Nat.le_refl _)) (Below.refl _ _) (Nat.le_refl _) (by simp) ?_; (case hd => rfl); (case hg => rfl); (case hr => first | (go_simp; done) | (go_simp; rfl)); (case hp => exact (Reps.c5 (show Kd.FK k71 _ _ (⟨a0_0, a0_1, a0_2, a0_3, l0_4⟩ : S71) [.int .i64 a0_0, .int .i64 a0_1, .int .i64 a0_2, .int .i64 a0_3, .slice A0_4 l0_4.length c0_4] from (k71_mkF _ _ (⟨a0_0, a0_1, a0_2, a0_3, l0_4⟩ : S71) (Kd.V_reads' (Kd.V_mono (ok' := (fun k_ => (P0_4_ k_ ∨ w.heap.size ≤ k_) ∧ k_ ≠ gb101)) (HO0_4.out) (fun k_ hk => ⟨hk.1, hk.2⟩))).2.1 (Kd.V_F (Kd.V_mono (ok' := (fun k_ => (P0_4_ k_ ∨ w.heap.size ≤ k_) ∧ k_ ≠ gb101)) (HO0_4.out) (fun k_ hk => ⟨hk.1, hk.2⟩))))) (Reps.none _ _))); intro v103 w18 ho19 hb hg_ hnew_; clear hg_ hnew_; (first | rw [← Ny102.out] at ho19 | (simp only [Int.reduceToNat] at ho19; rw [← Ny102.out] at ho19)); have n0_ := zA (Kd.V_elder' (by (with_reducible repeat (first | apply Kd.V_alloc | apply Kd.V_drewN | apply Kd.V_drew)); exact HO0_4.out) (Kd.N_base ho19) hb); have n1_ := zA (Kd.N_lower ho19 (zW qB)); have n2_ := zA (qX BK101.out hb); have n3_ := zA (zV qB hb); clear HO0_4 BK101 HB; have HO0_4 := n0_; have HO104 := n1_; have BK101 := n2_; have HB := n3_; clear n0_ n1_ n2_ n3_ hb ho19; obtain ⟨Ao20, co20, eo20⟩ := Kd.N_slice HO104.out; subst eo20) | ((with_reducible refine zJq (f := 60) rfl ?_); refine goesL_ (some 29) rfl rfl Try.func60 (by kernel_rfl) rfl #[.slice Ao20 y102.length co20] rfl (by (try simp only [zR, zS, zT]); first | done | rfl | (simp only [zP, zQ]; rfl)) ?_; (with_reducible refine (backhaullaw21_Few.calls k _ _ y102 false _ ?side1 ?side2 A6.out).mono ?_); (case side1 => repeat (first | exact (Kd.N_reads' HO104.out).2.2 | (with_reducible refine Kd.C_alloc ?_ _) | (with_reducible refine Kd.C_drewN ?_ _) | (with_reducible refine Kd.C_drew ?_))); (case side2 => exact (Kd.N_reads' HO104.out).2.1); rintro e w' ⟨rfl, ⟨nd, rfl⟩⟩; refine ⟨_, rfl, ?_⟩)); go_meet
    case rel => exact ⟨_, (true), (by first | rfl | (simp; done) | (simp [*]; done)), H', ⟨by first | omega | exact Nat.le_refl _⟩, ⟨by (with_reducible repeat (first | apply Kd.V_alloc | apply Kd.V_drewN | apply Kd.V_drew)); exact Kd.V_mono HO0_4.out (fun _ hk => ⟨hk.1.1, hk.1.2⟩)⟩, ⟨by exact BK101.out⟩, ⟨qB⟩⟩
  case rest =>
    clear HC4; try clear c1
    try clear c2
    try clear p2
    try clear c5
    try clear c6
    try clear c7
    try clear c8
    try clear c8b0
    try clear c8b1
    try clear c17
    obtain ⟨kq, x40_3, rfl, HA, HJ3, HO_102004, BK101, HB⟩ := hcut; cases kq with
    | zero => exact absurd HA.out (by simp [backhaullaw22_ValueTells.j0])
    | succ kj3 =>
      have H := HA.out; clear HA; simp only [backhaullaw22_ValueTells.j0] at H; by_cases c21 : x40_3 = true
      · subst c21
        have H1 : ((backhaullaw22_awake.f).bind fun t106 => (if t106 = true then (some true) else (some false))) = some true := by first | (rw [if_pos rfl] at H; exact H) | rfl
        clear H; have H := H1; clear H1; replace H := Option.bind_eq_some_iff.mp H; obtain ⟨t106, A220, H⟩ := H; replace H : (if t106 = true then (some true) else (some false)) = some true := H; have A22 := zA A220; clear A220; by_cases c23 : t106 = true
        · subst c23
          have H1 : (some true) = some true := by first | (rw [if_pos rfl] at H; exact H) | rfl
          clear H; have H := H1; clear H1; clear H; go_wp2_with (first | ((with_reducible refine zJq (f := 73) rfl ?_); refine goesL_ (some 41) rfl rfl Try.func73 (by kernel_rfl) rfl #[] rfl (by (try simp only [zR, zS, zT]); first | done | rfl | (simp only [zP, zQ]; rfl)) ?_; (with_reducible refine (backhaullaw22_awake.calls  true _ A22.out).mono ?_); rintro e w24 ⟨rfl, hb⟩; refine ⟨_, rfl, ?_⟩; have n0_ := zA (Kd.V_below (by (with_reducible repeat (first | apply Kd.V_alloc | apply Kd.V_drewN | apply Kd.V_drew)); exact HO_102004.out) hb); have n1_ := zA (qX BK101.out hb); have n2_ := zA (zV qB hb); clear HO_102004 BK101 HB; have HO_102004 := n0_; have BK101 := n1_; have HB := n2_; clear n0_ n1_ n2_; (try clear hb); (try clear hb2); (try clear hk); (try clear hi))); go_ret; exact ⟨qE, qB⟩
        replace c23 := Bool.eq_false_iff.mpr c23; subst c23; have H1 : (some false) = some true := by first | (rw [if_neg (show ¬ (false = true) by decide)] at H; exact H) | rfl
        clear H; have H := H1; clear H1; exact absurd H (by simp)
      replace c21 := Bool.eq_false_iff.mpr c21; subst c21; have H1 : (backhaullaw22_ValueTells.l0 kj3 l1 l2 (-1) a0_0 a0_1 a0_2 a0_3 l0_4) = some true := by first | (rw [if_neg (show ¬ (false = true) by decide)] at H; exact H) | rfl
      clear H; have H := H1; clear H1; have H' := zA H; clear H; go_wp2; go_loopg [7] kj3 (fun kq v7 w' => ∃ (x7_2 : Int), v7 = .int .i64 x7_2 ∧ Aside0 (backhaullaw22_ValueTells.l0 kq l1 l2 x7_2 a0_0 a0_1 a0_2 a0_3 l0_4 = some true) ∧ Aside0 (kq ≤ kj3) ∧ Aside0 (Kd.V Kd.string 9 w' w.heap.size (fun k_ => (P0_4_ k_ ∨ w.heap.size ≤ k_) ∧ k_ ≠ gb101) (.slice A0_4 l0_4.length c0_4) l0_4) ∧ Aside0 (w'.heap[gb101]? = some (.cells #[.int .i64 a0_0, .int .i64 a0_1, .int .i64 a0_2, .int .i64 a0_3, (.slice A0_4 l0_4.length c0_4)] 71 (0, 0))) ∧ Aside0 (Below w.heap.size w w'))
      case atStart => exact ⟨((-1)), (by first | rfl | (simp; done) | (simp [*]; done)), H', ⟨Nat.le_refl _⟩, ⟨by (with_reducible repeat (first | apply Kd.V_alloc | apply Kd.V_drewN | apply Kd.V_drew)); exact HO_102004.out⟩, ⟨by exact BK101.out⟩, ⟨qB⟩⟩
      case round =>
        clear H'; try clear c1
        try clear c2
        try clear p2
        try clear c5
        try clear c6
        try clear c7
        try clear c8
        try clear c8b0
        try clear c8b1
        try clear c17
        try clear c21
        try clear c23
        try clear p2
        obtain ⟨x7_2, rfl, HA, HK2, HO_102004, BK101, HB⟩ := hrel; cases gk with
        | zero => exact absurd HA.out (by simp [backhaullaw22_ValueTells.l0])
        | succ k2 =>
          have H := HA.out; clear HA; simp only [backhaullaw22_ValueTells.l0] at H; by_cases c25 : x7_2 < (l2.length : Int)
          · rw [if_pos c25] at H
            have c25b0 : decide (x7_2 < (l2.length : Int)) = true := zFq c25; clear c25; have HC26 := zA H; clear H; go_upto_if 50 with (fail)
            go_cut [8] (fun v8 wc => ∃ (kq : Nat) (x8_25 : Int), v8 = .int .i64 x8_25 ∧ Aside0 (backhaullaw22_ValueTells.j2 kq l1 l2 x7_2 x8_25 a0_0 a0_1 a0_2 a0_3 l0_4 = some true) ∧ Aside0 (kq ≤ k2) ∧ Aside0 (Kd.V Kd.string 9 wc w.heap.size (fun k_ => (P0_4_ k_ ∨ w.heap.size ≤ k_) ∧ k_ ≠ gb101) (.slice A0_4 l0_4.length c0_4) l0_4) ∧ Aside0 (wc.heap[gb101]? = some (.cells #[.int .i64 a0_0, .int .i64 a0_1, .int .i64 a0_2, .int .i64 a0_3, (.slice A0_4 l0_4.length c0_4)] 71 (0, 0))) ∧ Aside0 (Below w.heap.size w wc))
            case first =>
              have H := HC26.out; clear HC26; by_cases c27 : x7_2 ≥ 0
              · rw [if_pos c27] at H
                have c27b0 : decide (0 ≤ x7_2) = true := zFq c27; clear c27; (first | rw [c27b0] | (simp only [i64_w, i32_w]; rw [c27b0]) | skip)
                by_cases c28 : 0 ≤ x7_2
                · rw [if_pos c28] at H
                  have c28b0 : decide (0 ≤ x7_2) = true := zFq c28; clear c28; have H' := zA H; clear H; have p107 : 0 ≤ (x7_2 : Int) := of_decide_eq_true qA; have q107 : x7_2 < (l2.length : Int) := of_decide_eq_true qA; obtain ⟨ad107, e107, hx107_0⟩ := Kd.at_int HR2.out x7_2 p107 q107; cases e107
                  replace hx107_0 := (HB.out.cell (zCq w _ hx107_0)).trans hx107_0; replace p107 := eq_true p107; replace q107 := eq_true q107; go_wp2; go_meet
                  case rel => exact ⟨_, (rd l2 x7_2), (by first | rfl | (simp; done) | (simp [*]; done)), H', ⟨by have := HJ3.out; have := HK2.out; first | omega | exact Nat.le_refl _⟩, ⟨by (with_reducible repeat (first | apply Kd.V_alloc | apply Kd.V_drewN | apply Kd.V_drew)); exact HO_102004.out⟩, ⟨by exact BK101.out⟩, ⟨qB⟩⟩
                rw [if_neg c28] at H; exact absurd H (by simp)
              rw [if_neg c27] at H; have c27b0 : decide (0 ≤ x7_2) = false := zGq c27; clear c27; (first | rw [c27b0] | (simp only [i64_w, i32_w]; rw [c27b0]) | skip)
              have H' := zA H; clear H; go_wp2; go_meet
              case rel => exact ⟨_, (x7_2), (by first | rfl | (simp; done) | (simp [*]; done)), H', ⟨by have := HJ3.out; have := HK2.out; first | omega | exact Nat.le_refl _⟩, ⟨by (with_reducible repeat (first | apply Kd.V_alloc | apply Kd.V_drewN | apply Kd.V_drew)); exact HO_102004.out⟩, ⟨by exact BK101.out⟩, ⟨qB⟩⟩
            case rest =>
              clear HC26; try clear c1
              try clear p1
              try clear q1
              try clear hx1
              try clear c2
              try clear p2
              try clear c5
              try clear c6
              try clear c7
              try clear c8
              try clear c8b0
              try clear c8b1
              try clear p10
              try clear q10
              try clear hx10
              try clear c17
              try clear c21
              try clear c23
              try clear c25
              try clear c25b0
              try clear c27
              try clear c27b0
              try clear c28
              try clear c28b0
              try clear hx107_0
              try clear p107
              try clear p2
              try clear q107
              obtain ⟨kq, x8_25, rfl, HA, HJ25, HO_102004, BK101, HB⟩ := hcut; cases kq with
              | zero => exact absurd HA.out (by simp [backhaullaw22_ValueTells.j2])
              | succ kj25 =>
                have H := HA.out; clear HA; simp only [backhaullaw22_ValueTells.j2] at H; replace H := Option.bind_eq_some_iff.mp H; obtain ⟨⟨t108, t109⟩, A290, H⟩ := H; replace H : ((backhaulref22_Full.f kj25 a0_0 a0_1 a0_2 a0_3 l0_4 x7_2).bind fun bt110 => ((value_Of.f kj25 a0_0 a0_1 a0_2 a0_3 l0_4 x7_2 l1 x8_25).bind fun bt112 => ((backhaulref22_Of.f kj25 a0_0 a0_1 a0_2 a0_3 l0_4 x7_2 l1 x8_25).bind fun bt114 => (if t108 = bt110.1 then (if t109 = bt110.2 then (if bt112.1 = bt114.1 then (if bt112.2 = bt114.2 then (backhaullaw22_ValueTells.l0 kj25 l1 l2 (wrap64 (x7_2 + 1)) a0_0 a0_1 a0_2 a0_3 l0_4) else (some false)) else (some false)) else (some false)) else (some false))))) = some true := H; have A29 := zA A290; clear A290; replace H := Option.bind_eq_some_iff.mp H; obtain ⟨⟨t110, t111⟩, A300, H⟩ := H; replace H : ((value_Of.f kj25 a0_0 a0_1 a0_2 a0_3 l0_4 x7_2 l1 x8_25).bind fun bt112 => ((backhaulref22_Of.f kj25 a0_0 a0_1 a0_2 a0_3 l0_4 x7_2 l1 x8_25).bind fun bt114 => (if t108 = t110 then (if t109 = t111 then (if bt112.1 = bt114.1 then (if bt112.2 = bt114.2 then (backhaullaw22_ValueTells.l0 kj25 l1 l2 (wrap64 (x7_2 + 1)) a0_0 a0_1 a0_2 a0_3 l0_4) else (some false)) else (some false)) else (some false)) else (some false)))) = some true := H; have A30 := zA A300; clear A300; replace H := Option.bind_eq_some_iff.mp H; obtain ⟨⟨t112, t113⟩, A310, H⟩ := H; replace H : ((backhaulref22_Of.f kj25 a0_0 a0_1 a0_2 a0_3 l0_4 x7_2 l1 x8_25).bind fun bt114 => (if t108 = t110 then (if t109 = t111 then (if t112 = bt114.1 then (if t113 = bt114.2 then (backhaullaw22_ValueTells.l0 kj25 l1 l2 (wrap64 (x7_2 + 1)) a0_0 a0_1 a0_2 a0_3 l0_4) else (some false)) else (some false)) else (some false)) else (some false))) = some true := H; have A31 := zA A310; clear A310; replace H := Option.bind_eq_some_iff.mp H; obtain ⟨⟨t114, t115⟩, A320, H⟩ := H; replace H : (if t108 = t110 then (if t109 = t111 then (if t112 = t114 then (if t113 = t115 then (backhaullaw22_ValueTells.l0 kj25 l1 l2 (wrap64 (x7_2 + 1)) a0_0 a0_1 a0_2 a0_3 l0_4) else (some false)) else (some false)) else (some false)) else (some false)) = some true := H; have A32 := zA A320; clear A320; by_cases c33 : t108 = t110
                · rw [if_pos c33] at H
                  have c33b0 : (t108 == t110) = true := beq_iff_eq.mpr c33; have c33b1 : (t108 != t110) = false := bne_eq_false_iff_eq.mpr c33; clear c33; by_cases c34 : t109 = t111
                  · rw [if_pos c34] at H
                    have c34b0 : (t109 == t111) = true := beq_iff_eq.mpr c34; have c34b1 : (t109 != t111) = false := bne_eq_false_iff_eq.mpr c34; clear c34; by_cases c35 : t112 = t114
                    · rw [if_pos c35] at H
                      have c35b0 : (t112 == t114) = true := beq_iff_eq.mpr c35; have c35b1 : (t112 != t114) = false := bne_eq_false_iff_eq.mpr c35; clear c35; by_cases c36 : t113 = t115
                      · rw [if_pos c36] at H
                        have c36b0 : (t113 == t115) = true := beq_iff_eq.mpr c36; have c36b1 : (t113 != t115) = false := bne_eq_false_iff_eq.mpr c36; clear c36; have H' := zA H; clear H; obtain ⟨_, _, _, _, _, _, _, _, _, _⟩ := qc5f BK101.out; go_wp2_with (first | ((with_reducible refine zJq (f := 74) rfl ?_); refine goesL_ (some 58) rfl rfl Try.func74 (by kernel_rfl) rfl #[.agg #[.int .i64 a0_0, .int .i64 a0_1, .int .i64 a0_2, .int .i64 a0_3, .slice A0_4 l0_4.length c0_4], .int .i64 x7_2] rfl (by (try simp only [zR, zS, zT]); first | done | rfl | (simp only [zP, zQ]; rfl)) ?_; (with_reducible refine (value_Full.calls kj25 a0_0 a0_1 a0_2 a0_3 _ _ l0_4 x7_2 t108 t109 _ ?side1 ?side2 A29.out).mono ?_); (case side1 => repeat (first | exact (Kd.V_reads' HO_102004.out).2.2 | (with_reducible refine Kd.C_alloc ?_ _) | (with_reducible refine Kd.C_drewN ?_ _) | (with_reducible refine Kd.C_drew ?_))); (case side2 => exact (Kd.V_reads' HO_102004.out).2.1); rintro e w38 ⟨rfl, hb⟩; refine ⟨_, rfl, ?_⟩; have n0_ := zA (Kd.V_below (by (with_reducible repeat (first | apply Kd.V_alloc | apply Kd.V_drewN | apply Kd.V_drew)); exact HO_102004.out) hb); have n1_ := zA (qX BK101.out hb); have n2_ := zA (zV qB hb); clear HO_102004 BK101 HB; have HO_102004 := n0_; have BK101 := n1_; have HB := n2_; clear n0_ n1_ n2_; (try clear hb); (try clear hb2); (try clear hk); (try clear hi); obtain ⟨_, _, _, _, _, _, _, _, _, _⟩ := qc5f BK101.out) | ((with_reducible refine zJq (f := 75) rfl ?_); refine goesL_ (some 64) rfl rfl Try.func75 (by kernel_rfl) rfl #[.agg #[.int .i64 a0_0, .int .i64 a0_1, .int .i64 a0_2, .int .i64 a0_3, .slice A0_4 l0_4.length c0_4], .int .i64 x7_2] rfl (by (try simp only [zR, zS, zT]); first | done | rfl | (simp only [zP, zQ]; rfl)) ?_; (with_reducible refine (backhaulref22_Full.calls kj25 a0_0 a0_1 a0_2 a0_3 _ _ l0_4 x7_2 t110 t111 _ ?side1 ?side2 A30.out).mono ?_); (case side1 => repeat (first | exact (Kd.V_reads' HO_102004.out).2.2 | (with_reducible refine Kd.C_alloc ?_ _) | (with_reducible refine Kd.C_drewN ?_ _) | (with_reducible refine Kd.C_drew ?_))); (case side2 => exact (Kd.V_reads' HO_102004.out).2.1); rintro e w40 ⟨rfl, hb⟩; refine ⟨_, rfl, ?_⟩; have n0_ := zA (Kd.V_below (by (with_reducible repeat (first | apply Kd.V_alloc | apply Kd.V_drewN | apply Kd.V_drew)); exact HO_102004.out) hb); have n1_ := zA (qX BK101.out hb); have n2_ := zA (zV qB hb); clear HO_102004 BK101 HB; have HO_102004 := n0_; have BK101 := n1_; have HB := n2_; clear n0_ n1_ n2_; (try clear hb); (try clear hb2); (try clear hk); (try clear hi); obtain ⟨_, _, _, _, _, _, _, _, _, _⟩ := qc5f BK101.out) | ((with_reducible refine zJq (f := 76) rfl ?_); refine goesL_ (some 72) rfl rfl Try.func76 (by kernel_rfl) rfl #[.agg #[.int .i64 a0_0, .int .i64 a0_1, .int .i64 a0_2, .int .i64 a0_3, .slice A0_4 l0_4.length c0_4], .int .i64 x7_2, .slice A1 l1.length c1, .int .i64 x8_25] rfl (by (try simp only [zR, zS, zT]); first | done | rfl | (simp only [zP, zQ]; rfl)) ?_; (with_reducible refine (value_Of.calls kj25 a0_0 a0_1 a0_2 a0_3 _ _ l0_4 x7_2 _ _ l1 x8_25 t112 t113 _ ?side1 ?side2 ?side3 ?side4 A31.out).mono ?_); (case side1 => repeat (first | exact (Kd.V_reads' HO_102004.out).2.2 | (with_reducible refine Kd.C_alloc ?_ _) | (with_reducible refine Kd.C_drewN ?_ _) | (with_reducible refine Kd.C_drew ?_))); (case side2 => exact (Kd.V_reads' HO_102004.out).2.1); (case side3 => exact qC (Kd.C_below HR1.out HB.out)); (case side4 => exact HC1.out); rintro e w42 ⟨rfl, hb⟩; refine ⟨_, rfl, ?_⟩; have n0_ := zA (Kd.V_below (by (with_reducible repeat (first | apply Kd.V_alloc | apply Kd.V_drewN | apply Kd.V_drew)); exact HO_102004.out) hb); have n1_ := zA (qX BK101.out hb); have n2_ := zA (zV qB hb); clear HO_102004 BK101 HB; have HO_102004 := n0_; have BK101 := n1_; have HB := n2_; clear n0_ n1_ n2_; (try clear hb); (try clear hb2); (try clear hk); (try clear hi); obtain ⟨_, _, _, _, _, _, _, _, _, _⟩ := qc5f BK101.out) | ((with_reducible refine zJq (f := 77) rfl ?_); refine goesL_ (some 80) rfl rfl Try.func77 (by kernel_rfl) rfl #[.agg #[.int .i64 a0_0, .int .i64 a0_1, .int .i64 a0_2, .int .i64 a0_3, .slice A0_4 l0_4.length c0_4], .int .i64 x7_2, .slice A1 l1.length c1, .int .i64 x8_25] rfl (by (try simp only [zR, zS, zT]); first | done | rfl | (simp only [zP, zQ]; rfl)) ?_; (with_reducible refine (backhaulref22_Of.calls kj25 a0_0 a0_1 a0_2 a0_3 _ _ l0_4 x7_2 _ _ l1 x8_25 t114 t115 _ ?side1 ?side2 ?side3 ?side4 A32.out).mono ?_); (case side1 => repeat (first | exact (Kd.V_reads' HO_102004.out).2.2 | (with_reducible refine Kd.C_alloc ?_ _) | (with_reducible refine Kd.C_drewN ?_ _) | (with_reducible refine Kd.C_drew ?_))); (case side2 => exact (Kd.V_reads' HO_102004.out).2.1); (case side3 => exact qC (Kd.C_below HR1.out HB.out)); (case side4 => exact HC1.out); rintro e w44 ⟨rfl, hb⟩; refine ⟨_, rfl, ?_⟩; have n0_ := zA (Kd.V_below (by (with_reducible repeat (first | apply Kd.V_alloc | apply Kd.V_drewN | apply Kd.V_drew)); exact HO_102004.out) hb); have n1_ := zA (qX BK101.out hb); have n2_ := zA (zV qB hb); clear HO_102004 BK101 HB; have HO_102004 := n0_; have BK101 := n1_; have HB := n2_; clear n0_ n1_ n2_; (try clear hb); (try clear hb2); (try clear hk); (try clear hi)))
                        go_roundg kj25
                        case measure => have := HJ3.out; have := HK2.out; have := HJ25.out; omega
                        case rel => exact ⟨(wrap64 (x7_2 + 1)), (by first | rfl | (simp; done) | (simp [*]; done)), H', ⟨by have := HJ3.out; have := HK2.out; have := HJ25.out; omega⟩, ⟨by (with_reducible repeat (first | apply Kd.V_alloc | apply Kd.V_drewN | apply Kd.V_drew)); exact HO_102004.out⟩, ⟨by exact BK101.out⟩, ⟨qB⟩⟩
                      rw [if_neg c36] at H; have c36b0 : (t113 == t115) = false := beq_eq_false_iff_ne.mpr c36; have c36b1 : (t113 != t115) = true := bne_iff_ne.mpr c36; exact absurd H (by simp)
                    rw [if_neg c35] at H; have c35b0 : (t112 == t114) = false := beq_eq_false_iff_ne.mpr c35; have c35b1 : (t112 != t114) = true := bne_iff_ne.mpr c35; exact absurd H (by simp)
                  rw [if_neg c34] at H; have c34b0 : (t109 == t111) = false := beq_eq_false_iff_ne.mpr c34; have c34b1 : (t109 != t111) = true := bne_iff_ne.mpr c34; exact absurd H (by simp)
                rw [if_neg c33] at H; have c33b0 : (t108 == t110) = false := beq_eq_false_iff_ne.mpr c33; have c33b1 : (t108 != t110) = true := bne_iff_ne.mpr c33; exact absurd H (by simp)
          rw [if_neg c25] at H; have c25b0 : decide (x7_2 < (l2.length : Int)) = false := zGq c25; clear c25; replace H := Option.bind_eq_some_iff.mp H; obtain ⟨⟨t116, t119, t120⟩, A450, H⟩ := H; replace H : ((backhaulref22_All.f k2 a0_0 a0_1 a0_2 a0_3 l0_4 l1 l2).bind fun bt121 => ((value_Most.f k2 a0_0 a0_1 a0_2 a0_3 l0_4 l1).bind fun bt126 => ((backhaulref22_Most.f k2 a0_0 a0_1 a0_2 a0_3 l0_4 l1).bind fun bt128 => ((backhaulref02_SameInts.f k2 t116 bt121.1).bind fun t130 => (if t130 = true then (if t119 = bt121.2.1 then (if t120 = bt121.2.2 then (if bt126.1 = bt128.1 then (if bt126.2 = bt128.2 then ((backhaullaw22_awake.f).bind fun t131 => (if t131 = true then (some true) else (some false))) else (some false)) else (some false)) else (some false)) else (some false)) else (some false)))))) = some true := H; have A45 := zA A450; clear A450; replace H := Option.bind_eq_some_iff.mp H; obtain ⟨⟨t121, t124, t125⟩, A460, H⟩ := H; replace H : ((value_Most.f k2 a0_0 a0_1 a0_2 a0_3 l0_4 l1).bind fun bt126 => ((backhaulref22_Most.f k2 a0_0 a0_1 a0_2 a0_3 l0_4 l1).bind fun bt128 => ((backhaulref02_SameInts.f k2 t116 t121).bind fun t130 => (if t130 = true then (if t119 = t124 then (if t120 = t125 then (if bt126.1 = bt128.1 then (if bt126.2 = bt128.2 then ((backhaullaw22_awake.f).bind fun t131 => (if t131 = true then (some true) else (some false))) else (some false)) else (some false)) else (some false)) else (some false)) else (some false))))) = some true := H; have A46 := zA A460; clear A460; replace H := Option.bind_eq_some_iff.mp H; obtain ⟨⟨t126, t127⟩, A470, H⟩ := H; replace H : ((backhaulref22_Most.f k2 a0_0 a0_1 a0_2 a0_3 l0_4 l1).bind fun bt128 => ((backhaulref02_SameInts.f k2 t116 t121).bind fun t130 => (if t130 = true then (if t119 = t124 then (if t120 = t125 then (if t126 = bt128.1 then (if t127 = bt128.2 then ((backhaullaw22_awake.f).bind fun t131 => (if t131 = true then (some true) else (some false))) else (some false)) else (some false)) else (some false)) else (some false)) else (some false)))) = some true := H; have A47 := zA A470; clear A470; replace H := Option.bind_eq_some_iff.mp H; obtain ⟨⟨t128, t129⟩, A480, H⟩ := H; replace H : ((backhaulref02_SameInts.f k2 t116 t121).bind fun t130 => (if t130 = true then (if t119 = t124 then (if t120 = t125 then (if t126 = t128 then (if t127 = t129 then ((backhaullaw22_awake.f).bind fun t131 => (if t131 = true then (some true) else (some false))) else (some false)) else (some false)) else (some false)) else (some false)) else (some false))) = some true := H; have A48 := zA A480; clear A480; replace H := Option.bind_eq_some_iff.mp H; obtain ⟨t130, A490, H⟩ := H; replace H : (if t130 = true then (if t119 = t124 then (if t120 = t125 then (if t126 = t128 then (if t127 = t129 then ((backhaullaw22_awake.f).bind fun t131 => (if t131 = true then (some true) else (some false))) else (some false)) else (some false)) else (some false)) else (some false)) else (some false)) = some true := H
          have A49 := zA A490; clear A490; by_cases c50 : t130 = true
          · subst c50
            have H1 : (if t119 = t124 then (if t120 = t125 then (if t126 = t128 then (if t127 = t129 then ((backhaullaw22_awake.f).bind fun t131 => (if t131 = true then (some true) else (some false))) else (some false)) else (some false)) else (some false)) else (some false)) = some true := by first | (rw [if_pos rfl] at H; exact H) | rfl
            clear H; have H := H1; clear H1; by_cases c51 : t119 = t124
            · rw [if_pos c51] at H
              have c51b0 : (t119 == t124) = true := beq_iff_eq.mpr c51; have c51b1 : (t119 != t124) = false := bne_eq_false_iff_eq.mpr c51; clear c51; by_cases c52 : t120 = t125
              · rw [if_pos c52] at H
                have c52b0 : (t120 == t125) = true := beq_iff_eq.mpr c52; have c52b1 : (t120 != t125) = false := bne_eq_false_iff_eq.mpr c52; clear c52; by_cases c53 : t126 = t128
                · rw [if_pos c53] at H
                  have c53b0 : (t126 == t128) = true := beq_iff_eq.mpr c53; have c53b1 : (t126 != t128) = false := bne_eq_false_iff_eq.mpr c53; clear c53; by_cases c54 : t127 = t129
                  · rw [if_pos c54] at H
                    have c54b0 : (t127 == t129) = true := beq_iff_eq.mpr c54; have c54b1 : (t127 != t129) = false := bne_eq_false_iff_eq.mpr c54; clear c54; replace H := Option.bind_eq_some_iff.mp H; obtain ⟨t131, A550, H⟩ := H; replace H : (if t131 = true then (some true) else (some false)) = some true := H; have A55 := zA A550; clear A550; by_cases c56 : t131 = true
                    · subst c56
                      have H1 : (some true) = some true := by first | (rw [if_pos rfl] at H; exact H) | rfl
                      clear H; have H := H1; clear H1; clear H; obtain ⟨_, _, _, _, _, _, _, _, _, _⟩ := qc5f BK101.out; go_wp2_with (first | ((with_reducible refine zJq (f := 78) rfl ?_); refine goesL_ (some 105) rfl rfl Try.func78 (by kernel_rfl) rfl #[.agg #[.int .i64 a0_0, .int .i64 a0_1, .int .i64 a0_2, .int .i64 a0_3, .slice A0_4 l0_4.length c0_4], .slice A1 l1.length c1, .slice A2 l2.length c2] rfl (by (try simp only [zR, zS, zT]); first | done | rfl | (simp only [zP, zQ]; rfl)) ?_; (with_reducible refine (value_All.calls k2 a0_0 a0_1 a0_2 a0_3 _ _ l0_4 _ _ l1 _ _ l2 t116 t119 t120 _ ?side1 ?side2 ?side3 ?side4 ?side5 ?side6 A45.out).mono ?_); (case side1 => repeat (first | exact (Kd.V_reads' HO_102004.out).2.2 | (with_reducible refine Kd.C_alloc ?_ _) | (with_reducible refine Kd.C_drewN ?_ _) | (with_reducible refine Kd.C_drew ?_))); (case side2 => exact (Kd.V_reads' HO_102004.out).2.1); (case side3 => exact qC (Kd.C_below HR1.out HB.out)); (case side4 => exact HC1.out); (case side5 => exact qC (Kd.C_below HR2.out HB.out)); (case side6 => exact HC2.out); rintro e w58 ⟨v117, rfl, ho0, hb⟩; refine ⟨_, rfl, ?_⟩; have n0_ := zA (Kd.V_elder' (by (with_reducible repeat (first | apply Kd.V_alloc | apply Kd.V_drewN | apply Kd.V_drew)); exact HO_102004.out) (Kd.R_base ho0) hb); have n1_ := zA (Kd.R_lower (Kd.R_newM (M := fun k_ => (w.heap.size ≤ k_)) ho0 (zW qB) (fun k_ h_ => h_)) (zW qB)); have n2_ := zA (qX BK101.out hb); have n3_ := zA (zV qB hb); clear HO_102004 BK101 HB; have HO_102004 := n0_; have HO118 := n1_; have BK101 := n2_; have HB := n3_; clear n0_ n1_ n2_ n3_; (try clear hb); (try clear hb2); (try clear hk); (try clear hi); (try clear ho0); obtain ⟨_, _, _, _, _, _, _, _, _, _⟩ := qc5f BK101.out) | ((with_reducible refine zJq (f := 79) rfl ?_); refine goesL_ (some 113) rfl rfl Try.func79 (by kernel_rfl) rfl #[.agg #[.int .i64 a0_0, .int .i64 a0_1, .int .i64 a0_2, .int .i64 a0_3, .slice A0_4 l0_4.length c0_4], .slice A1 l1.length c1, .slice A2 l2.length c2] rfl (by (try simp only [zR, zS, zT]); first | done | rfl | (simp only [zP, zQ]; rfl)) ?_; (with_reducible refine (backhaulref22_All.calls k2 a0_0 a0_1 a0_2 a0_3 _ _ l0_4 _ _ l1 _ _ l2 t121 t124 t125 _ ?side1 ?side2 ?side3 ?side4 ?side5 ?side6 A46.out).mono ?_); (case side1 => repeat (first | exact (Kd.V_reads' HO_102004.out).2.2 | (with_reducible refine Kd.C_alloc ?_ _) | (with_reducible refine Kd.C_drewN ?_ _) | (with_reducible refine Kd.C_drew ?_))); (case side2 => exact (Kd.V_reads' HO_102004.out).2.1); (case side3 => exact qC (Kd.C_below HR1.out HB.out)); (case side4 => exact HC1.out); (case side5 => exact qC (Kd.C_below HR2.out HB.out)); (case side6 => exact HC2.out); rintro e w60 ⟨v122, rfl, ho0, hb⟩; refine ⟨_, rfl, ?_⟩; have n0_ := zA (Kd.V_elder' (by (with_reducible repeat (first | apply Kd.V_alloc | apply Kd.V_drewN | apply Kd.V_drew)); exact HO_102004.out) (Kd.R_base ho0) hb); have n1_ := zA (Kd.R_elder' (by (with_reducible repeat (first | apply Kd.R_alloc | apply Kd.R_drewN | apply Kd.R_drew)); exact HO118.out) (Kd.R_base ho0) hb); have n2_ := zA (Kd.R_lower (Kd.R_new' (Kd.R_newM (M := fun k_ => (w.heap.size ≤ k_)) ho0 (zW qB) (fun k_ h_ => h_)) (Kd.R_lt (by (with_reducible repeat (first | apply Kd.R_alloc | apply Kd.R_drewN | apply Kd.R_drew)); exact HO118.out))) (zW qB)); have n3_ := zA (qX BK101.out hb); have n4_ := zA (zV qB hb); clear HO_102004 HO118 BK101 HB; have HO_102004 := n0_; have HO118 := n1_; have HO123 := n2_; have BK101 := n3_; have HB := n4_; clear n0_ n1_ n2_ n3_ n4_; (try clear hb); (try clear hb2); (try clear hk); (try clear hi); (try clear ho0); obtain ⟨_, _, _, _, _, _, _, _, _, _⟩ := qc5f BK101.out) | ((with_reducible refine zJq (f := 80) rfl ?_); refine goesL_ (some 120) rfl rfl Try.func80 (by kernel_rfl) rfl #[.agg #[.int .i64 a0_0, .int .i64 a0_1, .int .i64 a0_2, .int .i64 a0_3, .slice A0_4 l0_4.length c0_4], .slice A1 l1.length c1] rfl (by (try simp only [zR, zS, zT]); first | done | rfl | (simp only [zP, zQ]; rfl)) ?_; (with_reducible refine (value_Most.calls k2 a0_0 a0_1 a0_2 a0_3 _ _ l0_4 _ _ l1 t126 t127 _ ?side1 ?side2 ?side3 ?side4 A47.out).mono ?_); (case side1 => repeat (first | exact (Kd.V_reads' HO_102004.out).2.2 | (with_reducible refine Kd.C_alloc ?_ _) | (with_reducible refine Kd.C_drewN ?_ _) | (with_reducible refine Kd.C_drew ?_))); (case side2 => exact (Kd.V_reads' HO_102004.out).2.1); (case side3 => exact qC (Kd.C_below HR1.out HB.out)); (case side4 => exact HC1.out); rintro e w62 ⟨rfl, hb⟩; refine ⟨_, rfl, ?_⟩; have n0_ := zA (Kd.V_below (by (with_reducible repeat (first | apply Kd.V_alloc | apply Kd.V_drewN | apply Kd.V_drew)); exact HO_102004.out) hb); have n1_ := zA (Kd.R_below (by (with_reducible repeat (first | apply Kd.R_alloc | apply Kd.R_drewN | apply Kd.R_drew)); exact HO118.out) hb); have n2_ := zA (Kd.R_below (by (with_reducible repeat (first | apply Kd.R_alloc | apply Kd.R_drewN | apply Kd.R_drew)); exact HO123.out) hb); have n3_ := zA (qX BK101.out hb); have n4_ := zA (zV qB hb); clear HO_102004 HO118 HO123 BK101 HB; have HO_102004 := n0_; have HO118 := n1_; have HO123 := n2_; have BK101 := n3_; have HB := n4_; clear n0_ n1_ n2_ n3_ n4_; (try clear hb); (try clear hb2); (try clear hk); (try clear hi); obtain ⟨_, _, _, _, _, _, _, _, _, _⟩ := qc5f BK101.out) | ((with_reducible refine zJq (f := 81) rfl ?_); refine goesL_ (some 126) rfl rfl Try.func81 (by kernel_rfl) rfl #[.agg #[.int .i64 a0_0, .int .i64 a0_1, .int .i64 a0_2, .int .i64 a0_3, .slice A0_4 l0_4.length c0_4], .slice A1 l1.length c1] rfl (by (try simp only [zR, zS, zT]); first | done | rfl | (simp only [zP, zQ]; rfl)) ?_; (with_reducible refine (backhaulref22_Most.calls k2 a0_0 a0_1 a0_2 a0_3 _ _ l0_4 _ _ l1 t128 t129 _ ?side1 ?side2 ?side3 ?side4 A48.out).mono ?_); (case side1 => repeat (first | exact (Kd.V_reads' HO_102004.out).2.2 | (with_reducible refine Kd.C_alloc ?_ _) | (with_reducible refine Kd.C_drewN ?_ _) | (with_reducible refine Kd.C_drew ?_))); (case side2 => exact (Kd.V_reads' HO_102004.out).2.1); (case side3 => exact qC (Kd.C_below HR1.out HB.out)); (case side4 => exact HC1.out); rintro e w64 ⟨rfl, hb⟩; refine ⟨_, rfl, ?_⟩; have n0_ := zA (Kd.V_below (by (with_reducible repeat (first | apply Kd.V_alloc | apply Kd.V_drewN | apply Kd.V_drew)); exact HO_102004.out) hb); have n1_ := zA (Kd.R_below (by (with_reducible repeat (first | apply Kd.R_alloc | apply Kd.R_drewN | apply Kd.R_drew)); exact HO118.out) hb); have n2_ := zA (Kd.R_below (by (with_reducible repeat (first | apply Kd.R_alloc | apply Kd.R_drewN | apply Kd.R_drew)); exact HO123.out) hb); have n3_ := zA (qX BK101.out hb); have n4_ := zA (zV qB hb); clear HO_102004 HO118 HO123 BK101 HB; have HO_102004 := n0_; have HO118 := n1_; have HO123 := n2_; have BK101 := n3_; have HB := n4_; clear n0_ n1_ n2_ n3_ n4_; (try clear hb); (try clear hb2); (try clear hk); (try clear hi); obtain ⟨Ao65, co65, eo65⟩ := Kd.R_slice HO118.out; subst eo65; obtain ⟨Ao66, co66, eo66⟩ := Kd.R_slice HO123.out; subst eo66) | ((with_reducible refine zJq (f := 59) rfl ?_); refine goesL_ (some 131) rfl rfl Try.func59 (by kernel_rfl) rfl #[.slice Ao65 t116.length co65, .slice Ao66 t121.length co66] rfl (by (try simp only [zR, zS, zT]); first | done | rfl | (simp only [zP, zQ]; rfl)) ?_; (with_reducible refine (backhaulref02_SameInts.calls k2 _ _ t116 _ _ t121 true _ ?side1 ?side2 ?side3 ?side4 A49.out).mono ?_); (case side1 => repeat (first | exact (Kd.R_reads' HO118.out).2.2 | (with_reducible refine Kd.C_alloc ?_ _) | (with_reducible refine Kd.C_drewN ?_ _) | (with_reducible refine Kd.C_drew ?_))); (case side2 => exact (Kd.R_reads' HO118.out).2.1); (case side3 => repeat (first | exact (Kd.R_reads' HO123.out).2.2 | (with_reducible refine Kd.C_alloc ?_ _) | (with_reducible refine Kd.C_drewN ?_ _) | (with_reducible refine Kd.C_drew ?_))); (case side4 => exact (Kd.R_reads' HO123.out).2.1); rintro e w' ⟨rfl, ⟨nd, rfl⟩⟩; refine ⟨_, rfl, ?_⟩) | (go_at_call 73; (with_reducible refine (backhaullaw22_awake.calls  true _ A55.out).mono ?_); rintro e w67 ⟨rfl, hb⟩; have n0_ := zA (Kd.V_below (by (with_reducible repeat (first | apply Kd.V_alloc | apply Kd.V_drewN | apply Kd.V_drew)); exact HO_102004.out) hb); have n1_ := zA (Kd.R_below (by (with_reducible repeat (first | apply Kd.R_alloc | apply Kd.R_drewN | apply Kd.R_drew)); exact HO118.out) hb); have n2_ := zA (Kd.R_below (by (with_reducible repeat (first | apply Kd.R_alloc | apply Kd.R_drewN | apply Kd.R_drew)); exact HO123.out) hb); have n3_ := zA (qX BK101.out hb); have n4_ := zA (zV qB hb); clear HO_102004 HO118 HO123 BK101 HB; have HO_102004 := n0_; have HO118 := n1_; have HO123 := n2_; have BK101 := n3_; have HB := n4_; clear n0_ n1_ n2_ n3_ n4_; (try clear hb); (try clear hb2); (try clear hk); (try clear hi)))
                      go_ret; exact ⟨qE, qB⟩
                    replace c56 := Bool.eq_false_iff.mpr c56; subst c56; have H1 : (some false) = some true := by first | (rw [if_neg (show ¬ (false = true) by decide)] at H; exact H) | rfl
                    clear H; have H := H1; clear H1; exact absurd H (by simp)
                  rw [if_neg c54] at H; have c54b0 : (t127 == t129) = false := beq_eq_false_iff_ne.mpr c54; have c54b1 : (t127 != t129) = true := bne_iff_ne.mpr c54; exact absurd H (by simp)
                rw [if_neg c53] at H; have c53b0 : (t126 == t128) = false := beq_eq_false_iff_ne.mpr c53; have c53b1 : (t126 != t128) = true := bne_iff_ne.mpr c53; exact absurd H (by simp)
              rw [if_neg c52] at H; have c52b0 : (t120 == t125) = false := beq_eq_false_iff_ne.mpr c52; have c52b1 : (t120 != t125) = true := bne_iff_ne.mpr c52; exact absurd H (by simp)
            rw [if_neg c51] at H; have c51b0 : (t119 == t124) = false := beq_eq_false_iff_ne.mpr c51; have c51b1 : (t119 != t124) = true := bne_iff_ne.mpr c51; exact absurd H (by simp)
          replace c50 := Bool.eq_false_iff.mpr c50; subst c50; have H1 : (some false) = some true := by first | (rw [if_neg (show ¬ (false = true) by decide)] at H; exact H) | rfl
          clear H; have H := H1; clear H1; exact absurd H (by simp)
def backhaullaw22_ValueTells.Pure : Prop := ∀ (a0_0 : Int) (a0_1 : Int) (a0_2 : Int) (a0_3 : Int) (l0_4 : List ByteArray) (l1 : List Int) (l2 : List Int), (Lit.int .i64 a0_0).wf = true → (Lit.int .i64 a0_1).wf = true → (Lit.int .i64 a0_2).wf = true → (Lit.int .i64 a0_3).wf = true → (l0_4.length ≤ maxLen ∧ ∀ x ∈ l0_4, x.size ≤ maxLen) → (l1.length ≤ maxLen ∧ ∀ x ∈ l1, (Lit.int .i64 x).wf = true) → (l2.length ≤ maxLen ∧ ∀ x ∈ l2, (Lit.int .i64 x).wf = true) → ∃ k, backhaullaw22_ValueTells.f k a0_0 a0_1 a0_2 a0_3 l0_4 l1 l2 = some true
end Go.Proofs.Ytefhljhpcpajgaa.F
set_option linter.unusedVariables false
namespace Go.Proofs.Ytefhljhpcpajgaa.Q
open Go.RowKit
def sumI (l : List Int) : Int := l.foldr (· + ·) 0
theorem sumI_cons (a : Int) (l : List Int) : sumI (a :: l) = a + sumI l := rfl
theorem sumI_append (a b : List Int) : sumI (a ++ b) = sumI a + sumI b := by
  induction a with
  | nil => simp [sumI]
  | cons x a ih => rw [List.cons_append, sumI_cons, sumI_cons, ih]; omega
theorem sumI_mul (l : List Int) (c : Int) : sumI (l.map (fun x => c * x)) = c * sumI l := by
  induction l with
  | nil => simp [sumI]
  | cons x l ih => rw [List.map_cons, sumI_cons, sumI_cons, ih, Int.mul_add]
theorem sumI_add {α : Type} (l : List α) (f g : α → Int) : sumI (l.map (fun x => f x + g x)) = sumI (l.map f) + sumI (l.map g) := by
  induction l with
  | nil => simp [sumI]
  | cons x l ih => simp only [List.map_cons, sumI_cons, ih]; omega
theorem sumI_nonneg {l : List Int} (h : ∀ x ∈ l, 0 ≤ x) : 0 ≤ sumI l := by
  induction l with
  | nil => simp [sumI]
  | cons x l ih =>
    have := h x List.mem_cons_self
    have := ih (fun y hy => h y (List.mem_cons_of_mem _ hy))
    rw [sumI_cons]; omega
theorem sumI_mem_le {l : List Int} (h : ∀ x ∈ l, 0 ≤ x) {a : Int} (ha : a ∈ l) : a ≤ sumI l := by
  induction l with
  | nil => cases ha
  | cons x l ih =>
    have h0 := h x List.mem_cons_self
    have h1 := sumI_nonneg (fun y hy => h y (List.mem_cons_of_mem _ hy))
    rw [sumI_cons]
    rcases List.mem_cons.1 ha with rfl | ha
    · omega
    have := ih (fun y hy => h y (List.mem_cons_of_mem _ hy)) ha; omega
theorem countP_sum {α : Type} (p : α → Bool) (l : List α) : ((l.countP p : Nat) : Int) = sumI (l.map (fun x => if p x = true then 1 else 0)) := by
  induction l with
  | nil => simp [sumI]
  | cons x l ih =>
    rw [List.map_cons, sumI_cons, List.countP_cons, ← ih]
    split <;> omega
def prt (t s w : Int) : Int := t * w / s
def rst (t s w : Int) : Int := t * w % s
def leftI (t s : Int) (l : List Int) : Int := t - sumI (l.map (prt t s))
theorem left_mul {t s : Int} {l : List Int} (hs : sumI l = s) : leftI t s l * s = sumI (l.map (rst t s)) := by
  have e : sumI (l.map (fun w => t * w)) = sumI (l.map (fun w => s * prt t s w)) + sumI (l.map (rst t s)) := by
    rw [← sumI_add]
    congr 1
    refine List.map_congr_left fun w _ => ?_
    unfold prt rst
    rw [Int.add_comm]
    exact (Int.emod_add_mul_ediv (t * w) s).symm
  have e2 : sumI (l.map (fun w => s * prt t s w)) = s * sumI (l.map (prt t s)) := by
    rw [← sumI_mul, List.map_map]; rfl
  rw [sumI_mul, hs] at e
  unfold leftI
  rw [Int.sub_mul, e, e2, Int.mul_comm s]
  omega
theorem sum_rests {t s : Int} (hs : 0 < s) (l : List Int) : 0 ≤ sumI (l.map (rst t s)) ∧ sumI (l.map (rst t s)) ≤ ((l.countP (fun w => decide (0 < rst t s w)) : Nat) : Int) * (s - 1) := by
  induction l with
  | nil => simp [sumI]
  | cons w l ih =>
    have h0 : 0 ≤ rst t s w := Int.emod_nonneg _ (by omega)
    have h1 : rst t s w < s := Int.emod_lt_of_pos _ hs
    rw [List.map_cons, sumI_cons, List.countP_cons]
    refine ⟨by omega, ?_⟩
    by_cases h : 0 < rst t s w
    · rw [if_pos (decide_eq_true h), Int.natCast_add, Int.add_mul]
      omega
    rw [if_neg (by simpa using h)]
    simp only [Int.natCast_add, Int.natCast_zero, Int.add_zero]
    omega
theorem left_bound {t s : Int} {l : List Int} (hs : sumI l = s) (h0 : 0 < s) : 0 ≤ leftI t s l ∧ leftI t s l ≤ ((l.countP (fun w => decide (0 < rst t s w)) : Nat) : Int) ∧ (leftI t s l = 0 ∨ leftI t s l < ((l.countP (fun w => decide (0 < rst t s w)) : Nat) : Int)) := by
  have e := left_mul (t := t) hs
  obtain ⟨h1, h2⟩ := sum_rests (t := t) h0 l
  rw [← e] at h1 h2
  have p0 : 0 ≤ leftI t s l := Int.nonneg_of_mul_nonneg_left h1 h0
  have hC0 : (0 : Int) ≤ ((l.countP (fun w => decide (0 < rst t s w)) : Nat) : Int) := Int.natCast_nonneg _
  generalize hL : leftI t s l = L at *
  generalize ((l.countP (fun w => decide (0 < rst t s w)) : Nat) : Int) = C at *
  have p1 : L * s ≤ C * s - C := by rw [Int.mul_sub, Int.mul_one] at h2; exact h2
  have p2 : L = 0 ∨ L < C := by
    apply Classical.byContradiction
    intro hn
    have h3 : 0 < L ∧ C ≤ L := by omega
    have h4 : C * s ≤ L * s := Int.mul_le_mul_of_nonneg_right h3.2 (by omega)
    have h5 : 0 < L * s := Int.mul_pos h3.1 h0
    by_cases hC : 0 < C
    · omega
    have : C * s ≤ 0 := by
      have := Int.mul_le_mul_of_nonneg_right (show C ≤ 0 by omega) (show 0 ≤ s by omega)
      rwa [Int.zero_mul] at this
    have : C * (s - 1) ≤ 0 := by
      have := Int.mul_le_mul_of_nonneg_right (show C ≤ 0 by omega) (show 0 ≤ s - 1 by omega)
      rwa [Int.zero_mul] at this
    omega
  refine ⟨p0, ?_, p2⟩
  rcases p2 with h | h
  · omega
  omega
def wt (l : List Int) (i : Nat) : Int := l.getD i 0
def outAt (t s : Int) (l : List Int) (i : Nat) : Int := prt t s (wt l i) + if (rank (fun j => rst t s (wt l j)) l.length i : Int) < leftI t s l then 1 else 0
def outL (t s : Int) (l : List Int) : List Int := (List.range l.length).map (outAt t s l)
theorem range_map {α : Type} [Inhabited α] (l : List α) (d : α) : (List.range l.length).map (fun i => l.getD i d) = l := by
  apply List.ext_getElem
  · simp
  intro i h1 h2
  simp [List.getD_eq_getElem?_getD, h2]
theorem out_sum {t s : Int} {l : List Int} (hs : sumI l = s) (h0 : 0 < s) : sumI (outL t s l) = t := by
  obtain ⟨b0, b1, _⟩ := left_bound (t := t) hs h0
  have hl : l.countP (fun w => decide (0 < rst t s w)) ≤ l.length := List.countP_le_length
  obtain ⟨L, hL⟩ := Int.eq_ofNat_of_zero_le b0
  have e1 : outL t s l = (List.range l.length).map (fun i => prt t s (wt l i) + if decide (rank (fun j => rst t s (wt l j)) l.length i < L) = true then 1 else 0) := by
    unfold outL outAt
    refine List.map_congr_left fun i _ => ?_
    rw [hL]
    congr 1
    by_cases h : rank (fun j => rst t s (wt l j)) l.length i < L
    · rw [if_pos (by omega), if_pos (by simpa using h)]
    rw [if_neg (by omega), if_neg (by simpa using h)]
  have e2 : sumI ((List.range l.length).map (fun i => prt t s (wt l i))) = sumI (l.map (prt t s)) := by
    have h : (List.range l.length).map (fun i => prt t s (wt l i)) = l.map (prt t s) := by
      have := congrArg (List.map (prt t s)) (range_map l 0)
      rw [List.map_map] at this
      exact this
    rw [h]
  rw [e1, sumI_add, e2, ← countP_sum, rank_count _ _ L (by omega)]
  unfold leftI at hL
  omega
theorem out_bounds {t s : Int} {l : List Int} {i : Nat} : prt t s (wt l i) ≤ outAt t s l i ∧ outAt t s l i ≤ prt t s (wt l i) + 1 := by
  unfold outAt; split <;> omega
end Go.Proofs.Ytefhljhpcpajgaa.Q
set_option linter.unusedVariables false
namespace Go.Proofs.Ytefhljhpcpajgaa.Q
open Go.RowKit Go.Proofs.Ytefhljhpcpajgaa.F Go.Proofs.YtefhljhpcpajgaaW.PrintWords Go.Proofs.YtefhljhpcpajgaaW.PrintLast Go.Proofs.YtefhljhpcpajgaaW.PrintMore
def amt (n : Int) : Prop := -1000000000000 ≤ n ∧ n ≤ 1000000000000
instance (n : Int) : Decidable (amt n) := by unfold amt; infer_instance
def toldS (n : Int) : Int × Int := if amt n then (n, 0) else (0, 8)
def sumS : Int → List Int → Int × Int
  | n, [] => (n, 0)
  | n, x :: xs => if amt x ∧ amt (n + x) then sumS (n + x) xs else (0, 8)
def subS (a b : Int) : Int × Int := if amt a ∧ amt b ∧ amt (a - b) then (a - b, 0) else (0, 8)
theorem in_f (n : Int) : cents_In.f n = some (decide (amt n)) := by
  unfold cents_In.f amt
  by_cases h : n ≥ -1000000000000
  · rw [if_pos h]; congr 1; exact decide_eq_decide.2 ⟨fun a => ⟨h, a⟩, fun a => a.2⟩
  rw [if_neg h]; congr 1; exact (decide_eq_false (fun a => h a.1)).symm
theorem told_f (n : Int) : cents_told.f n = some (toldS n) := by
  unfold cents_told.f toldS
  rw [in_f]
  by_cases h : amt n
  · simp [h]
  simp [h]
theorem cents_Add_l0 {l : List Int} (hl : l.length < 9223372036854775807) (d : Nat) : ∀ (i : Nat) (n : Int), l.length - i = d → i ≤ l.length → amt n →
    Ev (fun k => cents_Add.l0 k n l (l.length : Int) (i : Int)) (sumS n (l.drop i)) := by
  induction d with
  | zero =>
    intro i n hd hi hn
    refine Ev.step (fun k => by simp only [cents_Add.l0]; rfl) ?_
    refine Ev.neg (by omega) (Ev.ok ?_)
    rw [List.drop_eq_nil_of_le (by omega)]; rfl
  | succ d ih =>
    intro i n hd hi hn
    have h : i < l.length := by omega
    refine Ev.step (fun k => by simp only [cents_Add.l0]; rfl) ?_
    refine Ev.pos (by omega) (Ev.pos (by omega) (Ev.pos (by omega) ?_))
    rw [drop_cons h, rd_nat h]
    refine Q.Ev.bindc (in_f _) ?_
    by_cases h1 : amt l[i]
    · refine Ev.pos (decide_eq_true h1) ?_
      have hw : wrap64 (n + l[i]) = n + l[i] := by unfold amt at hn h1; exact wrap_eq (by omega) (by omega)
      rw [hw]
      refine Q.Ev.bindc (in_f _) ?_
      by_cases h2 : amt (n + l[i])
      · refine Ev.pos (decide_eq_true h2) ?_
        simp only [sumS]
        rw [if_pos ⟨h1, h2⟩, wrap_eq (by omega) (by omega)]
        exact ih (i + 1) _ (by omega) (by omega) h2
      refine Ev.neg (by simp [h2]) (Ev.ok ?_)
      simp only [sumS]; rw [if_neg (fun a => h2 a.2)]
    refine Ev.neg (by simp [h1]) (Ev.ok ?_)
    simp only [sumS]; rw [if_neg (fun a => h1 a.1)]
theorem amt0 : amt 0 := by unfold amt; omega
theorem cents_Add_f {l : List Int} (hl : l.length < 9223372036854775807) : Ev (fun k => cents_Add.f k l) (sumS 0 l) := by
  unfold cents_Add.f
  exact cents_Add_l0 hl l.length 0 0 (by omega) (by omega) amt0
theorem sub_f (a b : Int) : cents_Sub.f a b = some (subS a b) := by
  unfold cents_Sub.f subS
  simp only [in_f, Option.bind_some, told_f]
  by_cases h1 : amt a
  · by_cases h2 : amt b
    · rw [wrap_eq (by unfold amt at h1 h2; omega) (by unfold amt at h1 h2; omega)]
      simp [h1, h2, toldS]
      try (split <;> rfl)
    simp [h1, h2]
  simp [h1]
theorem and32 {x : Int} (h0 : 0 ≤ x) (h1 : x < 18446744073709551616) : Go.bits .and .u64 x 4294967295 = x % 4294967296 :=
  Go.bits_mask .u64 64 (by decide) (fun n h0 h1 => u64_eq h0 h1) 32 (by decide) x h0 h1
theorem mul64_f {a b : Int} (ha0 : 0 ≤ a) (ha : a < 18446744073709551616) (hb0 : 0 ≤ b) (hb : b < 18446744073709551616) :
    bits_Mul64.f a b = some (a * b / 18446744073709551616, a * b % 18446744073709551616) := by
  unfold bits_Mul64.f
  rw [and32 ha0 ha, and32 hb0 hb]
  obtain ⟨ah, hah⟩ : ∃ x, x = a / 4294967296 := ⟨_, rfl⟩
  obtain ⟨al, hal⟩ : ∃ x, x = a % 4294967296 := ⟨_, rfl⟩
  obtain ⟨bh, hbh⟩ : ∃ x, x = b / 4294967296 := ⟨_, rfl⟩
  obtain ⟨bl, hbl⟩ : ∃ x, x = b % 4294967296 := ⟨_, rfl⟩
  rw [← hah, ← hal, ← hbh, ← hbl]
  have ea : a = ah * 4294967296 + al := by omega
  have eb : b = bh * 4294967296 + bl := by omega
  have bnd : ∀ x y : Int, 0 ≤ x → x ≤ 4294967295 → 0 ≤ y → y ≤ 4294967295 → 0 ≤ x * y ∧ x * y ≤ 18446744065119617025 := by
    intro x y hx0 hx hy0 hy
    refine ⟨Int.mul_nonneg hx0 hy0, ?_⟩
    have := Int.mul_le_mul hx hy hy0 (by omega)
    omega
  obtain ⟨p, hp⟩ : ∃ x, x = ah * bh := ⟨_, rfl⟩
  obtain ⟨q, hq⟩ : ∃ x, x = ah * bl := ⟨_, rfl⟩
  obtain ⟨r, hr⟩ : ∃ x, x = al * bh := ⟨_, rfl⟩
  obtain ⟨s, hs⟩ : ∃ x, x = al * bl := ⟨_, rfl⟩
  have bp := bnd ah bh (by omega) (by omega) (by omega) (by omega)
  have bq := bnd ah bl (by omega) (by omega) (by omega) (by omega)
  have br := bnd al bh (by omega) (by omega) (by omega) (by omega)
  have bs := bnd al bl (by omega) (by omega) (by omega) (by omega)
  have e : a * b = p * 18446744073709551616 + (q + r) * 4294967296 + s := by
    rw [ea, eb, hp, hq, hr, hs]
    simp only [Int.add_mul, Int.mul_add]
    rw [show ah * 4294967296 * (bh * 4294967296) = ah * bh * 18446744073709551616 by rw [Int.mul_assoc, Int.mul_left_comm 4294967296 bh, Int.mul_assoc ah bh]; rfl, show ah * 4294967296 * bl = ah * bl * 4294967296 by rw [Int.mul_right_comm], show al * (bh * 4294967296) = al * bh * 4294967296 by rw [Int.mul_assoc]]
    omega
  rw [← hp] at bp
  rw [← hq] at bq
  rw [← hr] at br
  rw [← hs] at bs
  rw [← hp, ← hq, ← hr, ← hs, e]
  clear e hp hq hr hs ea eb hah hal hbh hbl
  rw [u64_eq (x := p) (by omega) (by omega), u64_eq (x := q) (by omega) (by omega), u64_eq (x := r) (by omega) (by omega), u64_eq (x := s) (by omega) (by omega)]
  rw [u64_eq (x := q + s / 4294967296) (by omega) (by omega)]
  rw [u64_eq (x := p + (q + s / 4294967296) / 4294967296) (by omega) (by omega)]
  rw [and32 (x := q + s / 4294967296) (by omega) (by omega)]
  rw [u64_eq (x := (q + s / 4294967296) % 4294967296 + r) (by omega) (by omega)]
  rw [u64_eq (x := p + (q + s / 4294967296) / 4294967296 + ((q + s / 4294967296) % 4294967296 + r) / 4294967296) (by omega) (by omega)]
  have hw : IntKind.u64.wrap (p * 18446744073709551616 + (q + r) * 4294967296 + s) = (p * 18446744073709551616 + (q + r) * 4294967296 + s) % 18446744073709551616 := by simp [IntKind.wrap, IntKind.signed, IntKind.bits]
  rw [hw]
  congr 2
  omega
theorem product_f {a b : Int} (ha0 : 0 ≤ a) (ha : a < 18446744073709551616) (hb0 : 0 ≤ b) (hb : b < 18446744073709551616) :
    cents_product.f a b = some (a * b / 18446744073709551616, a * b % 18446744073709551616) := by
  unfold cents_product.f
  rw [mul64_f ha0 ha hb0 hb]
  rfl
theorem above_f {x y : Int} (hx0 : 0 ≤ x) (hy0 : 0 ≤ y) : cents_wide_above.f (x / 18446744073709551616) (x % 18446744073709551616) (y / 18446744073709551616) (y % 18446744073709551616) = some (decide (x > y)) := by
  unfold cents_wide_above.f
  split
  · exact congrArg some (decide_eq_true (by omega)).symm
  split
  · exact congrArg some (decide_eq_decide.2 (by omega))
  exact congrArg some (decide_eq_false (by omega)).symm
end Go.Proofs.Ytefhljhpcpajgaa.Q
