-- merged and pruned by prune.py (the session's own program); its words go back to the kit's print
import Derived.Test.YtakkhomjpflkbaaProg
import Derived.Below
import Derived.Deep.Draws
import Derived.Deep.AppendLies
import Derived.Maps.AppendAt
import Derived.OwnWalk
import Derived.Laws.BytesArg
import Derived.Laws.MakeOwn
import Derived.Laws.OwnMore
import Derived.Deep.OwnRows
import Derived.Tactics
import Derived.Lib.ConvBytes
import Derived.Laws.Slices
import Derived.WalkKit
import Derived.KernelRfl
import Derived.RowKit3
import Derived.Deep.LoopGhost
import Derived.Deep.QuietTactic
import Derived.BigQuiet
import Derived.WideLaws
import Derived.Deep.DeepCutAuto
import Derived.Deep.CutBlock
import Derived.Deep.RegionHeld3
import Derived.Laws.Rows
import Derived.Lib.AppendStr
import Derived.ArgAppend
import Derived.Laws.IdiomCopy
import Derived.OrdersHeld
import Derived.Laws.BitsLemmas
import Derived.RowKit
import Derived.Laws.StructEq
import Derived.Deep.RegionLawGrows
import Derived.Lib.SliceRun
import Derived.Lib.OthersKept
import Derived.Lib.RuneCount
import Derived.Laws.Cover4
import Derived.Outline
import Derived.Shelf.Strings.Builder1
import Derived.Shelf.Strings.BuilderF
import Derived.Shelf.Strings.BuilderK
import Derived.Shelf.Utf8.RuneCount
import Derived.Shelf.Strings.Prefix
import Derived.Maps.Own
import Derived.Maps.OwnOps
import Derived.Maps.Views
import Derived.StringKeys
import Derived.Carry
import Derived.Laws.CopyRow
import Derived.Laws.CopyOwn
import Derived.Deep.Slices
import Derived.ChangeArms
import Derived.WideShapes
import Derived.OpenShut
import Derived.Test.YtakkhomjpflkbaaRows
import Derived.ProofKit
import Derived.ShutString
import Derived.ChangeOld
import Derived.SizedLaws
import Derived.Test.YtakkhomjpflkbaaZRmaBounds4
namespace Go.Proofs.Ytakkhomjpflkbaa.F
open Go.RowKit Go.Proofs.YtakkhomjpflkbaaX Go.Proofs.YtakkhomjpflkbaaW.PrintWords Go.Proofs.YtakkhomjpflkbaaW.PrintLast Go.Proofs.YtakkhomjpflkbaaW.PrintMore
attribute [local go_sem] max2_int min2_int max_two min_two max_three min_three max_four min_four   
attribute [local go_sem high] str_geq str_leq str_gtr
set_option linter.unusedVariables false
set_option linter.unusedSimpArgs false
mutual
def backhaullaw27_RmaBounds.j0 : Nat → Int → Bool → Int → Int → Int → Int → List (S97) → Option (Bool)
  | 0, _, _, _, _, _, _, _ => none
  | k + 1, x1, x17, x102000, x102001, x102002, x102003, x102004 => if x17 = true then ((backhaullaw27_awake.f).bind fun t104 => (if t104 = true then (some true) else (some false))) else ((rma_Holds.f k x102000 x102001 x102002 x102003 x102004 x1).bind fun t105 => (backhaullaw27_RmaBounds.l0 k x1 t105 false 0 x102000 x102001 x102002 x102003 x102004))
def backhaullaw27_RmaBounds.l0 : Nat → Int → Int → Bool → Int → Int → Int → Int → Int → List (S97) → Option (Bool)
  | 0, _, _, _, _, _, _, _, _, _ => none
  | k + 1, x1, x5, x6, x7, x102000, x102001, x102002, x102003, x102004 => if x7 < (x102004.length : Int) then (if 0 ≤ x7 then (if ((rd_T97 x102004 x7).f0) = x1 then (if x5 < ((rd_T97 x102004 x7).f2) then (some false) else (if x5 > ((rd_T97 x102004 x7).f1) then (some false) else (backhaullaw27_RmaBounds.l0 k x1 x5 true (wrap64 (x7 + 1)) x102000 x102001 x102002 x102003 x102004))) else (backhaullaw27_RmaBounds.l0 k x1 x5 x6 (wrap64 (x7 + 1)) x102000 x102001 x102002 x102003 x102004)) else (none)) else ((rma_Take.f k x102000 x102001 x102002 x102003 x102004 x1).bind fun bt106 => (if x6 = true then (if bt106.2.2.2.2.2 = 0 then ((rma_Holds.f k bt106.1 bt106.2.1 bt106.2.2.1 bt106.2.2.2.1 bt106.2.2.2.2.1 x1).bind fun t115 => (if t115 = x5 then ((backhaullaw27_awake.f).bind fun t116 => (if t116 = true then (some true) else (some false))) else (some false))) else ((backhaullaw27_awake.f).bind fun t117 => (if t117 = true then (some true) else (some false)))) else (if x5 = 0 then (if bt106.2.2.2.2.2 = 0 then ((rma_Holds.f k bt106.1 bt106.2.1 bt106.2.2.1 bt106.2.2.2.1 bt106.2.2.2.2.1 x1).bind fun t118 => (if t118 = x5 then ((backhaullaw27_awake.f).bind fun t119 => (if t119 = true then (some true) else (some false))) else (some false))) else ((backhaullaw27_awake.f).bind fun t120 => (if t120 = true then (some true) else (some false)))) else (some false))))
end
def backhaullaw27_RmaBounds.f (k : Nat) (a0_0 : Int) (a0_1 : Int) (a0_2 : Int) (a0_3 : Int) (l0_4 : List (S97)) (a1 : Int) : Option (Bool) := (backhaullaw27_Few.f a0_0 a0_1 a0_2 a0_3 l0_4).bind fun t102 => (if t102 = true then ((rma_Check.f k a0_0 a0_1 a0_2 a0_3 l0_4).bind fun t103 => (backhaullaw27_RmaBounds.j0 k a1 (t103 != 0) a0_0 a0_1 a0_2 a0_3 l0_4)) else (backhaullaw27_RmaBounds.j0 k a1 true a0_0 a0_1 a0_2 a0_3 l0_4))
theorem backhaullaw27_RmaBounds.mono_l : ∀ k, (∀ y0 y1 y2 y3 y4 y5 y6, LeO (backhaullaw27_RmaBounds.j0 k y0 y1 y2 y3 y4 y5 y6) (backhaullaw27_RmaBounds.j0 (k + 1) y0 y1 y2 y3 y4 y5 y6)) ∧ (∀ y0 y1 y2 y3 y4 y5 y6 y7 y8, LeO (backhaullaw27_RmaBounds.l0 k y0 y1 y2 y3 y4 y5 y6 y7 y8) (backhaullaw27_RmaBounds.l0 (k + 1) y0 y1 y2 y3 y4 y5 y6 y7 y8))
  | 0 => ⟨fun _ _ _ _ _ _ _ r h => by simp [backhaullaw27_RmaBounds.j0] at h, fun _ _ _ _ _ _ _ _ _ r h => by simp [backhaullaw27_RmaBounds.l0] at h⟩
  | k + 1 => by
    obtain ⟨ih0, ih1⟩ := backhaullaw27_RmaBounds.mono_l k
    refine ⟨?_, ?_⟩
    · intro y0 y1 y2 y3 y4 y5 y6
      unfold backhaullaw27_RmaBounds.j0
      repeat' first
      | (with_reducible exact ih0 _ _ _ _ _ _ _)
      | (with_reducible exact ih1 _ _ _ _ _ _ _ _ _)
      | (with_reducible exact rma_Check.mono _ _ _ _ _ _)
      | (with_reducible exact rma_Holds.mono _ _ _ _ _ _ _)
      | (with_reducible exact rma_Take.mono _ _ _ _ _ _ _)
      | (with_reducible exact LeO.refl _)
      | (with_reducible exact LeO.none _)
      | (with_reducible refine LeO.ite ?_ ?_)
      | (with_reducible refine LeO.bind ?_ (fun _ => ?_))
      | exact ih0 _ _ _ _ _ _ _
      | exact ih1 _ _ _ _ _ _ _ _ _
      | exact rma_Check.mono _ _ _ _ _ _
      | exact rma_Holds.mono _ _ _ _ _ _ _
      | exact rma_Take.mono _ _ _ _ _ _ _
      | exact LeO.none _
      | refine LeO.ite ?_ ?_
      | refine LeO.bind ?_ (fun _ => ?_)
    intro y0 y1 y2 y3 y4 y5 y6 y7 y8
    unfold backhaullaw27_RmaBounds.l0
    repeat' first
    | (with_reducible exact ih0 _ _ _ _ _ _ _)
    | (with_reducible exact ih1 _ _ _ _ _ _ _ _ _)
    | (with_reducible exact rma_Check.mono _ _ _ _ _ _)
    | (with_reducible exact rma_Holds.mono _ _ _ _ _ _ _)
    | (with_reducible exact rma_Take.mono _ _ _ _ _ _ _)
    | (with_reducible exact LeO.refl _)
    | (with_reducible exact LeO.none _)
    | (with_reducible refine LeO.ite ?_ ?_)
    | (with_reducible refine LeO.bind ?_ (fun _ => ?_))
    | exact ih0 _ _ _ _ _ _ _
    | exact ih1 _ _ _ _ _ _ _ _ _
    | exact rma_Check.mono _ _ _ _ _ _
    | exact rma_Holds.mono _ _ _ _ _ _ _
    | exact rma_Take.mono _ _ _ _ _ _ _
    | exact LeO.none _
    | refine LeO.ite ?_ ?_
    | refine LeO.bind ?_ (fun _ => ?_)
theorem backhaullaw27_RmaBounds.mono : ∀ a0 a1 a2 a3 a4 a5 k, LeO (backhaullaw27_RmaBounds.f k a0 a1 a2 a3 a4 a5) (backhaullaw27_RmaBounds.f (k + 1) a0 a1 a2 a3 a4 a5) := by
  intro a0 a1 a2 a3 a4 a5 k
  obtain ⟨ih0, ih1⟩ := backhaullaw27_RmaBounds.mono_l k
  unfold backhaullaw27_RmaBounds.f
  repeat' first
      | (with_reducible exact ih0 _ _ _ _ _ _ _)
      | (with_reducible exact ih1 _ _ _ _ _ _ _ _ _)
      | (with_reducible exact rma_Check.mono _ _ _ _ _ _)
      | (with_reducible exact rma_Holds.mono _ _ _ _ _ _ _)
      | (with_reducible exact rma_Take.mono _ _ _ _ _ _ _)
      | (with_reducible exact LeO.refl _)
      | (with_reducible exact LeO.none _)
      | (with_reducible refine LeO.ite ?_ ?_)
      | (with_reducible refine LeO.bind ?_ (fun _ => ?_))
      | exact ih0 _ _ _ _ _ _ _
      | exact ih1 _ _ _ _ _ _ _ _ _
      | exact rma_Check.mono _ _ _ _ _ _
      | exact rma_Holds.mono _ _ _ _ _ _ _
      | exact rma_Take.mono _ _ _ _ _ _ _
      | exact LeO.none _
      | refine LeO.ite ?_ ?_
      | refine LeO.bind ?_ (fun _ => ?_)
set_option maxHeartbeats 8000000 in
set_option maxRecDepth 100000 in
theorem backhaullaw27_RmaBounds.calls (k : Nat) (a0_0 : Int) (a0_1 : Int) (a0_2 : Int) (a0_3 : Int) (A0_4 : Option Addr) (c0_4 : Nat) (l0_4 : List (S97)) (a1 : Int) (w : World) (hr0_4 : Kd.C k97 w A0_4 l0_4.length l0_4) (hc0_4 : l0_4.length ≤ c0_4) (h : backhaullaw27_RmaBounds.f k a0_0 a0_1 a0_2 a0_3 l0_4 a1 = some true) :
    Calls Try.prog 11 #[.agg #[.int .i64 a0_0, .int .i64 a0_1, .int .i64 a0_2, .int .i64 a0_3, .slice A0_4 l0_4.length c0_4], .int .i64 a1] w fun e w' => e = .returned (.bool true) ∧ Below w.heap.size w w' := by
  have hu70 := Try.underlying70
  have HR0_4 := zA hr0_4
  have HC0_4 := zA hc0_4
  clear hr0_4 hc0_4
  have HB := zA (Below.refl w.heap.size w)
  have H : ((backhaullaw27_Few.f a0_0 a0_1 a0_2 a0_3 l0_4).bind fun t102 => (if t102 = true then ((rma_Check.f k a0_0 a0_1 a0_2 a0_3 l0_4).bind fun t103 => (backhaullaw27_RmaBounds.j0 k a1 (t103 != 0) a0_0 a0_1 a0_2 a0_3 l0_4)) else (backhaullaw27_RmaBounds.j0 k a1 true a0_0 a0_1 a0_2 a0_3 l0_4))) = some true := h
  clear h
  have HC3 := zA H
  clear H
  go_enter Try.func11, Try.ntmps11
  go_upto_region 1 with (first | ((with_reducible refine gate_dst (N := 2) rfl ?_); refine box_event qr (N := 2) qr (cs := #[.int .i64 a0_0, .int .i64 a0_1, .int .i64 a0_2, .int .i64 a0_3, .slice A0_4 l0_4.length c0_4]) (t := 70) qg ?_; intro gb101 hg w4 hbox hb; have n0_ := zA (zV qB hb); have n1_ := zA (hbox); have n2_ := zA ((qS : w.heap.size ≤ gb101)); have n3_ := zA ((qS : w.heap.size ≤ gb101)); clear HB; have HB := n0_; have BK101 := n1_; have GW101 := n2_; have GE101 := n3_; clear n0_ n1_ n2_ n3_ hb hbox hg))
  (try simp only [Act.put, zH, zI, zJ])
  go_cut [17] (fun v17 wc => ∃ (kq : Nat) (x17_2 : Bool), v17 = .bool x17_2 ∧ Aside0 (backhaullaw27_RmaBounds.j0 kq a1 x17_2 a0_0 a0_1 a0_2 a0_3 l0_4 = some true) ∧ Aside0 (kq ≤ k) ∧ Aside0 (wc.heap[gb101]? = some (.cells #[.int .i64 a0_0, .int .i64 a0_1, .int .i64 a0_2, .int .i64 a0_3, (.slice A0_4 l0_4.length c0_4)] 70 (0, 0))) ∧ Aside0 (Below w.heap.size w wc))
  case first =>
    have H := HC3.out; clear HC3; replace H := Option.bind_eq_some_iff.mp H; obtain ⟨t102, A50, H⟩ := H; replace H : (if t102 = true then ((rma_Check.f k a0_0 a0_1 a0_2 a0_3 l0_4).bind fun t103 => (backhaullaw27_RmaBounds.j0 k a1 (t103 != 0) a0_0 a0_1 a0_2 a0_3 l0_4)) else (backhaullaw27_RmaBounds.j0 k a1 true a0_0 a0_1 a0_2 a0_3 l0_4)) = some true := H; have A5 := zA A50; clear A50; by_cases c6 : t102 = true
    · subst c6
      have H1 : ((rma_Check.f k a0_0 a0_1 a0_2 a0_3 l0_4).bind fun t103 => (backhaullaw27_RmaBounds.j0 k a1 (t103 != 0) a0_0 a0_1 a0_2 a0_3 l0_4)) = some true := by first | (rw [if_pos rfl] at H; exact H) | rfl
      clear H; have H := H1; clear H1; replace H := Option.bind_eq_some_iff.mp H; obtain ⟨t103, A70, H⟩ := H; replace H : (backhaullaw27_RmaBounds.j0 k a1 (t103 != 0) a0_0 a0_1 a0_2 a0_3 l0_4) = some true := H; have A7 := zA A70; clear A70; have H' := zA H; clear H; obtain ⟨_, _, _, _, _, _, _, _, _, _⟩ := qc5f BK101.out; go_wp2_with (first | ((with_reducible refine zJq (f := 47) rfl ?_); refine goesL_ (some 11) rfl rfl Try.func47 (by kernel_rfl) rfl #[.agg #[.int .i64 a0_0, .int .i64 a0_1, .int .i64 a0_2, .int .i64 a0_3, .slice A0_4 l0_4.length c0_4]] rfl (by (try simp only [zR, zS, zT]); first | done | rfl | (simp only [zP, zQ]; rfl)) ?_; (with_reducible refine (backhaullaw27_Few.calls a0_0 a0_1 a0_2 a0_3 _ _ l0_4 true _ ?side1 ?side2 A5.out).mono ?_); (case side1 => exact qC (Kd.C_below HR0_4.out HB.out)); (case side2 => exact HC0_4.out); rintro e w9 ⟨rfl, hb⟩; refine ⟨_, rfl, ?_⟩; have n0_ := zA (qX BK101.out hb); have n1_ := zA (zV qB hb); clear BK101 HB; have BK101 := n0_; have HB := n1_; clear n0_ n1_; (try clear hb); (try clear hb2); (try clear hk); (try clear hi); obtain ⟨_, _, _, _, _, _, _, _, _, _⟩ := qc5f BK101.out) | (go_at_call 52; (with_reducible refine (rma_Check.calls k a0_0 a0_1 a0_2 a0_3 _ _ l0_4 t103 _ ?side1 ?side2 A7.out).mono ?_); (case side1 => exact qC (Kd.C_below HR0_4.out HB.out)); (case side2 => exact HC0_4.out); rintro e w11 ⟨rfl, hb⟩; have n0_ := zA (qX BK101.out hb); have n1_ := zA (zV qB hb); clear BK101 HB; have BK101 := n0_; have HB := n1_; clear n0_ n1_; (try clear hb); (try clear hb2); (try clear hk); (try clear hi))); go_meet
      case rel => exact ⟨_, ((t103 != 0)), (by first | rfl | (simp; done) | (simp [*]; done)), H', ⟨by first | omega | exact Nat.le_refl _⟩, ⟨by exact BK101.out⟩, ⟨qB⟩⟩
    replace c6 := Bool.eq_false_iff.mpr c6; subst c6; have H1 : (backhaullaw27_RmaBounds.j0 k a1 true a0_0 a0_1 a0_2 a0_3 l0_4) = some true := by first | (rw [if_neg (show ¬ (false = true) by decide)] at H; exact H) | rfl
    clear H; have H := H1; clear H1; have H' := zA H; clear H; obtain ⟨_, _, _, _, _, _, _, _, _, _⟩ := qc5f BK101.out; go_wp2_with (first | ((with_reducible refine zJq (f := 47) rfl ?_); refine goesL_ (some 11) rfl rfl Try.func47 (by kernel_rfl) rfl #[.agg #[.int .i64 a0_0, .int .i64 a0_1, .int .i64 a0_2, .int .i64 a0_3, .slice A0_4 l0_4.length c0_4]] rfl (by (try simp only [zR, zS, zT]); first | done | rfl | (simp only [zP, zQ]; rfl)) ?_; (with_reducible refine (backhaullaw27_Few.calls a0_0 a0_1 a0_2 a0_3 _ _ l0_4 false _ ?side1 ?side2 A5.out).mono ?_); (case side1 => exact qC (Kd.C_below HR0_4.out HB.out)); (case side2 => exact HC0_4.out); rintro e w13 ⟨rfl, hb⟩; refine ⟨_, rfl, ?_⟩; have n0_ := zA (qX BK101.out hb); have n1_ := zA (zV qB hb); clear BK101 HB; have BK101 := n0_; have HB := n1_; clear n0_ n1_; (try clear hb); (try clear hb2); (try clear hk); (try clear hi))); go_meet
    case rel => exact ⟨_, (true), (by first | rfl | (simp; done) | (simp [*]; done)), H', ⟨by first | omega | exact Nat.le_refl _⟩, ⟨by exact BK101.out⟩, ⟨qB⟩⟩
  case rest =>
    clear HC3; try clear c1
    try clear p2
    try clear c4
    try clear c6
    try clear c11
    obtain ⟨kq, x17_2, rfl, HA, HJ2, BK101, HB⟩ := hcut; cases kq with
    | zero => exact absurd HA.out (by simp [backhaullaw27_RmaBounds.j0])
    | succ kj2 =>
      have H := HA.out; clear HA; simp only [backhaullaw27_RmaBounds.j0] at H; by_cases c14 : x17_2 = true
      · subst c14
        have H1 : ((backhaullaw27_awake.f).bind fun t104 => (if t104 = true then (some true) else (some false))) = some true := by first | (rw [if_pos rfl] at H; exact H) | rfl
        clear H; have H := H1; clear H1; replace H := Option.bind_eq_some_iff.mp H; obtain ⟨t104, A150, H⟩ := H; replace H : (if t104 = true then (some true) else (some false)) = some true := H; have A15 := zA A150; clear A150; by_cases c16 : t104 = true
        · subst c16
          have H1 : (some true) = some true := by first | (rw [if_pos rfl] at H; exact H) | rfl
          clear H; have H := H1; clear H1; clear H; go_wp2_with (first | ((with_reducible refine zJq (f := 49) rfl ?_); refine goesL_ (some 18) rfl rfl Try.func49 (by kernel_rfl) rfl #[] rfl (by (try simp only [zR, zS, zT]); first | done | rfl | (simp only [zP, zQ]; rfl)) ?_; (with_reducible refine (backhaullaw27_awake.calls  true _ A15.out).mono ?_); rintro e w17 ⟨rfl, hb⟩; refine ⟨_, rfl, ?_⟩; have n0_ := zA (qX BK101.out hb); have n1_ := zA (zV qB hb); clear BK101 HB; have BK101 := n0_; have HB := n1_; clear n0_ n1_; (try clear hb); (try clear hb2); (try clear hk); (try clear hi))); go_ret; exact ⟨qE, qB⟩
        replace c16 := Bool.eq_false_iff.mpr c16; subst c16; have H1 : (some false) = some true := by first | (rw [if_neg (show ¬ (false = true) by decide)] at H; exact H) | rfl
        clear H; have H := H1; clear H1; exact absurd H (by simp)
      replace c14 := Bool.eq_false_iff.mpr c14; subst c14; have H1 : ((rma_Holds.f kj2 a0_0 a0_1 a0_2 a0_3 l0_4 a1).bind fun t105 => (backhaullaw27_RmaBounds.l0 kj2 a1 t105 false 0 a0_0 a0_1 a0_2 a0_3 l0_4)) = some true := by first | (rw [if_neg (show ¬ (false = true) by decide)] at H; exact H) | rfl
      clear H; have H := H1; clear H1; replace H := Option.bind_eq_some_iff.mp H; obtain ⟨t105, A180, H⟩ := H; replace H : (backhaullaw27_RmaBounds.l0 kj2 a1 t105 false 0 a0_0 a0_1 a0_2 a0_3 l0_4) = some true := H; have A18 := zA A180; clear A180; have H' := zA H; clear H; obtain ⟨_, _, _, _, _, _, _, _, _, _⟩ := qc5f BK101.out; go_wp2_with (first | ((with_reducible refine zJq (f := 66) rfl ?_); refine goesL_ (some 21) rfl rfl Try.func66 (by kernel_rfl) rfl #[.agg #[.int .i64 a0_0, .int .i64 a0_1, .int .i64 a0_2, .int .i64 a0_3, .slice A0_4 l0_4.length c0_4], .int .i64 a1] rfl (by (try simp only [zR, zS, zT]); first | done | rfl | (simp only [zP, zQ]; rfl)) ?_; (with_reducible refine (rma_Holds.calls kj2 a0_0 a0_1 a0_2 a0_3 _ _ l0_4 a1 t105 _ ?side1 ?side2 A18.out).mono ?_); (case side1 => exact qC (Kd.C_below HR0_4.out HB.out)); (case side2 => exact HC0_4.out); rintro e w20 ⟨rfl, hb⟩; refine ⟨_, rfl, ?_⟩; have n0_ := zA (qX BK101.out hb); have n1_ := zA (zV qB hb); clear BK101 HB; have BK101 := n0_; have HB := n1_; clear n0_ n1_; (try clear hb); (try clear hb2); (try clear hk); (try clear hi))); go_loopg [6, 7] kj2 (fun kq v6 v7 w' => ∃ (x6_2 : Bool) (x7_2 : Int), v6 = .bool x6_2 ∧ v7 = .int .i64 x7_2 ∧ Aside0 (backhaullaw27_RmaBounds.l0 kq a1 t105 x6_2 x7_2 a0_0 a0_1 a0_2 a0_3 l0_4 = some true) ∧ Aside0 (kq ≤ kj2) ∧ Aside0 (w'.heap[gb101]? = some (.cells #[.int .i64 a0_0, .int .i64 a0_1, .int .i64 a0_2, .int .i64 a0_3, (.slice A0_4 l0_4.length c0_4)] 70 (0, 0))) ∧ Aside0 (Below w.heap.size w w'))
      case atStart => exact ⟨(false), (0), (by first | rfl | (simp; done) | (simp [*]; done)), (by first | rfl | (simp; done) | (simp [*]; done)), H', ⟨Nat.le_refl _⟩, ⟨by exact BK101.out⟩, ⟨qB⟩⟩
      case round =>
        clear H'; try clear c1
        try clear p2
        try clear c4
        try clear c6
        try clear c11
        try clear c14
        try clear c16
        try clear p2
        obtain ⟨x6_2, x7_2, rfl, rfl, HA, HK2, BK101, HB⟩ := hrel; cases gk with
        | zero => exact absurd HA.out (by simp [backhaullaw27_RmaBounds.l0])
        | succ k2 =>
          have H := HA.out; clear HA; simp only [backhaullaw27_RmaBounds.l0] at H; by_cases c21 : x7_2 < (l0_4.length : Int)
          · rw [if_pos c21] at H
            have c21b0 : decide (x7_2 < (l0_4.length : Int)) = true := zFq c21; clear c21; by_cases c22 : 0 ≤ x7_2
            · rw [if_pos c22] at H
              have c22b0 : decide (0 ≤ x7_2) = true := zFq c22; clear c22; by_cases c23 : ((rd_T97 l0_4 x7_2).f0) = a1
              · rw [if_pos c23] at H
                have c23b0 : (((rd_T97 l0_4 x7_2).f0) == a1) = true := beq_iff_eq.mpr c23; have c23b1 : (((rd_T97 l0_4 x7_2).f0) != a1) = false := bne_eq_false_iff_eq.mpr c23; clear c23; by_cases c24 : t105 < ((rd_T97 l0_4 x7_2).f2)
                · rw [if_pos c24] at H
                  have c24b0 : decide (t105 < ((rd_T97 l0_4 x7_2).f2)) = true := zFq c24; clear c24; exact absurd H (by simp)
                rw [if_neg c24] at H; have c24b0 : decide (t105 < ((rd_T97 l0_4 x7_2).f2)) = false := zGq c24; clear c24; by_cases c25 : t105 > ((rd_T97 l0_4 x7_2).f1)
                · rw [if_pos c25] at H
                  have c25b0 : decide (((rd_T97 l0_4 x7_2).f1) < t105) = true := zFq c25; clear c25; exact absurd H (by simp)
                rw [if_neg c25] at H; have c25b0 : decide (((rd_T97 l0_4 x7_2).f1) < t105) = false := zGq c25; clear c25; have H' := zA H; clear H; obtain ⟨_, _, _, _, _, _, _, _, _, _⟩ := qc5f BK101.out; have p121 : 0 ≤ (x7_2 : Int) := of_decide_eq_true qA; have q121 : x7_2 < (l0_4.length : Int) := of_decide_eq_true qA; obtain ⟨ad121, e121, hx121_0, hx121_1, hx121_2⟩ := at_T97 HR0_4.out x7_2 p121 q121; cases e121
                replace hx121_0 := (HB.out.cell (zCq w _ hx121_0)).trans hx121_0; replace hx121_1 := (HB.out.cell (zCq w _ hx121_1)).trans hx121_1; replace hx121_2 := (HB.out.cell (zCq w _ hx121_2)).trans hx121_2; replace p121 := eq_true p121; replace q121 := eq_true q121; have p122 : 0 ≤ (x7_2 : Int) := of_decide_eq_true qA; have q122 : x7_2 < (l0_4.length : Int) := of_decide_eq_true qA; obtain ⟨ad122, e122, hx122_0, hx122_1, hx122_2⟩ := at_T97 HR0_4.out x7_2 p122 q122; obtain rfl : ad121 = ad122 := (by injection e122)
                replace hx122_0 := (HB.out.cell (zCq w _ hx122_0)).trans hx122_0; replace hx122_1 := (HB.out.cell (zCq w _ hx122_1)).trans hx122_1; replace hx122_2 := (HB.out.cell (zCq w _ hx122_2)).trans hx122_2; replace p122 := eq_true p122; replace q122 := eq_true q122; have p123 : 0 ≤ (x7_2 : Int) := of_decide_eq_true qA; have q123 : x7_2 < (l0_4.length : Int) := of_decide_eq_true qA; obtain ⟨ad123, e123, hx123_0, hx123_1, hx123_2⟩ := at_T97 HR0_4.out x7_2 p123 q123; obtain rfl : ad121 = ad123 := (by injection e123)
                replace hx123_0 := (HB.out.cell (zCq w _ hx123_0)).trans hx123_0; replace hx123_1 := (HB.out.cell (zCq w _ hx123_1)).trans hx123_1; replace hx123_2 := (HB.out.cell (zCq w _ hx123_2)).trans hx123_2; replace p123 := eq_true p123; replace q123 := eq_true q123; go_wp2; go_roundg k2
                case measure => have := HJ2.out; have := HK2.out; omega
                case rel => exact ⟨(true), (wrap64 (x7_2 + 1)), (by first | rfl | (simp; done) | (simp [*]; done)), (by first | rfl | (simp; done) | (simp [*]; done)), H', ⟨by have := HJ2.out; have := HK2.out; omega⟩, ⟨by exact BK101.out⟩, ⟨qB⟩⟩
              rw [if_neg c23] at H; have c23b0 : (((rd_T97 l0_4 x7_2).f0) == a1) = false := beq_eq_false_iff_ne.mpr c23; have c23b1 : (((rd_T97 l0_4 x7_2).f0) != a1) = true := bne_iff_ne.mpr c23; have H' := zA H; clear H; obtain ⟨_, _, _, _, _, _, _, _, _, _⟩ := qc5f BK101.out; have p121 : 0 ≤ (x7_2 : Int) := of_decide_eq_true qA; have q121 : x7_2 < (l0_4.length : Int) := of_decide_eq_true qA; obtain ⟨ad121, e121, hx121_0, hx121_1, hx121_2⟩ := at_T97 HR0_4.out x7_2 p121 q121; cases e121
              replace hx121_0 := (HB.out.cell (zCq w _ hx121_0)).trans hx121_0; replace hx121_1 := (HB.out.cell (zCq w _ hx121_1)).trans hx121_1; replace hx121_2 := (HB.out.cell (zCq w _ hx121_2)).trans hx121_2; replace p121 := eq_true p121; replace q121 := eq_true q121; go_wp2; go_roundg k2
              case measure => have := HJ2.out; have := HK2.out; omega
              case rel => exact ⟨(x6_2), (wrap64 (x7_2 + 1)), (by first | rfl | (simp; done) | (simp [*]; done)), (by first | rfl | (simp; done) | (simp [*]; done)), H', ⟨by have := HJ2.out; have := HK2.out; omega⟩, ⟨by exact BK101.out⟩, ⟨qB⟩⟩
            rw [if_neg c22] at H; exact absurd H (by simp)
          rw [if_neg c21] at H; have c21b0 : decide (x7_2 < (l0_4.length : Int)) = false := zGq c21; clear c21; replace H := Option.bind_eq_some_iff.mp H; obtain ⟨⟨t106, t107, t108, t109, t110, t113⟩, A280, H⟩ := H; replace H : (if x6_2 = true then (if t113 = 0 then ((rma_Holds.f k2 t106 t107 t108 t109 t110 a1).bind fun t115 => (if t115 = t105 then ((backhaullaw27_awake.f).bind fun t116 => (if t116 = true then (some true) else (some false))) else (some false))) else ((backhaullaw27_awake.f).bind fun t117 => (if t117 = true then (some true) else (some false)))) else (if t105 = 0 then (if t113 = 0 then ((rma_Holds.f k2 t106 t107 t108 t109 t110 a1).bind fun t118 => (if t118 = t105 then ((backhaullaw27_awake.f).bind fun t119 => (if t119 = true then (some true) else (some false))) else (some false))) else ((backhaullaw27_awake.f).bind fun t120 => (if t120 = true then (some true) else (some false)))) else (some false))) = some true := H; have A28 := zA A280; clear A280; by_cases c29 : x6_2 = true
          · subst c29
            have H1 : (if t113 = 0 then ((rma_Holds.f k2 t106 t107 t108 t109 t110 a1).bind fun t115 => (if t115 = t105 then ((backhaullaw27_awake.f).bind fun t116 => (if t116 = true then (some true) else (some false))) else (some false))) else ((backhaullaw27_awake.f).bind fun t117 => (if t117 = true then (some true) else (some false)))) = some true := by first | (rw [if_pos rfl] at H; exact H) | rfl
            clear H; have H := H1; clear H1; by_cases c30 : t113 = 0
            · rw [if_pos c30] at H
              have c30b0 : (t113 == 0) = true := beq_iff_eq.mpr c30; have c30b1 : (t113 != 0) = false := bne_eq_false_iff_eq.mpr c30; clear c30; replace H := Option.bind_eq_some_iff.mp H; obtain ⟨t115, A310, H⟩ := H; replace H : (if t115 = t105 then ((backhaullaw27_awake.f).bind fun t116 => (if t116 = true then (some true) else (some false))) else (some false)) = some true := H; have A31 := zA A310; clear A310; by_cases c32 : t115 = t105
              · rw [if_pos c32] at H
                have c32b0 : (t115 == t105) = true := beq_iff_eq.mpr c32; have c32b1 : (t115 != t105) = false := bne_eq_false_iff_eq.mpr c32; clear c32; replace H := Option.bind_eq_some_iff.mp H; obtain ⟨t116, A330, H⟩ := H; replace H : (if t116 = true then (some true) else (some false)) = some true := H; have A33 := zA A330; clear A330; by_cases c34 : t116 = true
                · subst c34
                  have H1 : (some true) = some true := by first | (rw [if_pos rfl] at H; exact H) | rfl
                  clear H; have H := H1; clear H1; clear H; obtain ⟨_, _, _, _, _, _, _, _, _, _⟩ := qc5f BK101.out; go_wp2_with (first | ((with_reducible refine zJq (f := 62) rfl ?_); refine goesL_ (some 58) rfl rfl Try.func62 (by kernel_rfl) rfl #[.agg #[.int .i64 a0_0, .int .i64 a0_1, .int .i64 a0_2, .int .i64 a0_3, .slice A0_4 l0_4.length c0_4], .int .i64 a1] rfl (by (try simp only [zR, zS, zT]); first | done | rfl | (simp only [zP, zQ]; rfl)) ?_; (with_reducible refine (rma_Take.calls k2 a0_0 a0_1 a0_2 a0_3 _ _ l0_4 a1 t106 t107 t108 t109 t110 t113 _ ?side1 ?side2 A28.out).mono ?_); (case side1 => exact qC (Kd.C_below HR0_4.out HB.out)); (case side2 => exact HC0_4.out); rintro e w36 ⟨v111, rfl, ho0, hb⟩; refine ⟨_, rfl, ?_⟩; have n0_ := zA (Kd.R_lower ho0 (zW qB)); have n1_ := zA (qX BK101.out hb); have n2_ := zA (zV qB hb); clear BK101 HB; have HO112 := n0_; have BK101 := n1_; have HB := n2_; clear n0_ n1_ n2_; (try clear hb); (try clear hb2); (try clear hk); (try clear hi); (try clear ho0)) | ((with_reducible refine gate_dst (N := 8) rfl ?_); refine box_event qr (N := 8) qr (cs := #[.int .i64 0, .int .i64 0, .int .i64 0, .int .i64 0, .slice none 0 0]) (t := 70) qg ?_; intro gb114 hg w37 hbox hb; have n0_ := zA (Kd.R_below (by (with_reducible repeat (first | apply Kd.R_alloc | apply Kd.R_drewN | apply Kd.R_drew)); exact HO112.out) hb); have n1_ := zA (qX BK101.out hb); have n2_ := zA (zV qB hb); have n3_ := zA (hbox); have n4_ := zA ((qS : w.heap.size ≤ gb114)); have n5_ := zA ((qS : w.heap.size ≤ gb114)); have n6_ := zA ((by rw [hg]; exact zLq (qL BK101.out) : gb101 ≠ gb114)); have n7_ := zA ((by rw [hg]; exact zMq (qL BK101.out) : gb114 ≠ gb101)); clear HO112 BK101 HB; have HO112 := n0_; have BK101 := n1_; have HB := n2_; have BK114 := n3_; have GW114 := n4_; have GE114 := n5_; have NB101_114 := n6_; have NB114_101 := n7_; clear n0_ n1_ n2_ n3_ n4_ n5_ n6_ n7_ hb hbox hg; have hnb38 := NB114_101.out; have hnc38 := NB101_114.out; obtain ⟨_, _, _, _, _, _, _, _, _, _⟩ := qc5f BK114.out; obtain ⟨Ao40, co40, eo40⟩ := Kd.R_slice HO112.out; subst eo40) | (go_at_call 66; (with_reducible refine (rma_Holds.calls k2 t106 t107 t108 t109 _ _ t110 a1 t115 _ ?side1 ?side2 A31.out).mono ?_); (case side1 => refine (Kd.R_reads' (e := 97) (base := w.heap.size) (ok := fun k_ => True) (n := t110.length) (c := co40) ?_).2.2; exact (by (with_reducible repeat (first | apply Kd.R_alloc | apply Kd.R_drewN | apply Kd.R_drew)); exact (Kd.R_mono (Kd.R_far (p := ⟨gb114, 4, none⟩) (Kd.R_far (p := ⟨gb114, 3, none⟩) (Kd.R_far (p := ⟨gb114, 2, none⟩) (Kd.R_far (p := ⟨gb114, 1, none⟩) (Kd.R_far (p := ⟨gb114, 0, none⟩) (Kd.R_types HO112.out BK114.out (by decide)) (fun _ hk => hk.2) (.int .i64 t106)) (fun _ hk => hk.2) (.int .i64 t107)) (fun _ hk => hk.2) (.int .i64 t108)) (fun _ hk => hk.2) (.int .i64 t109)) (fun _ hk => hk.2) (.slice Ao40 t110.length co40)) (fun _ h_ => h_.1)))); (case side2 => exact (Kd.R_reads' HO112.out).2.1); rintro e w41 ⟨rfl, hb⟩; have n0_ := zA (Kd.R_below (by (with_reducible repeat (first | apply Kd.R_alloc | apply Kd.R_drewN | apply Kd.R_drew)); exact (Kd.R_mono (Kd.R_far (p := ⟨gb114, 4, none⟩) (Kd.R_far (p := ⟨gb114, 3, none⟩) (Kd.R_far (p := ⟨gb114, 2, none⟩) (Kd.R_far (p := ⟨gb114, 1, none⟩) (Kd.R_far (p := ⟨gb114, 0, none⟩) (Kd.R_types HO112.out BK114.out (by decide)) (fun _ hk => hk.2) (.int .i64 t106)) (fun _ hk => hk.2) (.int .i64 t107)) (fun _ hk => hk.2) (.int .i64 t108)) (fun _ hk => hk.2) (.int .i64 t109)) (fun _ hk => hk.2) (.slice Ao40 t110.length co40)) (fun _ h_ => h_.1))) hb); have n1_ := zA (qX BK101.out hb); have n2_ := zA (zX (g := gb114) (o := .cells #[.int .i64 t106, .int .i64 t107, .int .i64 t108, .int .i64 t109, .slice Ao40 t110.length co40] 70 (0, 0)) (qV BK114.out) hb); have n3_ := zA (zV qB hb); clear HO112 BK101 BK114 HB; have HO112 := n0_; have BK101 := n1_; have BK114 := n2_; have HB := n3_; clear n0_ n1_ n2_ n3_; (try clear hb); (try clear hb2); (try clear hk); (try clear hi)) | (go_at_call 49; (with_reducible refine (backhaullaw27_awake.calls  true _ A33.out).mono ?_); rintro e w42 ⟨rfl, hb⟩; have n0_ := zA (Kd.R_below (by (with_reducible repeat (first | apply Kd.R_alloc | apply Kd.R_drewN | apply Kd.R_drew)); exact HO112.out) hb); have n1_ := zA (qX BK101.out hb); have n2_ := zA (qX BK114.out hb); have n3_ := zA (zV qB hb); clear HO112 BK101 BK114 HB; have HO112 := n0_; have BK101 := n1_; have BK114 := n2_; have HB := n3_; clear n0_ n1_ n2_ n3_; (try clear hb); (try clear hb2); (try clear hk); (try clear hi)))
                  go_ret; exact ⟨qE, qB⟩
                replace c34 := Bool.eq_false_iff.mpr c34; subst c34; have H1 : (some false) = some true := by first | (rw [if_neg (show ¬ (false = true) by decide)] at H; exact H) | rfl
                clear H; have H := H1; clear H1; exact absurd H (by simp)
              rw [if_neg c32] at H; have c32b0 : (t115 == t105) = false := beq_eq_false_iff_ne.mpr c32; have c32b1 : (t115 != t105) = true := bne_iff_ne.mpr c32; exact absurd H (by simp)
            rw [if_neg c30] at H; have c30b0 : (t113 == 0) = false := beq_eq_false_iff_ne.mpr c30; have c30b1 : (t113 != 0) = true := bne_iff_ne.mpr c30; replace H := Option.bind_eq_some_iff.mp H; obtain ⟨t117, A430, H⟩ := H; replace H : (if t117 = true then (some true) else (some false)) = some true := H; have A43 := zA A430; clear A430; by_cases c44 : t117 = true
            · subst c44
              have H1 : (some true) = some true := by first | (rw [if_pos rfl] at H; exact H) | rfl
              clear H; have H := H1; clear H1; clear H; obtain ⟨_, _, _, _, _, _, _, _, _, _⟩ := qc5f BK101.out; go_wp2_with (first | ((with_reducible refine zJq (f := 62) rfl ?_); refine goesL_ (some 58) rfl rfl Try.func62 (by kernel_rfl) rfl #[.agg #[.int .i64 a0_0, .int .i64 a0_1, .int .i64 a0_2, .int .i64 a0_3, .slice A0_4 l0_4.length c0_4], .int .i64 a1] rfl (by (try simp only [zR, zS, zT]); first | done | rfl | (simp only [zP, zQ]; rfl)) ?_; (with_reducible refine (rma_Take.calls k2 a0_0 a0_1 a0_2 a0_3 _ _ l0_4 a1 t106 t107 t108 t109 t110 t113 _ ?side1 ?side2 A28.out).mono ?_); (case side1 => exact qC (Kd.C_below HR0_4.out HB.out)); (case side2 => exact HC0_4.out); rintro e w46 ⟨v111, rfl, ho0, hb⟩; refine ⟨_, rfl, ?_⟩; have n0_ := zA (Kd.R_lower ho0 (zW qB)); have n1_ := zA (qX BK101.out hb); have n2_ := zA (zV qB hb); clear BK101 HB; have HO112 := n0_; have BK101 := n1_; have HB := n2_; clear n0_ n1_ n2_; (try clear hb); (try clear hb2); (try clear hk); (try clear hi); (try clear ho0)) | ((with_reducible refine gate_dst (N := 8) rfl ?_); refine box_event qr (N := 8) qr (cs := #[.int .i64 0, .int .i64 0, .int .i64 0, .int .i64 0, .slice none 0 0]) (t := 70) qg ?_; intro gb114 hg w47 hbox hb; have n0_ := zA (Kd.R_below (by (with_reducible repeat (first | apply Kd.R_alloc | apply Kd.R_drewN | apply Kd.R_drew)); exact HO112.out) hb); have n1_ := zA (qX BK101.out hb); have n2_ := zA (zV qB hb); have n3_ := zA (hbox); have n4_ := zA ((qS : w.heap.size ≤ gb114)); have n5_ := zA ((qS : w.heap.size ≤ gb114)); have n6_ := zA ((by rw [hg]; exact zLq (qL BK101.out) : gb101 ≠ gb114)); have n7_ := zA ((by rw [hg]; exact zMq (qL BK101.out) : gb114 ≠ gb101)); clear HO112 BK101 HB; have HO112 := n0_; have BK101 := n1_; have HB := n2_; have BK114 := n3_; have GW114 := n4_; have GE114 := n5_; have NB101_114 := n6_; have NB114_101 := n7_; clear n0_ n1_ n2_ n3_ n4_ n5_ n6_ n7_ hb hbox hg; have hnb48 := NB114_101.out; have hnc48 := NB101_114.out; obtain ⟨_, _, _, _, _, _, _, _, _, _⟩ := qc5f BK114.out; obtain ⟨Ao50, co50, eo50⟩ := Kd.R_slice HO112.out; subst eo50) | (go_at_call 49; (with_reducible refine (backhaullaw27_awake.calls  true _ A43.out).mono ?_); rintro e w51 ⟨rfl, hb⟩; have n0_ := zA (Kd.R_below (by (with_reducible repeat (first | apply Kd.R_alloc | apply Kd.R_drewN | apply Kd.R_drew)); exact (Kd.R_mono (Kd.R_far (p := ⟨gb114, 4, none⟩) (Kd.R_far (p := ⟨gb114, 3, none⟩) (Kd.R_far (p := ⟨gb114, 2, none⟩) (Kd.R_far (p := ⟨gb114, 1, none⟩) (Kd.R_far (p := ⟨gb114, 0, none⟩) (Kd.R_types HO112.out BK114.out (by decide)) (fun _ hk => hk.2) (.int .i64 t106)) (fun _ hk => hk.2) (.int .i64 t107)) (fun _ hk => hk.2) (.int .i64 t108)) (fun _ hk => hk.2) (.int .i64 t109)) (fun _ hk => hk.2) (.slice Ao50 t110.length co50)) (fun _ h_ => h_.1))) hb); have n1_ := zA (qX BK101.out hb); have n2_ := zA (zX (g := gb114) (o := .cells #[.int .i64 t106, .int .i64 t107, .int .i64 t108, .int .i64 t109, .slice Ao50 t110.length co50] 70 (0, 0)) (qV BK114.out) hb); have n3_ := zA (zV qB hb); clear HO112 BK101 BK114 HB; have HO112 := n0_; have BK101 := n1_; have BK114 := n2_; have HB := n3_; clear n0_ n1_ n2_ n3_; (try clear hb); (try clear hb2); (try clear hk); (try clear hi)))
              go_ret; exact ⟨qE, qB⟩
            replace c44 := Bool.eq_false_iff.mpr c44; subst c44; have H1 : (some false) = some true := by first | (rw [if_neg (show ¬ (false = true) by decide)] at H; exact H) | rfl
            clear H; have H := H1; clear H1; exact absurd H (by simp)
          replace c29 := Bool.eq_false_iff.mpr c29; subst c29; have H1 : (if t105 = 0 then (if t113 = 0 then ((rma_Holds.f k2 t106 t107 t108 t109 t110 a1).bind fun t118 => (if t118 = t105 then ((backhaullaw27_awake.f).bind fun t119 => (if t119 = true then (some true) else (some false))) else (some false))) else ((backhaullaw27_awake.f).bind fun t120 => (if t120 = true then (some true) else (some false)))) else (some false)) = some true := by first | (rw [if_neg (show ¬ (false = true) by decide)] at H; exact H) | rfl
          clear H; have H := H1; clear H1; by_cases c52 : t105 = 0
          · rw [if_pos c52] at H
            have c52b0 : (t105 == 0) = true := beq_iff_eq.mpr c52; have c52b1 : (t105 != 0) = false := bne_eq_false_iff_eq.mpr c52; clear c52; by_cases c53 : t113 = 0
            · rw [if_pos c53] at H
              have c53b0 : (t113 == 0) = true := beq_iff_eq.mpr c53; have c53b1 : (t113 != 0) = false := bne_eq_false_iff_eq.mpr c53; clear c53; replace H := Option.bind_eq_some_iff.mp H; obtain ⟨t118, A540, H⟩ := H; replace H : (if t118 = t105 then ((backhaullaw27_awake.f).bind fun t119 => (if t119 = true then (some true) else (some false))) else (some false)) = some true := H; have A54 := zA A540; clear A540; by_cases c55 : t118 = t105
              · rw [if_pos c55] at H
                have c55b0 : (t118 == t105) = true := beq_iff_eq.mpr c55; have c55b1 : (t118 != t105) = false := bne_eq_false_iff_eq.mpr c55; clear c55; replace H := Option.bind_eq_some_iff.mp H; obtain ⟨t119, A560, H⟩ := H; replace H : (if t119 = true then (some true) else (some false)) = some true := H; have A56 := zA A560; clear A560; by_cases c57 : t119 = true
                · subst c57
                  have H1 : (some true) = some true := by first | (rw [if_pos rfl] at H; exact H) | rfl
                  clear H; have H := H1; clear H1; clear H; obtain ⟨_, _, _, _, _, _, _, _, _, _⟩ := qc5f BK101.out; go_wp2_with (first | ((with_reducible refine zJq (f := 62) rfl ?_); refine goesL_ (some 58) rfl rfl Try.func62 (by kernel_rfl) rfl #[.agg #[.int .i64 a0_0, .int .i64 a0_1, .int .i64 a0_2, .int .i64 a0_3, .slice A0_4 l0_4.length c0_4], .int .i64 a1] rfl (by (try simp only [zR, zS, zT]); first | done | rfl | (simp only [zP, zQ]; rfl)) ?_; (with_reducible refine (rma_Take.calls k2 a0_0 a0_1 a0_2 a0_3 _ _ l0_4 a1 t106 t107 t108 t109 t110 t113 _ ?side1 ?side2 A28.out).mono ?_); (case side1 => exact qC (Kd.C_below HR0_4.out HB.out)); (case side2 => exact HC0_4.out); rintro e w59 ⟨v111, rfl, ho0, hb⟩; refine ⟨_, rfl, ?_⟩; have n0_ := zA (Kd.R_lower ho0 (zW qB)); have n1_ := zA (qX BK101.out hb); have n2_ := zA (zV qB hb); clear BK101 HB; have HO112 := n0_; have BK101 := n1_; have HB := n2_; clear n0_ n1_ n2_; (try clear hb); (try clear hb2); (try clear hk); (try clear hi); (try clear ho0)) | ((with_reducible refine gate_dst (N := 8) rfl ?_); refine box_event qr (N := 8) qr (cs := #[.int .i64 0, .int .i64 0, .int .i64 0, .int .i64 0, .slice none 0 0]) (t := 70) qg ?_; intro gb114 hg w60 hbox hb; have n0_ := zA (Kd.R_below (by (with_reducible repeat (first | apply Kd.R_alloc | apply Kd.R_drewN | apply Kd.R_drew)); exact HO112.out) hb); have n1_ := zA (qX BK101.out hb); have n2_ := zA (zV qB hb); have n3_ := zA (hbox); have n4_ := zA ((qS : w.heap.size ≤ gb114)); have n5_ := zA ((qS : w.heap.size ≤ gb114)); have n6_ := zA ((by rw [hg]; exact zLq (qL BK101.out) : gb101 ≠ gb114)); have n7_ := zA ((by rw [hg]; exact zMq (qL BK101.out) : gb114 ≠ gb101)); clear HO112 BK101 HB; have HO112 := n0_; have BK101 := n1_; have HB := n2_; have BK114 := n3_; have GW114 := n4_; have GE114 := n5_; have NB101_114 := n6_; have NB114_101 := n7_; clear n0_ n1_ n2_ n3_ n4_ n5_ n6_ n7_ hb hbox hg; have hnb61 := NB114_101.out; have hnc61 := NB101_114.out; obtain ⟨_, _, _, _, _, _, _, _, _, _⟩ := qc5f BK114.out; obtain ⟨Ao63, co63, eo63⟩ := Kd.R_slice HO112.out; subst eo63) | (go_at_call 66; (with_reducible refine (rma_Holds.calls k2 t106 t107 t108 t109 _ _ t110 a1 t118 _ ?side1 ?side2 A54.out).mono ?_); (case side1 => refine (Kd.R_reads' (e := 97) (base := w.heap.size) (ok := fun k_ => True) (n := t110.length) (c := co63) ?_).2.2; exact (by (with_reducible repeat (first | apply Kd.R_alloc | apply Kd.R_drewN | apply Kd.R_drew)); exact (Kd.R_mono (Kd.R_far (p := ⟨gb114, 4, none⟩) (Kd.R_far (p := ⟨gb114, 3, none⟩) (Kd.R_far (p := ⟨gb114, 2, none⟩) (Kd.R_far (p := ⟨gb114, 1, none⟩) (Kd.R_far (p := ⟨gb114, 0, none⟩) (Kd.R_types HO112.out BK114.out (by decide)) (fun _ hk => hk.2) (.int .i64 t106)) (fun _ hk => hk.2) (.int .i64 t107)) (fun _ hk => hk.2) (.int .i64 t108)) (fun _ hk => hk.2) (.int .i64 t109)) (fun _ hk => hk.2) (.slice Ao63 t110.length co63)) (fun _ h_ => h_.1)))); (case side2 => exact (Kd.R_reads' HO112.out).2.1); rintro e w64 ⟨rfl, hb⟩; have n0_ := zA (Kd.R_below (by (with_reducible repeat (first | apply Kd.R_alloc | apply Kd.R_drewN | apply Kd.R_drew)); exact (Kd.R_mono (Kd.R_far (p := ⟨gb114, 4, none⟩) (Kd.R_far (p := ⟨gb114, 3, none⟩) (Kd.R_far (p := ⟨gb114, 2, none⟩) (Kd.R_far (p := ⟨gb114, 1, none⟩) (Kd.R_far (p := ⟨gb114, 0, none⟩) (Kd.R_types HO112.out BK114.out (by decide)) (fun _ hk => hk.2) (.int .i64 t106)) (fun _ hk => hk.2) (.int .i64 t107)) (fun _ hk => hk.2) (.int .i64 t108)) (fun _ hk => hk.2) (.int .i64 t109)) (fun _ hk => hk.2) (.slice Ao63 t110.length co63)) (fun _ h_ => h_.1))) hb); have n1_ := zA (qX BK101.out hb); have n2_ := zA (zX (g := gb114) (o := .cells #[.int .i64 t106, .int .i64 t107, .int .i64 t108, .int .i64 t109, .slice Ao63 t110.length co63] 70 (0, 0)) (qV BK114.out) hb); have n3_ := zA (zV qB hb); clear HO112 BK101 BK114 HB; have HO112 := n0_; have BK101 := n1_; have BK114 := n2_; have HB := n3_; clear n0_ n1_ n2_ n3_; (try clear hb); (try clear hb2); (try clear hk); (try clear hi)) | (go_at_call 49; (with_reducible refine (backhaullaw27_awake.calls  true _ A56.out).mono ?_); rintro e w65 ⟨rfl, hb⟩; have n0_ := zA (Kd.R_below (by (with_reducible repeat (first | apply Kd.R_alloc | apply Kd.R_drewN | apply Kd.R_drew)); exact HO112.out) hb); have n1_ := zA (qX BK101.out hb); have n2_ := zA (qX BK114.out hb); have n3_ := zA (zV qB hb); clear HO112 BK101 BK114 HB; have HO112 := n0_; have BK101 := n1_; have BK114 := n2_; have HB := n3_; clear n0_ n1_ n2_ n3_; (try clear hb); (try clear hb2); (try clear hk); (try clear hi)))
                  go_ret; exact ⟨qE, qB⟩
                replace c57 := Bool.eq_false_iff.mpr c57; subst c57; have H1 : (some false) = some true := by first | (rw [if_neg (show ¬ (false = true) by decide)] at H; exact H) | rfl
                clear H; have H := H1; clear H1; exact absurd H (by simp)
              rw [if_neg c55] at H; have c55b0 : (t118 == t105) = false := beq_eq_false_iff_ne.mpr c55; have c55b1 : (t118 != t105) = true := bne_iff_ne.mpr c55; exact absurd H (by simp)
            rw [if_neg c53] at H; have c53b0 : (t113 == 0) = false := beq_eq_false_iff_ne.mpr c53; have c53b1 : (t113 != 0) = true := bne_iff_ne.mpr c53; replace H := Option.bind_eq_some_iff.mp H; obtain ⟨t120, A660, H⟩ := H; replace H : (if t120 = true then (some true) else (some false)) = some true := H; have A66 := zA A660; clear A660; by_cases c67 : t120 = true
            · subst c67
              have H1 : (some true) = some true := by first | (rw [if_pos rfl] at H; exact H) | rfl
              clear H; have H := H1; clear H1; clear H; obtain ⟨_, _, _, _, _, _, _, _, _, _⟩ := qc5f BK101.out; go_wp2_with (first | ((with_reducible refine zJq (f := 62) rfl ?_); refine goesL_ (some 58) rfl rfl Try.func62 (by kernel_rfl) rfl #[.agg #[.int .i64 a0_0, .int .i64 a0_1, .int .i64 a0_2, .int .i64 a0_3, .slice A0_4 l0_4.length c0_4], .int .i64 a1] rfl (by (try simp only [zR, zS, zT]); first | done | rfl | (simp only [zP, zQ]; rfl)) ?_; (with_reducible refine (rma_Take.calls k2 a0_0 a0_1 a0_2 a0_3 _ _ l0_4 a1 t106 t107 t108 t109 t110 t113 _ ?side1 ?side2 A28.out).mono ?_); (case side1 => exact qC (Kd.C_below HR0_4.out HB.out)); (case side2 => exact HC0_4.out); rintro e w69 ⟨v111, rfl, ho0, hb⟩; refine ⟨_, rfl, ?_⟩; have n0_ := zA (Kd.R_lower ho0 (zW qB)); have n1_ := zA (qX BK101.out hb); have n2_ := zA (zV qB hb); clear BK101 HB; have HO112 := n0_; have BK101 := n1_; have HB := n2_; clear n0_ n1_ n2_; (try clear hb); (try clear hb2); (try clear hk); (try clear hi); (try clear ho0)) | ((with_reducible refine gate_dst (N := 8) rfl ?_); refine box_event qr (N := 8) qr (cs := #[.int .i64 0, .int .i64 0, .int .i64 0, .int .i64 0, .slice none 0 0]) (t := 70) qg ?_; intro gb114 hg w70 hbox hb; have n0_ := zA (Kd.R_below (by (with_reducible repeat (first | apply Kd.R_alloc | apply Kd.R_drewN | apply Kd.R_drew)); exact HO112.out) hb); have n1_ := zA (qX BK101.out hb); have n2_ := zA (zV qB hb); have n3_ := zA (hbox); have n4_ := zA ((qS : w.heap.size ≤ gb114)); have n5_ := zA ((qS : w.heap.size ≤ gb114)); have n6_ := zA ((by rw [hg]; exact zLq (qL BK101.out) : gb101 ≠ gb114)); have n7_ := zA ((by rw [hg]; exact zMq (qL BK101.out) : gb114 ≠ gb101)); clear HO112 BK101 HB; have HO112 := n0_; have BK101 := n1_; have HB := n2_; have BK114 := n3_; have GW114 := n4_; have GE114 := n5_; have NB101_114 := n6_; have NB114_101 := n7_; clear n0_ n1_ n2_ n3_ n4_ n5_ n6_ n7_ hb hbox hg; have hnb71 := NB114_101.out; have hnc71 := NB101_114.out; obtain ⟨_, _, _, _, _, _, _, _, _, _⟩ := qc5f BK114.out; obtain ⟨Ao73, co73, eo73⟩ := Kd.R_slice HO112.out; subst eo73) | (go_at_call 49; (with_reducible refine (backhaullaw27_awake.calls  true _ A66.out).mono ?_); rintro e w74 ⟨rfl, hb⟩; have n0_ := zA (Kd.R_below (by (with_reducible repeat (first | apply Kd.R_alloc | apply Kd.R_drewN | apply Kd.R_drew)); exact (Kd.R_mono (Kd.R_far (p := ⟨gb114, 4, none⟩) (Kd.R_far (p := ⟨gb114, 3, none⟩) (Kd.R_far (p := ⟨gb114, 2, none⟩) (Kd.R_far (p := ⟨gb114, 1, none⟩) (Kd.R_far (p := ⟨gb114, 0, none⟩) (Kd.R_types HO112.out BK114.out (by decide)) (fun _ hk => hk.2) (.int .i64 t106)) (fun _ hk => hk.2) (.int .i64 t107)) (fun _ hk => hk.2) (.int .i64 t108)) (fun _ hk => hk.2) (.int .i64 t109)) (fun _ hk => hk.2) (.slice Ao73 t110.length co73)) (fun _ h_ => h_.1))) hb); have n1_ := zA (qX BK101.out hb); have n2_ := zA (zX (g := gb114) (o := .cells #[.int .i64 t106, .int .i64 t107, .int .i64 t108, .int .i64 t109, .slice Ao73 t110.length co73] 70 (0, 0)) (qV BK114.out) hb); have n3_ := zA (zV qB hb); clear HO112 BK101 BK114 HB; have HO112 := n0_; have BK101 := n1_; have BK114 := n2_; have HB := n3_; clear n0_ n1_ n2_ n3_; (try clear hb); (try clear hb2); (try clear hk); (try clear hi)))
              go_ret; exact ⟨qE, qB⟩
            replace c67 := Bool.eq_false_iff.mpr c67; subst c67; have H1 : (some false) = some true := by first | (rw [if_neg (show ¬ (false = true) by decide)] at H; exact H) | rfl
            clear H; have H := H1; clear H1; exact absurd H (by simp)
          rw [if_neg c52] at H; have c52b0 : (t105 == 0) = false := beq_eq_false_iff_ne.mpr c52; have c52b1 : (t105 != 0) = true := bne_iff_ne.mpr c52; exact absurd H (by simp)
def backhaullaw27_RmaBounds.Pure : Prop := ∀ (a0_0 : Int) (a0_1 : Int) (a0_2 : Int) (a0_3 : Int) (l0_4 : List (S97)) (a1 : Int), (Lit.int .i64 a0_0).wf = true → (Lit.int .i64 a0_1).wf = true → (Lit.int .i64 a0_2).wf = true → (Lit.int .i64 a0_3).wf = true → (l0_4.length ≤ maxLen ∧ ∀ x ∈ l0_4, ((Lit.int .i64 x.f0).wf = true ∧ (Lit.int .i64 x.f1).wf = true ∧ (Lit.int .i64 x.f2).wf = true)) → (Lit.int .i64 a1).wf = true → ∃ k, backhaullaw27_RmaBounds.f k a0_0 a0_1 a0_2 a0_3 l0_4 a1 = some true
end Go.Proofs.Ytakkhomjpflkbaa.F
set_option linter.unusedVariables false
namespace Go.Proofs.Ytakkhomjpflkbaa.Q
open Go.RowKit Go.Proofs.YtakkhomjpflkbaaW.PrintWords Go.Proofs.YtakkhomjpflkbaaW.PrintLast Go.Proofs.YtakkhomjpflkbaaW.PrintMore
theorem Ev.ite {α : Type} {c : Prop} [Decidable c] {a b : Nat → Option α} {r : α} (h1 : c → Ev a r) (h2 : ¬ c → Ev b r) : Ev (fun k => if c then a k else b k) r := by
  by_cases h : c
  · simp only [if_pos h]; exact h1 h
  simp only [if_neg h]; exact h2 h
theorem Ev.pos {α : Type} {c : Prop} [Decidable c] {a b : Nat → Option α} {r : α} (h : c) (h1 : Ev a r) : Ev (fun k => if c then a k else b k) r := by
  simp only [if_pos h]; exact h1
theorem Ev.neg {α : Type} {c : Prop} [Decidable c] {a b : Nat → Option α} {r : α} (h : ¬ c) (h1 : Ev b r) : Ev (fun k => if c then a k else b k) r := by
  simp only [if_neg h]; exact h1
theorem Ev.ok {α : Type} {a b : α} (h : a = b) : Ev (fun _ => some a) b := ⟨0, fun _ _ => by rw [h]⟩
theorem Ev.const {α : Type} {o : Option α} {r : α} (h : o = some r) : Ev (fun _ => o) r := ⟨0, fun _ _ => h⟩
theorem Ev.bindc {α β : Type} {o : Option α} {f : Nat → α → Option β} {a : α} {r : β} (h : o = some a) (k : Ev (fun n => f n a) r) : Ev (fun n => o.bind (f n)) r := by
  subst h
  exact k
theorem Ev.eq {α : Type} {g : Nat → Option α} {a b : α} (h : Ev g a) (e : a = b) : Ev g b := e ▸ h
theorem wrap_eq {x : Int} (h0 : -9223372036854775808 ≤ x) (h1 : x ≤ 9223372036854775807) : wrap64 x = x := by
  unfold wrap64; omega
theorem drop_cons {α : Type} {l : List α} {i : Nat} (h : i < l.length) : l.drop i = l[i] :: l.drop (i + 1) := List.drop_eq_getElem_cons h
end Go.Proofs.Ytakkhomjpflkbaa.Q
set_option linter.unusedVariables false
namespace Go.Proofs.Ytakkhomjpflkbaa.Q
open Go.RowKit Go.Proofs.Ytakkhomjpflkbaa.F Go.Proofs.YtakkhomjpflkbaaW.PrintWords Go.Proofs.YtakkhomjpflkbaaW.PrintLast Go.Proofs.YtakkhomjpflkbaaW.PrintMore
abbrev WT := S97
theorem rdW {l : List WT} {i : Nat} (h : i < l.length) : rd_T97 l (i : Int) = l[i] := by
  unfold rd_T97; simp [h]
def wOk (p : Int) (w : WT) : Bool := !(decide (w.f0 ≤ p) || decide (w.f0 ≥ 8) || decide (w.f1 < 1) || decide (w.f1 > 20) || decide (w.f2 < 0) || decide (w.f2 > w.f1))
theorem wOk_iff {p : Int} {w : WT} : wOk p w = true ↔ p < w.f0 ∧ w.f0 < 8 ∧ 1 ≤ w.f1 ∧ w.f1 ≤ 20 ∧ 0 ≤ w.f2 ∧ w.f2 ≤ w.f1 := by
  unfold wOk; simp only [Bool.not_eq_true', Bool.or_eq_false_iff, decide_eq_false_iff_not]; omega
def wantsOk : Int → List WT → Bool
  | _, [] => true
  | p, w :: r => wOk p w && wantsOk w.f0 r
theorem wantsOk_mem : ∀ (l : List WT) (p : Int), wantsOk p l = true → ∀ w ∈ l, p < w.f0 ∧ w.f0 < 8 ∧ 1 ≤ w.f1 ∧ w.f1 ≤ 20 ∧ 0 ≤ w.f2 ∧ w.f2 ≤ w.f1
  | [], p, _ => fun w h => by cases h
  | w :: r, p, h => fun x hx => by
    simp only [wantsOk, Bool.and_eq_true] at h
    have h1 := wOk_iff.1 h.1
    rcases List.mem_cons.1 hx with rfl | hx
    · exact h1
    have := wantsOk_mem r w.f0 h.2 x hx
    exact ⟨by omega, this.2⟩
def openL (l : List WT) : Bool := l.any fun w => decide (w.f2 < w.f1)
def partOk (a b c : Int) (l : List WT) : Bool := decide (1 ≤ a) && decide (a ≤ 999999) && decide (1 ≤ b) && decide (b ≤ 999999) && decide (0 ≤ c) && decide (c ≤ 1000000) && wantsOk (-1) l && decide (l ≠ [])
def stOk (s : Int) (l : List WT) : Bool := (decide (s = 1) && openL l) || (decide (s = 2) && !openL l) || decide (s = 3)
def checkR (a b c s : Int) (l : List WT) : Int := if partOk a b c l = true ∧ stOk s l = true then 0 else 40
theorem checkR_or (a b c s : Int) (l : List WT) : checkR a b c s l = 0 ∨ checkR a b c s l = 40 := by unfold checkR; split <;> simp
theorem check_wants {a b c s : Int} {l : List WT} (h : checkR a b c s l = 0) : wantsOk (-1) l = true := by
  unfold checkR at h
  by_cases g : partOk a b c l = true ∧ stOk s l = true
  · have := g.1; unfold partOk at this; simp only [Bool.and_eq_true] at this; exact this.1.2
  rw [if_neg g] at h; cases h
theorem wanted_l0 {l : List WT} (hl : l.length < 1000000) (d : Nat) : ∀ (i : Nat) (p : Int), l.length - i = d → i ≤ l.length → Ev (fun k => rma_wanted.l0 k l p l (l.length : Int) (i : Int)) (wantsOk p (l.drop i) && decide (l ≠ [])) := by
  induction d with
  | zero =>
    intro i p hd hi
    refine Ev.step (fun k => by simp only [rma_wanted.l0]; rfl) (Ev.neg (by omega) (Ev.ok ?_))
    rw [List.drop_eq_nil_of_le (by omega)]
    cases l <;> simp [wantsOk]
  | succ d ih =>
    intro i p hd hi
    have h : i < l.length := by omega
    refine Ev.step (fun k => by simp only [rma_wanted.l0]; rfl) (Ev.pos (by omega) (Ev.pos (by omega) (Ev.pos (by omega) ?_)))
    have ih' := ih (i + 1) l[i].f0 (by omega) (by omega)
    rw [rdW h, wrap_eq (x := (i : Int) + 1) (by omega) (by omega), drop_cons h]
    have bad : wOk p l[i] = false → (wantsOk p (l[i] :: l.drop (i + 1)) && decide (l ≠ [])) = false := fun h => by simp [wantsOk, h]
    have hb : ∀ {q : Prop} [Decidable q], q → (q → wOk p l[i] = false) → (false = (wantsOk p (l[i] :: l.drop (i + 1)) && decide (l ≠ []))) := fun hq hf => (bad (hf hq)).symm
    have hw : wOk p l[i] = false ↔ ¬ (p < l[i].f0 ∧ l[i].f0 < 8 ∧ 1 ≤ l[i].f1 ∧ l[i].f1 ≤ 20 ∧ 0 ≤ l[i].f2 ∧ l[i].f2 ≤ l[i].f1) := by rw [← wOk_iff]; simp
    refine Ev.ite (fun h1 => Ev.ok (hb h1 fun h1 => hw.2 (by omega))) (fun h1 => Ev.ite (fun h2 => Ev.ok (hb h2 fun h1 => hw.2 (by omega))) (fun h2 => Ev.ite (fun h3 => Ev.ok (hb h3 fun h1 => hw.2 (by omega))) (fun h3 => Ev.ite (fun h4 => Ev.ok (hb h4 fun h1 => hw.2 (by omega))) (fun h4 => Ev.ite (fun h5 => Ev.ok (hb h5 fun h1 => hw.2 (by omega))) (fun h5 => Ev.ite (fun h6 => Ev.ok (hb h6 fun h1 => hw.2 (by omega))) (fun h6 => ?_))))))
    refine Ev.eq ih' ?_
    rw [wantsOk, wOk_iff.2 (by omega), Bool.true_and]
theorem wanted_f {l : List WT} (hl : l.length < 1000000) : Ev (fun k => rma_wanted.f k l) (wantsOk (-1) l && decide (l ≠ [])) := by
  unfold rma_wanted.f
  exact wanted_l0 hl l.length 0 (-1) (by omega) (by omega)
theorem id_f (a : Int) : rma_id.f a = some (decide (1 ≤ a) && decide (a ≤ 999999)) := by
  unfold rma_id.f
  by_cases h : 1 ≤ a
  · rw [if_pos (by omega)]; simp [h]
  rw [if_neg (by omega)]; simp [h]
theorem time_f (a : Int) : policy_Time.f a = some (decide (0 ≤ a) && decide (a ≤ 1000000)) := by
  unfold policy_Time.f policy_span_has.f
  by_cases h : 0 ≤ a
  · rw [if_pos (by omega)]; simp [h]
  rw [if_neg (by omega)]; simp [h]
def firstI (p : WT → Bool) (l : List WT) : Int := match l.findIdx? p with
  | some i => i
  | none => -1
theorem firstI_at {p : WT → Bool} {l : List WT} {i : Nat} (h : i < l.length) (hp : p l[i] = true) (hn : ∀ j (hj : j < l.length), j < i → p l[j] = false) : firstI p l = i := by
  unfold firstI
  rw [List.findIdx?_eq_some_iff_getElem.2 ⟨h, hp, fun j hj => by simpa using hn j (by omega) hj⟩]
theorem firstI_none {p : WT → Bool} {l : List WT} (hn : ∀ j (hj : j < l.length), p l[j] = false) : firstI p l = -1 := by
  unfold firstI
  rw [List.findIdx?_eq_none_iff.2 (fun x hx => by obtain ⟨j, hj, rfl⟩ := List.mem_iff_getElem.1 hx; exact hn j hj)]
theorem firstI_cases (p : WT → Bool) (l : List WT) : (firstI p l = -1 ∧ ∀ j (hj : j < l.length), p l[j] = false) ∨ ∃ (i : Nat) (h : i < l.length), firstI p l = i ∧ p l[i] = true ∧ ∀ j (hj : j < l.length), j < i → p l[j] = false := by
  unfold firstI
  cases e : l.findIdx? p with
  | none => exact .inl ⟨rfl, fun j hj => List.findIdx?_eq_none_iff.1 e _ (List.getElem_mem hj)⟩
  | some i =>
    obtain ⟨h, hp, hn⟩ := List.findIdx?_eq_some_iff_getElem.1 e
    exact .inr ⟨i, h, rfl, hp, fun j hj hji => by simpa using hn j hji⟩
theorem waits_l0 {l : List WT} (hl : l.length < 1000000) (d : Nat) : ∀ (i : Nat), l.length - i = d → i ≤ l.length → (∀ j (hj : j < l.length), j < i → decide (l[j].f2 < l[j].f1) = false) → Ev (fun k => slices_IndexFunc_rma_waits.l0 k l (l.length : Int) (i : Int)) (firstI (fun w => decide (w.f2 < w.f1)) l) := by
  induction d with
  | zero =>
    intro i hd hi hn
    refine Ev.step (fun k => by simp only [slices_IndexFunc_rma_waits.l0]; rfl) (Ev.neg (by omega) (Ev.ok ?_))
    rw [firstI_none (fun j hj => hn j hj (by omega))]
  | succ d ih =>
    intro i hd hi hn
    have h : i < l.length := by omega
    refine Ev.step (fun k => by simp only [slices_IndexFunc_rma_waits.l0]; rfl) (Ev.pos (by omega) (Ev.pos (by omega) (Ev.pos (by omega) ?_)))
    rw [rdW h, wrap_eq (x := (i : Int) + 1) (by omega) (by omega)]
    refine Ev.bindc (a := decide (l[i].f2 < l[i].f1)) rfl (Ev.ite (fun h1 => Ev.ok ?_) (fun h1 => ih (i + 1) (by omega) (by omega) fun j hj hji => ?_))
    · rw [firstI_at h h1 hn]
    by_cases e : j = i
    · subst e; simpa using h1
    exact hn j hj (by omega)
theorem has_waits_f {l : List WT} (hl : l.length < 1000000) : Ev (fun k => slices_ContainsFunc_rma_waits.f k l) (openL l) := by
  unfold slices_ContainsFunc_rma_waits.f slices_IndexFunc_rma_waits.f
  refine Ev.bind (waits_l0 hl l.length 0 (by omega) (by omega) (fun j hj h => by omega)) (Ev.ok ?_)
  rcases firstI_cases (fun w => decide (w.f2 < w.f1)) l with ⟨h, hn⟩ | ⟨i, hi, h, hp, _⟩
  · rw [h]
    have : openL l = false := by
      unfold openL
      rw [List.any_eq_false]
      intro x hx
      obtain ⟨j, hj, rfl⟩ := List.mem_iff_getElem.1 hx
      simpa using hn j hj
    rw [this]; rfl
  rw [h]
  have : openL l = true := List.any_eq_true.2 ⟨l[i], List.getElem_mem hi, hp⟩
  rw [this]; simp
theorem part_iff {a b c : Int} {l : List WT} : partOk a b c l = true ↔ 1 ≤ a ∧ a ≤ 999999 ∧ 1 ≤ b ∧ b ≤ 999999 ∧ 0 ≤ c ∧ c ≤ 1000000 ∧ wantsOk (-1) l = true ∧ l ≠ [] := by
  unfold partOk; simp only [Bool.and_eq_true, decide_eq_true_eq, and_assoc]
theorem rma_check_f {a b c s : Int} {l : List WT} (hl : l.length < 1000000) : Ev (fun k => rma_Check.f k a b c s l) (checkR a b c s l) := by
  unfold rma_Check.f
  have bad : partOk a b c l = false → Ev (fun k => rma_Check.j0 k true a b c s l) (checkR a b c s l) := fun h =>
    Ev.step (fun k => by simp only [rma_Check.j0]; rfl) (Ev.pos (by trivial) (Ev.ok (by unfold checkR; rw [if_neg (fun g => by rw [h] at g; cases g.1)])))
  refine Ev.bindc (id_f a) (Ev.ite (fun h1 => ?_) (fun h1 => bad (Bool.eq_false_iff.2 fun g => h1 (by have := part_iff.1 g; simp; omega))))
  refine Ev.bindc (id_f b) (Ev.ite (fun h2 => ?_) (fun h2 => bad (Bool.eq_false_iff.2 fun g => h2 (by have := part_iff.1 g; simp; omega))))
  refine Ev.bindc (time_f c) (Ev.ite (fun h3 => ?_) (fun h3 => bad (Bool.eq_false_iff.2 fun g => h3 (by have := part_iff.1 g; simp; omega))))
  refine Ev.bind (wanted_f hl) ?_
  have hp : partOk a b c l = (wantsOk (-1) l && decide (l ≠ [])) := by
    simp only [Bool.and_eq_true, decide_eq_true_eq] at h1 h2 h3
    unfold partOk
    simp [h1, h2, h3]
  cases hw : (wantsOk (-1) l && decide (l ≠ [])) with
  | false => exact bad (by rw [hp, hw])
  | true =>
    rw [hw] at hp
    have ok : ∀ r : Int, r = (if stOk s l = true then 0 else 40) → r = checkR a b c s l := fun r h => by rw [h]; unfold checkR; simp [hp]
    refine Ev.step (fun k => by simp only [rma_Check.j0]; rfl) (Ev.neg (by simp) ?_)
    refine Ev.bind (has_waits_f hl) ?_
    have j2 : ∀ x : Bool, (x = true → stOk s l = true) → (x = false → stOk s l = decide (s = 3)) → Ev (fun k => rma_Check.j2 k x a b c s l) (checkR a b c s l) := fun x h1 h2 =>
      Ev.step (fun k => by simp only [rma_Check.j2]; rfl) (Ev.ite (fun h => Ev.ok (ok _ (by rw [if_pos (h1 h)]))) (fun h => Ev.ite (fun h3 => Ev.ok (ok _ (by rw [h2 (by simpa using h)]; simp [h3]))) (fun h3 => Ev.ok (ok _ (by rw [h2 (by simpa using h)]; simp [h3])))))
    have j1 : ∀ x : Bool, (x = true → stOk s l = true) → (x = false → ¬ (s = 1 ∧ openL l = true)) → Ev (fun k => rma_Check.j1 k (openL l) x a b c s l) (checkR a b c s l) := fun x h1 h2 =>
      Ev.step (fun k => by simp only [rma_Check.j1]; rfl) (Ev.ite (fun h => Ev.ok (ok _ (by rw [if_pos (h1 h)]))) (fun h => by
        have hx := h2 (by simpa using h)
        refine Ev.ite (fun h3 => j2 _ (fun h4 => ?_) (fun h4 => ?_)) (fun h3 => j2 _ (fun h4 => ?_) (fun h4 => ?_))
        · unfold stOk; simp_all
        · unfold stOk; simp_all
        · cases h4
        unfold stOk; cases ho : openL l <;> simp_all))
    refine Ev.ite (fun h4 => j1 _ (fun h5 => ?_) (fun h5 => ?_)) (fun h4 => j1 _ (fun h5 => ?_) (fun h5 => ?_))
    · unfold stOk; simp_all
    · simp_all
    · cases h5
    simp_all
def placeR (l : List WT) (line : Int) : Int := firstI (fun w => decide (w.f0 = line)) l
theorem open_l0 {l : List WT} {line : Int} (hl : l.length < 1000000) (d : Nat) : ∀ (i : Nat), l.length - i = d → i ≤ l.length → (∀ j (hj : j < l.length), j < i → decide (l[j].f0 = line) = false) → Ev (fun k => slices_IndexFunc_rma_open_1_v3.l0 k l (l.length : Int) (i : Int) line) (placeR l line) := by
  induction d with
  | zero =>
    intro i hd hi hn
    refine Ev.step (fun k => by simp only [slices_IndexFunc_rma_open_1_v3.l0]; rfl) (Ev.neg (by omega) (Ev.ok ?_))
    rw [placeR, firstI_none (fun j hj => hn j hj (by omega))]
  | succ d ih =>
    intro i hd hi hn
    have h : i < l.length := by omega
    refine Ev.step (fun k => by simp only [slices_IndexFunc_rma_open_1_v3.l0]; rfl) (Ev.pos (by omega) (Ev.pos (by omega) (Ev.pos (by omega) ?_)))
    rw [rdW h, wrap_eq (x := (i : Int) + 1) (by omega) (by omega)]
    refine Ev.bindc (a := decide (l[i].f0 = line)) (by unfold rma_open_1_v3.f; rfl) (Ev.ite (fun h1 => Ev.ok ?_) (fun h1 => ih (i + 1) (by omega) (by omega) fun j hj hji => ?_))
    · rw [placeR, firstI_at h h1 hn]
    by_cases e : j = i
    · subst e; simpa using h1
    exact hn j hj (by omega)
abbrev T6 := Int × Int × Int × Int × List WT × Int
def noT (e : Int) : T6 := (0, 0, 0, 0, [], e)
theorem open_f {a b c s line : Int} {l : List WT} (hl : l.length < 1000000) : Ev (fun k => rma_open.f k a b c s l line) (if checkR a b c s l = 0 then (if s = 1 then (a, b, c, s, l, placeR l line, 0) else (0, 0, 0, 0, [], 0, 33)) else (0, 0, 0, 0, [], 0, checkR a b c s l)) := by
  unfold rma_open.f
  refine Ev.bind (rma_check_f hl) (Ev.ite (fun h1 => Ev.ite (fun h2 => Ev.pos (by omega) (Ev.pos (by omega) (Ev.pos (by simp) ?_))) (fun h2 => Ev.ok ?_)) (fun h1 => Ev.ok ?_))
  · refine Ev.bindc (a := l) rfl ?_
    unfold slices_IndexFunc_rma_open_1_v3.f
    refine Ev.bind (open_l0 hl l.length 0 (by omega) (by omega) (fun j hj h => by omega)) (Ev.ok ?_)
    rw [if_pos h1, if_pos h2]
  · rw [if_pos h1, if_neg h2]
  rw [if_neg h1]
def closeR (a b c s : Int) (l : List WT) : Int × Int × Int × Int × List WT := (a, b, c, if openL l = true then s else 2, l)
theorem closed_f {a b c s : Int} {l : List WT} (hl : l.length < 1000000) : Ev (fun k => rma_closed.f k a b c s l) (closeR a b c s l) := by
  unfold rma_closed.f closeR
  refine Ev.bind (has_waits_f hl) (Ev.ite (fun h => Ev.ok (by rw [if_pos h])) (fun h => Ev.ok (by rw [if_neg h])))
theorem place_cases (l : List WT) (line : Int) : (placeR l line = -1 ∧ ∀ j (hj : j < l.length), l[j].f0 ≠ line) ∨ ∃ (i : Nat) (h : i < l.length), placeR l line = i ∧ l[i].f0 = line ∧ ∀ j (hj : j < l.length), j < i → l[j].f0 ≠ line := by
  rcases firstI_cases (fun w => decide (w.f0 = line)) l with ⟨h, hn⟩ | ⟨i, h, e, hp, hn⟩
  · exact .inl ⟨h, fun j hj => by simpa using hn j hj⟩
  exact .inr ⟨i, h, e, by simpa using hp, fun j hj hji => by simpa using hn j hj hji⟩
def withR (a b c s : Int) (l : List WT) (i : Nat) (w : WT) : T6 := ((closeR a b c s (l.set i w)).1, (closeR a b c s (l.set i w)).2.1, (closeR a b c s (l.set i w)).2.2.1, (closeR a b c s (l.set i w)).2.2.2.1, (closeR a b c s (l.set i w)).2.2.2.2, 0)
def gotAt (l : List WT) (i : Nat) : WT := l.getD i ⟨0, 0, 0⟩
def takeR (a b c s : Int) (l : List WT) (line : Int) : T6 :=
  if checkR a b c s l = 0 then (if s = 1 then (if placeR l line < 0 then noT 31 else (if ¬ (gotAt l (placeR l line).toNat).f2 < (gotAt l (placeR l line).toNat).f1 then noT 34 else
    withR a b c s l (placeR l line).toNat ⟨(gotAt l (placeR l line).toNat).f0, (gotAt l (placeR l line).toNat).f1, (gotAt l (placeR l line).toNat).f2 + 1⟩)) else noT 33) else noT 40
def holdsR (a b c s : Int) (l : List WT) (line : Int) : Int := if checkR a b c s l = 0 then (if placeR l line < 0 then 0 else if s = 1 then (gotAt l (placeR l line).toNat).f1 else (gotAt l (placeR l line).toNat).f2) else 0
theorem gotAt_eq {l : List WT} {i : Nat} (h : i < l.length) : gotAt l i = l[i] := by unfold gotAt; simp [List.getD_eq_getElem?_getD, h]
theorem take_f {a b c s line : Int} {l : List WT} (hl : l.length < 1000000) : Ev (fun k => rma_Take.f k a b c s l line) (takeR a b c s l line) := by
  unfold rma_Take.f takeR
  refine Ev.bind (open_f hl) ?_
  by_cases h1 : checkR a b c s l = 0
  · rw [if_pos h1, if_pos h1]
    have hw := check_wants h1
    by_cases h2 : s = 1
    · rw [if_pos h2, if_pos h2]
      refine Ev.pos rfl ?_
      rcases place_cases l line with ⟨e, _⟩ | ⟨i, hi, e, _⟩
      · rw [e]
        exact Ev.pos (show (-1 : Int) < 0 by decide) (Ev.ok rfl)
      rw [e, if_neg (show ¬ (i : Int) < 0 by omega)]
      simp only [Int.toNat_natCast]
      rw [gotAt_eq hi, rdW hi]
      have hm := wantsOk_mem l (-1) hw l[i] (List.getElem_mem hi)
      rw [wrap_eq (x := l[i].f2 + 1) (by omega) (by omega)]
      refine Ev.neg (by omega) (Ev.pos (by omega) (Ev.pos (by omega) ?_))
      refine Ev.bindc (a := decide (l[i].f2 < l[i].f1)) rfl (Ev.ite (fun h3 => ?_) (fun h3 => Ev.ok (by rw [if_pos (by simpa using h3)]; rfl)))
      rw [if_neg (by simpa using h3)]
      exact Ev.bind (closed_f (by simpa using hl)) (Ev.ok rfl)
    rw [if_neg h2, if_neg h2]
    exact Ev.neg (by decide) (Ev.ok rfl)
  rw [if_neg h1, if_neg h1]
  have e := (checkR_or a b c s l).resolve_left h1
  rw [e]
  exact Ev.neg (by decide) (Ev.ok rfl)
theorem holds_l0 {a b c s line : Int} {l : List WT} (hl : l.length < 1000000) (d : Nat) : ∀ (i : Nat), l.length - i = d → i ≤ l.length → (∀ j (hj : j < l.length), j < i → l[j].f0 ≠ line) → Ev (fun k => rma_Holds.l0 k line l (l.length : Int) (i : Int) a b c s l) (if placeR l line < 0 then 0 else if s = 1 then (gotAt l (placeR l line).toNat).f1 else (gotAt l (placeR l line).toNat).f2) := by
  induction d with
  | zero =>
    intro i hd hi hn
    refine Ev.step (fun k => by simp only [rma_Holds.l0]; rfl) (Ev.neg (by omega) (Ev.ok ?_))
    rcases place_cases l line with ⟨e, _⟩ | ⟨q, hq, e, h, _⟩
    · rw [e]; rfl
    exact absurd h (hn q hq (by omega))
  | succ d ih =>
    intro i hd hi hn
    have h : i < l.length := by omega
    refine Ev.step (fun k => by simp only [rma_Holds.l0]; rfl) (Ev.pos (by omega) (Ev.pos (by omega) (Ev.pos (by omega) ?_)))
    rw [rdW h]
    refine Ev.ite (fun h1 => ?_) (fun h1 => ?_)
    · have hp : placeR l line = i := firstI_at h (by simpa using h1) (fun j hj hji => by simpa using hn j hj hji)
      rw [hp, if_neg (show ¬ (i : Int) < 0 by omega)]
      simp only [Int.toNat_natCast]
      rw [gotAt_eq h]
      refine Ev.step (fun k => by simp only [rma_Holds.j1]; rfl) ?_
      by_cases h2 : s = 1
      · rw [if_pos h2]; exact Ev.pos (by simp [h2]) (Ev.ok rfl)
      rw [if_neg h2]; exact Ev.neg (by simp [h2]) (Ev.pos h1 (Ev.ok rfl))
    refine Ev.step (fun k => by simp only [rma_Holds.j1]; rfl) (Ev.neg (by simp) (Ev.neg h1 ?_))
    rw [wrap_eq (x := (i : Int) + 1) (by omega) (by omega)]
    refine ih (i + 1) (by omega) (by omega) fun j hj hji => ?_
    by_cases e : j = i
    · subst e; exact h1
    exact hn j hj (by omega)
theorem holds_f {a b c s line : Int} {l : List WT} (hl : l.length < 1000000) : Ev (fun k => rma_Holds.f k a b c s l line) (holdsR a b c s l line) := by
  unfold rma_Holds.f holdsR
  refine Ev.bind (rma_check_f hl) (Ev.ite (fun h1 => ?_) (fun h1 => Ev.ok (by rw [if_neg h1])))
  rw [if_pos h1]
  exact holds_l0 hl l.length 0 (by omega) (by omega) (fun j hj h => by omega)
instance : DecidableEq WT := fun x y => decidable_of_iff (x.f0 = y.f0 ∧ x.f1 = y.f1 ∧ x.f2 = y.f2) (by cases x; cases y; simp)
theorem take_len {a b c s line : Int} {l : List WT} (hl : l.length < 1000000) : (takeR a b c s l line).2.2.2.2.1.length < 1000000 := by
  unfold takeR noT withR closeR; (repeat' split) <;> simp <;> omega
theorem wantsOk_up : ∀ (l : List WT) (p : Int), wantsOk p l = true → ∀ i j (hi : i < l.length) (hj : j < l.length), i < j → l[i].f0 < l[j].f0
  | [], _, _, i, j, hi, _, _ => absurd hi (by simp)
  | w :: r, p, h, i, j, hi, hj, hij => by
    simp only [wantsOk, Bool.and_eq_true] at h
    obtain ⟨j, rfl⟩ : ∃ q, j = q + 1 := ⟨j - 1, by omega⟩
    rcases i with _ | i
    · simp only [List.getElem_cons_zero, List.getElem_cons_succ]
      exact (wantsOk_mem r w.f0 h.2 _ (List.getElem_mem (by simpa using hj))).1
    simp only [List.getElem_cons_succ]
    exact wantsOk_up r w.f0 h.2 i j (by simpa using hi) (by simpa using hj) (by omega)
theorem wantsOk_uniq {l : List WT} {p : Int} (h : wantsOk p l = true) {i j : Nat} (hi : i < l.length) (hj : j < l.length) (e : l[i].f0 = l[j].f0) : i = j := by
  apply Classical.byContradiction
  intro hne
  rcases Nat.lt_or_gt_of_ne hne with g | g
  · have := wantsOk_up l p h i j hi hj g; omega
  have := wantsOk_up l p h j i hj hi g; omega
theorem wantsOk_set : ∀ (l : List WT) (p : Int), wantsOk p l = true → ∀ i (hi : i < l.length) (w : WT), w.f0 = l[i].f0 → 1 ≤ w.f1 → w.f1 ≤ 20 → 0 ≤ w.f2 → w.f2 ≤ w.f1 → wantsOk p (l.set i w) = true
  | [], _, _, i, hi, _, _, _, _, _, _ => absurd hi (by simp)
  | x :: r, p, h, i, hi, w, h0, h1, h2, h3, h4 => by
    simp only [wantsOk, Bool.and_eq_true] at h
    have hx := wOk_iff.1 h.1
    rcases i with _ | i
    · simp only [List.getElem_cons_zero] at h0
      simp only [List.set_cons_zero, wantsOk, Bool.and_eq_true]
      rw [h0]
      exact ⟨wOk_iff.2 ⟨by omega, by omega, h1, h2, h3, h4⟩, h.2⟩
    simp only [List.getElem_cons_succ] at h0
    simp only [List.set_cons_succ, wantsOk, Bool.and_eq_true]
    exact ⟨h.1, wantsOk_set r x.f0 h.2 i (by simpa using hi) w h0 h1 h2 h3 h4⟩
theorem check_part {a b c s : Int} {l : List WT} (h : checkR a b c s l = 0) : partOk a b c l = true ∧ stOk s l = true := by
  unfold checkR at h; split at h
  · assumption
  cases h
theorem check_mk {a b c s : Int} {l : List WT} (h : partOk a b c l = true) (g : stOk s l = true) : checkR a b c s l = 0 := by
  unfold checkR; rw [if_pos ⟨h, g⟩]
theorem part_set {a b c : Int} {l : List WT} (h : partOk a b c l = true) {i : Nat} (hi : i < l.length) (w : WT) (h0 : w.f0 = l[i].f0) (h1 : 1 ≤ w.f1) (h2 : w.f1 ≤ 20) (h3 : 0 ≤ w.f2) (h4 : w.f2 ≤ w.f1) : partOk a b c (l.set i w) = true := by
  unfold partOk at *
  simp only [Bool.and_eq_true, decide_eq_true_eq] at *
  refine ⟨⟨h.1.1, wantsOk_set l (-1) h.1.2 i hi w h0 h1 h2 h3 h4⟩, ?_⟩
  intro e
  have := congrArg List.length e
  simp at this
  exact h.2 this
theorem close_check {a b c s : Int} {l : List WT} (h : partOk a b c l = true) (hs : s = 1) : checkR (closeR a b c s l).1 (closeR a b c s l).2.1 (closeR a b c s l).2.2.1 (closeR a b c s l).2.2.2.1 (closeR a b c s l).2.2.2.2 = 0 := by
  unfold closeR
  refine check_mk h ?_
  unfold stOk
  subst hs
  cases openL l <;> simp
theorem place_set {l : List WT} {i : Nat} (hi : i < l.length) {w : WT} (h0 : w.f0 = l[i].f0) (line : Int) : placeR (l.set i w) line = placeR l line := by
  have hf : ∀ j (hj : j < (l.set i w).length), ((l.set i w)[j]).f0 = (l[j]'(by simpa using hj)).f0 := fun j hj => by
    rw [List.getElem_set]; split
    · rename_i e; subst e; exact h0
    rfl
  rcases place_cases l line with ⟨e, hn⟩ | ⟨q, hq, e, hp, hn⟩
  · rw [e, placeR, firstI_none]
    intro j hj
    rw [hf j hj]
    simpa using hn j (by simpa using hj)
  rw [e, placeR]
  refine firstI_at (by simpa using hq) ?_ (fun j hj hji => ?_)
  · rw [hf]; simpa using hp
  rw [hf j hj]; simpa using hn j (by simpa using hj) hji
end Go.Proofs.Ytakkhomjpflkbaa.Q
namespace Go.Proofs.Ytakkhomjpflkbaa.Pure
open Go.RowKit Go.Proofs.Ytakkhomjpflkbaa.F Go.Proofs.Ytakkhomjpflkbaa.Q Go.Proofs.YtakkhomjpflkbaaW.PrintWords Go.Proofs.YtakkhomjpflkbaaW.PrintLast Go.Proofs.YtakkhomjpflkbaaW.PrintMore
theorem bounds_end {a b c s line : Int} {l : List WT} {x : Bool} (hl : l.length < 1000000) (h : checkR a b c s l = 0) (hx : x = true ∨ holdsR a b c s l line = 0) :
    Ev (fun k => (rma_Take.f k a b c s l line).bind fun bt666 => (if x = true then (if bt666.2.2.2.2.2 = 0 then ((rma_Holds.f k bt666.1 bt666.2.1 bt666.2.2.1 bt666.2.2.2.1 bt666.2.2.2.2.1 line).bind fun t675 => (if t675 = holdsR a b c s l line then ((backhaullaw27_awake.f).bind fun t676 => (if t676 = true then (some true) else (some false))) else (some false))) else ((backhaullaw27_awake.f).bind fun t677 => (if t677 = true then (some true) else (some false)))) else (if holdsR a b c s l line = 0 then (if bt666.2.2.2.2.2 = 0 then ((rma_Holds.f k bt666.1 bt666.2.1 bt666.2.2.1 bt666.2.2.2.1 bt666.2.2.2.2.1 line).bind fun t678 => (if t678 = holdsR a b c s l line then ((backhaullaw27_awake.f).bind fun t679 => (if t679 = true then (some true) else (some false))) else (some false))) else ((backhaullaw27_awake.f).bind fun t680 => (if t680 = true then (some true) else (some false)))) else (some false)))) true := by
  refine Ev.bind (take_f hl) ?_
  have key : (takeR a b c s l line).2.2.2.2.2 = 0 → holdsR (takeR a b c s l line).1 (takeR a b c s l line).2.1 (takeR a b c s l line).2.2.1 (takeR a b c s l line).2.2.2.1 (takeR a b c s l line).2.2.2.2.1 line = holdsR a b c s l line := by
    intro h0
    have hp := (check_part h).1
    have hw := check_wants h
    unfold takeR at h0 ⊢
    rw [if_pos h] at h0 ⊢
    by_cases h2 : s = 1
    case neg => rw [if_neg h2] at h0; cases h0
    rw [if_pos h2] at h0 ⊢
    rcases place_cases l line with ⟨e, _⟩ | ⟨i, hi, e, hli, _⟩
    · rw [e, if_pos (by decide)] at h0; cases h0
    rw [e, if_neg (show ¬ (i : Int) < 0 by omega)] at h0 ⊢
    simp only [Int.toNat_natCast] at h0 ⊢
    rw [gotAt_eq hi] at h0 ⊢
    by_cases h3 : l[i].f2 < l[i].f1
    case neg => rw [if_pos h3] at h0; cases h0
    rw [if_neg (fun g => g h3)] at h0 ⊢
    have hm := wantsOk_mem l (-1) hw l[i] (List.getElem_mem hi)
    have hps := part_set hp hi (⟨l[i].f0, l[i].f1, l[i].f2 + 1⟩ : WT) rfl (by show 1 ≤ l[i].f1; omega) (by show l[i].f1 ≤ 20; omega) (by show 0 ≤ l[i].f2 + 1; omega) (by show l[i].f2 + 1 ≤ l[i].f1; omega)
    have hck := close_check hps h2
    have hpl : placeR (l.set i ⟨l[i].f0, l[i].f1, l[i].f2 + 1⟩) line = i := by rw [place_set (w := ⟨l[i].f0, l[i].f1, l[i].f2 + 1⟩) hi rfl, e]
    unfold withR
    show holdsR (closeR a b c s (l.set i ⟨l[i].f0, l[i].f1, l[i].f2 + 1⟩)).1 _ _ _ _ line = _
    unfold holdsR
    rw [if_pos hck, if_pos h, e]
    have hli2 : (closeR a b c s (l.set i ⟨l[i].f0, l[i].f1, l[i].f2 + 1⟩)).2.2.2.2 = l.set i ⟨l[i].f0, l[i].f1, l[i].f2 + 1⟩ := rfl
    rw [hli2, hpl, if_neg (show ¬ (i : Int) < 0 by omega), if_neg (show ¬ (i : Int) < 0 by omega)]
    simp only [Int.toNat_natCast]
    rw [gotAt_eq hi, gotAt_eq (by simpa using hi), List.getElem_set_self, if_pos h2]
    unfold closeR
    show (if (if openL (l.set i ⟨l[i].f0, l[i].f1, l[i].f2 + 1⟩) = true then s else 2) = 1 then l[i].f1 else l[i].f2 + 1) = l[i].f1
    by_cases ho : openL (l.set i ⟨l[i].f0, l[i].f1, l[i].f2 + 1⟩) = true
    · rw [if_pos ho, if_pos h2]
    rw [if_neg ho, if_neg (by decide)]
    have ho : openL (l.set i ⟨l[i].f0, l[i].f1, l[i].f2 + 1⟩) = false := by simpa using ho
    unfold openL at ho
    rw [List.any_eq_false] at ho
    have := ho ⟨l[i].f0, l[i].f1, l[i].f2 + 1⟩ (List.mem_iff_getElem.2 ⟨i, by simpa using hi, by simp⟩)
    simp at this
    omega
  have tail : Ev (fun k => (if (takeR a b c s l line).2.2.2.2.2 = 0 then ((rma_Holds.f k (takeR a b c s l line).1 (takeR a b c s l line).2.1 (takeR a b c s l line).2.2.1 (takeR a b c s l line).2.2.2.1 (takeR a b c s l line).2.2.2.2.1 line).bind fun t675 => (if t675 = holdsR a b c s l line then ((backhaullaw27_awake.f).bind fun t676 => (if t676 = true then (some true) else (some false))) else (some false))) else ((backhaullaw27_awake.f).bind fun t677 => (if t677 = true then (some true) else (some false))))) true :=
    Q.Ev.ite (fun h1 => Ev.bind (holds_f (take_len hl)) (Q.Ev.pos (key h1) (Q.Ev.const rfl))) (fun h1 => Q.Ev.const rfl)
  rcases hx with hx | hx
  · exact Q.Ev.pos hx tail
  exact Q.Ev.ite (fun _ => tail) (fun _ => Q.Ev.pos hx tail)
theorem bounds_l0 {a b c s line : Int} {l : List WT} (hl : l.length < 1000000) (h : checkR a b c s l = 0) (d : Nat) : ∀ (i : Nat) (x : Bool), l.length - i = d → i ≤ l.length → (x = true ∨ ∀ j (hj : j < l.length), j < i → l[j].f0 ≠ line) →
    Ev (fun k => backhaullaw27_RmaBounds.l0 k line (holdsR a b c s l line) x (i : Int) a b c s l) true := by
  induction d with
  | zero =>
    intro i x hd hi hx
    refine Ev.step (fun k => by simp only [backhaullaw27_RmaBounds.l0]; rfl) (Q.Ev.neg (by omega) ?_)
    refine bounds_end hl h (hx.imp_right fun hn => ?_)
    unfold holdsR
    rcases place_cases l line with ⟨e, _⟩ | ⟨q, hq, e, hp, _⟩
    · rw [e, if_pos h]; rfl
    exact absurd hp (hn q hq (by omega))
  | succ d ih =>
    intro i x hd hi hx
    have hil : i < l.length := by omega
    refine Ev.step (fun k => by simp only [backhaullaw27_RmaBounds.l0]; rfl) (Q.Ev.pos (by omega) (Q.Ev.pos (by omega) ?_))
    rw [rdW hil, wrap_eq (x := (i : Int) + 1) (by omega) (by omega)]
    have hw := check_wants h
    refine Q.Ev.ite (fun h1 => ?_) (fun h1 => ih (i + 1) x (by omega) (by omega) (hx.imp_right fun hn j hj hji => ?_))
    · have hpl : placeR l line = i := by
        rcases place_cases l line with ⟨e, hn⟩ | ⟨q, hq, e, hp, _⟩
        · exact absurd h1 (hn i hil)
        rw [e, wantsOk_uniq hw hil hq (by rw [h1, hp])]
      have hm := wantsOk_mem l (-1) hw l[i] (List.getElem_mem hil)
      have hh : holdsR a b c s l line = if s = 1 then l[i].f1 else l[i].f2 := by
        unfold holdsR
        rw [if_pos h, hpl, if_neg (by omega)]
        simp only [Int.toNat_natCast]
        rw [gotAt_eq hil]
      refine Q.Ev.neg (by rw [hh]; split <;> omega) (Q.Ev.neg (by rw [hh]; split <;> omega) (ih (i + 1) true (by omega) (by omega) (.inl rfl)))
    by_cases e : j = i
    · subst e; exact h1
    exact hn j hj (by omega)
theorem RmaBounds : backhaullaw27_RmaBounds.Pure := by
  intro a b c s l line ha hb hc hs hl hline
  refine Ev.rounds (r := true) ?_
  unfold backhaullaw27_RmaBounds.f backhaullaw27_Few.f
  simp only [Option.bind_some]
  have aw : Ev (fun k => backhaullaw27_RmaBounds.j0 k line true a b c s l) true :=
    Ev.step (fun k => by simp only [backhaullaw27_RmaBounds.j0]; rfl) (Q.Ev.pos trivial (Q.Ev.const rfl))
  refine Q.Ev.ite (fun h => ?_) (fun h => aw)
  have hl' : l.length < 1000000 := by have := of_decide_eq_true h; omega
  refine Ev.bind (rma_check_f hl') ?_
  by_cases h1 : checkR a b c s l = 0
  · rw [h1]
    refine Ev.step (fun k => by simp only [backhaullaw27_RmaBounds.j0]; rfl) (Q.Ev.neg (by decide) (Ev.bind (holds_f hl') ?_))
    exact bounds_l0 hl' h1 l.length 0 false (by omega) (by omega) (.inr fun j hj h => by omega)
  have : (checkR a b c s l != 0) = true := by simpa using h1
  rw [this]
  exact aw
end Go.Proofs.Ytakkhomjpflkbaa.Pure
set_option linter.unusedVariables false
set_option linter.unusedSimpArgs false
namespace Go.Proofs.YtakkhomjpflkbaaX
open Go.RowKit Go.Proofs.YtakkhomjpflkbaaW.PrintWords Go.Proofs.YtakkhomjpflkbaaW.PrintLast Go.Proofs.YtakkhomjpflkbaaW.PrintMore
def Opens {α : Type} (P : Program) (t : TypeId) (k : Kd α) (Ok : α → Prop) : Prop :=
  ∀ {H : Type} {enc : TypeId × Value → H} {w : World} {base : Nat} {spare : Nat → Bool} {held : Bool} {fuel : Nat} {cs : List Value} {x : DataW H × List MemPlace},
    DataW.trod enc P w base spare held fuel t cs = some x → ∃ a : α, k.K w a cs ∧ Ok a
theorem Opens.int {P : Program} {t : TypeId} {k : IntKind} (ht : P.underlying t = some (.int k)) : Opens P t (Kd.int k) (fun a => (Lit.int k a).wf = true) := by
  intro H enc w base spare held fuel cs x h
  obtain ⟨n, rfl, _, hw⟩ := DataW.trod_int ht h
  exact ⟨n, rfl, hw⟩
theorem Opens.bool {P : Program} {t : TypeId} (ht : P.underlying t = some .bool) : Opens P t Kd.bool (fun _ => True) := by
  intro H enc w base spare held fuel cs x h
  obtain ⟨n, rfl, _⟩ := DataW.trod_bool ht h
  exact ⟨n, rfl, trivial⟩
theorem Opens.string {P : Program} {t : TypeId} (ht : P.underlying t = some .string) : Opens P t Kd.string (fun a => a.size ≤ maxLen) := by
  intro H enc w base spare held fuel cs x h
  obtain ⟨s, rfl, _, hw⟩ := DataW.trod_string ht h
  exact ⟨s, rfl, hw⟩
theorem list_of {α : Type} {p : Nat → α → Prop} : ∀ n, (∀ i, i < n → ∃ a, p i a) → ∃ xs : List α, xs.length = n ∧ ∀ i a, xs[i]? = some a → p i a
  | 0, _ => ⟨[], rfl, fun i a h => by simp at h⟩
  | n + 1, h => by
    obtain ⟨xs, hl, hx⟩ := list_of n (fun i hi => h i (by omega))
    obtain ⟨a, ha⟩ := h n (by omega)
    refine ⟨xs ++ [a], by simp [hl], fun i b hb => ?_⟩
    rcases Nat.lt_or_ge i xs.length with h1 | h1
    · rw [List.getElem?_append_left h1] at hb
      exact hx i b hb
    rw [List.getElem?_append_right h1] at hb
    have h2 : i - xs.length = 0 := by
      have := (List.getElem?_eq_some_iff.1 hb).1
      simp at this; omega
    rw [h2] at hb
    have : a = b := by simpa using hb
    subst this
    have : i = n := by omega
    rw [this]; exact ha
theorem Opens.slice {α : Type} {P : Program} {t e : TypeId} {k : Kd α} {Ok : α → Prop} (ht : P.underlying t = some (.slice e)) (hc : P.cellsOf e = k.sz) (h : Opens P e k Ok) :
    Opens P t (Kd.slice e k) (fun xs => xs.length ≤ maxLen ∧ ∀ x ∈ xs, Ok x) := by
  intro H enc w base spare held fuel cs x hx
  rcases Go.Deep.open_slice ht hx with ⟨rfl, rfl⟩ | ⟨a, len, cap, m, n, D, Pl, rfl, hb, hl, hm, hmm, rfl, hel⟩
  · exact ⟨[], ⟨none, 0, rfl, by simp, rfl, by simp, fun h => absurd h (by simp)⟩, by simp [maxLen], by simp⟩
  have hlm : len ≤ m := by rw [hmm]; split <;> omega
  obtain ⟨xs, hlen, hxs⟩ := list_of (p := fun i (a' : α) => ∃ cs', w.cells? base (a.add (i * P.cellsOf e)) (P.cellsOf e) = some cs' ∧ k.K w a' cs' ∧ Ok a') len (fun i hi => by
    obtain ⟨cs', h1, h2⟩ := hel i (by omega)
    obtain ⟨a', h3, h4⟩ := h h2
    exact ⟨a', cs', h1, h3, h4⟩)
  have hlm2 : len ≤ maxLen := by omega
  refine ⟨xs, ⟨some a, cap, by rw [hlen], by rw [hlen]; exact hl, rfl, by rw [hlen]; simpa [maxLen] using hlm2, fun _ => ⟨a, rfl, fun j p hj => ?_⟩⟩, by rw [hlen]; exact hlm2, fun y hy => ?_⟩
  · obtain ⟨cs', h1, h2, _⟩ := hxs j p hj
    refine ⟨cs', k.K_len h2, h2, fun i u hu => ?_⟩
    obtain ⟨_, _, h3⟩ := World.cells?_some h1
    have h4 := h3 i (by have := (List.getElem?_eq_some_iff.1 hu).1; have := k.K_len h2; omega)
    rw [← hc, ← Go.Proofs.YtakkhomjpflkbaaW.PrintWords.add_add]
    rw [← hu]; exact h4
  obtain ⟨i, hi, rfl⟩ := List.mem_iff_getElem.1 hy
  obtain ⟨_, _, _, h3⟩ := hxs i _ (List.getElem?_eq_getElem hi)
  exact h3
theorem field_reads {H : Type} {enc : TypeId × Value → H} {P : Program} {w : World} {base : Nat} {spare : Nat → Bool} {held : Bool} {fuel : Nat} {t : TypeId} {cs : List Value} {x : DataW H × List MemPlace} {fs : Array Field}
    (ht : P.underlying t = some (.struct fs)) (h : DataW.trod enc P w base spare held fuel t cs = some x) :
    cs.length = P.cellsOf t ∧ ∃ n, ∀ (i : Nat) (f : Field), fs[i]? = some f → ∃ y, DataW.trod enc P w base spare held n f.type ((cs.drop f.offset).take (P.cellsOf f.type)) = some y := by
  obtain ⟨xs, n, _, _, hl, hx, hf⟩ := DataW.trod_struct ht h
  refine ⟨hl, n, fun i f hif => ?_⟩
  rw [hf i f hif]
  have hi := (Array.getElem?_eq_some_iff.1 hif).1
  exact ⟨_, List.getElem?_eq_getElem (by rw [hx]; exact hi)⟩
theorem band {a b : Bool} (h1 : a = true) (h2 : b = true) : (a && b) = true := by rw [h1, h2]; rfl
theorem mayEnter_of {P : Program} {L c : List Char} {rest : List (List Char)} (h : P.initOrder.toList = L) (h1 : behindMainWord (wordsSigns L) = c :: rest) (h2 : ((stripLifts liftWords (c :: rest)).2.head? == some "cut".toList) = true) (h3 : P.laysLater = false) (h4 : P.bearsReflect = false) (h5 : (stripLifts liftWords (c :: rest)).1 = []) (h6 : P.doorFits [] = true) : P.mayEnter = true := by
  unfold Program.mayEnter
  rw [h, h1]
  dsimp only
  rw [h2, h3, h4, h5, h6]
  simp
theorem make_of {P : Program} {L : List Char} {rest : List (List Char)} (h : P.initOrder.toList = L) (h1 : behindMainWord (wordsSigns L) = "cut".toList :: rest) : P.make = some .cut := by
  unfold Program.make
  rw [h, h1]
  dsimp only
  rw [if_neg (by decide), if_pos (by simp)]
end Go.Proofs.YtakkhomjpflkbaaX
set_option maxRecDepth 10000
namespace Go.Proofs.Ytakkhomjpflkbaa.Join
open Go.Proofs.YtakkhomjpflkbaaX
def initSigns : List Char := ['h', 'a', 'r', 'n', 'e', 's', 's', ' ', '8', '5', '1', '9', '2', 'd', '7', '1', '7', '6', 'f', 'f', '5', '6', '1', '0', '2', '1', 'b', '4', '6', '6', '4', 'b', '6', 'a', '6', '7', 'a', '6', '8', '3', '4', '1', 'a', '9', 'f', 'e', '4', 'b', '6', 'c', 'b', '5', '5', '7', 'f', '5', 'c', 'e', '1', '9', '0', '4', '4', '3', 'f', '0', '1', 'b', '7', '6', 'a', '6', ' ', 'c', 'u', 't', ' ', 'a', 't', ' ', 'b', 'a', 'c', 'k', 'h', 'a', 'u', 'l', '/', 'b', 'a', 'c', 'k', 'h', 'a', 'u', 'l', 'l', 'a', 'w', '3', '1', '.', 'R', 'e', 'p', 'l', 'y', 'C', 'o', 'd', 'e', 's', ' ', 'b', 'a', 'c', 'k', 'h', 'a', 'u', 'l', '/', 'b', 'a', 'c', 'k', 'h', 'a', 'u', 'l', 'l', 'a', 'w', '3', '1', '.', 'R', 'e', 'p', 'l', 'y', 'B', 'a', 'c', 'k', ' ', 'b', 'a', 'c', 'k', 'h', 'a', 'u', 'l', '/', 'b', 'a', 'c', 'k', 'h', 'a', 'u', 'l', 'l', 'a', 'w', '3', '1', '.', 'R', 'e', 'p', 'l', 'y', 'O', 'n', 'l', 'y', ' ', 'b', 'a', 'c', 'k', 'h', 'a', 'u', 'l', '/', 'b', 'a', 'c', 'k', 'h', 'a', 'u', 'l', 'l', 'a', 'w', '0', '6', '.', 'S', 't', 'r', 'i', 'c', 't', 'R', 'e', 'a', 'd', 's', ' ', 'b', 'a', 'c', 'k', 'h', 'a', 'u', 'l', '/', 'b', 'a', 'c', 'k', 'h', 'a', 'u', 'l', 'l', 'a', 'w', '0', '6', '.', 'S', 't', 'r', 'i', 'c', 't', 'F', 'i', 'r', 's', 't', ' ', 'b', 'a', 'c', 'k', 'h', 'a', 'u', 'l', '/', 'b', 'a', 'c', 'k', 'h', 'a', 'u', 'l', 'l', 'a', 'w', '2', '7', '.', 'R', 'm', 'a', 'M', 'a', 'k', 'e', 's', ' ', 'b', 'a', 'c', 'k', 'h', 'a', 'u', 'l', '/', 'b', 'a', 'c', 'k', 'h', 'a', 'u', 'l', 'l', 'a', 'w', '2', '7', '.', 'R', 'm', 'a', 'M', 'o', 'v', 'e', 's', ' ', 'b', 'a', 'c', 'k', 'h', 'a', 'u', 'l', '/', 'b', 'a', 'c', 'k', 'h', 'a', 'u', 'l', 'l', 'a', 'w', '2', '7', '.', 'R', 'm', 'a', 'T', 'u', 'r', 'n', 's', ' ', 'b', 'a', 'c', 'k', 'h', 'a', 'u', 'l', '/', 'b', 'a', 'c', 'k', 'h', 'a', 'u', 'l', 'l', 'a', 'w', '2', '7', '.', 'R', 'm', 'a', 'B', 'o', 'u', 'n', 'd', 's', ' ', 'b', 'a', 'c', 'k', 'h', 'a', 'u', 'l', '/', 'b', 'a', 'c', 'k', 'h', 'a', 'u', 'l', 'l', 'a', 'w', '0', '6', '.', 'S', 't', 'r', 'i', 'c', 't', 'W', 'h', 'o', 'l', 'e', ' ', 'b', 'a', 'c', 'k', 'h', 'a', 'u', 'l', '/', 'b', 'a', 'c', 'k', 'h', 'a', 'u', 'l', 'l', 'a', 'w', '1', '4', '.', 'I', 'n', 'd', 'e', 'x', 'T', 'e', 'l', 'l', 's', ' ', 'b', 'a', 'c', 'k', 'h', 'a', 'u', 'l', '/', 'b', 'a', 'c', 'k', 'h', 'a', 'u', 'l', 'l', 'a', 'w', '1', '4', '.', 'I', 'n', 'd', 'e', 'x', 'A', 'd', 'd', 's', ' ', 'b', 'a', 'c', 'k', 'h', 'a', 'u', 'l', '/', 'b', 'a', 'c', 'k', 'h', 'a', 'u', 'l', 'l', 'a', 'w', '1', '4', '.', 'I', 'n', 'd', 'e', 'x', 'T', 'u', 'r', 'n', 's', ' ', 'b', 'a', 'c', 'k', 'h', 'a', 'u', 'l', '/', 'b', 'a', 'c', 'k', 'h', 'a', 'u', 'l', 'l', 'a', 'w', '1', '4', '.', 'I', 'n', 'd', 'e', 'x', 'W', 'h', 'o', 'l', 'e', ' ', 'b', 'a', 'c', 'k', 'h', 'a', 'u', 'l', '/', 'b', 'a', 'c', 'k', 'h', 'a', 'u', 'l', 'l', 'a', 'w', '1', '5', '.', 'B', 'a', 't', 'c', 'h', 'A', 'p', 'p', 'l', 'i', 'e', 's', ' ', 'b', 'a', 'c', 'k', 'h', 'a', 'u', 'l', '/', 'b', 'a', 'c', 'k', 'h', 'a', 'u', 'l', 'l', 'a', 'w', '1', '5', '.', 'B', 'a', 't', 'c', 'h', 'C', 'o', 'd', 'e', 's', ' ', 'b', 'a', 'c', 'k', 'h', 'a', 'u', 'l', '/', 'b', 'a', 'c', 'k', 'h', 'a', 'u', 'l', 'l', 'a', 'w', '1', '5', '.', 'B', 'a', 't', 'c', 'h', 'W', 'h', 'o', 'l', 'e', ' ', 'b', 'a', 'c', 'k', 'h', 'a', 'u', 'l', '/', 'b', 'a', 'c', 'k', 'h', 'a', 'u', 'l', 'l', 'a', 'w', '1', '5', '.', 'B', 'a', 't', 'c', 'h', 'U', 'n', 'd', 'o', ' ', 'b', 'a', 'c', 'k', 'h', 'a', 'u', 'l', '/', 'b', 'a', 'c', 'k', 'h', 'a', 'u', 'l', 'l', 'a', 'w', '1', '5', '.', 'B', 'a', 't', 'c', 'h', 'D', 'i', 'f', 'f', ' ', 'b', 'a', 'c', 'k', 'h', 'a', 'u', 'l', '/', 'b', 'a', 'c', 'k', 'h', 'a', 'u', 'l', 'l', 'a', 'w', '3', '0', '.', 'C', 'm', 'd', 'B', 'a', 'c', 'k', ' ', 'b', 'a', 'c', 'k', 'h', 'a', 'u', 'l', '/', 'b', 'a', 'c', 'k', 'h', 'a', 'u', 'l', 'l', 'a', 'w', '3', '0', '.', 'C', 'm', 'd', 'O', 'n', 'l', 'y']
theorem initText : Try.pinned.checked.prog.initOrder = String.ofList initSigns := by kernel_rfl
theorem initList : Try.pinned.checked.prog.initOrder.toList = initSigns := (congrArg String.toList initText).trans String.toList_ofList
theorem mayEnter_is : Try.pinned.checked.prog.mayEnter = true :=
  mayEnter_of (L := initSigns) (c := "cut".toList) (rest := (behindMainWord (wordsSigns initSigns)).tail) initList (by kernel_rfl) (by kernel_rfl) (by kernel_rfl) (by kernel_rfl) (by kernel_rfl) (by kernel_rfl)
theorem make_is : Try.pinned.checked.prog.make = some .cut :=
  make_of (L := initSigns) (rest := (behindMainWord (wordsSigns initSigns)).tail) initList (by kernel_rfl)
theorem lifts_is : Try.pinned.checked.prog.liftsFinal = false := by
  unfold Program.liftsFinal Program.headLifts
  rw [initList]
  kernel_rfl
end Go.Proofs.Ytakkhomjpflkbaa.Join
namespace Go.Proofs.Ytakkhomjpflkbaa.rmaBounds
open Go.ChangeShapes Go.WideShapes Go.ChangeAt Go.RowKit Go.Proofs.YtakkhomjpflkbaaX Go.Proofs.Ytakkhomjpflkbaa.F Go.Proofs.YtakkhomjpflkbaaW.PrintWords Go.Proofs.YtakkhomjpflkbaaW.PrintLast Go.Proofs.YtakkhomjpflkbaaW.PrintMore
open Go.ChangeMaps (open_string shut_string)
set_option linter.unusedVariables false
set_option linter.unusedSimpArgs false
theorem own : ownKnob Try.prog.godebug = none := by kernel_rfl
theorem laidOut : laidOutB Try.prog = true := by kernel_rfl
set_option maxRecDepth 100000 in
theorem opens_k97 : Opens Try.prog 97 k97 (fun x => ((Lit.int .i64 x.f0).wf = true ∧ (Lit.int .i64 x.f1).wf = true ∧ (Lit.int .i64 x.f2).wf = true)) := by
  intro H enc w base spare held fuel cs x h
  obtain ⟨hl, n, hf⟩ := field_reads Try.underlying97 h
  have hl2 : cs.length = 3 := hl.trans (by kernel_rfl)
  match cs, hl2 with
  | [c0, c1, c2], _ =>
    obtain ⟨y0, h0⟩ := hf 0 _ rfl
    have e0 : Try.prog.cellsOf 3 = 1 := by kernel_rfl
    (try dsimp only at h0)
    (try simp only [e0] at h0)
    obtain ⟨a0, k0, o0⟩ := (Opens.int Try.underlying3) h0
    have k0' : ((Kd.int .i64)).K w a0 [c0] := k0
    obtain ⟨y1, h1⟩ := hf 1 _ rfl
    have e1 : Try.prog.cellsOf 3 = 1 := by kernel_rfl
    (try dsimp only at h1)
    (try simp only [e1] at h1)
    obtain ⟨a1, k1, o1⟩ := (Opens.int Try.underlying3) h1
    have k1' : ((Kd.int .i64)).K w a1 [c1] := k1
    obtain ⟨y2, h2⟩ := hf 2 _ rfl
    have e2 : Try.prog.cellsOf 3 = 1 := by kernel_rfl
    (try dsimp only at h2)
    (try simp only [e2] at h2)
    obtain ⟨a2, k2, o2⟩ := (Opens.int Try.underlying3) h2
    have k2' : ((Kd.int .i64)).K w a2 [c2] := k2
    exact ⟨(⟨a0, a1, a2⟩ : S97), ⟨[c0], [c1, c2], rfl, k0', ⟨[c1], [c2], rfl, k1', k2'⟩⟩, ⟨o0, o1, o2⟩⟩
set_option maxRecDepth 100000 in
theorem opens_k70 : Opens Try.prog 70 k70 (fun x => ((Lit.int .i64 x.f0).wf = true ∧ (Lit.int .i64 x.f1).wf = true ∧ (Lit.int .i64 x.f2).wf = true ∧ (Lit.int .i64 x.f3).wf = true ∧ (x.f4.length ≤ maxLen ∧ ∀ y ∈ x.f4, ((Lit.int .i64 y.f0).wf = true ∧ (Lit.int .i64 y.f1).wf = true ∧ (Lit.int .i64 y.f2).wf = true)))) := by
  intro H enc w base spare held fuel cs x h
  obtain ⟨hl, n, hf⟩ := field_reads Try.underlying70 h
  have hl2 : cs.length = 5 := hl.trans (by kernel_rfl)
  match cs, hl2 with
  | [c0, c1, c2, c3, c4], _ =>
    obtain ⟨y0, h0⟩ := hf 0 _ rfl
    have e0 : Try.prog.cellsOf 3 = 1 := by kernel_rfl
    (try dsimp only at h0)
    (try simp only [e0] at h0)
    obtain ⟨a0, k0, o0⟩ := (Opens.int Try.underlying3) h0
    have k0' : ((Kd.int .i64)).K w a0 [c0] := k0
    obtain ⟨y1, h1⟩ := hf 1 _ rfl
    have e1 : Try.prog.cellsOf 3 = 1 := by kernel_rfl
    (try dsimp only at h1)
    (try simp only [e1] at h1)
    obtain ⟨a1, k1, o1⟩ := (Opens.int Try.underlying3) h1
    have k1' : ((Kd.int .i64)).K w a1 [c1] := k1
    obtain ⟨y2, h2⟩ := hf 2 _ rfl
    have e2 : Try.prog.cellsOf 3 = 1 := by kernel_rfl
    (try dsimp only at h2)
    (try simp only [e2] at h2)
    obtain ⟨a2, k2, o2⟩ := (Opens.int Try.underlying3) h2
    have k2' : ((Kd.int .i64)).K w a2 [c2] := k2
    obtain ⟨y3, h3⟩ := hf 3 _ rfl
    have e3 : Try.prog.cellsOf 3 = 1 := by kernel_rfl
    (try dsimp only at h3)
    (try simp only [e3] at h3)
    obtain ⟨a3, k3, o3⟩ := (Opens.int Try.underlying3) h3
    have k3' : ((Kd.int .i64)).K w a3 [c3] := k3
    obtain ⟨y4, h4⟩ := hf 4 _ rfl
    have e4 : Try.prog.cellsOf 68 = 1 := by kernel_rfl
    (try dsimp only at h4)
    (try simp only [e4] at h4)
    obtain ⟨a4, k4, o4⟩ := (Opens.slice Try.underlying68 (by kernel_rfl) opens_k97) h4
    have k4' : ((Kd.slice 97 k97)).K w a4 [c4] := k4
    exact ⟨(⟨a0, a1, a2, a3, a4⟩ : S70), ⟨[c0], [c1, c2, c3, c4], rfl, k0', ⟨[c1], [c2, c3, c4], rfl, k1', ⟨[c2], [c3, c4], rfl, k2', ⟨[c3], [c4], rfl, k3', k4'⟩⟩⟩⟩, ⟨o0, o1, o2, o3, o4⟩⟩
set_option maxRecDepth 100000 in
theorem lifted (os : Os) (started : os.Started) (H : Type) (enc : TypeId × Value → H) :
    ReturnsInHanded {} Try.checked os 11 .any (Rows.rmaBoundsSpec.pre6 enc Try.prog Try.f11 Rows.rmaBoundsRow.domain false) (Rows.rmaBoundsSpec.post enc Try.prog Try.f11 false true false false) := by
  refine returnsInHanded_of_change_sized (C := Try.checked) own started (by kernel_rfl) Try.func11
    (ChangeSpec.witness6 (enc := enc) (C := Try.checked) false ⟨#[], #[.agg #[.int .i64 0, .int .i64 0, .int .i64 0, .int .i64 0, .slice none 0 0], .int .i64 0], []⟩ 8 (by kernel_rfl) (by kernel_rfl) (by kernel_rfl) (by kernel_rfl)) ?_
  intro W base args ds gs before hval0 hW hcnd hsz0 _
  have hval : ∀ (j : Nat) t v, Try.f11.params[j]? = some t → args[j]? = some v → Value.okWide Try.prog W .any base t v := hval0
  have hW' := hW
  obtain ⟨p, q, hA0, hV, rfl, hfz, hnd⟩ := hW
  have hA : DataW.TrodAll enc Try.prog W 0 (fun _ => true) true Try.f11.params.toList args.toList ds p := hA0
  rw [Try.params11] at hA hval
  obtain ⟨v0, vs0, d0, ds0, p0, q0, hargs, rfl, rfl, h0, r0⟩ := trodAll_cons hA
  obtain ⟨v1, vs1, d1, ds1, p1, q1, rfl, rfl, rfl, h1, r1⟩ := trodAll_cons r0
  obtain ⟨rfl, rfl, rfl⟩ := trodAll_nil r1
  obtain rfl : args = #[v0, v1] := by cases args; simp_all
  obtain ⟨rfl, rfl⟩ := trodVars_none hV
  have k0 := h0
  have lt0 : ∀ x ∈ p0, x.block < W.heap.size := by obtain ⟨m, hm⟩ := k0; exact DataW.trod_lt m _ _ _ hm
  obtain ⟨cs0, rfl, _⟩ := okWide_struct Try.underlying70 (hval 0 70 v0 rfl rfl)
  obtain ⟨f0, hf0⟩ := h0
  obtain ⟨x0, hk0, ho0⟩ := opens_k70 hf0
  obtain ⟨A0_4, c0_4, he0, hl0_4, hc0_4⟩ := k70_open hk0
  obtain rfl : cs0 = _ := Array.toList_inj.1 (he0.trans (List.toList_toArray).symm)
  have k1 := h1
  have lt1 : ∀ x ∈ p1, x.block < W.heap.size := by obtain ⟨m, hm⟩ := k1; exact DataW.trod_lt m _ _ _ hm
  obtain ⟨x1, rfl⟩ := okWide_int Try.underlying3 (hval 1 3 v1 rfl rfl)
  obtain ⟨f1, hf1⟩ := h1
  obtain ⟨z1, hk1, ho1⟩ := (Opens.int Try.underlying3) hf1
  obtain rfl : x1 = z1 := by have := hk1; injection this with this; injection this
  obtain ⟨k, h⟩ : ∃ k, backhaullaw27_RmaBounds.f k x0.f0 x0.f1 x0.f2 x0.f3 x0.f4 x1 = some true := Pure.RmaBounds x0.f0 x0.f1 x0.f2 x0.f3 x0.f4 x1 ho0.1 ho0.2.1 ho0.2.2.1 ho0.2.2.2.1 ho0.2.2.2.2 ho1
  refine (backhaullaw27_RmaBounds.calls k x0.f0 x0.f1 x0.f2 x0.f3 _ _ x0.f4 x1 W hc0_4 hl0_4 h).mono fun e W' hq => ?_
  obtain ⟨he, bel0⟩ := hq
  have bel : Below W.heap.size W W' := bel0
  subst he
  exact ⟨_, rfl, _, _, _, [], _, [], hW', trodAll_mk1 (shut_bool Try.underlying4 _), (trodAll_cons_mk (Below.trod laidOut (by kernel_rfl) (of_decide_eq_true (by kernel_rfl)) k0 bel lt0) (trodAll_cons_mk (Below.trod laidOut (by kernel_rfl) (of_decide_eq_true (by kernel_rfl)) k1 bel lt1) trodAll_mk0)), rfl, bel.frame _, fun h => by cases h⟩
theorem closed_ : joinedFacts Try.pinned.checked.prog 11 Try.f11 Rows.rmaBoundsSpec Rows.rmaBoundsRow = true := by
  unfold joinedFacts
  repeat' (with_reducible apply band)
  any_goals with_reducible exact Join.mayEnter_is
  any_goals (rw [Join.make_is]; kernel_rfl)
  any_goals (rw [Join.lifts_is]; kernel_rfl)
  all_goals kernel_rfl
theorem over : Rows.rmaBoundsRow.holds Try.pinned (OpenSpec.ofChange Rows.rmaBoundsSpec) :=
  OpenClaim.holds_of_wide 11 Try.f11 rfl rfl rfl rfl rfl rfl rfl ⟨rfl, rfl, rfl, rfl, rfl⟩ rfl rfl rfl rfl rfl (by kernel_rfl) Try.func11 closed_
    (of_decide_eq_true (by kernel_rfl)) (by unfold Func.isWrapper; first | (rw [if_pos (by decide +kernel)]; kernel_rfl) | (rw [if_neg (by decide +kernel)]; exact ⟨rfl, rfl⟩))
    (fun os started H enc _ => lifted os started H enc)
theorem proved : Rows.RmaBoundsSaid := over
#print axioms proved
end Go.Proofs.Ytakkhomjpflkbaa.rmaBounds
namespace Go.Proofs.Ytakkhomjpflkbaa
theorem rmaBounds_holds : Rows.RmaBoundsSaid := rmaBounds.proved
end Go.Proofs.Ytakkhomjpflkbaa
