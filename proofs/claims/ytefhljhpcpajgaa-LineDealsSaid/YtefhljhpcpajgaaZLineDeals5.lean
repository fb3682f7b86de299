-- merged and pruned by prune.py (the session's own program); its words go back to the kit's print
import Derived.Test.YtefhljhpcpajgaaProg
import Derived.Below
import Derived.Deep.Draws
import Derived.Deep.AppendLies
import Derived.Maps.AppendAt
import Derived.OwnWalk
import Derived.Laws.BytesArg
import Derived.Laws.MakeOwn
import Derived.Laws.OwnMore
import Derived.Deep.OwnRows
import Derived.Tactics
import Derived.Lib.ConvBytes
import Derived.Laws.Slices
import Derived.WalkKit
import Derived.KernelRfl
import Derived.RowKit3
import Derived.Deep.LoopGhost
import Derived.Deep.QuietTactic
import Derived.BigQuiet
import Derived.WideLaws
import Derived.Deep.DeepCutAuto
import Derived.Deep.CutBlock
import Derived.Deep.RegionHeld3
import Derived.Laws.Rows
import Derived.Lib.AppendStr
import Derived.ArgAppend
import Derived.Laws.IdiomCopy
import Derived.OrdersHeld
import Derived.Laws.BitsLemmas
import Derived.RowKit
import Derived.Laws.StructEq
import Derived.Deep.RegionLawGrows
import Derived.Lib.SliceRun
import Derived.Lib.OthersKept
import Derived.Lib.RuneCount
import Derived.Laws.Cover4
import Derived.Outline
import Derived.Shelf.Small.Bits
import Derived.Shelf.Utf8.RuneCount
import Derived.Shelf.Strconv.Itoa0
import Derived.Shelf.Strings.Prefix
import Derived.Shelf.Strings.RuneCount
import Derived.Shelf.Bits.Mul64
import Derived.Ground.Names2Prog
import Derived.Shelf.Slices.SearchI
import Derived.Ground.SlsfProg
import Derived.Shelf.SlSortCmp.Insertion
import Derived.Shelf.SlSortCmp.Insertion1
import Derived.Sort.LotA
import Derived.Sort.OwnSortedInts
import Derived.Test.YtefhljhpcpajgaaZLineDeals4
namespace Go.Proofs.Ytefhljhpcpajgaa.F
open Go.RowKit Go.Proofs.YtefhljhpcpajgaaX Go.Proofs.YtefhljhpcpajgaaW.PrintWords Go.Proofs.YtefhljhpcpajgaaW.PrintLast Go.Proofs.YtefhljhpcpajgaaW.PrintMore
attribute [local go_sem] max2_int min2_int max_two min_two max_three min_three max_four min_four   
attribute [local go_sem high] str_geq str_leq str_gtr
set_option linter.unusedVariables false
set_option linter.unusedSimpArgs false
def line_Sum.l0 : Nat → Int → Int → Int → List (S71) → Int → Int → Option (Int × Int × Int × Int)
  | 0, _, _, _, _, _, _ => none
  | k + 1, x2, x3, x4, x15, x16, x17 => if x17 < x16 then (if 0 ≤ x17 then (if x17 < (x15.length : Int) then ((line_Check.f k ((rd_T71 x15 x17).f0) ((rd_T71 x15 x17).f1) ((rd_T71 x15 x17).f2) ((rd_T71 x15 x17).f3) ((rd_T71 x15 x17).f4)).bind fun t103 => (if t103 = 0 then ((cents_Add.f k (([x2, (rd_T71 x15 x17).f1] : List Int))).bind fun bt107 => ((cents_Add.f k (([x3, (rd_T71 x15 x17).f2] : List Int))).bind fun bt112 => ((cents_Add.f k (([x4, (rd_T71 x15 x17).f3] : List Int))).bind fun bt117 => (if bt107.2 = 0 then (if bt112.2 = 0 then (if bt117.2 = 0 then (line_Sum.l0 k bt107.1 bt112.1 bt117.1 x15 x16 (wrap64 (x17 + 1))) else (some (0, 0, 0, 8))) else (some (0, 0, 0, 8))) else (some (0, 0, 0, 8)))))) else (some (0, 0, 0, t103)))) else (none)) else (none)) else (some (x2, x3, x4, 0))
def line_Sum.f (k : Nat) (l0 : List (S71)) : Option (Int × Int × Int × Int) := line_Sum.l0 k 0 0 0 l0 (l0.length : Int) 0
theorem line_Sum.mono_l : ∀ k, (∀ y0 y1 y2 y3 y4 y5, LeO (line_Sum.l0 k y0 y1 y2 y3 y4 y5) (line_Sum.l0 (k + 1) y0 y1 y2 y3 y4 y5))
  | 0 => fun _ _ _ _ _ _ r h => by simp [line_Sum.l0] at h
  | k + 1 => by
    have ih0 := line_Sum.mono_l k
    intro y0 y1 y2 y3 y4 y5
    unfold line_Sum.l0
    repeat' (with_reducible first | exact ih0 _ _ _ _ _ _ | exact cents_Add.mono _ _ | exact line_Check.mono _ _ _ _ _ _ | exact LeO.refl _ | exact LeO.none _ | refine LeO.ite ?_ ?_ | refine LeO.bind ?_ (fun _ => ?_))
theorem line_Sum.mono : ∀ a0 k, LeO (line_Sum.f k a0) (line_Sum.f (k + 1) a0) := by
  intro a0 k
  have ih0 := line_Sum.mono_l k
  unfold line_Sum.f
  repeat' (with_reducible first | exact ih0 _ _ _ _ _ _ | exact cents_Add.mono _ _ | exact line_Check.mono _ _ _ _ _ _ | exact LeO.refl _ | exact LeO.none _ | refine LeO.ite ?_ ?_ | refine LeO.bind ?_ (fun _ => ?_))
set_option maxHeartbeats 8000000 in
set_option maxRecDepth 100000 in
theorem line_Sum.calls (k : Nat) (A0 : Option Addr) (c0 : Nat) (l0 : List (S71)) (r1 : Int) (r2 : Int) (r3 : Int) (r4 : Int) (w : World) (hr0 : Kd.C k71 w A0 l0.length l0) (hc0 : l0.length ≤ c0) (h : line_Sum.f k l0 = some (r1, r2, r3, r4)) :
    Calls Try.prog 71 #[.slice A0 l0.length c0] w fun e w' => e = .returned (.tuple #[.int .i64 r1, .int .i64 r2, .int .i64 r3, .int .i64 r4]) ∧ Below w.heap.size w w' := by
  have hu71 := Try.underlying71
  have HR0 := zA hr0
  have HC0 := zA hc0
  clear hr0 hc0
  have HB := zA (Below.refl w.heap.size w)
  have H : (line_Sum.l0 k 0 0 0 l0 (l0.length : Int) 0) = some (r1, r2, r3, r4) := h
  clear h
  have H' := zA H
  clear H
  go_enter Try.func71, Try.ntmps71
  go_wp2
  go_loopg [2, 3, 4, 17] k (fun kq v2 v3 v4 v17 w' => ∃ (x2_1 : Int) (x3_1 : Int) (x4_1 : Int) (x17_1 : Int), v2 = .int .i64 x2_1 ∧ v3 = .int .i64 x3_1 ∧ v4 = .int .i64 x4_1 ∧ v17 = .int .i64 x17_1 ∧ Aside0 (line_Sum.l0 kq x2_1 x3_1 x4_1 l0 (l0.length : Int) x17_1 = some (r1, r2, r3, r4)) ∧ Aside0 (kq ≤ k) ∧ Aside0 (Below w.heap.size w w'))
  case atStart => exact ⟨(0), (0), (0), (0), (by first | rfl | (simp; done) | (simp [*]; done)), (by first | rfl | (simp; done) | (simp [*]; done)), (by first | rfl | (simp; done) | (simp [*]; done)), (by first | rfl | (simp; done) | (simp [*]; done)), H', ⟨Nat.le_refl _⟩, ⟨qB⟩⟩
  case round =>
    clear H'; obtain ⟨x2_1, x3_1, x4_1, x17_1, rfl, rfl, rfl, rfl, HA, HK1, HB⟩ := hrel; cases gk with
    | zero => exact absurd HA.out (by simp [line_Sum.l0])
    | succ k1 =>
      have H := HA.out; clear HA; simp only [line_Sum.l0] at H; by_cases c2 : x17_1 < (l0.length : Int)
      · rw [if_pos c2] at H
        have c2b0 : decide (x17_1 < (l0.length : Int)) = true := zFq c2; clear c2; by_cases c3 : 0 ≤ x17_1
        · rw [if_pos c3] at H
          have c3b0 : decide (0 ≤ x17_1) = true := zFq c3; clear c3; by_cases c4 : x17_1 < (l0.length : Int)
          · rw [if_pos c4] at H
            have c4b0 : decide (x17_1 < (l0.length : Int)) = true := zFq c4; clear c4; replace H := Option.bind_eq_some_iff.mp H; obtain ⟨t103, A50, H⟩ := H; try dsimp only at H
            have A5 := zA A50; clear A50; by_cases c6 : t103 = 0
            · rw [if_pos c6] at H
              have c6b0 : (t103 == 0) = true := beq_iff_eq.mpr c6; have c6b1 : (t103 != 0) = false := bne_eq_false_iff_eq.mpr c6; clear c6; obtain ⟨y104, hy104⟩ : ∃ y_ : List Int, y_ = (([x2_1, (rd_T71 l0 x17_1).f1] : List Int)) := ⟨_, rfl⟩
              replace H : ((cents_Add.f k1 y104).bind fun bt107 => ((cents_Add.f k1 (([x3_1, (rd_T71 l0 x17_1).f2] : List Int))).bind fun bt112 => ((cents_Add.f k1 (([x4_1, (rd_T71 l0 x17_1).f3] : List Int))).bind fun bt117 => (if bt107.2 = 0 then (if bt112.2 = 0 then (if bt117.2 = 0 then (line_Sum.l0 k1 bt107.1 bt112.1 bt117.1 l0 (l0.length : Int) (wrap64 (x17_1 + 1))) else (some (0, 0, 0, 8))) else (some (0, 0, 0, 8))) else (some (0, 0, 0, 8)))))) = some (r1, r2, r3, r4) := by first | (rw [hy104]; with_reducible exact H) | (have H2_ := (Option.bind_some _ _).symm.trans H; rw [hy104]; with_reducible exact H2_) | (have H2_ := (Option.bind_some _ _).symm.trans H; with_reducible exact H2_) | with_reducible exact H | (rw [hy104]; exact H) | exact H
              have Ny104 := zA hy104; clear hy104; replace H := Option.bind_eq_some_iff.mp H; obtain ⟨⟨t107, t108⟩, A70, H⟩ := H; try dsimp only at H
              have A7 := zA A70; clear A70; obtain ⟨y109, hy109⟩ : ∃ y_ : List Int, y_ = (([x3_1, (rd_T71 l0 x17_1).f2] : List Int)) := ⟨_, rfl⟩
              replace H : ((cents_Add.f k1 y109).bind fun bt112 => ((cents_Add.f k1 (([x4_1, (rd_T71 l0 x17_1).f3] : List Int))).bind fun bt117 => (if t108 = 0 then (if bt112.2 = 0 then (if bt117.2 = 0 then (line_Sum.l0 k1 t107 bt112.1 bt117.1 l0 (l0.length : Int) (wrap64 (x17_1 + 1))) else (some (0, 0, 0, 8))) else (some (0, 0, 0, 8))) else (some (0, 0, 0, 8))))) = some (r1, r2, r3, r4) := by first | (rw [hy109]; with_reducible exact H) | (have H2_ := (Option.bind_some _ _).symm.trans H; rw [hy109]; with_reducible exact H2_) | (have H2_ := (Option.bind_some _ _).symm.trans H; with_reducible exact H2_) | with_reducible exact H | (rw [hy109]; exact H) | exact H
              have Ny109 := zA hy109; clear hy109; replace H := Option.bind_eq_some_iff.mp H; obtain ⟨⟨t112, t113⟩, A80, H⟩ := H; try dsimp only at H
              have A8 := zA A80; clear A80; obtain ⟨y114, hy114⟩ : ∃ y_ : List Int, y_ = (([x4_1, (rd_T71 l0 x17_1).f3] : List Int)) := ⟨_, rfl⟩
              replace H : ((cents_Add.f k1 y114).bind fun bt117 => (if t108 = 0 then (if t113 = 0 then (if bt117.2 = 0 then (line_Sum.l0 k1 t107 t112 bt117.1 l0 (l0.length : Int) (wrap64 (x17_1 + 1))) else (some (0, 0, 0, 8))) else (some (0, 0, 0, 8))) else (some (0, 0, 0, 8)))) = some (r1, r2, r3, r4) := by first | (rw [hy114]; with_reducible exact H) | (have H2_ := (Option.bind_some _ _).symm.trans H; rw [hy114]; with_reducible exact H2_) | (have H2_ := (Option.bind_some _ _).symm.trans H; with_reducible exact H2_) | with_reducible exact H | (rw [hy114]; exact H) | exact H
              have Ny114 := zA hy114; clear hy114; replace H := Option.bind_eq_some_iff.mp H; obtain ⟨⟨t117, t118⟩, A90, H⟩ := H; try dsimp only at H
              have A9 := zA A90; clear A90; by_cases c10 : t108 = 0
              · rw [if_pos c10] at H
                have c10b0 : (t108 == 0) = true := beq_iff_eq.mpr c10; have c10b1 : (t108 != 0) = false := bne_eq_false_iff_eq.mpr c10; clear c10; by_cases c11 : t113 = 0
                · rw [if_pos c11] at H
                  have c11b0 : (t113 == 0) = true := beq_iff_eq.mpr c11; have c11b1 : (t113 != 0) = false := bne_eq_false_iff_eq.mpr c11; clear c11; by_cases c12 : t118 = 0
                  · rw [if_pos c12] at H
                    have c12b0 : (t118 == 0) = true := beq_iff_eq.mpr c12; have c12b1 : (t118 != 0) = false := bne_eq_false_iff_eq.mpr c12; clear c12; have H' := zA H; clear H; have p101 : 0 ≤ (x17_1 : Int) := of_decide_eq_true qA; have q101 : x17_1 < (l0.length : Int) := of_decide_eq_true qA; obtain ⟨ad101, A101_4, c101_4, e101, hx101_0, hx101_1, hx101_2, hx101_3, hx101_4, hl101_4, hi101_4⟩ := at_T71 HR0.out x17_1 p101 q101; cases e101
                    replace hx101_0 := (HB.out.cell (zCq w _ hx101_0)).trans hx101_0; replace hx101_1 := (HB.out.cell (zCq w _ hx101_1)).trans hx101_1; replace hx101_2 := (HB.out.cell (zCq w _ hx101_2)).trans hx101_2; replace hx101_3 := (HB.out.cell (zCq w _ hx101_3)).trans hx101_3; replace hx101_4 := (HB.out.cell (zCq w _ hx101_4)).trans hx101_4; have HR101_4 := zA hi101_4; have HC101_4 := zA hl101_4; clear hi101_4 hl101_4; replace p101 := eq_true p101; replace q101 := eq_true q101; go_wp2_with (first | ((with_reducible refine gate_dst (N := 7) rfl ?_); refine box_event qr (N := 7) qr (cs := #[.int .i64 0, .int .i64 0, .int .i64 0, .int .i64 0, .slice none 0 0]) (t := 71) qg ?_; intro gb102 hg w13 hbox hb; have n0_ := zA (zV qB hb); have n1_ := zA (hbox); have n2_ := zA ((qS : w.heap.size ≤ gb102)); have n3_ := zA ((qS : w.heap.size ≤ gb102)); clear HB; have HB := n0_; have BK102 := n1_; have GW102 := n2_; have GE102 := n3_; clear n0_ n1_ n2_ n3_ hb hbox hg; obtain ⟨_, _, _, _, _, _, _, _, _, _⟩ := qc5f BK102.out) | ((with_reducible refine zJq (f := 69) rfl ?_); refine goesL_ (some 22) rfl rfl Try.func69 (by kernel_rfl) rfl #[.agg #[.int .i64 ((rd_T71 l0 x17_1).f0), .int .i64 ((rd_T71 l0 x17_1).f1), .int .i64 ((rd_T71 l0 x17_1).f2), .int .i64 ((rd_T71 l0 x17_1).f3), .slice A101_4 ((rd_T71 l0 x17_1).f4).length c101_4]] rfl qG ?_; (with_reducible refine (line_Check.calls k1 ((rd_T71 l0 x17_1).f0) ((rd_T71 l0 x17_1).f1) ((rd_T71 l0 x17_1).f2) ((rd_T71 l0 x17_1).f3) _ _ ((rd_T71 l0 x17_1).f4) t103 _ ?side1 ?side2 A5.out).mono ?_); (case side1 => exact Kd.C_below HR101_4.out qB); (case side2 => exact HC101_4.out); rintro e w15 ⟨rfl, hb⟩; refine ⟨_, rfl, ?_⟩; have n0_ := zA (zX (g := gb102) (o := .cells #[.int .i64 ((rd_T71 l0 x17_1).f0), .int .i64 ((rd_T71 l0 x17_1).f1), .int .i64 ((rd_T71 l0 x17_1).f2), .int .i64 ((rd_T71 l0 x17_1).f3), .slice A101_4 ((rd_T71 l0 x17_1).f4).length c101_4] 71 (0, 0)) (qV BK102.out) hb); have n1_ := zA (zV qB hb); clear BK102 HB; have BK102 := n0_; have HB := n1_; clear n0_ n1_; (try clear hb); obtain ⟨_, _, _, _, _, _, _, _, _, _⟩ := qc5f BK102.out) | ((with_reducible refine gate_dst (N := 30) rfl ?_); refine Kd.R_lit (Kd.int .i64) _ 3 ?hg (N := 30) ?hd (xs := ([x2_1, (rd_T71 l0 x17_1).f1] : List Int)) (inner := [.int .i64 x2_1, .int .i64 ((rd_T71 l0 x17_1).f1)]) (ok := fun _ => True) (okp := fun _ => True) ?hr ?hp (fun _ hk => hk) trivial (Below.refl _ _) (Nat.le_refl _) (by simp) ?_; (case hd => rfl); (case hg => rfl); (case hr => first | (go_simp; done) | (go_simp; rfl)); (case hp => exact (Reps.one (show Kd.M (Kd.int .i64) _ _ _ x2_1 [.int .i64 x2_1] from rfl) (Reps.one (show Kd.M (Kd.int .i64) _ _ _ ((rd_T71 l0 x17_1).f1) [.int .i64 ((rd_T71 l0 x17_1).f1)] from rfl) (Reps.none _ _)))); intro v105 w17 ho18 hb hg_ hnew_; clear hg_ hnew_; (first | rw [← Ny104.out] at ho18 | (simp only [Int.reduceToNat] at ho18; rw [← Ny104.out] at ho18)); have n0_ := zA (Kd.R_lower ho18 (zW qB)); have n1_ := zA (qX BK102.out hb); have n2_ := zA (zV qB hb); clear BK102 HB; have HO106 := n0_; have BK102 := n1_; have HB := n2_; clear n0_ n1_ n2_ hb ho18; obtain ⟨Ao19, co19, eo19⟩ := Kd.R_slice HO106.out; subst eo19) | ((with_reducible refine zJq (f := 25) rfl ?_); refine goesL_ (some 31) rfl rfl Try.func25 (by kernel_rfl) rfl #[.slice Ao19 y104.length co19] rfl qG ?_; (with_reducible refine (cents_Add.calls k1 _ _ y104 t107 t108 _ ?side1 ?side2 A7.out).mono ?_); (case side1 => repeat (first | exact (Kd.R_reads' HO106.out).2.2 | (with_reducible refine Kd.C_alloc ?_ _) | (with_reducible refine Kd.C_drewN ?_ _) | (with_reducible refine Kd.C_drew ?_))); (case side2 => exact (Kd.R_reads' HO106.out).2.1); rintro e w' ⟨rfl, ⟨nd, rfl⟩⟩; refine ⟨_, rfl, ?_⟩; obtain ⟨_, _, _, _, _, _, _, _, _, _⟩ := qc5f BK102.out) | ((with_reducible refine gate_dst (N := 38) rfl ?_); refine Kd.R_lit (Kd.int .i64) _ 3 ?hg (N := 38) ?hd (xs := ([x3_1, (rd_T71 l0 x17_1).f2] : List Int)) (inner := [.int .i64 x3_1, .int .i64 ((rd_T71 l0 x17_1).f2)]) (ok := fun _ => True) (okp := fun _ => True) ?hr ?hp (fun _ hk => hk) trivial (Below.refl _ _) (Nat.le_refl _) (by simp) ?_; (case hd => rfl); (case hg => rfl); (case hr => first | (go_simp; done) | (go_simp; rfl)); (case hp => exact (Reps.one (show Kd.M (Kd.int .i64) _ _ _ x3_1 [.int .i64 x3_1] from rfl) (Reps.one (show Kd.M (Kd.int .i64) _ _ _ ((rd_T71 l0 x17_1).f2) [.int .i64 ((rd_T71 l0 x17_1).f2)] from rfl) (Reps.none _ _)))); intro v110 w21 ho22 hb hg_ hnew_; clear hg_ hnew_; (first | rw [← Ny109.out] at ho22 | (simp only [Int.reduceToNat] at ho22; rw [← Ny109.out] at ho22)); have n0_ := zA (Kd.R_elder' (by (with_reducible repeat (first | apply Kd.R_alloc | apply Kd.R_drewN | apply Kd.R_drew)); exact HO106.out) (Kd.R_base ho22) hb); have n1_ := zA (Kd.R_lower (Kd.R_new' ho22 (Kd.R_lt (by (with_reducible repeat (first | apply Kd.R_alloc | apply Kd.R_drewN | apply Kd.R_drew)); exact HO106.out))) (zW qB)); have n2_ := zA (qX BK102.out hb); have n3_ := zA (zV qB hb); clear HO106 BK102 HB; have HO106 := n0_; have HO111 := n1_; have BK102 := n2_; have HB := n3_; clear n0_ n1_ n2_ n3_ hb ho22; obtain ⟨Ao23, co23, eo23⟩ := Kd.R_slice HO111.out; subst eo23) | ((with_reducible refine zJq (f := 25) rfl ?_); refine goesL_ (some 39) rfl rfl Try.func25 (by kernel_rfl) rfl #[.slice Ao23 y109.length co23] rfl qG ?_; (with_reducible refine (cents_Add.calls k1 _ _ y109 t112 t113 _ ?side1 ?side2 A8.out).mono ?_); (case side1 => repeat (first | exact (Kd.R_reads' HO111.out).2.2 | (with_reducible refine Kd.C_alloc ?_ _) | (with_reducible refine Kd.C_drewN ?_ _) | (with_reducible refine Kd.C_drew ?_))); (case side2 => exact (Kd.R_reads' HO111.out).2.1); rintro e w' ⟨rfl, ⟨nd, rfl⟩⟩; refine ⟨_, rfl, ?_⟩; obtain ⟨_, _, _, _, _, _, _, _, _, _⟩ := qc5f BK102.out) | ((with_reducible refine gate_dst (N := 46) rfl ?_); refine Kd.R_lit (Kd.int .i64) _ 3 ?hg (N := 46) ?hd (xs := ([x4_1, (rd_T71 l0 x17_1).f3] : List Int)) (inner := [.int .i64 x4_1, .int .i64 ((rd_T71 l0 x17_1).f3)]) (ok := fun _ => True) (okp := fun _ => True) ?hr ?hp (fun _ hk => hk) trivial (Below.refl _ _) (Nat.le_refl _) (by simp) ?_; (case hd => rfl); (case hg => rfl); (case hr => first | (go_simp; done) | (go_simp; rfl)); (case hp => exact (Reps.one (show Kd.M (Kd.int .i64) _ _ _ x4_1 [.int .i64 x4_1] from rfl) (Reps.one (show Kd.M (Kd.int .i64) _ _ _ ((rd_T71 l0 x17_1).f3) [.int .i64 ((rd_T71 l0 x17_1).f3)] from rfl) (Reps.none _ _)))); intro v115 w25 ho26 hb hg_ hnew_; clear hg_ hnew_; (first | rw [← Ny114.out] at ho26 | (simp only [Int.reduceToNat] at ho26; rw [← Ny114.out] at ho26)); have n0_ := zA (Kd.R_elder' (by (with_reducible repeat (first | apply Kd.R_alloc | apply Kd.R_drewN | apply Kd.R_drew)); exact HO106.out) (Kd.R_base ho26) hb); have n1_ := zA (Kd.R_elder' (by (with_reducible repeat (first | apply Kd.R_alloc | apply Kd.R_drewN | apply Kd.R_drew)); exact HO111.out) (Kd.R_base ho26) hb); have n2_ := zA (Kd.R_lower (Kd.R_new' (Kd.R_new' ho26 (Kd.R_lt (by (with_reducible repeat (first | apply Kd.R_alloc | apply Kd.R_drewN | apply Kd.R_drew)); exact HO106.out))) (Kd.R_lt (by (with_reducible repeat (first | apply Kd.R_alloc | apply Kd.R_drewN | apply Kd.R_drew)); exact HO111.out))) (zW qB)); have n3_ := zA (qX BK102.out hb); have n4_ := zA (zV qB hb); clear HO106 HO111 BK102 HB; have HO106 := n0_; have HO111 := n1_; have HO116 := n2_; have BK102 := n3_; have HB := n4_; clear n0_ n1_ n2_ n3_ n4_ hb ho26; obtain ⟨Ao27, co27, eo27⟩ := Kd.R_slice HO116.out; subst eo27) | ((with_reducible refine zJq (f := 25) rfl ?_); refine goesL_ (some 47) rfl rfl Try.func25 (by kernel_rfl) rfl #[.slice Ao27 y114.length co27] rfl qG ?_; (with_reducible refine (cents_Add.calls k1 _ _ y114 t117 t118 _ ?side1 ?side2 A9.out).mono ?_); (case side1 => repeat (first | exact (Kd.R_reads' HO116.out).2.2 | (with_reducible refine Kd.C_alloc ?_ _) | (with_reducible refine Kd.C_drewN ?_ _) | (with_reducible refine Kd.C_drew ?_))); (case side2 => exact (Kd.R_reads' HO116.out).2.1); rintro e w' ⟨rfl, ⟨nd, rfl⟩⟩; refine ⟨_, rfl, ?_⟩))
                    go_roundg k1
                    case measure => have := HK1.out; omega
                    case rel => exact ⟨(t107), (t112), (t117), (wrap64 (x17_1 + 1)), (by first | rfl | (simp; done) | (simp [*]; done)), (by first | rfl | (simp; done) | (simp [*]; done)), (by first | rfl | (simp; done) | (simp [*]; done)), (by first | rfl | (simp; done) | (simp [*]; done)), H', ⟨by have := HK1.out; omega⟩, ⟨qB⟩⟩
                  rw [if_neg c12] at H; have c12b0 : (t118 == 0) = false := beq_eq_false_iff_ne.mpr c12; have c12b1 : (t118 != 0) = true := bne_iff_ne.mpr c12; simp only [zNq, zOq] at H; obtain ⟨rfl, rfl, rfl, rfl⟩ := H; have p101 : 0 ≤ (x17_1 : Int) := of_decide_eq_true qA; have q101 : x17_1 < (l0.length : Int) := of_decide_eq_true qA; obtain ⟨ad101, A101_4, c101_4, e101, hx101_0, hx101_1, hx101_2, hx101_3, hx101_4, hl101_4, hi101_4⟩ := at_T71 HR0.out x17_1 p101 q101; cases e101
                  replace hx101_0 := (HB.out.cell (zCq w _ hx101_0)).trans hx101_0; replace hx101_1 := (HB.out.cell (zCq w _ hx101_1)).trans hx101_1; replace hx101_2 := (HB.out.cell (zCq w _ hx101_2)).trans hx101_2; replace hx101_3 := (HB.out.cell (zCq w _ hx101_3)).trans hx101_3; replace hx101_4 := (HB.out.cell (zCq w _ hx101_4)).trans hx101_4; have HR101_4 := zA hi101_4; have HC101_4 := zA hl101_4; clear hi101_4 hl101_4; replace p101 := eq_true p101; replace q101 := eq_true q101; go_wp2_with (first | ((with_reducible refine gate_dst (N := 7) rfl ?_); refine box_event qr (N := 7) qr (cs := #[.int .i64 0, .int .i64 0, .int .i64 0, .int .i64 0, .slice none 0 0]) (t := 71) qg ?_; intro gb102 hg w28 hbox hb; have n0_ := zA (zV qB hb); have n1_ := zA (hbox); have n2_ := zA ((qS : w.heap.size ≤ gb102)); have n3_ := zA ((qS : w.heap.size ≤ gb102)); clear HB; have HB := n0_; have BK102 := n1_; have GW102 := n2_; have GE102 := n3_; clear n0_ n1_ n2_ n3_ hb hbox hg; obtain ⟨_, _, _, _, _, _, _, _, _, _⟩ := qc5f BK102.out) | ((with_reducible refine zJq (f := 69) rfl ?_); refine goesL_ (some 22) rfl rfl Try.func69 (by kernel_rfl) rfl #[.agg #[.int .i64 ((rd_T71 l0 x17_1).f0), .int .i64 ((rd_T71 l0 x17_1).f1), .int .i64 ((rd_T71 l0 x17_1).f2), .int .i64 ((rd_T71 l0 x17_1).f3), .slice A101_4 ((rd_T71 l0 x17_1).f4).length c101_4]] rfl qG ?_; (with_reducible refine (line_Check.calls k1 ((rd_T71 l0 x17_1).f0) ((rd_T71 l0 x17_1).f1) ((rd_T71 l0 x17_1).f2) ((rd_T71 l0 x17_1).f3) _ _ ((rd_T71 l0 x17_1).f4) t103 _ ?side1 ?side2 A5.out).mono ?_); (case side1 => exact Kd.C_below HR101_4.out qB); (case side2 => exact HC101_4.out); rintro e w30 ⟨rfl, hb⟩; refine ⟨_, rfl, ?_⟩; have n0_ := zA (zX (g := gb102) (o := .cells #[.int .i64 ((rd_T71 l0 x17_1).f0), .int .i64 ((rd_T71 l0 x17_1).f1), .int .i64 ((rd_T71 l0 x17_1).f2), .int .i64 ((rd_T71 l0 x17_1).f3), .slice A101_4 ((rd_T71 l0 x17_1).f4).length c101_4] 71 (0, 0)) (qV BK102.out) hb); have n1_ := zA (zV qB hb); clear BK102 HB; have BK102 := n0_; have HB := n1_; clear n0_ n1_; (try clear hb); obtain ⟨_, _, _, _, _, _, _, _, _, _⟩ := qc5f BK102.out) | ((with_reducible refine gate_dst (N := 30) rfl ?_); refine Kd.R_lit (Kd.int .i64) _ 3 ?hg (N := 30) ?hd (xs := ([x2_1, (rd_T71 l0 x17_1).f1] : List Int)) (inner := [.int .i64 x2_1, .int .i64 ((rd_T71 l0 x17_1).f1)]) (ok := fun _ => True) (okp := fun _ => True) ?hr ?hp (fun _ hk => hk) trivial (Below.refl _ _) (Nat.le_refl _) (by simp) ?_; (case hd => rfl); (case hg => rfl); (case hr => first | (go_simp; done) | (go_simp; rfl)); (case hp => exact (Reps.one (show Kd.M (Kd.int .i64) _ _ _ x2_1 [.int .i64 x2_1] from rfl) (Reps.one (show Kd.M (Kd.int .i64) _ _ _ ((rd_T71 l0 x17_1).f1) [.int .i64 ((rd_T71 l0 x17_1).f1)] from rfl) (Reps.none _ _)))); intro v105 w32 ho33 hb hg_ hnew_; clear hg_ hnew_; (first | rw [← Ny104.out] at ho33 | (simp only [Int.reduceToNat] at ho33; rw [← Ny104.out] at ho33)); have n0_ := zA (Kd.R_lower ho33 (zW qB)); have n1_ := zA (qX BK102.out hb); have n2_ := zA (zV qB hb); clear BK102 HB; have HO106 := n0_; have BK102 := n1_; have HB := n2_; clear n0_ n1_ n2_ hb ho33; obtain ⟨Ao34, co34, eo34⟩ := Kd.R_slice HO106.out; subst eo34) | ((with_reducible refine zJq (f := 25) rfl ?_); refine goesL_ (some 31) rfl rfl Try.func25 (by kernel_rfl) rfl #[.slice Ao34 y104.length co34] rfl qG ?_; (with_reducible refine (cents_Add.calls k1 _ _ y104 t107 t108 _ ?side1 ?side2 A7.out).mono ?_); (case side1 => repeat (first | exact (Kd.R_reads' HO106.out).2.2 | (with_reducible refine Kd.C_alloc ?_ _) | (with_reducible refine Kd.C_drewN ?_ _) | (with_reducible refine Kd.C_drew ?_))); (case side2 => exact (Kd.R_reads' HO106.out).2.1); rintro e w' ⟨rfl, ⟨nd, rfl⟩⟩; refine ⟨_, rfl, ?_⟩; obtain ⟨_, _, _, _, _, _, _, _, _, _⟩ := qc5f BK102.out) | ((with_reducible refine gate_dst (N := 38) rfl ?_); refine Kd.R_lit (Kd.int .i64) _ 3 ?hg (N := 38) ?hd (xs := ([x3_1, (rd_T71 l0 x17_1).f2] : List Int)) (inner := [.int .i64 x3_1, .int .i64 ((rd_T71 l0 x17_1).f2)]) (ok := fun _ => True) (okp := fun _ => True) ?hr ?hp (fun _ hk => hk) trivial (Below.refl _ _) (Nat.le_refl _) (by simp) ?_; (case hd => rfl); (case hg => rfl); (case hr => first | (go_simp; done) | (go_simp; rfl)); (case hp => exact (Reps.one (show Kd.M (Kd.int .i64) _ _ _ x3_1 [.int .i64 x3_1] from rfl) (Reps.one (show Kd.M (Kd.int .i64) _ _ _ ((rd_T71 l0 x17_1).f2) [.int .i64 ((rd_T71 l0 x17_1).f2)] from rfl) (Reps.none _ _)))); intro v110 w36 ho37 hb hg_ hnew_; clear hg_ hnew_; (first | rw [← Ny109.out] at ho37 | (simp only [Int.reduceToNat] at ho37; rw [← Ny109.out] at ho37)); have n0_ := zA (Kd.R_elder' (by (with_reducible repeat (first | apply Kd.R_alloc | apply Kd.R_drewN | apply Kd.R_drew)); exact HO106.out) (Kd.R_base ho37) hb); have n1_ := zA (Kd.R_lower (Kd.R_new' ho37 (Kd.R_lt (by (with_reducible repeat (first | apply Kd.R_alloc | apply Kd.R_drewN | apply Kd.R_drew)); exact HO106.out))) (zW qB)); have n2_ := zA (qX BK102.out hb); have n3_ := zA (zV qB hb); clear HO106 BK102 HB; have HO106 := n0_; have HO111 := n1_; have BK102 := n2_; have HB := n3_; clear n0_ n1_ n2_ n3_ hb ho37; obtain ⟨Ao38, co38, eo38⟩ := Kd.R_slice HO111.out; subst eo38) | ((with_reducible refine zJq (f := 25) rfl ?_); refine goesL_ (some 39) rfl rfl Try.func25 (by kernel_rfl) rfl #[.slice Ao38 y109.length co38] rfl qG ?_; (with_reducible refine (cents_Add.calls k1 _ _ y109 t112 t113 _ ?side1 ?side2 A8.out).mono ?_); (case side1 => repeat (first | exact (Kd.R_reads' HO111.out).2.2 | (with_reducible refine Kd.C_alloc ?_ _) | (with_reducible refine Kd.C_drewN ?_ _) | (with_reducible refine Kd.C_drew ?_))); (case side2 => exact (Kd.R_reads' HO111.out).2.1); rintro e w' ⟨rfl, ⟨nd, rfl⟩⟩; refine ⟨_, rfl, ?_⟩; obtain ⟨_, _, _, _, _, _, _, _, _, _⟩ := qc5f BK102.out) | ((with_reducible refine gate_dst (N := 46) rfl ?_); refine Kd.R_lit (Kd.int .i64) _ 3 ?hg (N := 46) ?hd (xs := ([x4_1, (rd_T71 l0 x17_1).f3] : List Int)) (inner := [.int .i64 x4_1, .int .i64 ((rd_T71 l0 x17_1).f3)]) (ok := fun _ => True) (okp := fun _ => True) ?hr ?hp (fun _ hk => hk) trivial (Below.refl _ _) (Nat.le_refl _) (by simp) ?_; (case hd => rfl); (case hg => rfl); (case hr => first | (go_simp; done) | (go_simp; rfl)); (case hp => exact (Reps.one (show Kd.M (Kd.int .i64) _ _ _ x4_1 [.int .i64 x4_1] from rfl) (Reps.one (show Kd.M (Kd.int .i64) _ _ _ ((rd_T71 l0 x17_1).f3) [.int .i64 ((rd_T71 l0 x17_1).f3)] from rfl) (Reps.none _ _)))); intro v115 w40 ho41 hb hg_ hnew_; clear hg_ hnew_; (first | rw [← Ny114.out] at ho41 | (simp only [Int.reduceToNat] at ho41; rw [← Ny114.out] at ho41)); have n0_ := zA (Kd.R_elder' (by (with_reducible repeat (first | apply Kd.R_alloc | apply Kd.R_drewN | apply Kd.R_drew)); exact HO106.out) (Kd.R_base ho41) hb); have n1_ := zA (Kd.R_elder' (by (with_reducible repeat (first | apply Kd.R_alloc | apply Kd.R_drewN | apply Kd.R_drew)); exact HO111.out) (Kd.R_base ho41) hb); have n2_ := zA (Kd.R_lower (Kd.R_new' (Kd.R_new' ho41 (Kd.R_lt (by (with_reducible repeat (first | apply Kd.R_alloc | apply Kd.R_drewN | apply Kd.R_drew)); exact HO106.out))) (Kd.R_lt (by (with_reducible repeat (first | apply Kd.R_alloc | apply Kd.R_drewN | apply Kd.R_drew)); exact HO111.out))) (zW qB)); have n3_ := zA (qX BK102.out hb); have n4_ := zA (zV qB hb); clear HO106 HO111 BK102 HB; have HO106 := n0_; have HO111 := n1_; have HO116 := n2_; have BK102 := n3_; have HB := n4_; clear n0_ n1_ n2_ n3_ n4_ hb ho41; obtain ⟨Ao42, co42, eo42⟩ := Kd.R_slice HO116.out; subst eo42) | ((with_reducible refine zJq (f := 25) rfl ?_); refine goesL_ (some 47) rfl rfl Try.func25 (by kernel_rfl) rfl #[.slice Ao42 y114.length co42] rfl qG ?_; (with_reducible refine (cents_Add.calls k1 _ _ y114 t117 t118 _ ?side1 ?side2 A9.out).mono ?_); (case side1 => repeat (first | exact (Kd.R_reads' HO116.out).2.2 | (with_reducible refine Kd.C_alloc ?_ _) | (with_reducible refine Kd.C_drewN ?_ _) | (with_reducible refine Kd.C_drew ?_))); (case side2 => exact (Kd.R_reads' HO116.out).2.1); rintro e w' ⟨rfl, ⟨nd, rfl⟩⟩; refine ⟨_, rfl, ?_⟩))
                  refine bodyPost_ret (results_list (rs := [.tmp 2, .tmp 3, .tmp 4, .tmp 5]) rfl (by simp) (.tmp (.tmp (.tmp (.tmp .nil))))) rfl ?_; exact ⟨qE, qB⟩
                rw [if_neg c11] at H; have c11b0 : (t113 == 0) = false := beq_eq_false_iff_ne.mpr c11; have c11b1 : (t113 != 0) = true := bne_iff_ne.mpr c11; simp only [zNq, zOq] at H; obtain ⟨rfl, rfl, rfl, rfl⟩ := H; have p101 : 0 ≤ (x17_1 : Int) := of_decide_eq_true qA; have q101 : x17_1 < (l0.length : Int) := of_decide_eq_true qA; obtain ⟨ad101, A101_4, c101_4, e101, hx101_0, hx101_1, hx101_2, hx101_3, hx101_4, hl101_4, hi101_4⟩ := at_T71 HR0.out x17_1 p101 q101; cases e101
                replace hx101_0 := (HB.out.cell (zCq w _ hx101_0)).trans hx101_0; replace hx101_1 := (HB.out.cell (zCq w _ hx101_1)).trans hx101_1; replace hx101_2 := (HB.out.cell (zCq w _ hx101_2)).trans hx101_2; replace hx101_3 := (HB.out.cell (zCq w _ hx101_3)).trans hx101_3; replace hx101_4 := (HB.out.cell (zCq w _ hx101_4)).trans hx101_4; have HR101_4 := zA hi101_4; have HC101_4 := zA hl101_4; clear hi101_4 hl101_4; replace p101 := eq_true p101; replace q101 := eq_true q101; go_wp2_with (first | ((with_reducible refine gate_dst (N := 7) rfl ?_); refine box_event qr (N := 7) qr (cs := #[.int .i64 0, .int .i64 0, .int .i64 0, .int .i64 0, .slice none 0 0]) (t := 71) qg ?_; intro gb102 hg w43 hbox hb; have n0_ := zA (zV qB hb); have n1_ := zA (hbox); have n2_ := zA ((qS : w.heap.size ≤ gb102)); have n3_ := zA ((qS : w.heap.size ≤ gb102)); clear HB; have HB := n0_; have BK102 := n1_; have GW102 := n2_; have GE102 := n3_; clear n0_ n1_ n2_ n3_ hb hbox hg; obtain ⟨_, _, _, _, _, _, _, _, _, _⟩ := qc5f BK102.out) | ((with_reducible refine zJq (f := 69) rfl ?_); refine goesL_ (some 22) rfl rfl Try.func69 (by kernel_rfl) rfl #[.agg #[.int .i64 ((rd_T71 l0 x17_1).f0), .int .i64 ((rd_T71 l0 x17_1).f1), .int .i64 ((rd_T71 l0 x17_1).f2), .int .i64 ((rd_T71 l0 x17_1).f3), .slice A101_4 ((rd_T71 l0 x17_1).f4).length c101_4]] rfl qG ?_; (with_reducible refine (line_Check.calls k1 ((rd_T71 l0 x17_1).f0) ((rd_T71 l0 x17_1).f1) ((rd_T71 l0 x17_1).f2) ((rd_T71 l0 x17_1).f3) _ _ ((rd_T71 l0 x17_1).f4) t103 _ ?side1 ?side2 A5.out).mono ?_); (case side1 => exact Kd.C_below HR101_4.out qB); (case side2 => exact HC101_4.out); rintro e w45 ⟨rfl, hb⟩; refine ⟨_, rfl, ?_⟩; have n0_ := zA (zX (g := gb102) (o := .cells #[.int .i64 ((rd_T71 l0 x17_1).f0), .int .i64 ((rd_T71 l0 x17_1).f1), .int .i64 ((rd_T71 l0 x17_1).f2), .int .i64 ((rd_T71 l0 x17_1).f3), .slice A101_4 ((rd_T71 l0 x17_1).f4).length c101_4] 71 (0, 0)) (qV BK102.out) hb); have n1_ := zA (zV qB hb); clear BK102 HB; have BK102 := n0_; have HB := n1_; clear n0_ n1_; (try clear hb); obtain ⟨_, _, _, _, _, _, _, _, _, _⟩ := qc5f BK102.out) | ((with_reducible refine gate_dst (N := 30) rfl ?_); refine Kd.R_lit (Kd.int .i64) _ 3 ?hg (N := 30) ?hd (xs := ([x2_1, (rd_T71 l0 x17_1).f1] : List Int)) (inner := [.int .i64 x2_1, .int .i64 ((rd_T71 l0 x17_1).f1)]) (ok := fun _ => True) (okp := fun _ => True) ?hr ?hp (fun _ hk => hk) trivial (Below.refl _ _) (Nat.le_refl _) (by simp) ?_; (case hd => rfl); (case hg => rfl); (case hr => first | (go_simp; done) | (go_simp; rfl)); (case hp => exact (Reps.one (show Kd.M (Kd.int .i64) _ _ _ x2_1 [.int .i64 x2_1] from rfl) (Reps.one (show Kd.M (Kd.int .i64) _ _ _ ((rd_T71 l0 x17_1).f1) [.int .i64 ((rd_T71 l0 x17_1).f1)] from rfl) (Reps.none _ _)))); intro v105 w47 ho48 hb hg_ hnew_; clear hg_ hnew_; (first | rw [← Ny104.out] at ho48 | (simp only [Int.reduceToNat] at ho48; rw [← Ny104.out] at ho48)); have n0_ := zA (Kd.R_lower ho48 (zW qB)); have n1_ := zA (qX BK102.out hb); have n2_ := zA (zV qB hb); clear BK102 HB; have HO106 := n0_; have BK102 := n1_; have HB := n2_; clear n0_ n1_ n2_ hb ho48; obtain ⟨Ao49, co49, eo49⟩ := Kd.R_slice HO106.out; subst eo49) | ((with_reducible refine zJq (f := 25) rfl ?_); refine goesL_ (some 31) rfl rfl Try.func25 (by kernel_rfl) rfl #[.slice Ao49 y104.length co49] rfl qG ?_; (with_reducible refine (cents_Add.calls k1 _ _ y104 t107 t108 _ ?side1 ?side2 A7.out).mono ?_); (case side1 => repeat (first | exact (Kd.R_reads' HO106.out).2.2 | (with_reducible refine Kd.C_alloc ?_ _) | (with_reducible refine Kd.C_drewN ?_ _) | (with_reducible refine Kd.C_drew ?_))); (case side2 => exact (Kd.R_reads' HO106.out).2.1); rintro e w' ⟨rfl, ⟨nd, rfl⟩⟩; refine ⟨_, rfl, ?_⟩; obtain ⟨_, _, _, _, _, _, _, _, _, _⟩ := qc5f BK102.out) | ((with_reducible refine gate_dst (N := 38) rfl ?_); refine Kd.R_lit (Kd.int .i64) _ 3 ?hg (N := 38) ?hd (xs := ([x3_1, (rd_T71 l0 x17_1).f2] : List Int)) (inner := [.int .i64 x3_1, .int .i64 ((rd_T71 l0 x17_1).f2)]) (ok := fun _ => True) (okp := fun _ => True) ?hr ?hp (fun _ hk => hk) trivial (Below.refl _ _) (Nat.le_refl _) (by simp) ?_; (case hd => rfl); (case hg => rfl); (case hr => first | (go_simp; done) | (go_simp; rfl)); (case hp => exact (Reps.one (show Kd.M (Kd.int .i64) _ _ _ x3_1 [.int .i64 x3_1] from rfl) (Reps.one (show Kd.M (Kd.int .i64) _ _ _ ((rd_T71 l0 x17_1).f2) [.int .i64 ((rd_T71 l0 x17_1).f2)] from rfl) (Reps.none _ _)))); intro v110 w51 ho52 hb hg_ hnew_; clear hg_ hnew_; (first | rw [← Ny109.out] at ho52 | (simp only [Int.reduceToNat] at ho52; rw [← Ny109.out] at ho52)); have n0_ := zA (Kd.R_elder' (by (with_reducible repeat (first | apply Kd.R_alloc | apply Kd.R_drewN | apply Kd.R_drew)); exact HO106.out) (Kd.R_base ho52) hb); have n1_ := zA (Kd.R_lower (Kd.R_new' ho52 (Kd.R_lt (by (with_reducible repeat (first | apply Kd.R_alloc | apply Kd.R_drewN | apply Kd.R_drew)); exact HO106.out))) (zW qB)); have n2_ := zA (qX BK102.out hb); have n3_ := zA (zV qB hb); clear HO106 BK102 HB; have HO106 := n0_; have HO111 := n1_; have BK102 := n2_; have HB := n3_; clear n0_ n1_ n2_ n3_ hb ho52; obtain ⟨Ao53, co53, eo53⟩ := Kd.R_slice HO111.out; subst eo53) | ((with_reducible refine zJq (f := 25) rfl ?_); refine goesL_ (some 39) rfl rfl Try.func25 (by kernel_rfl) rfl #[.slice Ao53 y109.length co53] rfl qG ?_; (with_reducible refine (cents_Add.calls k1 _ _ y109 t112 t113 _ ?side1 ?side2 A8.out).mono ?_); (case side1 => repeat (first | exact (Kd.R_reads' HO111.out).2.2 | (with_reducible refine Kd.C_alloc ?_ _) | (with_reducible refine Kd.C_drewN ?_ _) | (with_reducible refine Kd.C_drew ?_))); (case side2 => exact (Kd.R_reads' HO111.out).2.1); rintro e w' ⟨rfl, ⟨nd, rfl⟩⟩; refine ⟨_, rfl, ?_⟩; obtain ⟨_, _, _, _, _, _, _, _, _, _⟩ := qc5f BK102.out) | ((with_reducible refine gate_dst (N := 46) rfl ?_); refine Kd.R_lit (Kd.int .i64) _ 3 ?hg (N := 46) ?hd (xs := ([x4_1, (rd_T71 l0 x17_1).f3] : List Int)) (inner := [.int .i64 x4_1, .int .i64 ((rd_T71 l0 x17_1).f3)]) (ok := fun _ => True) (okp := fun _ => True) ?hr ?hp (fun _ hk => hk) trivial (Below.refl _ _) (Nat.le_refl _) (by simp) ?_; (case hd => rfl); (case hg => rfl); (case hr => first | (go_simp; done) | (go_simp; rfl)); (case hp => exact (Reps.one (show Kd.M (Kd.int .i64) _ _ _ x4_1 [.int .i64 x4_1] from rfl) (Reps.one (show Kd.M (Kd.int .i64) _ _ _ ((rd_T71 l0 x17_1).f3) [.int .i64 ((rd_T71 l0 x17_1).f3)] from rfl) (Reps.none _ _)))); intro v115 w55 ho56 hb hg_ hnew_; clear hg_ hnew_; (first | rw [← Ny114.out] at ho56 | (simp only [Int.reduceToNat] at ho56; rw [← Ny114.out] at ho56)); have n0_ := zA (Kd.R_elder' (by (with_reducible repeat (first | apply Kd.R_alloc | apply Kd.R_drewN | apply Kd.R_drew)); exact HO106.out) (Kd.R_base ho56) hb); have n1_ := zA (Kd.R_elder' (by (with_reducible repeat (first | apply Kd.R_alloc | apply Kd.R_drewN | apply Kd.R_drew)); exact HO111.out) (Kd.R_base ho56) hb); have n2_ := zA (Kd.R_lower (Kd.R_new' (Kd.R_new' ho56 (Kd.R_lt (by (with_reducible repeat (first | apply Kd.R_alloc | apply Kd.R_drewN | apply Kd.R_drew)); exact HO106.out))) (Kd.R_lt (by (with_reducible repeat (first | apply Kd.R_alloc | apply Kd.R_drewN | apply Kd.R_drew)); exact HO111.out))) (zW qB)); have n3_ := zA (qX BK102.out hb); have n4_ := zA (zV qB hb); clear HO106 HO111 BK102 HB; have HO106 := n0_; have HO111 := n1_; have HO116 := n2_; have BK102 := n3_; have HB := n4_; clear n0_ n1_ n2_ n3_ n4_ hb ho56; obtain ⟨Ao57, co57, eo57⟩ := Kd.R_slice HO116.out; subst eo57) | ((with_reducible refine zJq (f := 25) rfl ?_); refine goesL_ (some 47) rfl rfl Try.func25 (by kernel_rfl) rfl #[.slice Ao57 y114.length co57] rfl qG ?_; (with_reducible refine (cents_Add.calls k1 _ _ y114 t117 t118 _ ?side1 ?side2 A9.out).mono ?_); (case side1 => repeat (first | exact (Kd.R_reads' HO116.out).2.2 | (with_reducible refine Kd.C_alloc ?_ _) | (with_reducible refine Kd.C_drewN ?_ _) | (with_reducible refine Kd.C_drew ?_))); (case side2 => exact (Kd.R_reads' HO116.out).2.1); rintro e w' ⟨rfl, ⟨nd, rfl⟩⟩; refine ⟨_, rfl, ?_⟩))
                refine bodyPost_ret (results_list (rs := [.tmp 2, .tmp 3, .tmp 4, .tmp 5]) rfl (by simp) (.tmp (.tmp (.tmp (.tmp .nil))))) rfl ?_; exact ⟨qE, qB⟩
              rw [if_neg c10] at H; have c10b0 : (t108 == 0) = false := beq_eq_false_iff_ne.mpr c10; have c10b1 : (t108 != 0) = true := bne_iff_ne.mpr c10; simp only [zNq, zOq] at H; obtain ⟨rfl, rfl, rfl, rfl⟩ := H; have p101 : 0 ≤ (x17_1 : Int) := of_decide_eq_true qA; have q101 : x17_1 < (l0.length : Int) := of_decide_eq_true qA; obtain ⟨ad101, A101_4, c101_4, e101, hx101_0, hx101_1, hx101_2, hx101_3, hx101_4, hl101_4, hi101_4⟩ := at_T71 HR0.out x17_1 p101 q101; cases e101
              replace hx101_0 := (HB.out.cell (zCq w _ hx101_0)).trans hx101_0; replace hx101_1 := (HB.out.cell (zCq w _ hx101_1)).trans hx101_1; replace hx101_2 := (HB.out.cell (zCq w _ hx101_2)).trans hx101_2; replace hx101_3 := (HB.out.cell (zCq w _ hx101_3)).trans hx101_3; replace hx101_4 := (HB.out.cell (zCq w _ hx101_4)).trans hx101_4; have HR101_4 := zA hi101_4; have HC101_4 := zA hl101_4; clear hi101_4 hl101_4; replace p101 := eq_true p101; replace q101 := eq_true q101; go_wp2_with (first | ((with_reducible refine gate_dst (N := 7) rfl ?_); refine box_event qr (N := 7) qr (cs := #[.int .i64 0, .int .i64 0, .int .i64 0, .int .i64 0, .slice none 0 0]) (t := 71) qg ?_; intro gb102 hg w58 hbox hb; have n0_ := zA (zV qB hb); have n1_ := zA (hbox); have n2_ := zA ((qS : w.heap.size ≤ gb102)); have n3_ := zA ((qS : w.heap.size ≤ gb102)); clear HB; have HB := n0_; have BK102 := n1_; have GW102 := n2_; have GE102 := n3_; clear n0_ n1_ n2_ n3_ hb hbox hg; obtain ⟨_, _, _, _, _, _, _, _, _, _⟩ := qc5f BK102.out) | ((with_reducible refine zJq (f := 69) rfl ?_); refine goesL_ (some 22) rfl rfl Try.func69 (by kernel_rfl) rfl #[.agg #[.int .i64 ((rd_T71 l0 x17_1).f0), .int .i64 ((rd_T71 l0 x17_1).f1), .int .i64 ((rd_T71 l0 x17_1).f2), .int .i64 ((rd_T71 l0 x17_1).f3), .slice A101_4 ((rd_T71 l0 x17_1).f4).length c101_4]] rfl qG ?_; (with_reducible refine (line_Check.calls k1 ((rd_T71 l0 x17_1).f0) ((rd_T71 l0 x17_1).f1) ((rd_T71 l0 x17_1).f2) ((rd_T71 l0 x17_1).f3) _ _ ((rd_T71 l0 x17_1).f4) t103 _ ?side1 ?side2 A5.out).mono ?_); (case side1 => exact Kd.C_below HR101_4.out qB); (case side2 => exact HC101_4.out); rintro e w60 ⟨rfl, hb⟩; refine ⟨_, rfl, ?_⟩; have n0_ := zA (zX (g := gb102) (o := .cells #[.int .i64 ((rd_T71 l0 x17_1).f0), .int .i64 ((rd_T71 l0 x17_1).f1), .int .i64 ((rd_T71 l0 x17_1).f2), .int .i64 ((rd_T71 l0 x17_1).f3), .slice A101_4 ((rd_T71 l0 x17_1).f4).length c101_4] 71 (0, 0)) (qV BK102.out) hb); have n1_ := zA (zV qB hb); clear BK102 HB; have BK102 := n0_; have HB := n1_; clear n0_ n1_; (try clear hb); obtain ⟨_, _, _, _, _, _, _, _, _, _⟩ := qc5f BK102.out) | ((with_reducible refine gate_dst (N := 30) rfl ?_); refine Kd.R_lit (Kd.int .i64) _ 3 ?hg (N := 30) ?hd (xs := ([x2_1, (rd_T71 l0 x17_1).f1] : List Int)) (inner := [.int .i64 x2_1, .int .i64 ((rd_T71 l0 x17_1).f1)]) (ok := fun _ => True) (okp := fun _ => True) ?hr ?hp (fun _ hk => hk) trivial (Below.refl _ _) (Nat.le_refl _) (by simp) ?_; (case hd => rfl); (case hg => rfl); (case hr => first | (go_simp; done) | (go_simp; rfl)); (case hp => exact (Reps.one (show Kd.M (Kd.int .i64) _ _ _ x2_1 [.int .i64 x2_1] from rfl) (Reps.one (show Kd.M (Kd.int .i64) _ _ _ ((rd_T71 l0 x17_1).f1) [.int .i64 ((rd_T71 l0 x17_1).f1)] from rfl) (Reps.none _ _)))); intro v105 w62 ho63 hb hg_ hnew_; clear hg_ hnew_; (first | rw [← Ny104.out] at ho63 | (simp only [Int.reduceToNat] at ho63; rw [← Ny104.out] at ho63)); have n0_ := zA (Kd.R_lower ho63 (zW qB)); have n1_ := zA (qX BK102.out hb); have n2_ := zA (zV qB hb); clear BK102 HB; have HO106 := n0_; have BK102 := n1_; have HB := n2_; clear n0_ n1_ n2_ hb ho63; obtain ⟨Ao64, co64, eo64⟩ := Kd.R_slice HO106.out; subst eo64) | ((with_reducible refine zJq (f := 25) rfl ?_); refine goesL_ (some 31) rfl rfl Try.func25 (by kernel_rfl) rfl #[.slice Ao64 y104.length co64] rfl qG ?_; (with_reducible refine (cents_Add.calls k1 _ _ y104 t107 t108 _ ?side1 ?side2 A7.out).mono ?_); (case side1 => repeat (first | exact (Kd.R_reads' HO106.out).2.2 | (with_reducible refine Kd.C_alloc ?_ _) | (with_reducible refine Kd.C_drewN ?_ _) | (with_reducible refine Kd.C_drew ?_))); (case side2 => exact (Kd.R_reads' HO106.out).2.1); rintro e w' ⟨rfl, ⟨nd, rfl⟩⟩; refine ⟨_, rfl, ?_⟩; obtain ⟨_, _, _, _, _, _, _, _, _, _⟩ := qc5f BK102.out) | ((with_reducible refine gate_dst (N := 38) rfl ?_); refine Kd.R_lit (Kd.int .i64) _ 3 ?hg (N := 38) ?hd (xs := ([x3_1, (rd_T71 l0 x17_1).f2] : List Int)) (inner := [.int .i64 x3_1, .int .i64 ((rd_T71 l0 x17_1).f2)]) (ok := fun _ => True) (okp := fun _ => True) ?hr ?hp (fun _ hk => hk) trivial (Below.refl _ _) (Nat.le_refl _) (by simp) ?_; (case hd => rfl); (case hg => rfl); (case hr => first | (go_simp; done) | (go_simp; rfl)); (case hp => exact (Reps.one (show Kd.M (Kd.int .i64) _ _ _ x3_1 [.int .i64 x3_1] from rfl) (Reps.one (show Kd.M (Kd.int .i64) _ _ _ ((rd_T71 l0 x17_1).f2) [.int .i64 ((rd_T71 l0 x17_1).f2)] from rfl) (Reps.none _ _)))); intro v110 w66 ho67 hb hg_ hnew_; clear hg_ hnew_; (first | rw [← Ny109.out] at ho67 | (simp only [Int.reduceToNat] at ho67; rw [← Ny109.out] at ho67)); have n0_ := zA (Kd.R_elder' (by (with_reducible repeat (first | apply Kd.R_alloc | apply Kd.R_drewN | apply Kd.R_drew)); exact HO106.out) (Kd.R_base ho67) hb); have n1_ := zA (Kd.R_lower (Kd.R_new' ho67 (Kd.R_lt (by (with_reducible repeat (first | apply Kd.R_alloc | apply Kd.R_drewN | apply Kd.R_drew)); exact HO106.out))) (zW qB)); have n2_ := zA (qX BK102.out hb); have n3_ := zA (zV qB hb); clear HO106 BK102 HB; have HO106 := n0_; have HO111 := n1_; have BK102 := n2_; have HB := n3_; clear n0_ n1_ n2_ n3_ hb ho67; obtain ⟨Ao68, co68, eo68⟩ := Kd.R_slice HO111.out; subst eo68) | ((with_reducible refine zJq (f := 25) rfl ?_); refine goesL_ (some 39) rfl rfl Try.func25 (by kernel_rfl) rfl #[.slice Ao68 y109.length co68] rfl qG ?_; (with_reducible refine (cents_Add.calls k1 _ _ y109 t112 t113 _ ?side1 ?side2 A8.out).mono ?_); (case side1 => repeat (first | exact (Kd.R_reads' HO111.out).2.2 | (with_reducible refine Kd.C_alloc ?_ _) | (with_reducible refine Kd.C_drewN ?_ _) | (with_reducible refine Kd.C_drew ?_))); (case side2 => exact (Kd.R_reads' HO111.out).2.1); rintro e w' ⟨rfl, ⟨nd, rfl⟩⟩; refine ⟨_, rfl, ?_⟩; obtain ⟨_, _, _, _, _, _, _, _, _, _⟩ := qc5f BK102.out) | ((with_reducible refine gate_dst (N := 46) rfl ?_); refine Kd.R_lit (Kd.int .i64) _ 3 ?hg (N := 46) ?hd (xs := ([x4_1, (rd_T71 l0 x17_1).f3] : List Int)) (inner := [.int .i64 x4_1, .int .i64 ((rd_T71 l0 x17_1).f3)]) (ok := fun _ => True) (okp := fun _ => True) ?hr ?hp (fun _ hk => hk) trivial (Below.refl _ _) (Nat.le_refl _) (by simp) ?_; (case hd => rfl); (case hg => rfl); (case hr => first | (go_simp; done) | (go_simp; rfl)); (case hp => exact (Reps.one (show Kd.M (Kd.int .i64) _ _ _ x4_1 [.int .i64 x4_1] from rfl) (Reps.one (show Kd.M (Kd.int .i64) _ _ _ ((rd_T71 l0 x17_1).f3) [.int .i64 ((rd_T71 l0 x17_1).f3)] from rfl) (Reps.none _ _)))); intro v115 w70 ho71 hb hg_ hnew_; clear hg_ hnew_; (first | rw [← Ny114.out] at ho71 | (simp only [Int.reduceToNat] at ho71; rw [← Ny114.out] at ho71)); have n0_ := zA (Kd.R_elder' (by (with_reducible repeat (first | apply Kd.R_alloc | apply Kd.R_drewN | apply Kd.R_drew)); exact HO106.out) (Kd.R_base ho71) hb); have n1_ := zA (Kd.R_elder' (by (with_reducible repeat (first | apply Kd.R_alloc | apply Kd.R_drewN | apply Kd.R_drew)); exact HO111.out) (Kd.R_base ho71) hb); have n2_ := zA (Kd.R_lower (Kd.R_new' (Kd.R_new' ho71 (Kd.R_lt (by (with_reducible repeat (first | apply Kd.R_alloc | apply Kd.R_drewN | apply Kd.R_drew)); exact HO106.out))) (Kd.R_lt (by (with_reducible repeat (first | apply Kd.R_alloc | apply Kd.R_drewN | apply Kd.R_drew)); exact HO111.out))) (zW qB)); have n3_ := zA (qX BK102.out hb); have n4_ := zA (zV qB hb); clear HO106 HO111 BK102 HB; have HO106 := n0_; have HO111 := n1_; have HO116 := n2_; have BK102 := n3_; have HB := n4_; clear n0_ n1_ n2_ n3_ n4_ hb ho71; obtain ⟨Ao72, co72, eo72⟩ := Kd.R_slice HO116.out; subst eo72) | ((with_reducible refine zJq (f := 25) rfl ?_); refine goesL_ (some 47) rfl rfl Try.func25 (by kernel_rfl) rfl #[.slice Ao72 y114.length co72] rfl qG ?_; (with_reducible refine (cents_Add.calls k1 _ _ y114 t117 t118 _ ?side1 ?side2 A9.out).mono ?_); (case side1 => repeat (first | exact (Kd.R_reads' HO116.out).2.2 | (with_reducible refine Kd.C_alloc ?_ _) | (with_reducible refine Kd.C_drewN ?_ _) | (with_reducible refine Kd.C_drew ?_))); (case side2 => exact (Kd.R_reads' HO116.out).2.1); rintro e w' ⟨rfl, ⟨nd, rfl⟩⟩; refine ⟨_, rfl, ?_⟩))
              refine bodyPost_ret (results_list (rs := [.tmp 2, .tmp 3, .tmp 4, .tmp 5]) rfl (by simp) (.tmp (.tmp (.tmp (.tmp .nil))))) rfl ?_; exact ⟨qE, qB⟩
            rw [if_neg c6] at H; have c6b0 : (t103 == 0) = false := beq_eq_false_iff_ne.mpr c6; have c6b1 : (t103 != 0) = true := bne_iff_ne.mpr c6; simp only [zNq, zOq] at H; obtain ⟨rfl, rfl, rfl, rfl⟩ := H; have p101 : 0 ≤ (x17_1 : Int) := of_decide_eq_true qA; have q101 : x17_1 < (l0.length : Int) := of_decide_eq_true qA; obtain ⟨ad101, A101_4, c101_4, e101, hx101_0, hx101_1, hx101_2, hx101_3, hx101_4, hl101_4, hi101_4⟩ := at_T71 HR0.out x17_1 p101 q101; cases e101
            replace hx101_0 := (HB.out.cell (zCq w _ hx101_0)).trans hx101_0; replace hx101_1 := (HB.out.cell (zCq w _ hx101_1)).trans hx101_1; replace hx101_2 := (HB.out.cell (zCq w _ hx101_2)).trans hx101_2; replace hx101_3 := (HB.out.cell (zCq w _ hx101_3)).trans hx101_3; replace hx101_4 := (HB.out.cell (zCq w _ hx101_4)).trans hx101_4; have HR101_4 := zA hi101_4; have HC101_4 := zA hl101_4; clear hi101_4 hl101_4; replace p101 := eq_true p101; replace q101 := eq_true q101; go_wp2_with (first | ((with_reducible refine gate_dst (N := 7) rfl ?_); refine box_event qr (N := 7) qr (cs := #[.int .i64 0, .int .i64 0, .int .i64 0, .int .i64 0, .slice none 0 0]) (t := 71) qg ?_; intro gb102 hg w73 hbox hb; have n0_ := zA (zV qB hb); have n1_ := zA (hbox); have n2_ := zA ((qS : w.heap.size ≤ gb102)); have n3_ := zA ((qS : w.heap.size ≤ gb102)); clear HB; have HB := n0_; have BK102 := n1_; have GW102 := n2_; have GE102 := n3_; clear n0_ n1_ n2_ n3_ hb hbox hg; obtain ⟨_, _, _, _, _, _, _, _, _, _⟩ := qc5f BK102.out) | ((with_reducible refine zJq (f := 69) rfl ?_); refine goesL_ (some 22) rfl rfl Try.func69 (by kernel_rfl) rfl #[.agg #[.int .i64 ((rd_T71 l0 x17_1).f0), .int .i64 ((rd_T71 l0 x17_1).f1), .int .i64 ((rd_T71 l0 x17_1).f2), .int .i64 ((rd_T71 l0 x17_1).f3), .slice A101_4 ((rd_T71 l0 x17_1).f4).length c101_4]] rfl qG ?_; (with_reducible refine (line_Check.calls k1 ((rd_T71 l0 x17_1).f0) ((rd_T71 l0 x17_1).f1) ((rd_T71 l0 x17_1).f2) ((rd_T71 l0 x17_1).f3) _ _ ((rd_T71 l0 x17_1).f4) t103 _ ?side1 ?side2 A5.out).mono ?_); (case side1 => exact Kd.C_below HR101_4.out qB); (case side2 => exact HC101_4.out); rintro e w75 ⟨rfl, hb⟩; refine ⟨_, rfl, ?_⟩; have n0_ := zA (zX (g := gb102) (o := .cells #[.int .i64 ((rd_T71 l0 x17_1).f0), .int .i64 ((rd_T71 l0 x17_1).f1), .int .i64 ((rd_T71 l0 x17_1).f2), .int .i64 ((rd_T71 l0 x17_1).f3), .slice A101_4 ((rd_T71 l0 x17_1).f4).length c101_4] 71 (0, 0)) (qV BK102.out) hb); have n1_ := zA (zV qB hb); clear BK102 HB; have BK102 := n0_; have HB := n1_; clear n0_ n1_; (try clear hb))); refine bodyPost_ret (results_list (rs := [.tmp 2, .tmp 3, .tmp 4, .tmp 5]) rfl (by simp) (.tmp (.tmp (.tmp (.tmp .nil))))) rfl ?_; exact ⟨qE, qB⟩
          rw [if_neg c4] at H; exact absurd H (by simp)
        rw [if_neg c3] at H; exact absurd H (by simp)
      rw [if_neg c2] at H; have c2b0 : decide (x17_1 < (l0.length : Int)) = false := zGq c2; clear c2; simp only [zNq, zOq] at H; obtain ⟨rfl, rfl, rfl, rfl⟩ := H; go_wp2; refine bodyPost_ret (results_list (rs := [.tmp 2, .tmp 3, .tmp 4, .tmp 5]) rfl (by simp) (.tmp (.tmp (.tmp (.tmp .nil))))) rfl ?_; exact ⟨qE, qB⟩
def backhaullaw21_awake.j0 : Nat → List (S71) → Bool → Option (Bool)
  | 0, _, _ => none
  | k + 1, x1, x25 => if x25 = true then (some false) else (if 1 < (x1.length : Int) then ((line_Unit.f k ((rd_T71 x1 1).f0) ((rd_T71 x1 1).f1) ((rd_T71 x1 1).f2) ((rd_T71 x1 1).f3) ((rd_T71 x1 1).f4) 0).bind fun bt109 => (if 0 < (x1.length : Int) then ((line_Paid.f k ((rd_T71 x1 0).f0) ((rd_T71 x1 0).f1) ((rd_T71 x1 0).f2) ((rd_T71 x1 0).f3) ((rd_T71 x1 0).f4)).bind fun bt113 => ((line_Sum.f k x1).bind fun bt115 => ((backhaullaw21_two.f).bind fun t119 => ((line_Deal.f k t119 301 0).bind fun bt122 => (if ((rd_T71 x1 0).f2) = 97 then (if ((rd_T71 x1 0).f3) = 10 then (if ((rd_T71 x1 1).f2) = 193 then (if ((rd_T71 x1 1).f3) = 19 then (if bt109.1 = 65 then (if bt109.2.1 = 7 then (if bt109.2.2 = 0 then (if bt113.1 = 107 then (if bt113.2 = 0 then (if bt115.1 = 300 then (if bt115.2.1 = 290 then (if bt115.2.2.1 = 29 then (if bt115.2.2.2 = 0 then (if bt122.2 = 34 then ((line_Check.f k 0 0 0 0 ([] : List ByteArray)).bind fun t130 => (if t130 = 2 then (some true) else (some false))) else (some false)) else (some false)) else (some false)) else (some false)) else (some false)) else (some false)) else (some false)) else (some false)) else (some false)) else (some false)) else (some false)) else (some false)) else (some false)) else (some false)))))) else (none))) else (none))
def backhaullaw21_awake.f  : Option (Bool) := some true
set_option maxHeartbeats 8000000 in
set_option maxRecDepth 100000 in
theorem backhaullaw21_awake.calls (r : Bool)  (w : World) (h : backhaullaw21_awake.f  = some r) :
    Calls Try.prog 61 #[] w fun e w' => e = .returned (.bool r) ∧ Below w.heap.size w w' := by
  obtain rfl : r = true := by injection h with h; exact h.symm
  have hu71 := Try.underlying71
  have HB := zA (Below.refl w.heap.size w)
  have H : ((backhaullaw21_two.f).bind fun t101 => ((line_Deal.f 1000 t101 10 29).bind fun bt104 => (if bt104.2 = 0 then (backhaullaw21_awake.j0 1000 bt104.1 ((bt104.1.length : Int) != 2)) else (backhaullaw21_awake.j0 1000 bt104.1 true)))) = some true := by decide +kernel
  replace H := Option.bind_eq_some_iff.mp H
  obtain ⟨t101, A10, H⟩ := H
  try dsimp only at H
  have A1 := zA A10
  clear A10
  replace H := Option.bind_eq_some_iff.mp H
  obtain ⟨⟨t104, t107⟩, A20, H⟩ := H
  try dsimp only at H
  have A2 := zA A20
  clear A20
  have HC3 := zA H
  clear H
  go_enter Try.func61, Try.ntmps61
  go_upto_region 2 with (first | ((with_reducible refine zJq (f := 110) rfl ?_); refine goesL_ (some 15) rfl rfl Try.func110 (by kernel_rfl) rfl #[] rfl qG ?_; (with_reducible refine (backhaullaw21_two.calls  t101 _ A1.out).mono ?_); rintro e w4 ⟨v102, rfl, ho0, hb⟩; refine ⟨_, rfl, ?_⟩; have n0_ := zA (Kd.N_lower (Kd.N_mono (ok' := fun k_ => True) ho0 (fun k_ hk_ => trivial)) (zW qB)); have n1_ := zA (zV qB hb); clear HB; have HO103 := n0_; have HB := n1_; clear n0_ n1_; (try clear hb); (try clear ho0); obtain ⟨Ao5, co5, eo5⟩ := Kd.N_slice HO103.out; subst eo5) | ((with_reducible refine zJq (f := 62) rfl ?_); refine goesL_ (some 16) rfl rfl Try.func62 (by kernel_rfl) rfl #[.slice Ao5 t101.length co5, .int .i64 10, .int .i64 29] rfl qG ?_; (with_reducible refine (line_Deal.calls 1000 (fun k_ => True) _ _ t101 10 29 t104 t107 _ ?side1 A2.out).mono ?_); (case side1 => exact Kd.N_V (HO103.out)); rintro e w6 ⟨v105, rfl, ho0, hb⟩; refine ⟨_, rfl, ?_⟩; have n0_ := zA (Kd.N_elder' (by (with_reducible repeat (first | apply Kd.N_alloc | apply Kd.N_drewN | apply Kd.N_drew)); exact HO103.out) (Kd.N_base ho0) hb); have n1_ := zA (Kd.N_lower (Kd.N_mono (ok' := fun k_ => True) ho0 (fun k_ hk_ => trivial)) (zW qB)); have n2_ := zA (zV qB hb); clear HO103 HB; have HO103 := n0_; have HO106 := n1_; have HB := n2_; clear n0_ n1_ n2_; (try clear hb); (try clear ho0)))
  (try simp only [Act.put, zH, zI, zJ])
  go_cut [25] (fun v25 wc => ∃ (kq : Nat) (x25_2 : Bool), v25 = .bool x25_2 ∧ Aside0 (backhaullaw21_awake.j0 kq t104 x25_2 = some true) ∧ Aside0 (kq ≤ 1000) ∧ Aside0 (Kd.N k71 71 wc w.heap.size (fun _ => True) v105 t104) ∧ Aside0 (Below w.heap.size w wc))
  case first =>
    have H := HC3.out; clear HC3; by_cases c7 : t107 = 0
    · rw [if_pos c7] at H
      have c7b0 : (t107 == 0) = true := beq_iff_eq.mpr c7; have c7b1 : (t107 != 0) = false := bne_eq_false_iff_eq.mpr c7; clear c7; (first | rw [c7b0] | (simp only [i64_w, i32_w]; rw [c7b0]) | skip)
      have H' := zA H; clear H; obtain ⟨Ao8, co8, eo8⟩ := Kd.N_slice HO106.out; subst eo8; go_wp2; go_meet
      case rel => exact ⟨_, (((t104.length : Int) != 2)), (by first | rfl | (simp; done) | (simp [*]; done)), H', ⟨by first | omega | exact Nat.le_refl _⟩, ⟨by (with_reducible repeat (first | apply Kd.N_alloc | apply Kd.N_drewN | apply Kd.N_drew)); exact HO106.out⟩, ⟨qB⟩⟩
    rw [if_neg c7] at H; have c7b0 : (t107 == 0) = false := beq_eq_false_iff_ne.mpr c7; have c7b1 : (t107 != 0) = true := bne_iff_ne.mpr c7; (first | rw [c7b0] | (simp only [i64_w, i32_w]; rw [c7b0]) | skip)
    have H' := zA H; clear H; go_wp2; go_meet
    case rel => exact ⟨_, (true), (by first | rfl | (simp; done) | (simp [*]; done)), H', ⟨by first | omega | exact Nat.le_refl _⟩, ⟨by (with_reducible repeat (first | apply Kd.N_alloc | apply Kd.N_drewN | apply Kd.N_drew)); exact HO106.out⟩, ⟨qB⟩⟩
  case rest =>
    clear HC3; try clear c1
    try clear p2
    try clear c6
    try clear c7
    try clear c7b0
    try clear c7b1
    obtain ⟨kq, x25_2, rfl, HA, HJ2, HO_1, HB⟩ := hcut; cases kq with
    | zero => exact absurd HA.out (by simp [backhaullaw21_awake.j0])
    | succ kj2 =>
      have H := HA.out; clear HA; simp only [backhaullaw21_awake.j0] at H; by_cases c9 : x25_2 = true
      · subst c9
        have H1 : (some false) = some true := by first | (rw [if_pos rfl] at H; exact H) | rfl
        clear H; have H := H1; clear H1; exact absurd H (by simp)
      replace c9 := Bool.eq_false_iff.mpr c9; subst c9; have H1 : (if 1 < (t104.length : Int) then ((line_Unit.f kj2 ((rd_T71 t104 1).f0) ((rd_T71 t104 1).f1) ((rd_T71 t104 1).f2) ((rd_T71 t104 1).f3) ((rd_T71 t104 1).f4) 0).bind fun bt109 => (if 0 < (t104.length : Int) then ((line_Paid.f kj2 ((rd_T71 t104 0).f0) ((rd_T71 t104 0).f1) ((rd_T71 t104 0).f2) ((rd_T71 t104 0).f3) ((rd_T71 t104 0).f4)).bind fun bt113 => ((line_Sum.f kj2 t104).bind fun bt115 => ((backhaullaw21_two.f).bind fun t119 => ((line_Deal.f kj2 t119 301 0).bind fun bt122 => (if ((rd_T71 t104 0).f2) = 97 then (if ((rd_T71 t104 0).f3) = 10 then (if ((rd_T71 t104 1).f2) = 193 then (if ((rd_T71 t104 1).f3) = 19 then (if bt109.1 = 65 then (if bt109.2.1 = 7 then (if bt109.2.2 = 0 then (if bt113.1 = 107 then (if bt113.2 = 0 then (if bt115.1 = 300 then (if bt115.2.1 = 290 then (if bt115.2.2.1 = 29 then (if bt115.2.2.2 = 0 then (if bt122.2 = 34 then ((line_Check.f kj2 0 0 0 0 ([] : List ByteArray)).bind fun t130 => (if t130 = 2 then (some true) else (some false))) else (some false)) else (some false)) else (some false)) else (some false)) else (some false)) else (some false)) else (some false)) else (some false)) else (some false)) else (some false)) else (some false)) else (some false)) else (some false)) else (some false)))))) else (none))) else (none)) = some true := by first | (rw [if_neg (show ¬ (false = true) by decide)] at H; exact H) | rfl
      clear H; have H := H1; clear H1; by_cases c10 : 1 < (t104.length : Int)
      · rw [if_pos c10] at H
        have c10b0 : decide (1 < (t104.length : Int)) = true := zFq c10; have c10b1 : decide (1 < t104.length) = true := zFq (by omega); clear c10; replace H := Option.bind_eq_some_iff.mp H; obtain ⟨⟨t109, t110, t111⟩, A110, H⟩ := H; try dsimp only at H
        have A11 := zA A110; clear A110; by_cases c12 : 0 < (t104.length : Int)
        · rw [if_pos c12] at H
          have c12b0 : decide (0 < (t104.length : Int)) = true := zFq c12; have c12b1 : decide (0 < t104.length) = true := zFq (by omega); clear c12; replace H := Option.bind_eq_some_iff.mp H; obtain ⟨⟨t113, t114⟩, A130, H⟩ := H; try dsimp only at H
          have A13 := zA A130; clear A130; replace H := Option.bind_eq_some_iff.mp H; obtain ⟨⟨t115, t116, t117, t118⟩, A140, H⟩ := H; try dsimp only at H
          have A14 := zA A140; clear A140; replace H := Option.bind_eq_some_iff.mp H; obtain ⟨t119, A150, H⟩ := H; try dsimp only at H
          have A15 := zA A150; clear A150; replace H := Option.bind_eq_some_iff.mp H; obtain ⟨⟨t122, t125⟩, A160, H⟩ := H; try dsimp only at H
          have A16 := zA A160; clear A160; by_cases c17 : ((rd_T71 t104 0).f2) = 97
          · rw [if_pos c17] at H
            have c17b0 : (((rd_T71 t104 0).f2) == 97) = true := beq_iff_eq.mpr c17; have c17b1 : (((rd_T71 t104 0).f2) != 97) = false := bne_eq_false_iff_eq.mpr c17; clear c17; by_cases c18 : ((rd_T71 t104 0).f3) = 10
            · rw [if_pos c18] at H
              have c18b0 : (((rd_T71 t104 0).f3) == 10) = true := beq_iff_eq.mpr c18; have c18b1 : (((rd_T71 t104 0).f3) != 10) = false := bne_eq_false_iff_eq.mpr c18; clear c18; by_cases c19 : ((rd_T71 t104 1).f2) = 193
              · rw [if_pos c19] at H
                have c19b0 : (((rd_T71 t104 1).f2) == 193) = true := beq_iff_eq.mpr c19; have c19b1 : (((rd_T71 t104 1).f2) != 193) = false := bne_eq_false_iff_eq.mpr c19; clear c19; by_cases c20 : ((rd_T71 t104 1).f3) = 19
                · rw [if_pos c20] at H
                  have c20b0 : (((rd_T71 t104 1).f3) == 19) = true := beq_iff_eq.mpr c20; have c20b1 : (((rd_T71 t104 1).f3) != 19) = false := bne_eq_false_iff_eq.mpr c20; clear c20; by_cases c21 : t109 = 65
                  · rw [if_pos c21] at H
                    have c21b0 : (t109 == 65) = true := beq_iff_eq.mpr c21; have c21b1 : (t109 != 65) = false := bne_eq_false_iff_eq.mpr c21; clear c21; by_cases c22 : t110 = 7
                    · rw [if_pos c22] at H
                      have c22b0 : (t110 == 7) = true := beq_iff_eq.mpr c22; have c22b1 : (t110 != 7) = false := bne_eq_false_iff_eq.mpr c22; clear c22; by_cases c23 : t111 = 0
                      · rw [if_pos c23] at H
                        have c23b0 : (t111 == 0) = true := beq_iff_eq.mpr c23; have c23b1 : (t111 != 0) = false := bne_eq_false_iff_eq.mpr c23; clear c23; by_cases c24 : t113 = 107
                        · rw [if_pos c24] at H
                          have c24b0 : (t113 == 107) = true := beq_iff_eq.mpr c24; have c24b1 : (t113 != 107) = false := bne_eq_false_iff_eq.mpr c24; clear c24; by_cases c25 : t114 = 0
                          · rw [if_pos c25] at H
                            have c25b0 : (t114 == 0) = true := beq_iff_eq.mpr c25; have c25b1 : (t114 != 0) = false := bne_eq_false_iff_eq.mpr c25; clear c25; by_cases c26 : t115 = 300
                            · rw [if_pos c26] at H
                              have c26b0 : (t115 == 300) = true := beq_iff_eq.mpr c26; have c26b1 : (t115 != 300) = false := bne_eq_false_iff_eq.mpr c26; clear c26; by_cases c27 : t116 = 290
                              · rw [if_pos c27] at H
                                have c27b0 : (t116 == 290) = true := beq_iff_eq.mpr c27; have c27b1 : (t116 != 290) = false := bne_eq_false_iff_eq.mpr c27; clear c27; by_cases c28 : t117 = 29
                                · rw [if_pos c28] at H
                                  have c28b0 : (t117 == 29) = true := beq_iff_eq.mpr c28; have c28b1 : (t117 != 29) = false := bne_eq_false_iff_eq.mpr c28; clear c28; by_cases c29 : t118 = 0
                                  · rw [if_pos c29] at H
                                    have c29b0 : (t118 == 0) = true := beq_iff_eq.mpr c29; have c29b1 : (t118 != 0) = false := bne_eq_false_iff_eq.mpr c29; clear c29; by_cases c30 : t125 = 34
                                    · rw [if_pos c30] at H
                                      have c30b0 : (t125 == 34) = true := beq_iff_eq.mpr c30; have c30b1 : (t125 != 34) = false := bne_eq_false_iff_eq.mpr c30; clear c30; replace H := Option.bind_eq_some_iff.mp H; obtain ⟨t130, A310, H⟩ := H; try dsimp only at H
                                      have A31 := zA A310; clear A310; by_cases c32 : t130 = 2
                                      · rw [if_pos c32] at H
                                        have c32b0 : (t130 == 2) = true := beq_iff_eq.mpr c32; have c32b1 : (t130 != 2) = false := bne_eq_false_iff_eq.mpr c32; clear c32; clear H; obtain ⟨Ao33, co33, eo33⟩ := Kd.N_slice HO_1.out; subst eo33; have p108 : 0 ≤ (1 : Int) := (by omega)
                                        have q108 : 1 < (t104.length : Int) := of_decide_eq_true qA; obtain ⟨ad108, A108_4, c108_4, e108, hx108_0, hx108_1, hx108_2, hx108_3, hx108_4, hl108_4, hi108_4⟩ := at_T71 (Kd.N_reads' HO_1.out).2.2 1 p108 q108; cases e108
                                        obtain ⟨ce108, hce108, hMe108, hcc108⟩ := Kd.N_get HO_1.out z71 1 p108 (by first | exact q108 | exact of_decide_eq_true qA | (have e_ := (Kd.N_reads' HO_1.out).1; omega)); obtain ⟨ua108_4, uc108_4, rfl, ul108_4, ge108_4⟩ := k71_openF hMe108; have hv108_4 := hcc108 4 _ rfl; rw [add_field _ _ 4 (by omega)] at hv108_4; replace hv108_4 := zKq (hv108_4.symm.trans hx108_4); injection hv108_4 with hva_ hvn_ hvc_
                                        rw [hva_] at ge108_4; rw [hvc_] at ul108_4; have HL108_4 := zA (show Kd.V Kd.string 9 _ w.heap.size _ _ ((rd_T71 t104 1).f4) from Kd.V_mk ul108_4 ge108_4); clear hva_ hvn_ hvc_ ge108_4 ul108_4; clear hcc108 hce108; (try simp only [show (1 : Int).toNat = 1 from rfl, Nat.reduceMul, Nat.reduceEqDiff, Go.Addr.add, ↓reduceIte] at hx108_0)
                                        (try simp only [show (1 : Int).toNat = 1 from rfl, Nat.reduceMul, Nat.reduceEqDiff, Go.Addr.add, ↓reduceIte] at hx108_1)
                                        (try simp only [show (1 : Int).toNat = 1 from rfl, Nat.reduceMul, Nat.reduceEqDiff, Go.Addr.add, ↓reduceIte] at hx108_2)
                                        (try simp only [show (1 : Int).toNat = 1 from rfl, Nat.reduceMul, Nat.reduceEqDiff, Go.Addr.add, ↓reduceIte] at hx108_3)
                                        (try simp only [show (1 : Int).toNat = 1 from rfl, Nat.reduceMul, Nat.reduceEqDiff, Go.Addr.add, ↓reduceIte] at hx108_4)
                                        have qi108 : (1 < t104.length) = True := eq_true (by omega); (try rw [show ((1 : Int)).toNat = 1 from rfl] at hx108_0)
                                        (try rw [show 1 * 5 = 5 from rfl] at hx108_0)
                                        (try rw [show ((1 : Int)).toNat = 1 from rfl] at hx108_1)
                                        (try rw [show 1 * 5 = 5 from rfl] at hx108_1)
                                        (try rw [show ((1 : Int)).toNat = 1 from rfl] at hx108_2)
                                        (try rw [show 1 * 5 = 5 from rfl] at hx108_2)
                                        (try rw [show ((1 : Int)).toNat = 1 from rfl] at hx108_3)
                                        (try rw [show 1 * 5 = 5 from rfl] at hx108_3)
                                        (try rw [show ((1 : Int)).toNat = 1 from rfl] at hx108_4)
                                        (try rw [show 1 * 5 = 5 from rfl] at hx108_4)
                                        have HR108_4 := zA hi108_4; have HC108_4 := zA hl108_4; clear hi108_4 hl108_4; replace p108 := eq_true p108; replace q108 := eq_true q108; go_wp2_with (first | ((with_reducible refine zJq (f := 65) rfl ?_); refine goesL_ (some 30) rfl rfl Try.func65 (by kernel_rfl) rfl #[.agg #[.int .i64 ((rd_T71 t104 1).f0), .int .i64 ((rd_T71 t104 1).f1), .int .i64 ((rd_T71 t104 1).f2), .int .i64 ((rd_T71 t104 1).f3), .slice A108_4 ((rd_T71 t104 1).f4).length c108_4], .int .i64 0] rfl qG ?_; (with_reducible refine (line_Unit.calls kj2 ((rd_T71 t104 1).f0) ((rd_T71 t104 1).f1) ((rd_T71 t104 1).f2) ((rd_T71 t104 1).f3) _ _ ((rd_T71 t104 1).f4) 0 t109 t110 t111 _ ?side1 ?side2 A11.out).mono ?_); (case side1 => repeat (first | exact (by repeat (first | (with_reducible exact HR108_4.out) | (with_reducible refine Kd.C_alloc ?_ _) | (with_reducible refine Kd.C_drewN ?_ _) | (with_reducible refine Kd.C_drew ?_) | exact HR108_4.out)) | (with_reducible refine Kd.C_alloc ?_ _) | (with_reducible refine Kd.C_drewN ?_ _) | (with_reducible refine Kd.C_drew ?_))); (case side2 => exact HC108_4.out); rintro e w34 ⟨rfl, hb⟩; refine ⟨_, rfl, ?_⟩; have n0_ := zA (Kd.N_below (by (with_reducible repeat (first | apply Kd.N_alloc | apply Kd.N_drewN | apply Kd.N_drew)); exact HO_1.out) hb); have n1_ := zA (Kd.V_below (by (with_reducible repeat (first | apply Kd.V_alloc | apply Kd.V_drewN | apply Kd.V_drew)); exact HL108_4.out) hb); have n2_ := zA (Kd.C_below (by repeat (first | (with_reducible exact HR108_4.out) | (with_reducible refine Kd.C_alloc ?_ _) | (with_reducible refine Kd.C_drewN ?_ _) | (with_reducible refine Kd.C_drew ?_) | exact HR108_4.out)) hb); have n3_ := zA (zV qB hb); clear HO_1 HL108_4 HR108_4 HB; have HO_1 := n0_; have HL108_4 := n1_; have HR108_4 := n2_; have HB := n3_; clear n0_ n1_ n2_ n3_; (try clear hb); have p112 : 0 ≤ (0 : Int) := (by omega); have q112 : 0 < (t104.length : Int) := of_decide_eq_true qA; obtain ⟨ad112, A112_4, c112_4, e112, hx112_0, hx112_1, hx112_2, hx112_3, hx112_4, hl112_4, hi112_4⟩ := at_T71 (Kd.N_reads' HO_1.out).2.2 0 p112 q112; obtain rfl : ad108 = ad112 := (by injection e112); obtain ⟨ce112, hce112, hMe112, hcc112⟩ := Kd.N_get HO_1.out z71 0 p112 (by first | exact q112 | exact of_decide_eq_true qA | (have e_ := (Kd.N_reads' HO_1.out).1; omega)); obtain ⟨ua112_4, uc112_4, rfl, ul112_4, ge112_4⟩ := k71_openF hMe112; have hv112_4 := hcc112 4 _ rfl; rw [add_field _ _ 4 (by omega)] at hv112_4; replace hv112_4 := zKq (hv112_4.symm.trans hx112_4); injection hv112_4 with hva_ hvn_ hvc_; rw [hva_] at ge112_4; rw [hvc_] at ul112_4; have HL112_4 := zA (show Kd.V Kd.string 9 _ w.heap.size _ _ ((rd_T71 t104 0).f4) from Kd.V_mk ul112_4 ge112_4); clear hva_ hvn_ hvc_ ge112_4 ul112_4 hcc112 hce112; have qi112 : (0 < t104.length) = True := eq_true (by omega); (try rw [show ((0 : Int)).toNat = 0 from rfl] at hx112_0); (try rw [show 0 * 5 = 0 from rfl] at hx112_0); (try rw [Addr.add_zero'] at hx112_0); (try rw [show ((0 : Int)).toNat = 0 from rfl] at hx112_1); (try rw [show 0 * 5 = 0 from rfl] at hx112_1); (try rw [Addr.add_zero'] at hx112_1); (try rw [show ((0 : Int)).toNat = 0 from rfl] at hx112_2); (try rw [show 0 * 5 = 0 from rfl] at hx112_2); (try rw [Addr.add_zero'] at hx112_2); (try rw [show ((0 : Int)).toNat = 0 from rfl] at hx112_3); (try rw [show 0 * 5 = 0 from rfl] at hx112_3); (try rw [Addr.add_zero'] at hx112_3); (try rw [show ((0 : Int)).toNat = 0 from rfl] at hx112_4); (try rw [show 0 * 5 = 0 from rfl] at hx112_4); (try rw [Addr.add_zero'] at hx112_4); have HR112_4 := zA hi112_4; have HC112_4 := zA hl112_4; clear hi112_4 hl112_4; replace p112 := eq_true p112; replace q112 := eq_true q112) | ((with_reducible refine zJq (f := 67) rfl ?_); refine goesL_ (some 38) rfl rfl Try.func67 (by kernel_rfl) rfl #[.agg #[.int .i64 ((rd_T71 t104 0).f0), .int .i64 ((rd_T71 t104 0).f1), .int .i64 ((rd_T71 t104 0).f2), .int .i64 ((rd_T71 t104 0).f3), .slice A112_4 ((rd_T71 t104 0).f4).length c112_4]] rfl qG ?_; (with_reducible refine (line_Paid.calls kj2 ((rd_T71 t104 0).f0) ((rd_T71 t104 0).f1) ((rd_T71 t104 0).f2) ((rd_T71 t104 0).f3) _ _ ((rd_T71 t104 0).f4) t113 t114 _ ?side1 ?side2 A13.out).mono ?_); (case side1 => repeat (first | exact (by repeat (first | (with_reducible exact HR112_4.out) | (with_reducible refine Kd.C_alloc ?_ _) | (with_reducible refine Kd.C_drewN ?_ _) | (with_reducible refine Kd.C_drew ?_) | exact HR112_4.out)) | (with_reducible refine Kd.C_alloc ?_ _) | (with_reducible refine Kd.C_drewN ?_ _) | (with_reducible refine Kd.C_drew ?_))); (case side2 => exact HC112_4.out); rintro e w35 ⟨rfl, hb⟩; refine ⟨_, rfl, ?_⟩; have n0_ := zA (Kd.N_below (by (with_reducible repeat (first | apply Kd.N_alloc | apply Kd.N_drewN | apply Kd.N_drew)); exact HO_1.out) hb); have n1_ := zA (Kd.V_below (by (with_reducible repeat (first | apply Kd.V_alloc | apply Kd.V_drewN | apply Kd.V_drew)); exact HL108_4.out) hb); have n2_ := zA (Kd.V_below (by (with_reducible repeat (first | apply Kd.V_alloc | apply Kd.V_drewN | apply Kd.V_drew)); exact HL112_4.out) hb); have n3_ := zA (Kd.C_below (by repeat (first | (with_reducible exact HR108_4.out) | (with_reducible refine Kd.C_alloc ?_ _) | (with_reducible refine Kd.C_drewN ?_ _) | (with_reducible refine Kd.C_drew ?_) | exact HR108_4.out)) hb); have n4_ := zA (Kd.C_below (by repeat (first | (with_reducible exact HR112_4.out) | (with_reducible refine Kd.C_alloc ?_ _) | (with_reducible refine Kd.C_drewN ?_ _) | (with_reducible refine Kd.C_drew ?_) | exact HR112_4.out)) hb); have n5_ := zA (zV qB hb); clear HO_1 HL108_4 HL112_4 HR108_4 HR112_4 HB; have HO_1 := n0_; have HL108_4 := n1_; have HL112_4 := n2_; have HR108_4 := n3_; have HR112_4 := n4_; have HB := n5_; clear n0_ n1_ n2_ n3_ n4_ n5_; (try clear hb)) | ((with_reducible refine zJq (f := 71) rfl ?_); refine goesL_ (some 43) rfl rfl Try.func71 (by kernel_rfl) rfl #[.slice (some ad108) t104.length co33] rfl qG ?_; (with_reducible refine (line_Sum.calls kj2 _ _ t104 t115 t116 t117 t118 _ ?side1 ?side2 A14.out).mono ?_); (case side1 => repeat (first | exact (Kd.N_reads' HO_1.out).2.2 | (with_reducible refine Kd.C_alloc ?_ _) | (with_reducible refine Kd.C_drewN ?_ _) | (with_reducible refine Kd.C_drew ?_))); (case side2 => exact (Kd.N_reads' HO_1.out).2.1); rintro e w36 ⟨rfl, hb⟩; refine ⟨_, rfl, ?_⟩; have n0_ := zA (Kd.N_below (by (with_reducible repeat (first | apply Kd.N_alloc | apply Kd.N_drewN | apply Kd.N_drew)); exact HO_1.out) hb); have n1_ := zA (Kd.V_below (by (with_reducible repeat (first | apply Kd.V_alloc | apply Kd.V_drewN | apply Kd.V_drew)); exact HL108_4.out) hb); have n2_ := zA (Kd.V_below (by (with_reducible repeat (first | apply Kd.V_alloc | apply Kd.V_drewN | apply Kd.V_drew)); exact HL112_4.out) hb); have n3_ := zA (Kd.C_below (by repeat (first | (with_reducible exact HR108_4.out) | (with_reducible refine Kd.C_alloc ?_ _) | (with_reducible refine Kd.C_drewN ?_ _) | (with_reducible refine Kd.C_drew ?_) | exact HR108_4.out)) hb); have n4_ := zA (Kd.C_below (by repeat (first | (with_reducible exact HR112_4.out) | (with_reducible refine Kd.C_alloc ?_ _) | (with_reducible refine Kd.C_drewN ?_ _) | (with_reducible refine Kd.C_drew ?_) | exact HR112_4.out)) hb); have n5_ := zA (zV qB hb); clear HO_1 HL108_4 HL112_4 HR108_4 HR112_4 HB; have HO_1 := n0_; have HL108_4 := n1_; have HL112_4 := n2_; have HR108_4 := n3_; have HR112_4 := n4_; have HB := n5_; clear n0_ n1_ n2_ n3_ n4_ n5_; (try clear hb)) | ((with_reducible refine zJq (f := 110) rfl ?_); refine goesL_ (some 49) rfl rfl Try.func110 (by kernel_rfl) rfl #[] rfl qG ?_; (with_reducible refine (backhaullaw21_two.calls  t119 _ A15.out).mono ?_); rintro e w37 ⟨v120, rfl, ho0, hb⟩; refine ⟨_, rfl, ?_⟩; have n0_ := zA (Kd.N_elder' (by (with_reducible repeat (first | apply Kd.N_alloc | apply Kd.N_drewN | apply Kd.N_drew)); exact HO_1.out) (Kd.N_base ho0) hb); have n1_ := zA (Kd.V_elder' (by (with_reducible repeat (first | apply Kd.V_alloc | apply Kd.V_drewN | apply Kd.V_drew)); exact HL108_4.out) (Kd.N_base ho0) hb); have n2_ := zA (Kd.V_elder' (by (with_reducible repeat (first | apply Kd.V_alloc | apply Kd.V_drewN | apply Kd.V_drew)); exact HL112_4.out) (Kd.N_base ho0) hb); have n3_ := zA (Kd.N_lower (Kd.N_mono (ok' := fun k_ => some k_ ≠ (.slice (some ad108) t104.length co33 : Value).ownBlock) ho0 (fun k_ hk_ => (Kd.fresh' (Kd.N_lt (by (with_reducible repeat (first | apply Kd.N_alloc | apply Kd.N_drewN | apply Kd.N_drew)); exact HO_1.out)) k_ hk_))) (zW qB)); have n4_ := zA (Kd.C_below (by repeat (first | (with_reducible exact HR108_4.out) | (with_reducible refine Kd.C_alloc ?_ _) | (with_reducible refine Kd.C_drewN ?_ _) | (with_reducible refine Kd.C_drew ?_) | exact HR108_4.out)) hb); have n5_ := zA (Kd.C_below (by repeat (first | (with_reducible exact HR112_4.out) | (with_reducible refine Kd.C_alloc ?_ _) | (with_reducible refine Kd.C_drewN ?_ _) | (with_reducible refine Kd.C_drew ?_) | exact HR112_4.out)) hb); have n6_ := zA (zV qB hb); clear HO_1 HL108_4 HL112_4 HR108_4 HR112_4 HB; have HO_1 := n0_; have HL108_4 := n1_; have HL112_4 := n2_; have HO121 := n3_; have HR108_4 := n4_; have HR112_4 := n5_; have HB := n6_; clear n0_ n1_ n2_ n3_ n4_ n5_ n6_; (try clear hb); (try clear ho0); obtain ⟨Ao38, co38, eo38⟩ := Kd.N_slice HO121.out; subst eo38) | ((with_reducible refine zJq (f := 62) rfl ?_); refine goesL_ (some 50) rfl rfl Try.func62 (by kernel_rfl) rfl #[.slice Ao38 t119.length co38, .int .i64 301, .int .i64 0] rfl qG ?_; (with_reducible refine (line_Deal.calls kj2 (fun k_ => some k_ ≠ (.slice (some ad108) t104.length co33 : Value).ownBlock) _ _ t119 301 0 t122 t125 _ ?side1 A16.out).mono ?_); (case side1 => exact Kd.N_V (HO121.out)); rintro e w39 ⟨v123, rfl, ho0, hb⟩; refine ⟨_, rfl, ?_⟩; have n0_ := zA (Kd.N_elder' (by (with_reducible repeat (first | apply Kd.N_alloc | apply Kd.N_drewN | apply Kd.N_drew)); exact HO_1.out) (Kd.N_base ho0) hb); have n1_ := zA (Kd.V_elder' (by (with_reducible repeat (first | apply Kd.V_alloc | apply Kd.V_drewN | apply Kd.V_drew)); exact HL108_4.out) (Kd.N_base ho0) hb); have n2_ := zA (Kd.V_elder' (by (with_reducible repeat (first | apply Kd.V_alloc | apply Kd.V_drewN | apply Kd.V_drew)); exact HL112_4.out) (Kd.N_base ho0) hb); have n3_ := zA (Kd.N_elder' (by (with_reducible repeat (first | apply Kd.N_alloc | apply Kd.N_drewN | apply Kd.N_drew)); exact HO121.out) (Kd.N_base ho0) hb); have n4_ := zA (Kd.N_lower (Kd.N_mono (ok' := fun k_ => some k_ ≠ (.slice (some ad108) t104.length co33 : Value).ownBlock) ho0 (fun k_ hk_ => Or.elim hk_ (fun hs_ => hs_) (fun hn_ => (Kd.fresh' (Kd.N_lt (by (with_reducible repeat (first | apply Kd.N_alloc | apply Kd.N_drewN | apply Kd.N_drew)); exact HO_1.out)) k_ hn_)))) (zW qB)); have n5_ := zA (Kd.C_below (by repeat (first | (with_reducible exact HR108_4.out) | (with_reducible refine Kd.C_alloc ?_ _) | (with_reducible refine Kd.C_drewN ?_ _) | (with_reducible refine Kd.C_drew ?_) | exact HR108_4.out)) hb); have n6_ := zA (Kd.C_below (by repeat (first | (with_reducible exact HR112_4.out) | (with_reducible refine Kd.C_alloc ?_ _) | (with_reducible refine Kd.C_drewN ?_ _) | (with_reducible refine Kd.C_drew ?_) | exact HR112_4.out)) hb); have n7_ := zA (zV qB hb); clear HO_1 HL108_4 HL112_4 HO121 HR108_4 HR112_4 HB; have HO_1 := n0_; have HL108_4 := n1_; have HL112_4 := n2_; have HO121 := n3_; have HO124 := n4_; have HR108_4 := n5_; have HR112_4 := n6_; have HB := n7_; clear n0_ n1_ n2_ n3_ n4_ n5_ n6_ n7_; (try clear hb); (try clear ho0); have p126 : 0 ≤ (0 : Int) := (by omega); have q126 : 0 < (t104.length : Int) := of_decide_eq_true qA; obtain ⟨ad126, A126_4, c126_4, e126, hx126_0, hx126_1, hx126_2, hx126_3, hx126_4, hl126_4, hi126_4⟩ := at_T71 (Kd.N_reads' HO_1.out).2.2 0 p126 q126; obtain rfl : ad108 = ad126 := (by injection e126); obtain ⟨ce126, hce126, hMe126, hcc126⟩ := Kd.N_get HO_1.out z71 0 p126 (by first | exact q126 | exact of_decide_eq_true qA | (have e_ := (Kd.N_reads' HO_1.out).1; omega)); obtain ⟨ua126_4, uc126_4, rfl, ul126_4, ge126_4⟩ := k71_openF hMe126; have hv126_4 := hcc126 4 _ rfl; rw [add_field _ _ 4 (by omega)] at hv126_4; replace hv126_4 := zKq (hv126_4.symm.trans hx126_4); injection hv126_4 with hva_ hvn_ hvc_; rw [hva_] at ge126_4; rw [hvc_] at ul126_4; have HL126_4 := zA (show Kd.V Kd.string 9 _ w.heap.size _ _ ((rd_T71 t104 0).f4) from Kd.V_mk ul126_4 ge126_4); clear hva_ hvn_ hvc_ ge126_4 ul126_4 hcc126 hce126; have qi126 : (0 < t104.length) = True := eq_true (by omega); (try rw [show ((0 : Int)).toNat = 0 from rfl] at hx126_0); (try rw [show 0 * 5 = 0 from rfl] at hx126_0); (try rw [Addr.add_zero'] at hx126_0); (try rw [show ((0 : Int)).toNat = 0 from rfl] at hx126_1); (try rw [show 0 * 5 = 0 from rfl] at hx126_1); (try rw [Addr.add_zero'] at hx126_1); (try rw [show ((0 : Int)).toNat = 0 from rfl] at hx126_2); (try rw [show 0 * 5 = 0 from rfl] at hx126_2); (try rw [Addr.add_zero'] at hx126_2); (try rw [show ((0 : Int)).toNat = 0 from rfl] at hx126_3); (try rw [show 0 * 5 = 0 from rfl] at hx126_3); (try rw [Addr.add_zero'] at hx126_3); (try rw [show ((0 : Int)).toNat = 0 from rfl] at hx126_4); (try rw [show 0 * 5 = 0 from rfl] at hx126_4); (try rw [Addr.add_zero'] at hx126_4); have HR126_4 := zA hi126_4; have HC126_4 := zA hl126_4; clear hi126_4 hl126_4; replace p126 := eq_true p126; replace q126 := eq_true q126; have p128 : 0 ≤ (1 : Int) := (by omega); have q128 : 1 < (t104.length : Int) := of_decide_eq_true qA; obtain ⟨ad128, A128_4, c128_4, e128, hx128_0, hx128_1, hx128_2, hx128_3, hx128_4, hl128_4, hi128_4⟩ := at_T71 (Kd.N_reads' HO_1.out).2.2 1 p128 q128; obtain rfl : ad108 = ad128 := (by injection e128); obtain ⟨ce128, hce128, hMe128, hcc128⟩ := Kd.N_get HO_1.out z71 1 p128 (by first | exact q128 | exact of_decide_eq_true qA | (have e_ := (Kd.N_reads' HO_1.out).1; omega)); obtain ⟨ua128_4, uc128_4, rfl, ul128_4, ge128_4⟩ := k71_openF hMe128; have hv128_4 := hcc128 4 _ rfl; rw [add_field _ _ 4 (by omega)] at hv128_4; replace hv128_4 := zKq (hv128_4.symm.trans hx128_4); injection hv128_4 with hva_ hvn_ hvc_; rw [hva_] at ge128_4; rw [hvc_] at ul128_4; have HL128_4 := zA (show Kd.V Kd.string 9 _ w.heap.size _ _ ((rd_T71 t104 1).f4) from Kd.V_mk ul128_4 ge128_4); clear hva_ hvn_ hvc_ ge128_4 ul128_4 hcc128 hce128; (try simp only [show (1 : Int).toNat = 1 from rfl, Nat.reduceMul, Nat.reduceEqDiff, Go.Addr.add, ↓reduceIte] at hx128_0); (try simp only [show (1 : Int).toNat = 1 from rfl, Nat.reduceMul, Nat.reduceEqDiff, Go.Addr.add, ↓reduceIte] at hx128_1); (try simp only [show (1 : Int).toNat = 1 from rfl, Nat.reduceMul, Nat.reduceEqDiff, Go.Addr.add, ↓reduceIte] at hx128_2); (try simp only [show (1 : Int).toNat = 1 from rfl, Nat.reduceMul, Nat.reduceEqDiff, Go.Addr.add, ↓reduceIte] at hx128_3); (try simp only [show (1 : Int).toNat = 1 from rfl, Nat.reduceMul, Nat.reduceEqDiff, Go.Addr.add, ↓reduceIte] at hx128_4); have qi128 : (1 < t104.length) = True := eq_true (by omega); (try rw [show ((1 : Int)).toNat = 1 from rfl] at hx128_0); (try rw [show 1 * 5 = 5 from rfl] at hx128_0); (try rw [show ((1 : Int)).toNat = 1 from rfl] at hx128_1); (try rw [show 1 * 5 = 5 from rfl] at hx128_1); (try rw [show ((1 : Int)).toNat = 1 from rfl] at hx128_2); (try rw [show 1 * 5 = 5 from rfl] at hx128_2); (try rw [show ((1 : Int)).toNat = 1 from rfl] at hx128_3); (try rw [show 1 * 5 = 5 from rfl] at hx128_3); (try rw [show ((1 : Int)).toNat = 1 from rfl] at hx128_4); (try rw [show 1 * 5 = 5 from rfl] at hx128_4); have HR128_4 := zA hi128_4; have HC128_4 := zA hl128_4; clear hi128_4 hl128_4; replace p128 := eq_true p128; replace q128 := eq_true q128) | (go_at_call 69; (refine (line_Check.calls kj2 0 0 0 0 _ _ ([] : List ByteArray) t130 _ ?side1 ?side2 A31.out).mono ?_); (case side1 => exact Kd.C_nil _ _); (case side2 => exact Nat.le_refl _); rintro e w40 ⟨rfl, hb⟩; have n0_ := zA (Kd.N_below (by (with_reducible repeat (first | apply Kd.N_alloc | apply Kd.N_drewN | apply Kd.N_drew)); exact HO_1.out) hb); have n1_ := zA (Kd.V_below (by (with_reducible repeat (first | apply Kd.V_alloc | apply Kd.V_drewN | apply Kd.V_drew)); exact HL108_4.out) hb); have n2_ := zA (Kd.V_below (by (with_reducible repeat (first | apply Kd.V_alloc | apply Kd.V_drewN | apply Kd.V_drew)); exact HL112_4.out) hb); have n3_ := zA (Kd.N_below (by (with_reducible repeat (first | apply Kd.N_alloc | apply Kd.N_drewN | apply Kd.N_drew)); exact HO121.out) hb); have n4_ := zA (Kd.N_below (by (with_reducible repeat (first | apply Kd.N_alloc | apply Kd.N_drewN | apply Kd.N_drew)); exact HO124.out) hb); have n5_ := zA (Kd.V_below (by (with_reducible repeat (first | apply Kd.V_alloc | apply Kd.V_drewN | apply Kd.V_drew)); exact HL126_4.out) hb); have n6_ := zA (Kd.V_below (by (with_reducible repeat (first | apply Kd.V_alloc | apply Kd.V_drewN | apply Kd.V_drew)); exact HL128_4.out) hb); have n7_ := zA (Kd.C_below (by repeat (first | (with_reducible exact HR108_4.out) | (with_reducible refine Kd.C_alloc ?_ _) | (with_reducible refine Kd.C_drewN ?_ _) | (with_reducible refine Kd.C_drew ?_) | exact HR108_4.out)) hb); have n8_ := zA (Kd.C_below (by repeat (first | (with_reducible exact HR112_4.out) | (with_reducible refine Kd.C_alloc ?_ _) | (with_reducible refine Kd.C_drewN ?_ _) | (with_reducible refine Kd.C_drew ?_) | exact HR112_4.out)) hb); have n9_ := zA (Kd.C_below (by repeat (first | (with_reducible exact HR126_4.out) | (with_reducible refine Kd.C_alloc ?_ _) | (with_reducible refine Kd.C_drewN ?_ _) | (with_reducible refine Kd.C_drew ?_) | exact HR126_4.out)) hb); have n10_ := zA (Kd.C_below (by repeat (first | (with_reducible exact HR128_4.out) | (with_reducible refine Kd.C_alloc ?_ _) | (with_reducible refine Kd.C_drewN ?_ _) | (with_reducible refine Kd.C_drew ?_) | exact HR128_4.out)) hb); have n11_ := zA (zV qB hb); clear HO_1 HL108_4 HL112_4 HO121 HO124 HL126_4 HL128_4 HR108_4 HR112_4 HR126_4 HR128_4 HB; have HO_1 := n0_; have HL108_4 := n1_; have HL112_4 := n2_; have HO121 := n3_; have HO124 := n4_; have HL126_4 := n5_; have HL128_4 := n6_; have HR108_4 := n7_; have HR112_4 := n8_; have HR126_4 := n9_; have HR128_4 := n10_; have HB := n11_; clear n0_ n1_ n2_ n3_ n4_ n5_ n6_ n7_ n8_ n9_ n10_ n11_; (try clear hb)))
                                        go_ret; exact ⟨qE, qB⟩
                                      rw [if_neg c32] at H; have c32b0 : (t130 == 2) = false := beq_eq_false_iff_ne.mpr c32; have c32b1 : (t130 != 2) = true := bne_iff_ne.mpr c32; exact absurd H (by simp)
                                    rw [if_neg c30] at H; have c30b0 : (t125 == 34) = false := beq_eq_false_iff_ne.mpr c30; have c30b1 : (t125 != 34) = true := bne_iff_ne.mpr c30; exact absurd H (by simp)
                                  rw [if_neg c29] at H; have c29b0 : (t118 == 0) = false := beq_eq_false_iff_ne.mpr c29; have c29b1 : (t118 != 0) = true := bne_iff_ne.mpr c29; exact absurd H (by simp)
                                rw [if_neg c28] at H; have c28b0 : (t117 == 29) = false := beq_eq_false_iff_ne.mpr c28; have c28b1 : (t117 != 29) = true := bne_iff_ne.mpr c28; exact absurd H (by simp)
                              rw [if_neg c27] at H; have c27b0 : (t116 == 290) = false := beq_eq_false_iff_ne.mpr c27; have c27b1 : (t116 != 290) = true := bne_iff_ne.mpr c27; exact absurd H (by simp)
                            rw [if_neg c26] at H; have c26b0 : (t115 == 300) = false := beq_eq_false_iff_ne.mpr c26; have c26b1 : (t115 != 300) = true := bne_iff_ne.mpr c26; exact absurd H (by simp)
                          rw [if_neg c25] at H; have c25b0 : (t114 == 0) = false := beq_eq_false_iff_ne.mpr c25; have c25b1 : (t114 != 0) = true := bne_iff_ne.mpr c25; exact absurd H (by simp)
                        rw [if_neg c24] at H; have c24b0 : (t113 == 107) = false := beq_eq_false_iff_ne.mpr c24; have c24b1 : (t113 != 107) = true := bne_iff_ne.mpr c24; exact absurd H (by simp)
                      rw [if_neg c23] at H; have c23b0 : (t111 == 0) = false := beq_eq_false_iff_ne.mpr c23; have c23b1 : (t111 != 0) = true := bne_iff_ne.mpr c23; exact absurd H (by simp)
                    rw [if_neg c22] at H; have c22b0 : (t110 == 7) = false := beq_eq_false_iff_ne.mpr c22; have c22b1 : (t110 != 7) = true := bne_iff_ne.mpr c22; exact absurd H (by simp)
                  rw [if_neg c21] at H; have c21b0 : (t109 == 65) = false := beq_eq_false_iff_ne.mpr c21; have c21b1 : (t109 != 65) = true := bne_iff_ne.mpr c21; exact absurd H (by simp)
                rw [if_neg c20] at H; have c20b0 : (((rd_T71 t104 1).f3) == 19) = false := beq_eq_false_iff_ne.mpr c20; have c20b1 : (((rd_T71 t104 1).f3) != 19) = true := bne_iff_ne.mpr c20; exact absurd H (by simp)
              rw [if_neg c19] at H; have c19b0 : (((rd_T71 t104 1).f2) == 193) = false := beq_eq_false_iff_ne.mpr c19; have c19b1 : (((rd_T71 t104 1).f2) != 193) = true := bne_iff_ne.mpr c19; exact absurd H (by simp)
            rw [if_neg c18] at H; have c18b0 : (((rd_T71 t104 0).f3) == 10) = false := beq_eq_false_iff_ne.mpr c18; have c18b1 : (((rd_T71 t104 0).f3) != 10) = true := bne_iff_ne.mpr c18; exact absurd H (by simp)
          rw [if_neg c17] at H; have c17b0 : (((rd_T71 t104 0).f2) == 97) = false := beq_eq_false_iff_ne.mpr c17; have c17b1 : (((rd_T71 t104 0).f2) != 97) = true := bne_iff_ne.mpr c17; exact absurd H (by simp)
        rw [if_neg c12] at H; exact absurd H (by simp)
      rw [if_neg c10] at H; exact absurd H (by simp)
mutual
def backhaulref02_Div.l0 : Nat → Int → Int → Int → Int → Int → Int → Option (Int × Int)
  | 0, _, _, _, _, _, _ => none
  | k + 1, x0, x1, x2, x8, x9, x10 => if x10 ≥ 0 then (if 0 ≤ (IntKind.u64.wrap (x10)) then (if (Int.tmod (shr .i64 x1 (IntKind.u64.wrap (x10))) 2) = 1 then (if x2 = 0 then (none) else (backhaulref02_Div.j1 k x0 x1 x2 (wrap64 ((wrap64 (2 * x8)) + (wrap64 (Int.tdiv x0 x2)))) (wrap64 ((wrap64 (2 * x9)) + (Int.tmod x0 x2))) x10)) else (backhaulref02_Div.j1 k x0 x1 x2 (wrap64 (2 * x8)) (wrap64 (2 * x9)) x10)) else (none)) else (some (x8, x9))
def backhaulref02_Div.j1 : Nat → Int → Int → Int → Int → Int → Int → Option (Int × Int)
  | 0, _, _, _, _, _, _ => none
  | k + 1, x0, x1, x2, x8, x9, x10 => backhaulref02_Div.l1 k x0 x1 x2 x8 x9 x10
def backhaulref02_Div.l1 : Nat → Int → Int → Int → Int → Int → Int → Option (Int × Int)
  | 0, _, _, _, _, _, _ => none
  | k + 1, x0, x1, x2, x8, x9, x10 => if x9 ≥ x2 then (backhaulref02_Div.l1 k x0 x1 x2 (wrap64 (x8 + 1)) (wrap64 (x9 - x2)) x10) else (if x8 > 4000000000000 then (some ((-1), 0)) else (backhaulref02_Div.l0 k x0 x1 x2 x8 x9 (wrap64 (x10 - 1))))
end
def backhaulref02_Div.f (k : Nat) (a0 : Int) (a1 : Int) (a2 : Int) : Option (Int × Int) := backhaulref02_Div.l0 k a0 a1 a2 0 0 40
theorem backhaulref02_Div.mono_l : ∀ k, (∀ y0 y1 y2 y3 y4 y5, LeO (backhaulref02_Div.l0 k y0 y1 y2 y3 y4 y5) (backhaulref02_Div.l0 (k + 1) y0 y1 y2 y3 y4 y5)) ∧ (∀ y0 y1 y2 y3 y4 y5, LeO (backhaulref02_Div.j1 k y0 y1 y2 y3 y4 y5) (backhaulref02_Div.j1 (k + 1) y0 y1 y2 y3 y4 y5)) ∧ (∀ y0 y1 y2 y3 y4 y5, LeO (backhaulref02_Div.l1 k y0 y1 y2 y3 y4 y5) (backhaulref02_Div.l1 (k + 1) y0 y1 y2 y3 y4 y5))
  | 0 => ⟨fun _ _ _ _ _ _ r h => by simp [backhaulref02_Div.l0] at h, fun _ _ _ _ _ _ r h => by simp [backhaulref02_Div.j1] at h, fun _ _ _ _ _ _ r h => by simp [backhaulref02_Div.l1] at h⟩
  | k + 1 => by
    obtain ⟨ih0, ih1, ih2⟩ := backhaulref02_Div.mono_l k
    refine ⟨?_, ?_, ?_⟩
    · intro y0 y1 y2 y3 y4 y5
      unfold backhaulref02_Div.l0
      repeat' (with_reducible first | exact ih0 _ _ _ _ _ _ | exact ih1 _ _ _ _ _ _ | exact ih2 _ _ _ _ _ _ | exact LeO.refl _ | exact LeO.none _ | refine LeO.ite ?_ ?_ | refine LeO.bind ?_ (fun _ => ?_))
    · intro y0 y1 y2 y3 y4 y5
      unfold backhaulref02_Div.j1
      repeat' (with_reducible first | exact ih0 _ _ _ _ _ _ | exact ih1 _ _ _ _ _ _ | exact ih2 _ _ _ _ _ _ | exact LeO.refl _ | exact LeO.none _ | refine LeO.ite ?_ ?_ | refine LeO.bind ?_ (fun _ => ?_))
    intro y0 y1 y2 y3 y4 y5
    unfold backhaulref02_Div.l1
    repeat' (with_reducible first | exact ih0 _ _ _ _ _ _ | exact ih1 _ _ _ _ _ _ | exact ih2 _ _ _ _ _ _ | exact LeO.refl _ | exact LeO.none _ | refine LeO.ite ?_ ?_ | refine LeO.bind ?_ (fun _ => ?_))
theorem backhaulref02_Div.mono : ∀ a0 a1 a2 k, LeO (backhaulref02_Div.f k a0 a1 a2) (backhaulref02_Div.f (k + 1) a0 a1 a2) := by
  intro a0 a1 a2 k
  obtain ⟨ih0, ih1, ih2⟩ := backhaulref02_Div.mono_l k
  unfold backhaulref02_Div.f
  repeat' (with_reducible first | exact ih0 _ _ _ _ _ _ | exact ih1 _ _ _ _ _ _ | exact ih2 _ _ _ _ _ _ | exact LeO.refl _ | exact LeO.none _ | refine LeO.ite ?_ ?_ | refine LeO.bind ?_ (fun _ => ?_))
set_option maxHeartbeats 8000000 in
set_option maxRecDepth 100000 in
theorem backhaulref02_Div.calls (k : Nat) (a0 : Int) (a1 : Int) (a2 : Int) (r1 : Int) (r2 : Int) (w : World) (h : backhaulref02_Div.f k a0 a1 a2 = some (r1, r2)) :
    Calls Try.prog 102 #[.int .i64 a0, .int .i64 a1, .int .i64 a2] w fun e w' => e = .returned (.tuple #[.int .i64 r1, .int .i64 r2]) ∧ Drawn0 w w' := by
  have H : (backhaulref02_Div.l0 k a0 a1 a2 0 0 40) = some (r1, r2) := h
  clear h
  have H' := zA H
  clear H
  go_enter Try.func102, Try.ntmps102
  go_wp2
  go_loopg [8, 9, 10] k (fun kq v8 v9 v10 w' => ∃ (x8_1 : Int) (x9_1 : Int) (x10_1 : Int), v8 = .int .i64 x8_1 ∧ v9 = .int .i64 x9_1 ∧ v10 = .int .i64 x10_1 ∧ Aside0 (backhaulref02_Div.l0 kq a0 a1 a2 x8_1 x9_1 x10_1 = some (r1, r2)) ∧ Aside0 (kq ≤ k) ∧ Drawn0 w w')
  case atStart => exact ⟨(0), (0), (40), (by first | rfl | (simp; done) | (simp [*]; done)), (by first | rfl | (simp; done) | (simp [*]; done)), (by first | rfl | (simp; done) | (simp [*]; done)), H', ⟨Nat.le_refl _⟩, by repeat (first | exact Drawn0.refl _ | apply Drawn0.step)⟩
  case round =>
    clear H'; try clear c1
    try clear p2
    obtain ⟨x8_1, x9_1, x10_1, rfl, rfl, rfl, HA, HK1, ⟨m1, rfl⟩⟩ := hrel; cases gk with
    | zero => exact absurd HA.out (by simp [backhaulref02_Div.l0])
    | succ k1 =>
      have H := HA.out; clear HA; simp only [backhaulref02_Div.l0] at H; by_cases c4 : x10_1 ≥ 0
      · rw [if_pos c4] at H
        have c4b0 : decide (0 ≤ x10_1) = true := zFq c4; clear c4; obtain ⟨ji5, hji5⟩ : ∃ j_ : Int, (IntKind.u64.wrap (x10_1)) = j_ := ⟨_, rfl⟩
        replace H : (if 0 ≤ (ji5) then (if (Int.tmod (shr .i64 a1 (ji5)) 2) = 1 then (if a2 = 0 then (none) else (backhaulref02_Div.j1 k1 a0 a1 a2 (wrap64 ((wrap64 (2 * x8_1)) + (wrap64 (Int.tdiv a0 a2)))) (wrap64 ((wrap64 (2 * x9_1)) + (Int.tmod a0 a2))) x10_1)) else (backhaulref02_Div.j1 k1 a0 a1 a2 (wrap64 (2 * x8_1)) (wrap64 (2 * x9_1)) x10_1)) else (none)) = some (r1, r2) := by first | (rw [hji5] at H; exact H) | (simp only [hji5] at H ⊢; exact H)
        by_cases c6 : 0 ≤ (ji5)
        · rw [if_pos c6] at H
          have c6b0 := eq_true c6; have c6b1 : decide (0 ≤ (ji5)) = true := zFq c6; clear c6; obtain ⟨ji7, hji7⟩ : ∃ j_ : Int, (shr .i64 a1 (ji5)) = j_ := ⟨_, rfl⟩
          replace H : (if (Int.tmod (ji7) 2) = 1 then (if a2 = 0 then (none) else (backhaulref02_Div.j1 k1 a0 a1 a2 (wrap64 ((wrap64 (2 * x8_1)) + (wrap64 (Int.tdiv a0 a2)))) (wrap64 ((wrap64 (2 * x9_1)) + (Int.tmod a0 a2))) x10_1)) else (backhaulref02_Div.j1 k1 a0 a1 a2 (wrap64 (2 * x8_1)) (wrap64 (2 * x9_1)) x10_1)) = some (r1, r2) := by first | (rw [hji7] at H; exact H) | (simp only [hji7] at H ⊢; exact H)
          have hji7_ : (a1 / 2 ^ min (ji5).toNat 64) = ji7 := hji7; have hji7z : (ji5) ≤ 64 → (a1 / 2 ^ (ji5).toNat) = ji7 := shr_small hji7; have HC8 := zA H; clear H; go_upto_if 24 with (fail)
          go_cut [8, 9] (fun v8 v9 wc => ∃ (kq : Nat) (x8_7 : Int) (x9_7 : Int), v8 = .int .i64 x8_7 ∧ v9 = .int .i64 x9_7 ∧ Aside0 (backhaulref02_Div.j1 kq a0 a1 a2 x8_7 x9_7 x10_1 = some (r1, r2)) ∧ Aside0 (kq ≤ k1) ∧ Drawn0 w wc)
          case first =>
            have H := HC8.out; clear HC8; by_cases c9 : (Int.tmod (ji7) 2) = 1
            · rw [if_pos c9] at H
              have c9b0 : ((Int.tmod (ji7) 2) == 1) = true := beq_iff_eq.mpr c9; have c9b1 : ((Int.tmod (ji7) 2) != 1) = false := bne_eq_false_iff_eq.mpr c9; clear c9; (first | rw [c9b0] | (simp only [i64_w, i32_w]; rw [c9b0]) | skip)
              by_cases c10 : a2 = 0
              · rw [if_pos c10] at H
                exact absurd H (by simp)
              rw [if_neg c10] at H; have c10b0 : (a2 == 0) = false := beq_eq_false_iff_ne.mpr c10; have c10b1 : (a2 != 0) = true := bne_iff_ne.mpr c10; have H' := zA H; clear H; go_wp2; go_meet
              case rel => exact ⟨_, (wrap64 ((wrap64 (2 * x8_1)) + (wrap64 (Int.tdiv a0 a2)))), (wrap64 ((wrap64 (2 * x9_1)) + (Int.tmod a0 a2))), (by first | rfl | (simp; done) | (simp [*]; done)), (by first | rfl | (simp; done) | (simp [*]; done)), H', ⟨by have := HK1.out; first | omega | exact Nat.le_refl _⟩, by repeat (first | exact Drawn0.refl _ | apply Drawn0.step)⟩
            rw [if_neg c9] at H; have c9b0 : ((Int.tmod (ji7) 2) == 1) = false := beq_eq_false_iff_ne.mpr c9; have c9b1 : ((Int.tmod (ji7) 2) != 1) = true := bne_iff_ne.mpr c9; (first | rw [c9b0] | (simp only [i64_w, i32_w]; rw [c9b0]) | skip)
            have H' := zA H; clear H; go_wp2; go_meet
            case rel => exact ⟨_, (wrap64 (2 * x8_1)), (wrap64 (2 * x9_1)), (by first | rfl | (simp; done) | (simp [*]; done)), (by first | rfl | (simp; done) | (simp [*]; done)), H', ⟨by have := HK1.out; first | omega | exact Nat.le_refl _⟩, by repeat (first | exact Drawn0.refl _ | apply Drawn0.step)⟩
          case rest =>
            clear HC8; try clear c1
            try clear p2
            try clear c4
            try clear c4b0
            try clear c6
            try clear c6b0
            try clear c6b1
            try clear p6
            try clear c9
            try clear c9b0
            try clear c9b1
            try clear c10
            try clear c10b0
            try clear c10b1
            try clear p2
            obtain ⟨kq, x8_7, x9_7, rfl, rfl, HA, HJ7, ⟨mc7, rfl⟩⟩ := hcut; cases kq with
            | zero => exact absurd HA.out (by simp [backhaulref02_Div.j1])
            | succ kj7 =>
              have H := HA.out; clear HA; simp only [backhaulref02_Div.j1] at H; have H' := zA H; clear H; go_wp2; go_loopg [8, 9] kj7 (fun kq v8 v9 w' => ∃ (x8_3 : Int) (x9_3 : Int), v8 = .int .i64 x8_3 ∧ v9 = .int .i64 x9_3 ∧ Aside0 (backhaulref02_Div.l1 kq a0 a1 a2 x8_3 x9_3 x10_1 = some (r1, r2)) ∧ Aside0 (kq ≤ kj7) ∧ Drawn0 w w')
              case atStart => exact ⟨(x8_7), (x9_7), (by first | rfl | (simp; done) | (simp [*]; done)), (by first | rfl | (simp; done) | (simp [*]; done)), H', ⟨Nat.le_refl _⟩, by repeat (first | exact Drawn0.refl _ | apply Drawn0.step)⟩
              case round =>
                clear H'; try clear c1
                try clear p2
                try clear c4
                try clear c4b0
                try clear c6
                try clear c6b0
                try clear c6b1
                try clear p6
                try clear c7
                try clear c9
                try clear c9b0
                try clear c9b1
                try clear c10
                try clear c10b0
                try clear c10b1
                try clear p2
                try clear p6
                obtain ⟨x8_3, x9_3, rfl, rfl, HA, HK3, ⟨m3, rfl⟩⟩ := hrel; cases gk with
                | zero => exact absurd HA.out (by simp [backhaulref02_Div.l1])
                | succ k3 =>
                  have H := HA.out; clear HA; simp only [backhaulref02_Div.l1] at H; by_cases c11 : x9_3 ≥ a2
                  · rw [if_pos c11] at H
                    have c11b0 : decide (a2 ≤ x9_3) = true := zFq c11; clear c11; have H' := zA H; clear H; go_wp2; go_roundg k3
                    case measure => have := HK1.out; have := HJ7.out; have := HK3.out; omega
                    case rel => exact ⟨(wrap64 (x8_3 + 1)), (wrap64 (x9_3 - a2)), (by first | rfl | (simp; done) | (simp [*]; done)), (by first | rfl | (simp; done) | (simp [*]; done)), H', ⟨by have := HK1.out; have := HJ7.out; have := HK3.out; omega⟩, by repeat (first | exact Drawn0.refl _ | apply Drawn0.step)⟩
                  rw [if_neg c11] at H; have c11b0 : decide (a2 ≤ x9_3) = false := zGq c11; clear c11; by_cases c12 : x8_3 > 4000000000000
                  · rw [if_pos c12] at H
                    have c12b0 : decide (4000000000000 < x8_3) = true := zFq c12; clear c12; simp only [zNq, zOq] at H; obtain ⟨rfl, rfl⟩ := H; go_wp2; go_ret2; exact ⟨by first | rfl | (simp; done) | (simp only [← hji5, ← hji7] <;> (first | rfl | simp)) | (simp [*]; done), by repeat (first | exact Drawn0.refl _ | apply Drawn0.step)⟩
                  rw [if_neg c12] at H; have c12b0 : decide (4000000000000 < x8_3) = false := zGq c12; clear c12; have H' := zA H; clear H; go_wp2; go_roundg k3
                  case measure => have := HK1.out; have := HJ7.out; have := HK3.out; omega
                  case rel => exact ⟨(x8_3), (x9_3), (wrap64 (x10_1 - 1)), (by first | rfl | (simp; done) | (simp [*]; done)), (by first | rfl | (simp; done) | (simp [*]; done)), (by first | rfl | (simp; done) | (simp [*]; done)), H', ⟨by have := HK1.out; have := HJ7.out; have := HK3.out; omega⟩, by repeat (first | exact Drawn0.refl _ | apply Drawn0.step)⟩
        rw [if_neg c6] at H; exact absurd H (by simp)
      rw [if_neg c4] at H; have c4b0 : decide (0 ≤ x10_1) = false := zGq c4; clear c4; simp only [zNq, zOq] at H; obtain ⟨rfl, rfl⟩ := H; go_wp2; go_ret2; exact ⟨by first | rfl | (simp; done) | (simp [*]; done), by repeat (first | exact Drawn0.refl _ | apply Drawn0.step)⟩
mutual
def backhaulref03_Whole.j0 : Nat → List Int → Bool → Option (Int × Int)
  | 0, _, _ => none
  | k + 1, x0, x14 => if x14 = true then (some (0, 2)) else (backhaulref03_Whole.l0 k x0 0 0)
def backhaulref03_Whole.l0 : Nat → List Int → Int → Int → Option (Int × Int)
  | 0, _, _, _ => none
  | k + 1, x0, x4, x5 => if x5 < (x0.length : Int) then (if 0 ≤ x5 then (if (rd x0 x5) < 0 then (some (0, 8)) else (backhaulref03_Whole.l0 k x0 x4 (wrap64 (x5 + 1)))) else (none)) else (backhaulref03_Whole.l1 k x0 x4 0)
def backhaulref03_Whole.l1 : Nat → List Int → Int → Int → Option (Int × Int)
  | 0, _, _, _ => none
  | k + 1, x0, x4, x6 => if x6 < (x0.length : Int) then (if 0 ≤ x6 then (if (rd x0 x6) > 1000000000000 then (some (0, 8)) else (if (rd x0 x6) > (wrap64 (1000000000000 - x4)) then (some (0, 8)) else (backhaulref03_Whole.l1 k x0 (wrap64 (x4 + (rd x0 x6))) (wrap64 (x6 + 1))))) else (none)) else (if x4 = 0 then (some ((x0.length : Int), 0)) else (some (x4, 0)))
end
def backhaulref03_Whole.f (k : Nat) (l0 : List Int) : Option (Int × Int) := if (l0.length : Int) = 0 then (backhaulref03_Whole.j0 k l0 true) else (backhaulref03_Whole.j0 k l0 (decide ((l0.length : Int) > 200)))
theorem backhaulref03_Whole.mono_l : ∀ k, (∀ y0 y1, LeO (backhaulref03_Whole.j0 k y0 y1) (backhaulref03_Whole.j0 (k + 1) y0 y1)) ∧ (∀ y0 y1 y2, LeO (backhaulref03_Whole.l0 k y0 y1 y2) (backhaulref03_Whole.l0 (k + 1) y0 y1 y2)) ∧ (∀ y0 y1 y2, LeO (backhaulref03_Whole.l1 k y0 y1 y2) (backhaulref03_Whole.l1 (k + 1) y0 y1 y2))
  | 0 => ⟨fun _ _ r h => by simp [backhaulref03_Whole.j0] at h, fun _ _ _ r h => by simp [backhaulref03_Whole.l0] at h, fun _ _ _ r h => by simp [backhaulref03_Whole.l1] at h⟩
  | k + 1 => by
    obtain ⟨ih0, ih1, ih2⟩ := backhaulref03_Whole.mono_l k
    refine ⟨?_, ?_, ?_⟩
    · intro y0 y1
      unfold backhaulref03_Whole.j0
      repeat' (with_reducible first | exact ih0 _ _ | exact ih1 _ _ _ | exact ih2 _ _ _ | exact LeO.refl _ | exact LeO.none _ | refine LeO.ite ?_ ?_ | refine LeO.bind ?_ (fun _ => ?_))
    · intro y0 y1 y2
      unfold backhaulref03_Whole.l0
      repeat' (with_reducible first | exact ih0 _ _ | exact ih1 _ _ _ | exact ih2 _ _ _ | exact LeO.refl _ | exact LeO.none _ | refine LeO.ite ?_ ?_ | refine LeO.bind ?_ (fun _ => ?_))
    intro y0 y1 y2
    unfold backhaulref03_Whole.l1
    repeat' (with_reducible first | exact ih0 _ _ | exact ih1 _ _ _ | exact ih2 _ _ _ | exact LeO.refl _ | exact LeO.none _ | refine LeO.ite ?_ ?_ | refine LeO.bind ?_ (fun _ => ?_))
theorem backhaulref03_Whole.mono : ∀ a0 k, LeO (backhaulref03_Whole.f k a0) (backhaulref03_Whole.f (k + 1) a0) := by
  intro a0 k
  obtain ⟨ih0, ih1, ih2⟩ := backhaulref03_Whole.mono_l k
  unfold backhaulref03_Whole.f
  repeat' (with_reducible first | exact ih0 _ _ | exact ih1 _ _ _ | exact ih2 _ _ _ | exact LeO.refl _ | exact LeO.none _ | refine LeO.ite ?_ ?_ | refine LeO.bind ?_ (fun _ => ?_))
set_option maxHeartbeats 8000000 in
set_option maxRecDepth 100000 in
theorem backhaulref03_Whole.calls (k : Nat) (A0 : Option Addr) (c0 : Nat) (l0 : List Int) (r1 : Int) (r2 : Int) (w : World) (hr0 : Kd.C (Kd.int .i64) w A0 l0.length l0) (hc0 : l0.length ≤ c0) (h : backhaulref03_Whole.f k l0 = some (r1, r2)) :
    Calls Try.prog 58 #[.slice A0 l0.length c0] w fun e w' => e = .returned (.tuple #[.int .i64 r1, .int .i64 r2]) ∧ Drawn0 w w' := by
  have HR0 := zA hr0
  have HC0 := zA hc0
  clear hr0 hc0
  have H : (if (l0.length : Int) = 0 then (backhaulref03_Whole.j0 k l0 true) else (backhaulref03_Whole.j0 k l0 (decide ((l0.length : Int) > 200)))) = some (r1, r2) := h
  clear h
  have HC2 := zA H
  clear H
  go_enter Try.func58, Try.ntmps58
  go_upto_region 1 with (fail)
  go_cut [14] (fun v14 wc => ∃ (kq : Nat) (x14_1 : Bool), v14 = .bool x14_1 ∧ Aside0 (backhaulref03_Whole.j0 kq l0 x14_1 = some (r1, r2)) ∧ Aside0 (kq ≤ k) ∧ Drawn0 w wc)
  case first =>
    have H := HC2.out; clear HC2; by_cases c3 : (l0.length : Int) = 0
    · rw [if_pos c3] at H
      have c3b0 : ((l0.length : Int) == 0) = true := beq_iff_eq.mpr c3; have c3b1 : ((l0.length : Int) != 0) = false := bne_eq_false_iff_eq.mpr c3; clear c3; (first | rw [c3b0] | (simp only [i64_w, i32_w]; rw [c3b0]) | skip)
      have H' := zA H; clear H; go_wp2; go_meet
      case rel => exact ⟨_, (true), (by first | rfl | (simp; done) | (simp [*]; done)), H', ⟨by first | omega | exact Nat.le_refl _⟩, by repeat (first | exact Drawn0.refl _ | apply Drawn0.step)⟩
    rw [if_neg c3] at H; have c3b0 : ((l0.length : Int) == 0) = false := beq_eq_false_iff_ne.mpr c3; have c3b1 : ((l0.length : Int) != 0) = true := bne_iff_ne.mpr c3; have c3b2 : ¬ (l0 = []) := fun h_ => c3 (by rw [h_]; rfl)
    (first | rw [c3b0] | (simp only [i64_w, i32_w]; rw [c3b0]) | skip)
    have H' := zA H; clear H; go_wp2; go_meet
    case rel => exact ⟨_, (decide ((l0.length : Int) > 200)), (by first | rfl | (simp; done) | (simp [*]; done)), H', ⟨by first | omega | exact Nat.le_refl _⟩, by repeat (first | exact Drawn0.refl _ | apply Drawn0.step)⟩
  case rest =>
    clear HC2; try clear p2
    try clear c3
    try clear c3b0
    try clear c3b1
    try clear c3b2
    obtain ⟨kq, x14_1, rfl, HA, HJ1, ⟨mc1, rfl⟩⟩ := hcut; cases kq with
    | zero => exact absurd HA.out (by simp [backhaulref03_Whole.j0])
    | succ kj1 =>
      have H := HA.out; clear HA; simp only [backhaulref03_Whole.j0] at H; by_cases c4 : x14_1 = true
      · subst c4
        have H1 : (some (0, 2)) = some (r1, r2) := by first | (rw [if_pos rfl] at H; exact H) | rfl
        clear H; have H := H1; clear H1; simp only [zNq, zOq] at H; obtain ⟨rfl, rfl⟩ := H; go_wp2; go_ret2; exact ⟨by first | rfl | (simp; done) | (simp [*]; done), by repeat (first | exact Drawn0.refl _ | apply Drawn0.step)⟩
      replace c4 := Bool.eq_false_iff.mpr c4; subst c4; have H1 : (backhaulref03_Whole.l0 kj1 l0 0 0) = some (r1, r2) := by first | (rw [if_neg (show ¬ (false = true) by decide)] at H; exact H) | rfl
      clear H; have H := H1; clear H1; have H' := zA H; clear H; go_wp2; go_loopg [5] kj1 (fun kq v5 w' => ∃ (x5_2 : Int), v5 = .int .i64 x5_2 ∧ Aside0 (backhaulref03_Whole.l0 kq l0 0 x5_2 = some (r1, r2)) ∧ Aside0 (kq ≤ kj1) ∧ Drawn0 w w')
      case atStart => exact ⟨(0), (by first | rfl | (simp; done) | (simp [*]; done)), H', ⟨Nat.le_refl _⟩, by repeat (first | exact Drawn0.refl _ | apply Drawn0.step)⟩
      case round =>
        clear H'; try clear c1
        try clear p2
        try clear c3
        try clear c3b0
        try clear c3b1
        try clear c3b2
        try clear c4
        try clear p2
        obtain ⟨x5_2, rfl, HA, HK2, ⟨m2, rfl⟩⟩ := hrel; cases gk with
        | zero => exact absurd HA.out (by simp [backhaulref03_Whole.l0])
        | succ k2 =>
          have H := HA.out; clear HA; simp only [backhaulref03_Whole.l0] at H; by_cases c5 : x5_2 < (l0.length : Int)
          · rw [if_pos c5] at H
            have c5b0 : decide (x5_2 < (l0.length : Int)) = true := zFq c5; clear c5; by_cases c6 : 0 ≤ x5_2
            · rw [if_pos c6] at H
              have c6b0 : decide (0 ≤ x5_2) = true := zFq c6; clear c6; by_cases c7 : (rd l0 x5_2) < 0
              · rw [if_pos c7] at H
                have c7b0 : decide ((rd l0 x5_2) < 0) = true := zFq c7; clear c7; simp only [zNq, zOq] at H; obtain ⟨rfl, rfl⟩ := H; have p101 : 0 ≤ (x5_2 : Int) := of_decide_eq_true qA; have q101 : x5_2 < (l0.length : Int) := of_decide_eq_true qA; obtain ⟨ad101, e101, hx101_0⟩ := Kd.at_int HR0.out x5_2 p101 q101; cases e101
                replace p101 := eq_true p101; replace q101 := eq_true q101; go_wp2; go_ret2; exact ⟨by first | rfl | (simp; done) | (simp [*]; done), by repeat (first | exact Drawn0.refl _ | apply Drawn0.step)⟩
              rw [if_neg c7] at H; have c7b0 : decide ((rd l0 x5_2) < 0) = false := zGq c7; clear c7; have H' := zA H; clear H; have p101 : 0 ≤ (x5_2 : Int) := of_decide_eq_true qA; have q101 : x5_2 < (l0.length : Int) := of_decide_eq_true qA; obtain ⟨ad101, e101, hx101_0⟩ := Kd.at_int HR0.out x5_2 p101 q101; cases e101
              replace p101 := eq_true p101; replace q101 := eq_true q101; go_wp2; go_roundg k2
              case measure => have := HJ1.out; have := HK2.out; omega
              case rel => exact ⟨(wrap64 (x5_2 + 1)), (by first | rfl | (simp; done) | (simp [*]; done)), H', ⟨by have := HJ1.out; have := HK2.out; omega⟩, by repeat (first | exact Drawn0.refl _ | apply Drawn0.step)⟩
            rw [if_neg c6] at H; exact absurd H (by simp)
          rw [if_neg c5] at H; have c5b0 : decide (x5_2 < (l0.length : Int)) = false := zGq c5; clear c5; have H' := zA H; clear H; go_wp2; go_loopg [4, 6] k2 (fun kq v4 v6 w' => ∃ (x4_3 : Int) (x6_3 : Int), v4 = .int .i64 x4_3 ∧ v6 = .int .i64 x6_3 ∧ Aside0 (backhaulref03_Whole.l1 kq l0 x4_3 x6_3 = some (r1, r2)) ∧ Aside0 (kq ≤ k2) ∧ Drawn0 w w')
          case atStart => exact ⟨(0), (0), (by first | rfl | (simp; done) | (simp [*]; done)), (by first | rfl | (simp; done) | (simp [*]; done)), H', ⟨Nat.le_refl _⟩, by repeat (first | exact Drawn0.refl _ | apply Drawn0.step)⟩
          case round =>
            clear H'; try clear c1
            try clear p1
            try clear q1
            try clear hx1
            try clear p2
            try clear c3
            try clear c3b0
            try clear c3b1
            try clear c3b2
            try clear c4
            try clear c5
            try clear c5b0
            try clear c6
            try clear c6b0
            try clear p6
            try clear c7
            try clear c7b0
            try clear hx101_0
            try clear p101
            try clear p2
            try clear q101
            obtain ⟨x4_3, x6_3, rfl, rfl, HA, HK3, ⟨m3, rfl⟩⟩ := hrel; cases gk with
            | zero => exact absurd HA.out (by simp [backhaulref03_Whole.l1])
            | succ k3 =>
              have H := HA.out; clear HA; simp only [backhaulref03_Whole.l1] at H; by_cases c8 : x6_3 < (l0.length : Int)
              · rw [if_pos c8] at H
                have c8b0 : decide (x6_3 < (l0.length : Int)) = true := zFq c8; clear c8; by_cases c9 : 0 ≤ x6_3
                · rw [if_pos c9] at H
                  have c9b0 : decide (0 ≤ x6_3) = true := zFq c9; clear c9; by_cases c10 : (rd l0 x6_3) > 1000000000000
                  · rw [if_pos c10] at H
                    have c10b0 : decide (1000000000000 < (rd l0 x6_3)) = true := zFq c10; clear c10; simp only [zNq, zOq] at H; obtain ⟨rfl, rfl⟩ := H; have p102 : 0 ≤ (x6_3 : Int) := of_decide_eq_true qA; have q102 : x6_3 < (l0.length : Int) := of_decide_eq_true qA; obtain ⟨ad102, e102, hx102_0⟩ := Kd.at_int HR0.out x6_3 p102 q102; cases e102
                    replace p102 := eq_true p102; replace q102 := eq_true q102; go_wp2; go_ret2; exact ⟨by first | rfl | (simp; done) | (simp [*]; done), by repeat (first | exact Drawn0.refl _ | apply Drawn0.step)⟩
                  rw [if_neg c10] at H; have c10b0 : decide (1000000000000 < (rd l0 x6_3)) = false := zGq c10; clear c10; by_cases c11 : (rd l0 x6_3) > (wrap64 (1000000000000 - x4_3))
                  · rw [if_pos c11] at H
                    have c11b0 : decide ((wrap64 (1000000000000 - x4_3)) < (rd l0 x6_3)) = true := zFq c11; clear c11; simp only [zNq, zOq] at H; obtain ⟨rfl, rfl⟩ := H; have p102 : 0 ≤ (x6_3 : Int) := of_decide_eq_true qA; have q102 : x6_3 < (l0.length : Int) := of_decide_eq_true qA; obtain ⟨ad102, e102, hx102_0⟩ := Kd.at_int HR0.out x6_3 p102 q102; cases e102
                    replace p102 := eq_true p102; replace q102 := eq_true q102; have p103 : 0 ≤ (x6_3 : Int) := of_decide_eq_true qA; have q103 : x6_3 < (l0.length : Int) := of_decide_eq_true qA; obtain ⟨ad103, e103, hx103_0⟩ := Kd.at_int HR0.out x6_3 p103 q103; obtain rfl : ad102 = ad103 := (by injection e103)
                    replace p103 := eq_true p103; replace q103 := eq_true q103; go_wp2; go_ret2; exact ⟨by first | rfl | (simp; done) | (simp [*]; done), by repeat (first | exact Drawn0.refl _ | apply Drawn0.step)⟩
                  rw [if_neg c11] at H; have c11b0 : decide ((wrap64 (1000000000000 - x4_3)) < (rd l0 x6_3)) = false := zGq c11; clear c11; have H' := zA H; clear H; have p102 : 0 ≤ (x6_3 : Int) := of_decide_eq_true qA; have q102 : x6_3 < (l0.length : Int) := of_decide_eq_true qA; obtain ⟨ad102, e102, hx102_0⟩ := Kd.at_int HR0.out x6_3 p102 q102; cases e102
                  replace p102 := eq_true p102; replace q102 := eq_true q102; have p103 : 0 ≤ (x6_3 : Int) := of_decide_eq_true qA; have q103 : x6_3 < (l0.length : Int) := of_decide_eq_true qA; obtain ⟨ad103, e103, hx103_0⟩ := Kd.at_int HR0.out x6_3 p103 q103; obtain rfl : ad102 = ad103 := (by injection e103)
                  replace p103 := eq_true p103; replace q103 := eq_true q103; have p104 : 0 ≤ (x6_3 : Int) := of_decide_eq_true qA; have q104 : x6_3 < (l0.length : Int) := of_decide_eq_true qA; obtain ⟨ad104, e104, hx104_0⟩ := Kd.at_int HR0.out x6_3 p104 q104; obtain rfl : ad102 = ad104 := (by injection e104)
                  replace p104 := eq_true p104; replace q104 := eq_true q104; go_wp2; go_roundg k3
                  case measure => have := HJ1.out; have := HK2.out; have := HK3.out; omega
                  case rel => exact ⟨(wrap64 (x4_3 + (rd l0 x6_3))), (wrap64 (x6_3 + 1)), (by first | rfl | (simp; done) | (simp [*]; done)), (by first | rfl | (simp; done) | (simp [*]; done)), H', ⟨by have := HJ1.out; have := HK2.out; have := HK3.out; omega⟩, by repeat (first | exact Drawn0.refl _ | apply Drawn0.step)⟩
                rw [if_neg c9] at H; exact absurd H (by simp)
              rw [if_neg c8] at H; have c8b0 : decide (x6_3 < (l0.length : Int)) = false := zGq c8; clear c8; by_cases c12 : x4_3 = 0
              · rw [if_pos c12] at H
                have c12b0 : (x4_3 == 0) = true := beq_iff_eq.mpr c12; have c12b1 : (x4_3 != 0) = false := bne_eq_false_iff_eq.mpr c12; clear c12; simp only [zNq, zOq] at H; obtain ⟨rfl, rfl⟩ := H; go_wp2; go_ret2; exact ⟨by first | rfl | (simp; done) | (simp [*]; done), by repeat (first | exact Drawn0.refl _ | apply Drawn0.step)⟩
              rw [if_neg c12] at H; have c12b0 : (x4_3 == 0) = false := beq_eq_false_iff_ne.mpr c12; have c12b1 : (x4_3 != 0) = true := bne_iff_ne.mpr c12; simp only [zNq, zOq] at H; obtain ⟨rfl, rfl⟩ := H; go_wp2; go_ret2; exact ⟨by first | rfl | (simp; done) | (simp [*]; done), by repeat (first | exact Drawn0.refl _ | apply Drawn0.step)⟩
mutual
def backhaulref03_Out.j0 : Nat → Int → List Int → Int → Bool → Option (List Int × Int)
  | 0, _, _, _, _ => none
  | k + 1, x0, x1, x6, x32 => if x32 = true then (some (([] : List Int), 8)) else (backhaulref03_Out.l0 k x0 x1 x6 0 0)
def backhaulref03_Out.l0 : Nat → Int → List Int → Int → Int → Int → Option (List Int × Int)
  | 0, _, _, _, _, _ => none
  | k + 1, x0, x1, x6, x8, x9 => if x9 < (x1.length : Int) then (if 0 ≤ x9 then (backhaulref03_Out.l0 k x0 x1 x6 (wrap64 (x8 + (rd x1 x9))) (wrap64 (x9 + 1))) else (none)) else (backhaulref03_Out.l1 k x0 x1 x6 x8 ([] : List Int) ([] : List Int) x0 0)
def backhaulref03_Out.l1 : Nat → Int → List Int → Int → Int → List Int → List Int → Int → Int → Option (List Int × Int)
  | 0, _, _, _, _, _, _, _, _ => none
  | k + 1, x0, x1, x6, x8, x10, x11, x12, x13 => if x13 < (x1.length : Int) then (if 0 ≤ x13 then (if x8 = 0 then ((backhaulref02_Div.f k x0 1 x6).bind fun bt105 => (if x10.length < 17592186044416 then (if x11.length < 17592186044416 then (backhaulref03_Out.l1 k x0 x1 x6 x8 (x10 ++ [bt105.1]) (x11 ++ [bt105.2]) (wrap64 (x12 - bt105.1)) (wrap64 (x13 + 1))) else (none)) else (none))) else ((backhaulref02_Div.f k x0 (rd x1 x13) x6).bind fun bt113 => (if x10.length < 17592186044416 then (if x11.length < 17592186044416 then (backhaulref03_Out.l1 k x0 x1 x6 x8 (x10 ++ [bt113.1]) (x11 ++ [bt113.2]) (wrap64 (x12 - bt113.1)) (wrap64 (x13 + 1))) else (none)) else (none)))) else (none)) else (backhaulref03_Out.l2 k x1 x10 x11 x12)
def backhaulref03_Out.l2 : Nat → List Int → List Int → List Int → Int → Option (List Int × Int)
  | 0, _, _, _, _ => none
  | k + 1, x1, x10, x11, x12 => if x12 > 0 then (backhaulref03_Out.l3 k x1 x10 x11 x12 0 0) else (some (x10, 0))
def backhaulref03_Out.l3 : Nat → List Int → List Int → List Int → Int → Int → Int → Option (List Int × Int)
  | 0, _, _, _, _, _, _ => none
  | k + 1, x1, x10, x11, x12, x17, x18 => if x18 < (x1.length : Int) then (if 0 ≤ x18 then (if x18 < (x11.length : Int) then (if 0 ≤ x17 then (if x17 < (x11.length : Int) then (if (rd x11 x18) > (rd x11 x17) then (backhaulref03_Out.l3 k x1 x10 x11 x12 x18 (wrap64 (x18 + 1))) else (backhaulref03_Out.l3 k x1 x10 x11 x12 x17 (wrap64 (x18 + 1)))) else (none)) else (none)) else (none)) else (none)) else (if 0 ≤ x17 then (if x17 < (x10.length : Int) then (if x17 < (x11.length : Int) then (backhaulref03_Out.l2 k x1 (x10.set (x17 : Int).toNat (wrap64 ((rd x10 x17) + 1))) (x11.set (x17 : Int).toNat (-1)) (wrap64 (x12 - 1))) else (none)) else (none)) else (none))
end
def backhaulref03_Out.f (k : Nat) (a0 : Int) (l1 : List Int) : Option (List Int × Int) := (backhaulref03_Whole.f k l1).bind fun bt101 => (if bt101.2 = 0 then (if a0 < 0 then (backhaulref03_Out.j0 k a0 l1 bt101.1 true) else (backhaulref03_Out.j0 k a0 l1 bt101.1 (decide (a0 > 1000000000000)))) else (some (([] : List Int), bt101.2)))
theorem backhaulref03_Out.mono_l : ∀ k, (∀ y0 y1 y2 y3, LeO (backhaulref03_Out.j0 k y0 y1 y2 y3) (backhaulref03_Out.j0 (k + 1) y0 y1 y2 y3)) ∧ (∀ y0 y1 y2 y3 y4, LeO (backhaulref03_Out.l0 k y0 y1 y2 y3 y4) (backhaulref03_Out.l0 (k + 1) y0 y1 y2 y3 y4)) ∧ (∀ y0 y1 y2 y3 y4 y5 y6 y7, LeO (backhaulref03_Out.l1 k y0 y1 y2 y3 y4 y5 y6 y7) (backhaulref03_Out.l1 (k + 1) y0 y1 y2 y3 y4 y5 y6 y7)) ∧ (∀ y0 y1 y2 y3, LeO (backhaulref03_Out.l2 k y0 y1 y2 y3) (backhaulref03_Out.l2 (k + 1) y0 y1 y2 y3)) ∧ (∀ y0 y1 y2 y3 y4 y5, LeO (backhaulref03_Out.l3 k y0 y1 y2 y3 y4 y5) (backhaulref03_Out.l3 (k + 1) y0 y1 y2 y3 y4 y5))
  | 0 => ⟨fun _ _ _ _ r h => by simp [backhaulref03_Out.j0] at h, fun _ _ _ _ _ r h => by simp [backhaulref03_Out.l0] at h, fun _ _ _ _ _ _ _ _ r h => by simp [backhaulref03_Out.l1] at h, fun _ _ _ _ r h => by simp [backhaulref03_Out.l2] at h, fun _ _ _ _ _ _ r h => by simp [backhaulref03_Out.l3] at h⟩
  | k + 1 => by
    obtain ⟨ih0, ih1, ih2, ih3, ih4⟩ := backhaulref03_Out.mono_l k
    refine ⟨?_, ?_, ?_, ?_, ?_⟩
    · intro y0 y1 y2 y3
      unfold backhaulref03_Out.j0
      repeat' (with_reducible first | exact ih0 _ _ _ _ | exact ih1 _ _ _ _ _ | exact ih2 _ _ _ _ _ _ _ _ | exact ih3 _ _ _ _ | exact ih4 _ _ _ _ _ _ | exact backhaulref02_Div.mono _ _ _ _ | exact backhaulref03_Whole.mono _ _ | exact LeO.refl _ | exact LeO.none _ | refine LeO.ite ?_ ?_ | refine LeO.bind ?_ (fun _ => ?_))
    · intro y0 y1 y2 y3 y4
      unfold backhaulref03_Out.l0
      repeat' (with_reducible first | exact ih0 _ _ _ _ | exact ih1 _ _ _ _ _ | exact ih2 _ _ _ _ _ _ _ _ | exact ih3 _ _ _ _ | exact ih4 _ _ _ _ _ _ | exact backhaulref02_Div.mono _ _ _ _ | exact backhaulref03_Whole.mono _ _ | exact LeO.refl _ | exact LeO.none _ | refine LeO.ite ?_ ?_ | refine LeO.bind ?_ (fun _ => ?_))
    · intro y0 y1 y2 y3 y4 y5 y6 y7
      unfold backhaulref03_Out.l1
      repeat' (with_reducible first | exact ih0 _ _ _ _ | exact ih1 _ _ _ _ _ | exact ih2 _ _ _ _ _ _ _ _ | exact ih3 _ _ _ _ | exact ih4 _ _ _ _ _ _ | exact backhaulref02_Div.mono _ _ _ _ | exact backhaulref03_Whole.mono _ _ | exact LeO.refl _ | exact LeO.none _ | refine LeO.ite ?_ ?_ | refine LeO.bind ?_ (fun _ => ?_))
    · intro y0 y1 y2 y3
      unfold backhaulref03_Out.l2
      repeat' (with_reducible first | exact ih0 _ _ _ _ | exact ih1 _ _ _ _ _ | exact ih2 _ _ _ _ _ _ _ _ | exact ih3 _ _ _ _ | exact ih4 _ _ _ _ _ _ | exact backhaulref02_Div.mono _ _ _ _ | exact backhaulref03_Whole.mono _ _ | exact LeO.refl _ | exact LeO.none _ | refine LeO.ite ?_ ?_ | refine LeO.bind ?_ (fun _ => ?_))
    intro y0 y1 y2 y3 y4 y5
    unfold backhaulref03_Out.l3
    repeat' (with_reducible first | exact ih0 _ _ _ _ | exact ih1 _ _ _ _ _ | exact ih2 _ _ _ _ _ _ _ _ | exact ih3 _ _ _ _ | exact ih4 _ _ _ _ _ _ | exact backhaulref02_Div.mono _ _ _ _ | exact backhaulref03_Whole.mono _ _ | exact LeO.refl _ | exact LeO.none _ | refine LeO.ite ?_ ?_ | refine LeO.bind ?_ (fun _ => ?_))
theorem backhaulref03_Out.mono : ∀ a0 a1 k, LeO (backhaulref03_Out.f k a0 a1) (backhaulref03_Out.f (k + 1) a0 a1) := by
  intro a0 a1 k
  obtain ⟨ih0, ih1, ih2, ih3, ih4⟩ := backhaulref03_Out.mono_l k
  unfold backhaulref03_Out.f
  repeat' (with_reducible first | exact ih0 _ _ _ _ | exact ih1 _ _ _ _ _ | exact ih2 _ _ _ _ _ _ _ _ | exact ih3 _ _ _ _ | exact ih4 _ _ _ _ _ _ | exact backhaulref02_Div.mono _ _ _ _ | exact backhaulref03_Whole.mono _ _ | exact LeO.refl _ | exact LeO.none _ | refine LeO.ite ?_ ?_ | refine LeO.bind ?_ (fun _ => ?_))
set_option maxHeartbeats 8000000 in
set_option maxRecDepth 100000 in
theorem backhaulref03_Out.calls (k : Nat) (a0 : Int) (A1 : Option Addr) (c1 : Nat) (l1 : List Int) (r1 : List Int) (r2 : Int) (w : World) (hr1 : Kd.C (Kd.int .i64) w A1 l1.length l1) (hc1 : l1.length ≤ c1) (h : backhaulref03_Out.f k a0 l1 = some (r1, r2)) :
    Calls Try.prog 52 #[.int .i64 a0, .slice A1 l1.length c1] w fun e w' => ∃ v0_ : Value, e = .returned (.tuple #[v0_, .int .i64 r2]) ∧ Kd.R (Kd.int .i64) 3 w' w.heap.size (fun _ => True) v0_ r1 ∧ Below w.heap.size w w' := by
  have HR1 := zA hr1
  have HC1 := zA hc1
  clear hr1 hc1
  have HB := zA (Below.refl w.heap.size w)
  have H : ((backhaulref03_Whole.f k l1).bind fun bt101 => (if bt101.2 = 0 then (if a0 < 0 then (backhaulref03_Out.j0 k a0 l1 bt101.1 true) else (backhaulref03_Out.j0 k a0 l1 bt101.1 (decide (a0 > 1000000000000)))) else (some (([] : List Int), bt101.2)))) = some (r1, r2) := h
  clear h
  replace H := Option.bind_eq_some_iff.mp H
  obtain ⟨⟨t101, t102⟩, A30, H⟩ := H
  try dsimp only at H
  have A3 := zA A30
  clear A30
  by_cases c4 : t102 = 0
  · rw [if_pos c4] at H
    have c4b0 : (t102 == 0) = true := beq_iff_eq.mpr c4; have c4b1 : (t102 != 0) = false := bne_eq_false_iff_eq.mpr c4; clear c4; have HC5 := zA H; clear H; go_enter Try.func52, Try.ntmps52; go_upto_region 4 with (first | (go_at_call 58; (with_reducible refine (backhaulref03_Whole.calls k _ _ l1 t101 t102 _ ?side1 ?side2 A3.out).mono ?_); (case side1 => repeat (first | exact HR1.out | (with_reducible refine Kd.C_alloc ?_ _) | (with_reducible refine Kd.C_drewN ?_ _) | (with_reducible refine Kd.C_drew ?_))); (case side2 => exact HC1.out); rintro e w' ⟨rfl, ⟨nd, rfl⟩⟩; (try first | exact ⟨rfl, _, World.drewN_drewN _ _ _⟩ | exact ⟨rfl, _, Eq.trans (World.drewN_drewN _ _ _) (congrArg (World.drewN _) (Nat.add_assoc _ _ _))⟩)))
    repeat (go_quiet (first | (go_at_call 58; (with_reducible refine (backhaulref03_Whole.calls k _ _ l1 t101 t102 _ ?side1 ?side2 A3.out).mono ?_); (case side1 => repeat (first | exact HR1.out | (with_reducible refine Kd.C_alloc ?_ _) | (with_reducible refine Kd.C_drewN ?_ _) | (with_reducible refine Kd.C_drew ?_))); (case side2 => exact HC1.out); rintro e w' ⟨rfl, ⟨nd, rfl⟩⟩; (try first | exact ⟨rfl, _, World.drewN_drewN _ _ _⟩ | exact ⟨rfl, _, Eq.trans (World.drewN_drewN _ _ _) (congrArg (World.drewN _) (Nat.add_assoc _ _ _))⟩))); go_upto_region 4 with (first | (go_at_call 58; (with_reducible refine (backhaulref03_Whole.calls k _ _ l1 t101 t102 _ ?side1 ?side2 A3.out).mono ?_); (case side1 => repeat (first | exact HR1.out | (with_reducible refine Kd.C_alloc ?_ _) | (with_reducible refine Kd.C_drewN ?_ _) | (with_reducible refine Kd.C_drew ?_))); (case side2 => exact HC1.out); rintro e w' ⟨rfl, ⟨nd, rfl⟩⟩; (try first | exact ⟨rfl, _, World.drewN_drewN _ _ _⟩ | exact ⟨rfl, _, Eq.trans (World.drewN_drewN _ _ _) (congrArg (World.drewN _) (Nat.add_assoc _ _ _))⟩))))
    (try simp only [Act.put, zH, zI, zJ])
    go_cut [32] (fun v32 wc => ∃ (kq : Nat) (x32_4 : Bool), v32 = .bool x32_4 ∧ Aside0 (backhaulref03_Out.j0 kq a0 l1 t101 x32_4 = some (r1, r2)) ∧ Aside0 (kq ≤ k) ∧ Aside0 (Below w.heap.size w wc))
    case first =>
      have H := HC5.out; clear HC5; by_cases c6 : a0 < 0
      · rw [if_pos c6] at H
        have c6b0 : decide (a0 < 0) = true := zFq c6; clear c6; (first | rw [c6b0] | (simp only [i64_w, i32_w]; rw [c6b0]) | skip)
        have H' := zA H; clear H; go_wp2; repeat (go_quiet (fail); try go_wp2)
        go_meet
        case rel => exact ⟨_, (true), (by first | rfl | (simp; done) | (simp [*]; done)), H', ⟨by first | omega | exact Nat.le_refl _⟩, ⟨qB⟩⟩
      rw [if_neg c6] at H; have c6b0 : decide (a0 < 0) = false := zGq c6; clear c6; (first | rw [c6b0] | (simp only [i64_w, i32_w]; rw [c6b0]) | skip)
      have H' := zA H; clear H; go_wp2; repeat (go_quiet (fail); try go_wp2)
      go_meet
      case rel => exact ⟨_, (decide (a0 > 1000000000000)), (by first | rfl | (simp; done) | (simp [*]; done)), H', ⟨by first | omega | exact Nat.le_refl _⟩, ⟨qB⟩⟩
    case rest =>
      clear HC5; try clear c1
      try clear p2
      try clear c4
      try clear c4b0
      try clear c4b1
      try clear c5
      try clear c6
      try clear c6b0
      obtain ⟨kq, x32_4, rfl, HA, HJ4, HB⟩ := hcut; cases kq with
      | zero => exact absurd HA.out (by simp [backhaulref03_Out.j0])
      | succ kj4 =>
        have H := HA.out; clear HA; simp only [backhaulref03_Out.j0] at H; by_cases c7 : x32_4 = true
        · subst c7
          have H1 : (some (([] : List Int), 8)) = some (r1, r2) := by first | (rw [if_pos rfl] at H; exact H) | rfl
          clear H; have H := H1; clear H1; simp only [zNq, zOq] at H; obtain ⟨rfl, rfl⟩ := H; go_wp2; repeat (go_quiet (fail); try go_wp2)
          go_ret2; exact ⟨_, qE, qN, qB⟩
        replace c7 := Bool.eq_false_iff.mpr c7; subst c7; have H1 : (backhaulref03_Out.l0 kj4 a0 l1 t101 0 0) = some (r1, r2) := by first | (rw [if_neg (show ¬ (false = true) by decide)] at H; exact H) | rfl
        clear H; have H := H1; clear H1; have H' := zA H; clear H; go_wp2; repeat (go_quiet (fail); try go_wp2)
        go_loopg [8, 9] kj4 (fun kq v8 v9 w' => ∃ (x8_2 : Int) (x9_2 : Int), v8 = .int .i64 x8_2 ∧ v9 = .int .i64 x9_2 ∧ Aside0 (backhaulref03_Out.l0 kq a0 l1 t101 x8_2 x9_2 = some (r1, r2)) ∧ Aside0 (kq ≤ kj4) ∧ Aside0 (Below w.heap.size w w'))
        case atStart => exact ⟨(0), (0), (by first | rfl | (simp; done) | (simp [*]; done)), (by first | rfl | (simp; done) | (simp [*]; done)), H', ⟨Nat.le_refl _⟩, ⟨qB⟩⟩
        case round =>
          clear H'; try clear c1
          try clear p2
          try clear c4
          try clear c4b0
          try clear c4b1
          try clear c5
          try clear c6
          try clear c6b0
          try clear c7
          try clear p2
          obtain ⟨x8_2, x9_2, rfl, rfl, HA, HK2, HB⟩ := hrel; cases gk with
          | zero => exact absurd HA.out (by simp [backhaulref03_Out.l0])
          | succ k2 =>
            have H := HA.out; clear HA; simp only [backhaulref03_Out.l0] at H; by_cases c8 : x9_2 < (l1.length : Int)
            · rw [if_pos c8] at H
              have c8b0 : decide (x9_2 < (l1.length : Int)) = true := zFq c8; clear c8; by_cases c9 : 0 ≤ x9_2
              · rw [if_pos c9] at H
                have c9b0 : decide (0 ≤ x9_2) = true := zFq c9; clear c9; have H' := zA H; clear H; have p103 : 0 ≤ (x9_2 : Int) := of_decide_eq_true qA; have q103 : x9_2 < (l1.length : Int) := of_decide_eq_true qA; obtain ⟨ad103, e103, hx103_0⟩ := Kd.at_int HR1.out x9_2 p103 q103; cases e103
                replace hx103_0 := (HB.out.cell (zCq w _ hx103_0)).trans hx103_0; replace p103 := eq_true p103; replace q103 := eq_true q103; go_wp2; repeat (go_quiet (fail); try go_wp2)
                go_roundg k2
                case measure => have := HJ4.out; have := HK2.out; omega
                case rel => exact ⟨(wrap64 (x8_2 + (rd l1 x9_2))), (wrap64 (x9_2 + 1)), (by first | rfl | (simp; done) | (simp [*]; done)), (by first | rfl | (simp; done) | (simp [*]; done)), H', ⟨by have := HJ4.out; have := HK2.out; omega⟩, ⟨qB⟩⟩
              rw [if_neg c9] at H; exact absurd H (by simp)
            rw [if_neg c8] at H; have c8b0 : decide (x9_2 < (l1.length : Int)) = false := zGq c8; clear c8; have H' := zA H; clear H; go_wp2; repeat (go_quiet (fail); try go_wp2)
            go_loopg [10, 11, 12, 13] k2 (fun kq v10 v11 v12 v13 w' => ∃ (x10_3 : List Int) (x11_3 : List Int) (x12_3 : Int) (x13_3 : Int), v12 = .int .i64 x12_3 ∧ v13 = .int .i64 x13_3 ∧ Aside0 (backhaulref03_Out.l1 kq a0 l1 t101 x8_2 x10_3 x11_3 x12_3 x13_3 = some (r1, r2)) ∧ Aside0 (kq ≤ k2) ∧ Aside0 (Kd.R (Kd.int .i64) 3 w' w.heap.size (fun k_ => some k_ ≠ (v11 : Value).ownBlock) v10 x10_3) ∧ Aside0 (Kd.R (Kd.int .i64) 3 w' w.heap.size (fun k_ => some k_ ≠ (v10 : Value).ownBlock) v11 x11_3) ∧ Aside0 (Below w.heap.size w w'))
            case atStart => exact ⟨(([] : List Int)), (([] : List Int)), (a0), (0), (by first | rfl | (simp; done) | (simp [*]; done)), (by first | rfl | (simp; done) | (simp [*]; done)), H', ⟨Nat.le_refl _⟩, ⟨qN⟩, ⟨qN⟩, ⟨qB⟩⟩
            case round =>
              clear H'; try clear c1
              try clear p1
              try clear q1
              try clear hx1
              try clear p2
              try clear c4
              try clear c4b0
              try clear c4b1
              try clear c5
              try clear c6
              try clear c6b0
              try clear p6
              try clear c7
              try clear c8
              try clear c8b0
              try clear c9
              try clear c9b0
              try clear hx103_0
              try clear p103
              try clear p2
              try clear q103
              obtain ⟨x10_3, x11_3, x12_3, x13_3, rfl, rfl, HA, HK3, HO_10, HO_11, HB⟩ := hrel; cases gk with
              | zero => exact absurd HA.out (by simp [backhaulref03_Out.l1])
              | succ k3 =>
                have H := HA.out; clear HA; simp only [backhaulref03_Out.l1] at H; by_cases c10 : x13_3 < (l1.length : Int)
                · rw [if_pos c10] at H
                  have c10b0 : decide (x13_3 < (l1.length : Int)) = true := zFq c10; clear c10; by_cases c11 : 0 ≤ x13_3
                  · rw [if_pos c11] at H
                    have c11b0 : decide (0 ≤ x13_3) = true := zFq c11; clear c11; by_cases c12 : x8_2 = 0
                    · rw [if_pos c12] at H
                      have c12b0 : (x8_2 == 0) = true := beq_iff_eq.mpr c12; have c12b1 : (x8_2 != 0) = false := bne_eq_false_iff_eq.mpr c12; clear c12; replace H := Option.bind_eq_some_iff.mp H; obtain ⟨⟨t105, t106⟩, A130, H⟩ := H; try dsimp only at H
                      have A13 := zA A130; clear A130; by_cases c14 : x10_3.length < 17592186044416
                      · rw [if_pos c14] at H
                        have LMc14 := zA c14; clear c14; obtain ⟨y107, hy107⟩ : ∃ y_ : List Int, y_ = (x10_3 ++ [t105]) := ⟨_, rfl⟩
                        replace H : (if x11_3.length < 17592186044416 then (backhaulref03_Out.l1 k3 a0 l1 t101 x8_2 y107 (x11_3 ++ [t106]) (wrap64 (x12_3 - t105)) (wrap64 (x13_3 + 1))) else (none)) = some (r1, r2) := by first | (rw [hy107]; with_reducible exact H) | (have H2_ := (Option.bind_some _ _).symm.trans H; rw [hy107]; with_reducible exact H2_) | (have H2_ := (Option.bind_some _ _).symm.trans H; with_reducible exact H2_) | with_reducible exact H | (rw [hy107]; exact H) | exact H
                        have Ny107 := zA hy107; clear hy107; by_cases c15 : x11_3.length < 17592186044416
                        · rw [if_pos c15] at H
                          have LMc15 := zA c15; clear c15; obtain ⟨y110, hy110⟩ : ∃ y_ : List Int, y_ = (x11_3 ++ [t106]) := ⟨_, rfl⟩
                          replace H : (backhaulref03_Out.l1 k3 a0 l1 t101 x8_2 y107 y110 (wrap64 (x12_3 - t105)) (wrap64 (x13_3 + 1))) = some (r1, r2) := by first | (rw [hy110]; with_reducible exact H) | (have H2_ := (Option.bind_some _ _).symm.trans H; rw [hy110]; with_reducible exact H2_) | (have H2_ := (Option.bind_some _ _).symm.trans H; with_reducible exact H2_) | with_reducible exact H | (rw [hy110]; exact H) | exact H
                          have Ny110 := zA hy110; clear hy110; have H' := zA H; clear H; have p104 : 0 ≤ (x13_3 : Int) := of_decide_eq_true qA; have q104 : x13_3 < (l1.length : Int) := of_decide_eq_true qA; obtain ⟨ad104, e104, hx104_0⟩ := Kd.at_int HR1.out x13_3 p104 q104; cases e104
                          replace hx104_0 := (HB.out.cell (zCq w _ hx104_0)).trans hx104_0; replace p104 := eq_true p104; replace q104 := eq_true q104; go_wp2_with (first | (go_at_call 102; (with_reducible refine (backhaulref02_Div.calls k3 a0 1 t101 t105 t106 _ A13.out).mono ?_); rintro e w' ⟨rfl, ⟨nd, rfl⟩⟩; (try first | exact ⟨rfl, _, World.drewN_drewN _ _ _⟩ | exact ⟨rfl, _, Eq.trans (World.drewN_drewN _ _ _) (congrArg (World.drewN _) (Nat.add_assoc _ _ _))⟩)) | ((with_reducible refine gate_builtin (b := .append) (xs := #[.tmp 65, .tmp 67]) rfl ?_); at_builtin; refine Kd.R_append (Kd.int .i64) (w0 := w) w.heap.size rfl (.tmp 65) (.tmp 67) 22 3 (.int .i64 0) 8 rfl Try.underlying22 info3 rfl (by decide) (by omega) u10 x10_3 t105 [.int .i64 t105] (fun k_ => some k_ ≠ (u11 : Value).ownBlock) (fun _ => False) rfl rfl ?aP (fun _ hk => hk.elim) ?aF ?aO ?aB ?aS ?aL ?_; (case aP => exact rfl); (case aB => exact qB); (case aF => exact (fun k_ hk => Kd.fresh' (Kd.R_lt (by (with_reducible repeat (first | apply Kd.R_alloc | apply Kd.R_drewN | apply Kd.R_drew)); exact HO_11.out)) k_ hk)); (case aO => exact (by (with_reducible repeat (first | apply Kd.R_alloc | apply Kd.R_drewN | apply Kd.R_drew)); exact HO_10.out)); (case aS => exact (zW qB)); (case aL => have := LMc14.out; omega); intro v108 w16 ho hb hg hat; rw [← Ny107.out] at ho; have n0_ := zA (Kd.R_after (ok := (fun _ => True)) (by (with_reducible repeat (first | apply Kd.R_alloc | apply Kd.R_drewN | apply Kd.R_drew)); exact Kd.R_mono HO_11.out (fun _ hk => ⟨trivial, hk⟩)) hg hat); have n1_ := zA (hb); have n2_ := zA (ho); clear HO_11 HB HO_10; have HO_11 := n0_; have HB := n1_; have HO109 := n2_; clear n0_ n1_ n2_ ho hb hg hat) | ((with_reducible refine gate_builtin (b := .append) (xs := #[.tmp 69, .tmp 71]) rfl ?_); at_builtin; refine Kd.R_append (Kd.int .i64) (w0 := w) w.heap.size rfl (.tmp 69) (.tmp 71) 22 3 (.int .i64 0) 8 rfl Try.underlying22 info3 rfl (by decide) (by omega) u11 x11_3 t106 [.int .i64 t106] (fun k_ => some k_ ≠ (v108 : Value).ownBlock) (fun _ => False) rfl rfl ?aP (fun _ hk => hk.elim) ?aF ?aO ?aB ?aS ?aL ?_; (case aP => exact rfl); (case aB => exact qB); (case aF => exact (fun k_ hk => Kd.fresh' (Kd.R_lt (by (with_reducible repeat (first | apply Kd.R_alloc | apply Kd.R_drewN | apply Kd.R_drew)); exact HO109.out)) k_ hk)); (case aO => exact (by (with_reducible repeat (first | apply Kd.R_alloc | apply Kd.R_drewN | apply Kd.R_drew)); exact Kd.R_mono HO_11.out (fun _ hk => hk.2))); (case aS => exact (zW qB)); (case aL => have := LMc15.out; omega); intro v111 w17 ho hb hg hat; rw [← Ny110.out] at ho; have n0_ := zA (Kd.R_after (ok := (fun _ => True)) (by (with_reducible repeat (first | apply Kd.R_alloc | apply Kd.R_drewN | apply Kd.R_drew)); exact Kd.R_mono HO109.out (fun _ hk => ⟨trivial, hk⟩)) hg hat); have n1_ := zA (hb); have n2_ := zA (ho); clear HO109 HB HO_11; have HO109 := n0_; have HB := n1_; have HO112 := n2_; clear n0_ n1_ n2_ ho hb hg hat))
                          repeat (go_quiet (first | (go_at_call 102; (with_reducible refine (backhaulref02_Div.calls k3 a0 1 t101 t105 t106 _ A13.out).mono ?_); rintro e w' ⟨rfl, ⟨nd, rfl⟩⟩; (try first | exact ⟨rfl, _, World.drewN_drewN _ _ _⟩ | exact ⟨rfl, _, Eq.trans (World.drewN_drewN _ _ _) (congrArg (World.drewN _) (Nat.add_assoc _ _ _))⟩)) | ((with_reducible refine gate_builtin (b := .append) (xs := #[.tmp 65, .tmp 67]) rfl ?_); at_builtin; refine Kd.R_append (Kd.int .i64) (w0 := w) w.heap.size rfl (.tmp 65) (.tmp 67) 22 3 (.int .i64 0) 8 rfl Try.underlying22 info3 rfl (by decide) (by omega) u10 x10_3 t105 [.int .i64 t105] (fun k_ => some k_ ≠ (u11 : Value).ownBlock) (fun _ => False) rfl rfl ?aP (fun _ hk => hk.elim) ?aF ?aO ?aB ?aS ?aL ?_; (case aP => exact rfl); (case aB => exact qB); (case aF => exact (fun k_ hk => Kd.fresh' (Kd.R_lt (by (with_reducible repeat (first | apply Kd.R_alloc | apply Kd.R_drewN | apply Kd.R_drew)); exact HO_11.out)) k_ hk)); (case aO => exact (by (with_reducible repeat (first | apply Kd.R_alloc | apply Kd.R_drewN | apply Kd.R_drew)); exact HO_10.out)); (case aS => exact (zW qB)); (case aL => have := LMc14.out; omega); intro v108 w16 ho hb hg hat; rw [← Ny107.out] at ho; have n0_ := zA (Kd.R_after (ok := (fun _ => True)) (by (with_reducible repeat (first | apply Kd.R_alloc | apply Kd.R_drewN | apply Kd.R_drew)); exact Kd.R_mono HO_11.out (fun _ hk => ⟨trivial, hk⟩)) hg hat); have n1_ := zA (hb); have n2_ := zA (ho); clear HO_11 HB HO_10; have HO_11 := n0_; have HB := n1_; have HO109 := n2_; clear n0_ n1_ n2_ ho hb hg hat) | ((with_reducible refine gate_builtin (b := .append) (xs := #[.tmp 69, .tmp 71]) rfl ?_); at_builtin; refine Kd.R_append (Kd.int .i64) (w0 := w) w.heap.size rfl (.tmp 69) (.tmp 71) 22 3 (.int .i64 0) 8 rfl Try.underlying22 info3 rfl (by decide) (by omega) u11 x11_3 t106 [.int .i64 t106] (fun k_ => some k_ ≠ (v108 : Value).ownBlock) (fun _ => False) rfl rfl ?aP (fun _ hk => hk.elim) ?aF ?aO ?aB ?aS ?aL ?_; (case aP => exact rfl); (case aB => exact qB); (case aF => exact (fun k_ hk => Kd.fresh' (Kd.R_lt (by (with_reducible repeat (first | apply Kd.R_alloc | apply Kd.R_drewN | apply Kd.R_drew)); exact HO109.out)) k_ hk)); (case aO => exact (by (with_reducible repeat (first | apply Kd.R_alloc | apply Kd.R_drewN | apply Kd.R_drew)); exact Kd.R_mono HO_11.out (fun _ hk => hk.2))); (case aS => exact (zW qB)); (case aL => have := LMc15.out; omega); intro v111 w17 ho hb hg hat; rw [← Ny110.out] at ho; have n0_ := zA (Kd.R_after (ok := (fun _ => True)) (by (with_reducible repeat (first | apply Kd.R_alloc | apply Kd.R_drewN | apply Kd.R_drew)); exact Kd.R_mono HO109.out (fun _ hk => ⟨trivial, hk⟩)) hg hat); have n1_ := zA (hb); have n2_ := zA (ho); clear HO109 HB HO_11; have HO109 := n0_; have HB := n1_; have HO112 := n2_; clear n0_ n1_ n2_ ho hb hg hat)); try go_wp2_with (first | (go_at_call 102; (with_reducible refine (backhaulref02_Div.calls k3 a0 1 t101 t105 t106 _ A13.out).mono ?_); rintro e w' ⟨rfl, ⟨nd, rfl⟩⟩; (try first | exact ⟨rfl, _, World.drewN_drewN _ _ _⟩ | exact ⟨rfl, _, Eq.trans (World.drewN_drewN _ _ _) (congrArg (World.drewN _) (Nat.add_assoc _ _ _))⟩)) | ((with_reducible refine gate_builtin (b := .append) (xs := #[.tmp 65, .tmp 67]) rfl ?_); at_builtin; refine Kd.R_append (Kd.int .i64) (w0 := w) w.heap.size rfl (.tmp 65) (.tmp 67) 22 3 (.int .i64 0) 8 rfl Try.underlying22 info3 rfl (by decide) (by omega) u10 x10_3 t105 [.int .i64 t105] (fun k_ => some k_ ≠ (u11 : Value).ownBlock) (fun _ => False) rfl rfl ?aP (fun _ hk => hk.elim) ?aF ?aO ?aB ?aS ?aL ?_; (case aP => exact rfl); (case aB => exact qB); (case aF => exact (fun k_ hk => Kd.fresh' (Kd.R_lt (by (with_reducible repeat (first | apply Kd.R_alloc | apply Kd.R_drewN | apply Kd.R_drew)); exact HO_11.out)) k_ hk)); (case aO => exact (by (with_reducible repeat (first | apply Kd.R_alloc | apply Kd.R_drewN | apply Kd.R_drew)); exact HO_10.out)); (case aS => exact (zW qB)); (case aL => have := LMc14.out; omega); intro v108 w16 ho hb hg hat; rw [← Ny107.out] at ho; have n0_ := zA (Kd.R_after (ok := (fun _ => True)) (by (with_reducible repeat (first | apply Kd.R_alloc | apply Kd.R_drewN | apply Kd.R_drew)); exact Kd.R_mono HO_11.out (fun _ hk => ⟨trivial, hk⟩)) hg hat); have n1_ := zA (hb); have n2_ := zA (ho); clear HO_11 HB HO_10; have HO_11 := n0_; have HB := n1_; have HO109 := n2_; clear n0_ n1_ n2_ ho hb hg hat) | ((with_reducible refine gate_builtin (b := .append) (xs := #[.tmp 69, .tmp 71]) rfl ?_); at_builtin; refine Kd.R_append (Kd.int .i64) (w0 := w) w.heap.size rfl (.tmp 69) (.tmp 71) 22 3 (.int .i64 0) 8 rfl Try.underlying22 info3 rfl (by decide) (by omega) u11 x11_3 t106 [.int .i64 t106] (fun k_ => some k_ ≠ (v108 : Value).ownBlock) (fun _ => False) rfl rfl ?aP (fun _ hk => hk.elim) ?aF ?aO ?aB ?aS ?aL ?_; (case aP => exact rfl); (case aB => exact qB); (case aF => exact (fun k_ hk => Kd.fresh' (Kd.R_lt (by (with_reducible repeat (first | apply Kd.R_alloc | apply Kd.R_drewN | apply Kd.R_drew)); exact HO109.out)) k_ hk)); (case aO => exact (by (with_reducible repeat (first | apply Kd.R_alloc | apply Kd.R_drewN | apply Kd.R_drew)); exact Kd.R_mono HO_11.out (fun _ hk => hk.2))); (case aS => exact (zW qB)); (case aL => have := LMc15.out; omega); intro v111 w17 ho hb hg hat; rw [← Ny110.out] at ho; have n0_ := zA (Kd.R_after (ok := (fun _ => True)) (by (with_reducible repeat (first | apply Kd.R_alloc | apply Kd.R_drewN | apply Kd.R_drew)); exact Kd.R_mono HO109.out (fun _ hk => ⟨trivial, hk⟩)) hg hat); have n1_ := zA (hb); have n2_ := zA (ho); clear HO109 HB HO_11; have HO109 := n0_; have HB := n1_; have HO112 := n2_; clear n0_ n1_ n2_ ho hb hg hat)))
                          go_roundg k3
                          case measure => have := HJ4.out; have := HK2.out; have := HK3.out; omega
                          case rel => exact ⟨(y107), (y110), (wrap64 (x12_3 - t105)), (wrap64 (x13_3 + 1)), (by first | rfl | (simp; done) | (simp [*]; done)), (by first | rfl | (simp; done) | (simp [*]; done)), H', ⟨by have := HJ4.out; have := HK2.out; have := HK3.out; omega⟩, ⟨by (with_reducible repeat (first | apply Kd.R_alloc | apply Kd.R_drewN | apply Kd.R_drew)); exact Kd.R_mono HO109.out (fun _ hk => hk.2)⟩, ⟨by (with_reducible repeat (first | apply Kd.R_alloc | apply Kd.R_drewN | apply Kd.R_drew)); exact HO112.out⟩, ⟨qB⟩⟩
                        rw [if_neg c15] at H; exact absurd H (by simp)
                      rw [if_neg c14] at H; exact absurd H (by simp)
                    rw [if_neg c12] at H; have c12b0 : (x8_2 == 0) = false := beq_eq_false_iff_ne.mpr c12; have c12b1 : (x8_2 != 0) = true := bne_iff_ne.mpr c12; replace H := Option.bind_eq_some_iff.mp H; obtain ⟨⟨t113, t114⟩, A180, H⟩ := H; try dsimp only at H
                    have A18 := zA A180; clear A180; by_cases c19 : x10_3.length < 17592186044416
                    · rw [if_pos c19] at H
                      have LMc19 := zA c19; clear c19; obtain ⟨y115, hy115⟩ : ∃ y_ : List Int, y_ = (x10_3 ++ [t113]) := ⟨_, rfl⟩
                      replace H : (if x11_3.length < 17592186044416 then (backhaulref03_Out.l1 k3 a0 l1 t101 x8_2 y115 (x11_3 ++ [t114]) (wrap64 (x12_3 - t113)) (wrap64 (x13_3 + 1))) else (none)) = some (r1, r2) := by first | (rw [hy115]; with_reducible exact H) | (have H2_ := (Option.bind_some _ _).symm.trans H; rw [hy115]; with_reducible exact H2_) | (have H2_ := (Option.bind_some _ _).symm.trans H; with_reducible exact H2_) | with_reducible exact H | (rw [hy115]; exact H) | exact H
                      have Ny115 := zA hy115; clear hy115; by_cases c20 : x11_3.length < 17592186044416
                      · rw [if_pos c20] at H
                        have LMc20 := zA c20; clear c20; obtain ⟨y118, hy118⟩ : ∃ y_ : List Int, y_ = (x11_3 ++ [t114]) := ⟨_, rfl⟩
                        replace H : (backhaulref03_Out.l1 k3 a0 l1 t101 x8_2 y115 y118 (wrap64 (x12_3 - t113)) (wrap64 (x13_3 + 1))) = some (r1, r2) := by first | (rw [hy118]; with_reducible exact H) | (have H2_ := (Option.bind_some _ _).symm.trans H; rw [hy118]; with_reducible exact H2_) | (have H2_ := (Option.bind_some _ _).symm.trans H; with_reducible exact H2_) | with_reducible exact H | (rw [hy118]; exact H) | exact H
                        have Ny118 := zA hy118; clear hy118; have H' := zA H; clear H; have p104 : 0 ≤ (x13_3 : Int) := of_decide_eq_true qA; have q104 : x13_3 < (l1.length : Int) := of_decide_eq_true qA; obtain ⟨ad104, e104, hx104_0⟩ := Kd.at_int HR1.out x13_3 p104 q104; cases e104
                        replace hx104_0 := (HB.out.cell (zCq w _ hx104_0)).trans hx104_0; replace p104 := eq_true p104; replace q104 := eq_true q104; go_wp2_with (first | (go_at_call 102; (with_reducible refine (backhaulref02_Div.calls k3 a0 (rd l1 x13_3) t101 t113 t114 _ A18.out).mono ?_); rintro e w' ⟨rfl, ⟨nd, rfl⟩⟩; (try first | exact ⟨rfl, _, World.drewN_drewN _ _ _⟩ | exact ⟨rfl, _, Eq.trans (World.drewN_drewN _ _ _) (congrArg (World.drewN _) (Nat.add_assoc _ _ _))⟩)) | ((with_reducible refine gate_builtin (b := .append) (xs := #[.tmp 65, .tmp 67]) rfl ?_); at_builtin; refine Kd.R_append (Kd.int .i64) (w0 := w) w.heap.size rfl (.tmp 65) (.tmp 67) 22 3 (.int .i64 0) 8 rfl Try.underlying22 info3 rfl (by decide) (by omega) u10 x10_3 t113 [.int .i64 t113] (fun k_ => some k_ ≠ (u11 : Value).ownBlock) (fun _ => False) rfl rfl ?aP (fun _ hk => hk.elim) ?aF ?aO ?aB ?aS ?aL ?_; (case aP => exact rfl); (case aB => exact qB); (case aF => exact (fun k_ hk => Kd.fresh' (Kd.R_lt (by (with_reducible repeat (first | apply Kd.R_alloc | apply Kd.R_drewN | apply Kd.R_drew)); exact HO_11.out)) k_ hk)); (case aO => exact (by (with_reducible repeat (first | apply Kd.R_alloc | apply Kd.R_drewN | apply Kd.R_drew)); exact HO_10.out)); (case aS => exact (zW qB)); (case aL => have := LMc19.out; omega); intro v116 w21 ho hb hg hat; rw [← Ny115.out] at ho; have n0_ := zA (Kd.R_after (ok := (fun _ => True)) (by (with_reducible repeat (first | apply Kd.R_alloc | apply Kd.R_drewN | apply Kd.R_drew)); exact Kd.R_mono HO_11.out (fun _ hk => ⟨trivial, hk⟩)) hg hat); have n1_ := zA (hb); have n2_ := zA (ho); clear HO_11 HB HO_10; have HO_11 := n0_; have HB := n1_; have HO117 := n2_; clear n0_ n1_ n2_ ho hb hg hat) | ((with_reducible refine gate_builtin (b := .append) (xs := #[.tmp 69, .tmp 71]) rfl ?_); at_builtin; refine Kd.R_append (Kd.int .i64) (w0 := w) w.heap.size rfl (.tmp 69) (.tmp 71) 22 3 (.int .i64 0) 8 rfl Try.underlying22 info3 rfl (by decide) (by omega) u11 x11_3 t114 [.int .i64 t114] (fun k_ => some k_ ≠ (v116 : Value).ownBlock) (fun _ => False) rfl rfl ?aP (fun _ hk => hk.elim) ?aF ?aO ?aB ?aS ?aL ?_; (case aP => exact rfl); (case aB => exact qB); (case aF => exact (fun k_ hk => Kd.fresh' (Kd.R_lt (by (with_reducible repeat (first | apply Kd.R_alloc | apply Kd.R_drewN | apply Kd.R_drew)); exact HO117.out)) k_ hk)); (case aO => exact (by (with_reducible repeat (first | apply Kd.R_alloc | apply Kd.R_drewN | apply Kd.R_drew)); exact Kd.R_mono HO_11.out (fun _ hk => hk.2))); (case aS => exact (zW qB)); (case aL => have := LMc20.out; omega); intro v119 w22 ho hb hg hat; rw [← Ny118.out] at ho; have n0_ := zA (Kd.R_after (ok := (fun _ => True)) (by (with_reducible repeat (first | apply Kd.R_alloc | apply Kd.R_drewN | apply Kd.R_drew)); exact Kd.R_mono HO117.out (fun _ hk => ⟨trivial, hk⟩)) hg hat); have n1_ := zA (hb); have n2_ := zA (ho); clear HO117 HB HO_11; have HO117 := n0_; have HB := n1_; have HO120 := n2_; clear n0_ n1_ n2_ ho hb hg hat))
                        repeat (go_quiet (first | (go_at_call 102; (with_reducible refine (backhaulref02_Div.calls k3 a0 (rd l1 x13_3) t101 t113 t114 _ A18.out).mono ?_); rintro e w' ⟨rfl, ⟨nd, rfl⟩⟩; (try first | exact ⟨rfl, _, World.drewN_drewN _ _ _⟩ | exact ⟨rfl, _, Eq.trans (World.drewN_drewN _ _ _) (congrArg (World.drewN _) (Nat.add_assoc _ _ _))⟩)) | ((with_reducible refine gate_builtin (b := .append) (xs := #[.tmp 65, .tmp 67]) rfl ?_); at_builtin; refine Kd.R_append (Kd.int .i64) (w0 := w) w.heap.size rfl (.tmp 65) (.tmp 67) 22 3 (.int .i64 0) 8 rfl Try.underlying22 info3 rfl (by decide) (by omega) u10 x10_3 t113 [.int .i64 t113] (fun k_ => some k_ ≠ (u11 : Value).ownBlock) (fun _ => False) rfl rfl ?aP (fun _ hk => hk.elim) ?aF ?aO ?aB ?aS ?aL ?_; (case aP => exact rfl); (case aB => exact qB); (case aF => exact (fun k_ hk => Kd.fresh' (Kd.R_lt (by (with_reducible repeat (first | apply Kd.R_alloc | apply Kd.R_drewN | apply Kd.R_drew)); exact HO_11.out)) k_ hk)); (case aO => exact (by (with_reducible repeat (first | apply Kd.R_alloc | apply Kd.R_drewN | apply Kd.R_drew)); exact HO_10.out)); (case aS => exact (zW qB)); (case aL => have := LMc19.out; omega); intro v116 w21 ho hb hg hat; rw [← Ny115.out] at ho; have n0_ := zA (Kd.R_after (ok := (fun _ => True)) (by (with_reducible repeat (first | apply Kd.R_alloc | apply Kd.R_drewN | apply Kd.R_drew)); exact Kd.R_mono HO_11.out (fun _ hk => ⟨trivial, hk⟩)) hg hat); have n1_ := zA (hb); have n2_ := zA (ho); clear HO_11 HB HO_10; have HO_11 := n0_; have HB := n1_; have HO117 := n2_; clear n0_ n1_ n2_ ho hb hg hat) | ((with_reducible refine gate_builtin (b := .append) (xs := #[.tmp 69, .tmp 71]) rfl ?_); at_builtin; refine Kd.R_append (Kd.int .i64) (w0 := w) w.heap.size rfl (.tmp 69) (.tmp 71) 22 3 (.int .i64 0) 8 rfl Try.underlying22 info3 rfl (by decide) (by omega) u11 x11_3 t114 [.int .i64 t114] (fun k_ => some k_ ≠ (v116 : Value).ownBlock) (fun _ => False) rfl rfl ?aP (fun _ hk => hk.elim) ?aF ?aO ?aB ?aS ?aL ?_; (case aP => exact rfl); (case aB => exact qB); (case aF => exact (fun k_ hk => Kd.fresh' (Kd.R_lt (by (with_reducible repeat (first | apply Kd.R_alloc | apply Kd.R_drewN | apply Kd.R_drew)); exact HO117.out)) k_ hk)); (case aO => exact (by (with_reducible repeat (first | apply Kd.R_alloc | apply Kd.R_drewN | apply Kd.R_drew)); exact Kd.R_mono HO_11.out (fun _ hk => hk.2))); (case aS => exact (zW qB)); (case aL => have := LMc20.out; omega); intro v119 w22 ho hb hg hat; rw [← Ny118.out] at ho; have n0_ := zA (Kd.R_after (ok := (fun _ => True)) (by (with_reducible repeat (first | apply Kd.R_alloc | apply Kd.R_drewN | apply Kd.R_drew)); exact Kd.R_mono HO117.out (fun _ hk => ⟨trivial, hk⟩)) hg hat); have n1_ := zA (hb); have n2_ := zA (ho); clear HO117 HB HO_11; have HO117 := n0_; have HB := n1_; have HO120 := n2_; clear n0_ n1_ n2_ ho hb hg hat)); try go_wp2_with (first | (go_at_call 102; (with_reducible refine (backhaulref02_Div.calls k3 a0 (rd l1 x13_3) t101 t113 t114 _ A18.out).mono ?_); rintro e w' ⟨rfl, ⟨nd, rfl⟩⟩; (try first | exact ⟨rfl, _, World.drewN_drewN _ _ _⟩ | exact ⟨rfl, _, Eq.trans (World.drewN_drewN _ _ _) (congrArg (World.drewN _) (Nat.add_assoc _ _ _))⟩)) | ((with_reducible refine gate_builtin (b := .append) (xs := #[.tmp 65, .tmp 67]) rfl ?_); at_builtin; refine Kd.R_append (Kd.int .i64) (w0 := w) w.heap.size rfl (.tmp 65) (.tmp 67) 22 3 (.int .i64 0) 8 rfl Try.underlying22 info3 rfl (by decide) (by omega) u10 x10_3 t113 [.int .i64 t113] (fun k_ => some k_ ≠ (u11 : Value).ownBlock) (fun _ => False) rfl rfl ?aP (fun _ hk => hk.elim) ?aF ?aO ?aB ?aS ?aL ?_; (case aP => exact rfl); (case aB => exact qB); (case aF => exact (fun k_ hk => Kd.fresh' (Kd.R_lt (by (with_reducible repeat (first | apply Kd.R_alloc | apply Kd.R_drewN | apply Kd.R_drew)); exact HO_11.out)) k_ hk)); (case aO => exact (by (with_reducible repeat (first | apply Kd.R_alloc | apply Kd.R_drewN | apply Kd.R_drew)); exact HO_10.out)); (case aS => exact (zW qB)); (case aL => have := LMc19.out; omega); intro v116 w21 ho hb hg hat; rw [← Ny115.out] at ho; have n0_ := zA (Kd.R_after (ok := (fun _ => True)) (by (with_reducible repeat (first | apply Kd.R_alloc | apply Kd.R_drewN | apply Kd.R_drew)); exact Kd.R_mono HO_11.out (fun _ hk => ⟨trivial, hk⟩)) hg hat); have n1_ := zA (hb); have n2_ := zA (ho); clear HO_11 HB HO_10; have HO_11 := n0_; have HB := n1_; have HO117 := n2_; clear n0_ n1_ n2_ ho hb hg hat) | ((with_reducible refine gate_builtin (b := .append) (xs := #[.tmp 69, .tmp 71]) rfl ?_); at_builtin; refine Kd.R_append (Kd.int .i64) (w0 := w) w.heap.size rfl (.tmp 69) (.tmp 71) 22 3 (.int .i64 0) 8 rfl Try.underlying22 info3 rfl (by decide) (by omega) u11 x11_3 t114 [.int .i64 t114] (fun k_ => some k_ ≠ (v116 : Value).ownBlock) (fun _ => False) rfl rfl ?aP (fun _ hk => hk.elim) ?aF ?aO ?aB ?aS ?aL ?_; (case aP => exact rfl); (case aB => exact qB); (case aF => exact (fun k_ hk => Kd.fresh' (Kd.R_lt (by (with_reducible repeat (first | apply Kd.R_alloc | apply Kd.R_drewN | apply Kd.R_drew)); exact HO117.out)) k_ hk)); (case aO => exact (by (with_reducible repeat (first | apply Kd.R_alloc | apply Kd.R_drewN | apply Kd.R_drew)); exact Kd.R_mono HO_11.out (fun _ hk => hk.2))); (case aS => exact (zW qB)); (case aL => have := LMc20.out; omega); intro v119 w22 ho hb hg hat; rw [← Ny118.out] at ho; have n0_ := zA (Kd.R_after (ok := (fun _ => True)) (by (with_reducible repeat (first | apply Kd.R_alloc | apply Kd.R_drewN | apply Kd.R_drew)); exact Kd.R_mono HO117.out (fun _ hk => ⟨trivial, hk⟩)) hg hat); have n1_ := zA (hb); have n2_ := zA (ho); clear HO117 HB HO_11; have HO117 := n0_; have HB := n1_; have HO120 := n2_; clear n0_ n1_ n2_ ho hb hg hat)))
                        go_roundg k3
                        case measure => have := HJ4.out; have := HK2.out; have := HK3.out; omega
                        case rel => exact ⟨(y115), (y118), (wrap64 (x12_3 - t113)), (wrap64 (x13_3 + 1)), (by first | rfl | (simp; done) | (simp [*]; done)), (by first | rfl | (simp; done) | (simp [*]; done)), H', ⟨by have := HJ4.out; have := HK2.out; have := HK3.out; omega⟩, ⟨by (with_reducible repeat (first | apply Kd.R_alloc | apply Kd.R_drewN | apply Kd.R_drew)); exact Kd.R_mono HO117.out (fun _ hk => hk.2)⟩, ⟨by (with_reducible repeat (first | apply Kd.R_alloc | apply Kd.R_drewN | apply Kd.R_drew)); exact HO120.out⟩, ⟨qB⟩⟩
                      rw [if_neg c20] at H; exact absurd H (by simp)
                    rw [if_neg c19] at H; exact absurd H (by simp)
                  rw [if_neg c11] at H; exact absurd H (by simp)
                rw [if_neg c10] at H; have c10b0 : decide (x13_3 < (l1.length : Int)) = false := zGq c10; clear c10; have H' := zA H; clear H; go_wp2; repeat (go_quiet (fail); try go_wp2)
                go_loopg [12] k3 (fun kq v12 w' => ∃ (x10_4 : List Int) (x11_4 : List Int) (x12_4 : Int), v12 = .int .i64 x12_4 ∧ Aside0 (backhaulref03_Out.l2 kq l1 x10_4 x11_4 x12_4 = some (r1, r2)) ∧ Aside0 (kq ≤ k3) ∧ Aside0 (Kd.R (Kd.int .i64) 3 w' w.heap.size (fun k_ => some k_ ≠ (u11 : Value).ownBlock) u10 x10_4) ∧ Aside0 (Kd.R (Kd.int .i64) 3 w' w.heap.size (fun k_ => some k_ ≠ (u10 : Value).ownBlock) u11 x11_4) ∧ Aside0 (Below w.heap.size w w'))
                case atStart => exact ⟨(x10_3), (x11_3), (x12_3), (by first | rfl | (simp; done) | (simp [*]; done)), H', ⟨Nat.le_refl _⟩, ⟨by (with_reducible repeat (first | apply Kd.R_alloc | apply Kd.R_drewN | apply Kd.R_drew)); exact HO_10.out⟩, ⟨by (with_reducible repeat (first | apply Kd.R_alloc | apply Kd.R_drewN | apply Kd.R_drew)); exact HO_11.out⟩, ⟨qB⟩⟩
                case round =>
                  clear H'; try clear c1
                  try clear p1
                  try clear q1
                  try clear hx1
                  try clear c2
                  try clear p2
                  try clear c4
                  try clear c4b0
                  try clear c4b1
                  try clear c5
                  try clear c6
                  try clear c6b0
                  try clear p6
                  try clear c7
                  try clear c8
                  try clear c8b0
                  try clear c9
                  try clear c9b0
                  try clear c10
                  try clear c10b0
                  try clear p10
                  try clear q10
                  try clear hx10
                  try clear c11
                  try clear c11b0
                  try clear c12
                  try clear c12b0
                  try clear c12b1
                  try clear c14
                  try clear c15
                  try clear c19
                  try clear c20
                  try clear hx103_0
                  try clear hx104_0
                  try clear p1
                  try clear p103
                  try clear p104
                  try clear p2
                  try clear p6
                  try clear q1
                  try clear q103
                  try clear q104
                  obtain ⟨x10_4, x11_4, x12_4, rfl, HA, HK4, HO_10, HO_11, HB⟩ := hrel; cases gk with
                  | zero => exact absurd HA.out (by simp [backhaulref03_Out.l2])
                  | succ k4 =>
                    have H := HA.out; clear HA; simp only [backhaulref03_Out.l2] at H; by_cases c23 : x12_4 > 0
                    · rw [if_pos c23] at H
                      have c23b0 : decide (0 < x12_4) = true := zFq c23; clear c23; have H' := zA H; clear H; go_wp2; repeat (go_quiet (fail); try go_wp2)
                      go_loopg [17, 18] k4 (fun kq v17 v18 w' => ∃ (x17_5 : Int) (x18_5 : Int), v17 = .int .i64 x17_5 ∧ v18 = .int .i64 x18_5 ∧ Aside0 (backhaulref03_Out.l3 kq l1 x10_4 x11_4 x12_4 x17_5 x18_5 = some (r1, r2)) ∧ Aside0 (kq ≤ k4) ∧ Aside0 (Kd.R (Kd.int .i64) 3 w' w.heap.size (fun k_ => some k_ ≠ (u11 : Value).ownBlock) u10 x10_4) ∧ Aside0 (Kd.R (Kd.int .i64) 3 w' w.heap.size (fun k_ => some k_ ≠ (u10 : Value).ownBlock) u11 x11_4) ∧ Aside0 (Below w.heap.size w w'))
                      case atStart => exact ⟨(0), (0), (by first | rfl | (simp; done) | (simp [*]; done)), (by first | rfl | (simp; done) | (simp [*]; done)), H', ⟨Nat.le_refl _⟩, ⟨by (with_reducible repeat (first | apply Kd.R_alloc | apply Kd.R_drewN | apply Kd.R_drew)); exact HO_10.out⟩, ⟨by (with_reducible repeat (first | apply Kd.R_alloc | apply Kd.R_drewN | apply Kd.R_drew)); exact HO_11.out⟩, ⟨qB⟩⟩
                      case round =>
                        clear H'; try clear c1
                        try clear p1
                        try clear q1
                        try clear hx1
                        try clear c2
                        try clear p2
                        try clear c4
                        try clear c4b0
                        try clear c4b1
                        try clear c5
                        try clear c6
                        try clear c6b0
                        try clear p6
                        try clear c7
                        try clear c8
                        try clear c8b0
                        try clear c9
                        try clear c9b0
                        try clear c10
                        try clear c10b0
                        try clear p10
                        try clear q10
                        try clear hx10
                        try clear c11
                        try clear c11b0
                        try clear c12
                        try clear c12b0
                        try clear c12b1
                        try clear c14
                        try clear c15
                        try clear c19
                        try clear c20
                        try clear c23
                        try clear c23b0
                        try clear hx103_0
                        try clear hx104_0
                        try clear p1
                        try clear p10
                        try clear p103
                        try clear p104
                        try clear p2
                        try clear p6
                        try clear q1
                        try clear q10
                        try clear q103
                        try clear q104
                        obtain ⟨x17_5, x18_5, rfl, rfl, HA, HK5, HO_10, HO_11, HB⟩ := hrel; cases gk with
                        | zero => exact absurd HA.out (by simp [backhaulref03_Out.l3])
                        | succ k5 =>
                          have H := HA.out; clear HA; simp only [backhaulref03_Out.l3] at H; by_cases c24 : x18_5 < (l1.length : Int)
                          · rw [if_pos c24] at H
                            have c24b0 : decide (x18_5 < (l1.length : Int)) = true := zFq c24; clear c24; by_cases c25 : 0 ≤ x18_5
                            · rw [if_pos c25] at H
                              have c25b0 : decide (0 ≤ x18_5) = true := zFq c25; clear c25; by_cases c26 : x18_5 < (x11_4.length : Int)
                              · rw [if_pos c26] at H
                                have c26b0 : decide (x18_5 < (x11_4.length : Int)) = true := zFq c26; clear c26; by_cases c27 : 0 ≤ x17_5
                                · rw [if_pos c27] at H
                                  have c27b0 : decide (0 ≤ x17_5) = true := zFq c27; clear c27; by_cases c28 : x17_5 < (x11_4.length : Int)
                                  · rw [if_pos c28] at H
                                    have c28b0 : decide (x17_5 < (x11_4.length : Int)) = true := zFq c28; clear c28; by_cases c29 : (rd x11_4 x18_5) > (rd x11_4 x17_5)
                                    · rw [if_pos c29] at H
                                      have c29b0 : decide ((rd x11_4 x17_5) < (rd x11_4 x18_5)) = true := zFq c29; clear c29; have H' := zA H; clear H; obtain ⟨Ao30, co30, eo30⟩ := Kd.R_slice HO_11.out; subst eo30; have p121 : 0 ≤ (x18_5 : Int) := of_decide_eq_true qA; have q121 : x18_5 < (x11_4.length : Int) := of_decide_eq_true qA; obtain ⟨ad121, e121, hx121_0⟩ := Kd.at_int (Kd.R_reads' HO_11.out).2.2 x18_5 p121 q121; cases e121
                                      replace p121 := eq_true p121; replace q121 := eq_true q121; have p122 : 0 ≤ (x17_5 : Int) := of_decide_eq_true qA; have q122 : x17_5 < (x11_4.length : Int) := of_decide_eq_true qA; obtain ⟨ad122, e122, hx122_0⟩ := Kd.at_int (Kd.R_reads' HO_11.out).2.2 x17_5 p122 q122; obtain rfl : ad121 = ad122 := (by injection e122)
                                      replace p122 := eq_true p122; replace q122 := eq_true q122; go_wp2; repeat (go_quiet (fail); try go_wp2)
                                      go_roundg k5
                                      case measure => have := HJ4.out; have := HK2.out; have := HK3.out; have := HK4.out; have := HK5.out; omega
                                      case rel => exact ⟨(x18_5), (wrap64 (x18_5 + 1)), (by first | rfl | (simp; done) | (simp [*]; done)), (by first | rfl | (simp; done) | (simp [*]; done)), H', ⟨by have := HJ4.out; have := HK2.out; have := HK3.out; have := HK4.out; have := HK5.out; omega⟩, ⟨by (with_reducible repeat (first | apply Kd.R_alloc | apply Kd.R_drewN | apply Kd.R_drew)); exact HO_10.out⟩, ⟨by (with_reducible repeat (first | apply Kd.R_alloc | apply Kd.R_drewN | apply Kd.R_drew)); exact HO_11.out⟩, ⟨qB⟩⟩
                                    rw [if_neg c29] at H; have c29b0 : decide ((rd x11_4 x17_5) < (rd x11_4 x18_5)) = false := zGq c29; clear c29; have H' := zA H; clear H; obtain ⟨Ao31, co31, eo31⟩ := Kd.R_slice HO_11.out; subst eo31; have p121 : 0 ≤ (x18_5 : Int) := of_decide_eq_true qA; have q121 : x18_5 < (x11_4.length : Int) := of_decide_eq_true qA; obtain ⟨ad121, e121, hx121_0⟩ := Kd.at_int (Kd.R_reads' HO_11.out).2.2 x18_5 p121 q121; cases e121
                                    replace p121 := eq_true p121; replace q121 := eq_true q121; have p122 : 0 ≤ (x17_5 : Int) := of_decide_eq_true qA; have q122 : x17_5 < (x11_4.length : Int) := of_decide_eq_true qA; obtain ⟨ad122, e122, hx122_0⟩ := Kd.at_int (Kd.R_reads' HO_11.out).2.2 x17_5 p122 q122; obtain rfl : ad121 = ad122 := (by injection e122)
                                    replace p122 := eq_true p122; replace q122 := eq_true q122; go_wp2; repeat (go_quiet (fail); try go_wp2)
                                    go_roundg k5
                                    case measure => have := HJ4.out; have := HK2.out; have := HK3.out; have := HK4.out; have := HK5.out; omega
                                    case rel => exact ⟨(x17_5), (wrap64 (x18_5 + 1)), (by first | rfl | (simp; done) | (simp [*]; done)), (by first | rfl | (simp; done) | (simp [*]; done)), H', ⟨by have := HJ4.out; have := HK2.out; have := HK3.out; have := HK4.out; have := HK5.out; omega⟩, ⟨by (with_reducible repeat (first | apply Kd.R_alloc | apply Kd.R_drewN | apply Kd.R_drew)); exact HO_10.out⟩, ⟨by (with_reducible repeat (first | apply Kd.R_alloc | apply Kd.R_drewN | apply Kd.R_drew)); exact HO_11.out⟩, ⟨qB⟩⟩
                                  rw [if_neg c28] at H; exact absurd H (by simp)
                                rw [if_neg c27] at H; exact absurd H (by simp)
                              rw [if_neg c26] at H; exact absurd H (by simp)
                            rw [if_neg c25] at H; exact absurd H (by simp)
                          rw [if_neg c24] at H; have c24b0 : decide (x18_5 < (l1.length : Int)) = false := zGq c24; clear c24; by_cases c32 : 0 ≤ x17_5
                          · rw [if_pos c32] at H
                            have c32b0 : decide (0 ≤ x17_5) = true := zFq c32; clear c32; by_cases c33 : x17_5 < (x10_4.length : Int)
                            · rw [if_pos c33] at H
                              have c33b0 : decide (x17_5 < (x10_4.length : Int)) = true := zFq c33; clear c33; obtain ⟨y124, hy124⟩ : ∃ y_ : List Int, y_ = (x10_4.set (x17_5 : Int).toNat (wrap64 ((rd x10_4 x17_5) + 1))) := ⟨_, rfl⟩
                              replace H : (if x17_5 < (x11_4.length : Int) then (backhaulref03_Out.l2 k5 l1 y124 (x11_4.set (x17_5 : Int).toNat (-1)) (wrap64 (x12_4 - 1))) else (none)) = some (r1, r2) := by first | (rw [hy124]; with_reducible exact H) | (have H2_ := (Option.bind_some _ _).symm.trans H; rw [hy124]; with_reducible exact H2_) | (have H2_ := (Option.bind_some _ _).symm.trans H; with_reducible exact H2_) | with_reducible exact H | (rw [hy124]; exact H) | exact H
                              have Ny124 := zA hy124; clear hy124; by_cases c35 : x17_5 < (x11_4.length : Int)
                              · rw [if_pos c35] at H
                                have c35b0 : decide (x17_5 < (x11_4.length : Int)) = true := zFq c35; clear c35; obtain ⟨y125, hy125⟩ : ∃ y_ : List Int, y_ = (x11_4.set (x17_5 : Int).toNat (-1)) := ⟨_, rfl⟩
                                replace H : (backhaulref03_Out.l2 k5 l1 y124 y125 (wrap64 (x12_4 - 1))) = some (r1, r2) := by first | (rw [hy125]; with_reducible exact H) | (have H2_ := (Option.bind_some _ _).symm.trans H; rw [hy125]; with_reducible exact H2_) | (have H2_ := (Option.bind_some _ _).symm.trans H; with_reducible exact H2_) | with_reducible exact H | (rw [hy125]; exact H) | exact H
                                have Ny125 := zA hy125; clear hy125; have H' := zA H; clear H; obtain ⟨Ao37, co37, eo37⟩ := Kd.R_slice HO_10.out; subst eo37; have p123 : 0 ≤ (x17_5 : Int) := of_decide_eq_true qA; have q123 : x17_5 < (x10_4.length : Int) := of_decide_eq_true qA; obtain ⟨ad123, e123, hx123_0⟩ := Kd.at_int (Kd.R_reads' HO_10.out).2.2 x17_5 p123 q123; cases e123
                                replace p123 := eq_true p123; replace q123 := eq_true q123; have p34 : 0 ≤ (x17_5 : Int) := of_decide_eq_true qA; have q34 : (x17_5 : Int) < ((x10_4.length : Int) : Int) := of_decide_eq_true qA; obtain ⟨go34, co34, eo34, gb34, gl34, cl34, HG34⟩ := Kd.R_form HO_10.out (by omega); (first | cases eo34 | (injection eo34 with ea_ en_ ec_; (first | subst ea_ | (injection ea_ with ea_; subst ea_)); subst ec_; clear en_))
                                have GB34 := zA gb34; have GG34 := zA HG34; clear gb34 gl34 HG34; (first | simp only [add_plain] at hx123_0 | skip)
                                obtain ⟨hx34_0, hf34_0⟩ := Kd.R_celln 0 HO_10.out (x17_5 : Int) p34 q34; replace p34 := eq_true p34; replace q34 := eq_true q34; have HP38 := Kd.R_putg HO_10.out (x17_5 : Int) (wrap64 ((rd x10_4 x17_5) + 1)); go_wp2_with (first | ((with_reducible refine gate_store (t := 3) (p := 103) rfl ?_); (try (rw [drewN_self wr]; generalize hq_ : World.drewN wr _ = wr; have n0_ := zA (Kd.R_at hq_ HO_10.out); have n1_ := zA (Kd.R_at hq_ HO_11.out); have n2_ := zA (below_at hq_ HB.out); clear hq_ HO_10 HO_11 HB; have HO_10 := n0_; have HO_11 := n1_; have HB := n2_; clear n0_ n1_ n2_; (try (have HP38 := Kd.R_putg HO_10.out (x17_5 : Int) (wrap64 ((rd x10_4 x17_5) + 1)))))); refine store_event (t := 3) (p := 103) (v := ?vo_w39) (w1 := (wr.setCell ⟨go34, (x17_5 : Int).toNat, none⟩ (.int .i64 (wrap64 ((rd x10_4 x17_5) + 1))))) ?hg ?ho ?hn ?hr ?_; (case ho => rfl); (case hg => rfl); (case hn => rfl); (case hr => first | (go_simp; done) | (go_simp; rfl)); intro w39 hw; have hg : wr.grownBy w39 (some go34) := (by rw [hw]; exact HP38.2); have hp_ : Kd.R (Kd.int .i64) 3 w39 w.heap.size (fun k_ => some k_ ≠ (u11 : Value).ownBlock) (.slice (some ⟨go34, 0, none⟩) x10_4.length co37) y124 := (by rw [hw, Ny124.out]; exact HP38.1); clear HP38; have n0_ := zA (hp_); have n1_ := zA (Kd.R_after (v := (.slice (some ⟨go34, 0, none⟩) x10_4.length co37)) (v1 := (.slice (some ⟨go34, 0, none⟩) x10_4.length co37)) (ok := (fun _ => True)) (by (with_reducible repeat (first | apply Kd.R_alloc | apply Kd.R_drewN | apply Kd.R_drew)); exact Kd.R_mono HO_11.out (fun _ hk => ⟨trivial, hk⟩)) hg (.inl rfl)); have n2_ := zA ((by rw [hw]; exact zE (HB.out) GB34.out : Below w.heap.size w w39)); clear HO_10 HO_11 HB; have HO_10 := n0_; have HO_11 := n1_; have HB := n2_; clear n0_ n1_ n2_ hg hw hp_; have p36 : 0 ≤ (x17_5 : Int) := of_decide_eq_true qA; have q36 : (x17_5 : Int) < ((x11_4.length : Int) : Int) := of_decide_eq_true qA; obtain ⟨go36, co36, eo36, gb36, gl36, cl36, HG36⟩ := Kd.R_form HO_11.out (by omega); (first | cases eo36 | (injection eo36 with ea_ en_ ec_; (first | subst ea_ | (injection ea_ with ea_; subst ea_)); subst ec_; clear en_)); have GB36 := zA gb36; have GG36 := zA HG36; clear gb36 gl36 HG36; obtain ⟨hx36_0, hf36_0⟩ := Kd.R_celln 0 HO_11.out (x17_5 : Int) p36 q36; replace p36 := eq_true p36; replace q36 := eq_true q36; have n_ := zA (Kd.R_mono (ok' := (fun k_ => some k_ ≠ (.slice (some ⟨go34, 0, none⟩) x10_4.length co37 : Value).ownBlock)) HO_11.out (fun k_ hk => hk.2)); clear HO_11; have HO_11 := n_; clear n_; obtain ⟨hy40_, hz40_⟩ := Kd.R_celln 0 HO_11.out (x17_5 : Int) (of_decide_eq_true qA) (of_decide_eq_true qA); have HP40 := Kd.R_putg HO_11.out (x17_5 : Int) (-1)) | ((with_reducible refine gate_store (t := 3) (p := 106) rfl ?_); (try (rw [drewN_self w39]; generalize hq_ : World.drewN w39 _ = w39; have n0_ := zA (Kd.R_at hq_ HO_10.out); have n1_ := zA (Kd.R_at hq_ HO_11.out); have n2_ := zA (below_at hq_ HB.out); clear hq_ HO_10 HO_11 HB; have HO_10 := n0_; have HO_11 := n1_; have HB := n2_; clear n0_ n1_ n2_; (try (have n_ := zA (Kd.R_mono (ok' := (fun k_ => some k_ ≠ (.slice (some ⟨go34, 0, none⟩) x10_4.length co37 : Value).ownBlock)) HO_11.out (fun k_ hk => hk.2)); clear HO_11; have HO_11 := n_; clear n_)); (try (obtain ⟨hy40_, hz40_⟩ := Kd.R_celln 0 HO_11.out (x17_5 : Int) (of_decide_eq_true qA) (of_decide_eq_true qA))); (try (have HP40 := Kd.R_putg HO_11.out (x17_5 : Int) (-1))))); refine store_event (t := 3) (p := 106) (v := ?vo_w41) (w1 := (w39.setCell ⟨go36, (x17_5 : Int).toNat, none⟩ (.int .i64 (-1)))) ?hg ?ho ?hn ?hr ?_; (case ho => rfl); (case hg => rfl); (case hn => rfl); (case hr => first | (go_simp; done) | (go_simp; rfl)); intro w41 hw; have hg : w39.grownBy w41 (some go36) := (by rw [hw]; exact HP40.2); have hp_ : Kd.R (Kd.int .i64) 3 w41 w.heap.size (fun k_ => some k_ ≠ (.slice (some ⟨go34, 0, none⟩) x10_4.length co37 : Value).ownBlock) (.slice (some ⟨go36, 0, none⟩) x11_4.length co36) y125 := (by rw [hw, Ny125.out]; exact HP40.1); clear HP40; have n0_ := zA (Kd.R_after (v := (.slice (some ⟨go36, 0, none⟩) x11_4.length co36)) (v1 := (.slice (some ⟨go36, 0, none⟩) x11_4.length co36)) (ok := (fun _ => True)) (by (with_reducible repeat (first | apply Kd.R_alloc | apply Kd.R_drewN | apply Kd.R_drew)); exact Kd.R_mono HO_10.out (fun _ hk => ⟨trivial, hk⟩)) hg (.inl rfl)); have n1_ := zA (hp_); have n2_ := zA ((by rw [hw]; exact zE (HB.out) GB36.out : Below w.heap.size w w41)); clear HO_10 HO_11 HB; have HO_10 := n0_; have HO_11 := n1_; have HB := n2_; clear n0_ n1_ n2_ hg hw hp_))
                                repeat (go_quiet (first | ((with_reducible refine gate_store (t := 3) (p := 103) rfl ?_); (try (rw [drewN_self wr]; generalize hq_ : World.drewN wr _ = wr; have n0_ := zA (Kd.R_at hq_ HO_10.out); have n1_ := zA (Kd.R_at hq_ HO_11.out); have n2_ := zA (below_at hq_ HB.out); clear hq_ HO_10 HO_11 HB; have HO_10 := n0_; have HO_11 := n1_; have HB := n2_; clear n0_ n1_ n2_; (try (have HP38 := Kd.R_putg HO_10.out (x17_5 : Int) (wrap64 ((rd x10_4 x17_5) + 1)))))); refine store_event (t := 3) (p := 103) (v := ?vo_w39) (w1 := (wr.setCell ⟨go34, (x17_5 : Int).toNat, none⟩ (.int .i64 (wrap64 ((rd x10_4 x17_5) + 1))))) ?hg ?ho ?hn ?hr ?_; (case ho => rfl); (case hg => rfl); (case hn => rfl); (case hr => first | (go_simp; done) | (go_simp; rfl)); intro w39 hw; have hg : wr.grownBy w39 (some go34) := (by rw [hw]; exact HP38.2); have hp_ : Kd.R (Kd.int .i64) 3 w39 w.heap.size (fun k_ => some k_ ≠ (u11 : Value).ownBlock) (.slice (some ⟨go34, 0, none⟩) x10_4.length co37) y124 := (by rw [hw, Ny124.out]; exact HP38.1); clear HP38; have n0_ := zA (hp_); have n1_ := zA (Kd.R_after (v := (.slice (some ⟨go34, 0, none⟩) x10_4.length co37)) (v1 := (.slice (some ⟨go34, 0, none⟩) x10_4.length co37)) (ok := (fun _ => True)) (by (with_reducible repeat (first | apply Kd.R_alloc | apply Kd.R_drewN | apply Kd.R_drew)); exact Kd.R_mono HO_11.out (fun _ hk => ⟨trivial, hk⟩)) hg (.inl rfl)); have n2_ := zA ((by rw [hw]; exact zE (HB.out) GB34.out : Below w.heap.size w w39)); clear HO_10 HO_11 HB; have HO_10 := n0_; have HO_11 := n1_; have HB := n2_; clear n0_ n1_ n2_ hg hw hp_; have p36 : 0 ≤ (x17_5 : Int) := of_decide_eq_true qA; have q36 : (x17_5 : Int) < ((x11_4.length : Int) : Int) := of_decide_eq_true qA; obtain ⟨go36, co36, eo36, gb36, gl36, cl36, HG36⟩ := Kd.R_form HO_11.out (by omega); (first | cases eo36 | (injection eo36 with ea_ en_ ec_; (first | subst ea_ | (injection ea_ with ea_; subst ea_)); subst ec_; clear en_)); have GB36 := zA gb36; have GG36 := zA HG36; clear gb36 gl36 HG36; obtain ⟨hx36_0, hf36_0⟩ := Kd.R_celln 0 HO_11.out (x17_5 : Int) p36 q36; replace p36 := eq_true p36; replace q36 := eq_true q36; have n_ := zA (Kd.R_mono (ok' := (fun k_ => some k_ ≠ (.slice (some ⟨go34, 0, none⟩) x10_4.length co37 : Value).ownBlock)) HO_11.out (fun k_ hk => hk.2)); clear HO_11; have HO_11 := n_; clear n_; obtain ⟨hy40_, hz40_⟩ := Kd.R_celln 0 HO_11.out (x17_5 : Int) (of_decide_eq_true qA) (of_decide_eq_true qA); have HP40 := Kd.R_putg HO_11.out (x17_5 : Int) (-1)) | ((with_reducible refine gate_store (t := 3) (p := 106) rfl ?_); (try (rw [drewN_self w39]; generalize hq_ : World.drewN w39 _ = w39; have n0_ := zA (Kd.R_at hq_ HO_10.out); have n1_ := zA (Kd.R_at hq_ HO_11.out); have n2_ := zA (below_at hq_ HB.out); clear hq_ HO_10 HO_11 HB; have HO_10 := n0_; have HO_11 := n1_; have HB := n2_; clear n0_ n1_ n2_; (try (have n_ := zA (Kd.R_mono (ok' := (fun k_ => some k_ ≠ (.slice (some ⟨go34, 0, none⟩) x10_4.length co37 : Value).ownBlock)) HO_11.out (fun k_ hk => hk.2)); clear HO_11; have HO_11 := n_; clear n_)); (try (obtain ⟨hy40_, hz40_⟩ := Kd.R_celln 0 HO_11.out (x17_5 : Int) (of_decide_eq_true qA) (of_decide_eq_true qA))); (try (have HP40 := Kd.R_putg HO_11.out (x17_5 : Int) (-1))))); refine store_event (t := 3) (p := 106) (v := ?vo_w41) (w1 := (w39.setCell ⟨go36, (x17_5 : Int).toNat, none⟩ (.int .i64 (-1)))) ?hg ?ho ?hn ?hr ?_; (case ho => rfl); (case hg => rfl); (case hn => rfl); (case hr => first | (go_simp; done) | (go_simp; rfl)); intro w41 hw; have hg : w39.grownBy w41 (some go36) := (by rw [hw]; exact HP40.2); have hp_ : Kd.R (Kd.int .i64) 3 w41 w.heap.size (fun k_ => some k_ ≠ (.slice (some ⟨go34, 0, none⟩) x10_4.length co37 : Value).ownBlock) (.slice (some ⟨go36, 0, none⟩) x11_4.length co36) y125 := (by rw [hw, Ny125.out]; exact HP40.1); clear HP40; have n0_ := zA (Kd.R_after (v := (.slice (some ⟨go36, 0, none⟩) x11_4.length co36)) (v1 := (.slice (some ⟨go36, 0, none⟩) x11_4.length co36)) (ok := (fun _ => True)) (by (with_reducible repeat (first | apply Kd.R_alloc | apply Kd.R_drewN | apply Kd.R_drew)); exact Kd.R_mono HO_10.out (fun _ hk => ⟨trivial, hk⟩)) hg (.inl rfl)); have n1_ := zA (hp_); have n2_ := zA ((by rw [hw]; exact zE (HB.out) GB36.out : Below w.heap.size w w41)); clear HO_10 HO_11 HB; have HO_10 := n0_; have HO_11 := n1_; have HB := n2_; clear n0_ n1_ n2_ hg hw hp_)); try go_wp2_with (first | ((with_reducible refine gate_store (t := 3) (p := 103) rfl ?_); (try (rw [drewN_self wr]; generalize hq_ : World.drewN wr _ = wr; have n0_ := zA (Kd.R_at hq_ HO_10.out); have n1_ := zA (Kd.R_at hq_ HO_11.out); have n2_ := zA (below_at hq_ HB.out); clear hq_ HO_10 HO_11 HB; have HO_10 := n0_; have HO_11 := n1_; have HB := n2_; clear n0_ n1_ n2_; (try (have HP38 := Kd.R_putg HO_10.out (x17_5 : Int) (wrap64 ((rd x10_4 x17_5) + 1)))))); refine store_event (t := 3) (p := 103) (v := ?vo_w39) (w1 := (wr.setCell ⟨go34, (x17_5 : Int).toNat, none⟩ (.int .i64 (wrap64 ((rd x10_4 x17_5) + 1))))) ?hg ?ho ?hn ?hr ?_; (case ho => rfl); (case hg => rfl); (case hn => rfl); (case hr => first | (go_simp; done) | (go_simp; rfl)); intro w39 hw; have hg : wr.grownBy w39 (some go34) := (by rw [hw]; exact HP38.2); have hp_ : Kd.R (Kd.int .i64) 3 w39 w.heap.size (fun k_ => some k_ ≠ (u11 : Value).ownBlock) (.slice (some ⟨go34, 0, none⟩) x10_4.length co37) y124 := (by rw [hw, Ny124.out]; exact HP38.1); clear HP38; have n0_ := zA (hp_); have n1_ := zA (Kd.R_after (v := (.slice (some ⟨go34, 0, none⟩) x10_4.length co37)) (v1 := (.slice (some ⟨go34, 0, none⟩) x10_4.length co37)) (ok := (fun _ => True)) (by (with_reducible repeat (first | apply Kd.R_alloc | apply Kd.R_drewN | apply Kd.R_drew)); exact Kd.R_mono HO_11.out (fun _ hk => ⟨trivial, hk⟩)) hg (.inl rfl)); have n2_ := zA ((by rw [hw]; exact zE (HB.out) GB34.out : Below w.heap.size w w39)); clear HO_10 HO_11 HB; have HO_10 := n0_; have HO_11 := n1_; have HB := n2_; clear n0_ n1_ n2_ hg hw hp_; have p36 : 0 ≤ (x17_5 : Int) := of_decide_eq_true qA; have q36 : (x17_5 : Int) < ((x11_4.length : Int) : Int) := of_decide_eq_true qA; obtain ⟨go36, co36, eo36, gb36, gl36, cl36, HG36⟩ := Kd.R_form HO_11.out (by omega); (first | cases eo36 | (injection eo36 with ea_ en_ ec_; (first | subst ea_ | (injection ea_ with ea_; subst ea_)); subst ec_; clear en_)); have GB36 := zA gb36; have GG36 := zA HG36; clear gb36 gl36 HG36; obtain ⟨hx36_0, hf36_0⟩ := Kd.R_celln 0 HO_11.out (x17_5 : Int) p36 q36; replace p36 := eq_true p36; replace q36 := eq_true q36; have n_ := zA (Kd.R_mono (ok' := (fun k_ => some k_ ≠ (.slice (some ⟨go34, 0, none⟩) x10_4.length co37 : Value).ownBlock)) HO_11.out (fun k_ hk => hk.2)); clear HO_11; have HO_11 := n_; clear n_; obtain ⟨hy40_, hz40_⟩ := Kd.R_celln 0 HO_11.out (x17_5 : Int) (of_decide_eq_true qA) (of_decide_eq_true qA); have HP40 := Kd.R_putg HO_11.out (x17_5 : Int) (-1)) | ((with_reducible refine gate_store (t := 3) (p := 106) rfl ?_); (try (rw [drewN_self w39]; generalize hq_ : World.drewN w39 _ = w39; have n0_ := zA (Kd.R_at hq_ HO_10.out); have n1_ := zA (Kd.R_at hq_ HO_11.out); have n2_ := zA (below_at hq_ HB.out); clear hq_ HO_10 HO_11 HB; have HO_10 := n0_; have HO_11 := n1_; have HB := n2_; clear n0_ n1_ n2_; (try (have n_ := zA (Kd.R_mono (ok' := (fun k_ => some k_ ≠ (.slice (some ⟨go34, 0, none⟩) x10_4.length co37 : Value).ownBlock)) HO_11.out (fun k_ hk => hk.2)); clear HO_11; have HO_11 := n_; clear n_)); (try (obtain ⟨hy40_, hz40_⟩ := Kd.R_celln 0 HO_11.out (x17_5 : Int) (of_decide_eq_true qA) (of_decide_eq_true qA))); (try (have HP40 := Kd.R_putg HO_11.out (x17_5 : Int) (-1))))); refine store_event (t := 3) (p := 106) (v := ?vo_w41) (w1 := (w39.setCell ⟨go36, (x17_5 : Int).toNat, none⟩ (.int .i64 (-1)))) ?hg ?ho ?hn ?hr ?_; (case ho => rfl); (case hg => rfl); (case hn => rfl); (case hr => first | (go_simp; done) | (go_simp; rfl)); intro w41 hw; have hg : w39.grownBy w41 (some go36) := (by rw [hw]; exact HP40.2); have hp_ : Kd.R (Kd.int .i64) 3 w41 w.heap.size (fun k_ => some k_ ≠ (.slice (some ⟨go34, 0, none⟩) x10_4.length co37 : Value).ownBlock) (.slice (some ⟨go36, 0, none⟩) x11_4.length co36) y125 := (by rw [hw, Ny125.out]; exact HP40.1); clear HP40; have n0_ := zA (Kd.R_after (v := (.slice (some ⟨go36, 0, none⟩) x11_4.length co36)) (v1 := (.slice (some ⟨go36, 0, none⟩) x11_4.length co36)) (ok := (fun _ => True)) (by (with_reducible repeat (first | apply Kd.R_alloc | apply Kd.R_drewN | apply Kd.R_drew)); exact Kd.R_mono HO_10.out (fun _ hk => ⟨trivial, hk⟩)) hg (.inl rfl)); have n1_ := zA (hp_); have n2_ := zA ((by rw [hw]; exact zE (HB.out) GB36.out : Below w.heap.size w w41)); clear HO_10 HO_11 HB; have HO_10 := n0_; have HO_11 := n1_; have HB := n2_; clear n0_ n1_ n2_ hg hw hp_)))
                                go_roundg k5
                                case measure => have := HJ4.out; have := HK2.out; have := HK3.out; have := HK4.out; have := HK5.out; omega
                                case rel => exact ⟨(y124), (y125), (wrap64 (x12_4 - 1)), (by first | rfl | (simp; done) | (simp [*]; done)), H', ⟨by have := HJ4.out; have := HK2.out; have := HK3.out; have := HK4.out; have := HK5.out; omega⟩, ⟨by (with_reducible repeat (first | apply Kd.R_alloc | apply Kd.R_drewN | apply Kd.R_drew)); exact Kd.R_mono HO_10.out (fun _ hk => hk.2)⟩, ⟨by (with_reducible repeat (first | apply Kd.R_alloc | apply Kd.R_drewN | apply Kd.R_drew)); exact HO_11.out⟩, ⟨qB⟩⟩
                              rw [if_neg c35] at H; exact absurd H (by simp)
                            rw [if_neg c33] at H; exact absurd H (by simp)
                          rw [if_neg c32] at H; exact absurd H (by simp)
                    rw [if_neg c23] at H; have c23b0 : decide (0 < x12_4) = false := zGq c23; clear c23; simp only [zNq, zOq] at H; obtain ⟨rfl, rfl⟩ := H; go_wp2; repeat (go_quiet (fail); try go_wp2)
                    go_ret2; exact ⟨_, qE, by (with_reducible repeat (first | apply Kd.R_alloc | apply Kd.R_drewN | apply Kd.R_drew)); exact Kd.R_mono HO_10.out (fun _ hk => trivial), qB⟩
  rw [if_neg c4] at H
  have c4b0 : (t102 == 0) = false := beq_eq_false_iff_ne.mpr c4
  have c4b1 : (t102 != 0) = true := bne_iff_ne.mpr c4
  simp only [zNq, zOq] at H
  obtain ⟨rfl, rfl⟩ := H
  go_enter Try.func52, Try.ntmps52
  go_wp2_with (first | (go_at_call 58; (with_reducible refine (backhaulref03_Whole.calls k _ _ l1 t101 t102 _ ?side1 ?side2 A3.out).mono ?_); (case side1 => repeat (first | exact HR1.out | (with_reducible refine Kd.C_alloc ?_ _) | (with_reducible refine Kd.C_drewN ?_ _) | (with_reducible refine Kd.C_drew ?_))); (case side2 => exact HC1.out); rintro e w' ⟨rfl, ⟨nd, rfl⟩⟩; (try first | exact ⟨rfl, _, World.drewN_drewN _ _ _⟩ | exact ⟨rfl, _, Eq.trans (World.drewN_drewN _ _ _) (congrArg (World.drewN _) (Nat.add_assoc _ _ _))⟩)))
  repeat (go_quiet (first | (go_at_call 58; (with_reducible refine (backhaulref03_Whole.calls k _ _ l1 t101 t102 _ ?side1 ?side2 A3.out).mono ?_); (case side1 => repeat (first | exact HR1.out | (with_reducible refine Kd.C_alloc ?_ _) | (with_reducible refine Kd.C_drewN ?_ _) | (with_reducible refine Kd.C_drew ?_))); (case side2 => exact HC1.out); rintro e w' ⟨rfl, ⟨nd, rfl⟩⟩; (try first | exact ⟨rfl, _, World.drewN_drewN _ _ _⟩ | exact ⟨rfl, _, Eq.trans (World.drewN_drewN _ _ _) (congrArg (World.drewN _) (Nat.add_assoc _ _ _))⟩))); try go_wp2_with (first | (go_at_call 58; (with_reducible refine (backhaulref03_Whole.calls k _ _ l1 t101 t102 _ ?side1 ?side2 A3.out).mono ?_); (case side1 => repeat (first | exact HR1.out | (with_reducible refine Kd.C_alloc ?_ _) | (with_reducible refine Kd.C_drewN ?_ _) | (with_reducible refine Kd.C_drew ?_))); (case side2 => exact HC1.out); rintro e w' ⟨rfl, ⟨nd, rfl⟩⟩; (try first | exact ⟨rfl, _, World.drewN_drewN _ _ _⟩ | exact ⟨rfl, _, Eq.trans (World.drewN_drewN _ _ _) (congrArg (World.drewN _) (Nat.add_assoc _ _ _))⟩))))
  go_ret2
  exact ⟨_, qE, qN, qB⟩
mutual
def backhaulref01_Class.j0 : Nat → Int → Bool → Option (Int)
  | 0, _, _ => none
  | k + 1, x0, x16 => if x16 = true then (some 1) else (if x0 ≥ 48 then (backhaulref01_Class.j1 k x0 (decide (x0 ≤ 57))) else (backhaulref01_Class.j1 k x0 false))
def backhaulref01_Class.j1 : Nat → Int → Bool → Option (Int)
  | 0, _, _ => none
  | k + 1, x0, x22 => if x22 = true then (some 2) else (if x0 = 45 then (some 3) else (some 0))
end
def backhaulref01_Class.f (k : Nat) (a0 : Int) : Option (Int) := if a0 ≥ 65 then (if a0 ≤ 90 then (backhaulref01_Class.j0 k a0 true) else (if a0 ≥ 97 then (backhaulref01_Class.j0 k a0 (decide (a0 ≤ 122))) else (backhaulref01_Class.j0 k a0 false))) else (if a0 ≥ 97 then (backhaulref01_Class.j0 k a0 (decide (a0 ≤ 122))) else (backhaulref01_Class.j0 k a0 false))
theorem backhaulref01_Class.mono_l : ∀ k, (∀ y0 y1, LeO (backhaulref01_Class.j0 k y0 y1) (backhaulref01_Class.j0 (k + 1) y0 y1)) ∧ (∀ y0 y1, LeO (backhaulref01_Class.j1 k y0 y1) (backhaulref01_Class.j1 (k + 1) y0 y1))
  | 0 => ⟨fun _ _ r h => by simp [backhaulref01_Class.j0] at h, fun _ _ r h => by simp [backhaulref01_Class.j1] at h⟩
  | k + 1 => by
    obtain ⟨ih0, ih1⟩ := backhaulref01_Class.mono_l k
    refine ⟨?_, ?_⟩
    · intro y0 y1
      unfold backhaulref01_Class.j0
      repeat' (with_reducible first | exact ih0 _ _ | exact ih1 _ _ | exact LeO.refl _ | exact LeO.none _ | refine LeO.ite ?_ ?_ | refine LeO.bind ?_ (fun _ => ?_))
    intro y0 y1
    unfold backhaulref01_Class.j1
    repeat' (with_reducible first | exact ih0 _ _ | exact ih1 _ _ | exact LeO.refl _ | exact LeO.none _ | refine LeO.ite ?_ ?_ | refine LeO.bind ?_ (fun _ => ?_))
theorem backhaulref01_Class.mono : ∀ a0 k, LeO (backhaulref01_Class.f k a0) (backhaulref01_Class.f (k + 1) a0) := by
  intro a0 k
  obtain ⟨ih0, ih1⟩ := backhaulref01_Class.mono_l k
  unfold backhaulref01_Class.f
  repeat' (with_reducible first | exact ih0 _ _ | exact ih1 _ _ | exact LeO.refl _ | exact LeO.none _ | refine LeO.ite ?_ ?_ | refine LeO.bind ?_ (fun _ => ?_))
set_option maxHeartbeats 8000000 in
set_option maxRecDepth 100000 in
theorem backhaulref01_Class.calls (k : Nat) (a0 : Int) (r : Int) (w : World) (h : backhaulref01_Class.f k a0 = some r) :
    Calls Try.prog 161 #[.int .i32 a0] w fun e w' => e = .returned (.int .i64 r) ∧ Drawn0 w w' := by
  have H : (if a0 ≥ 65 then (if a0 ≤ 90 then (backhaulref01_Class.j0 k a0 true) else (if a0 ≥ 97 then (backhaulref01_Class.j0 k a0 (decide (a0 ≤ 122))) else (backhaulref01_Class.j0 k a0 false))) else (if a0 ≥ 97 then (backhaulref01_Class.j0 k a0 (decide (a0 ≤ 122))) else (backhaulref01_Class.j0 k a0 false))) = some r := h
  clear h
  have HC2 := zA H
  clear H
  go_enter Try.func161, Try.ntmps161
  go_upto_region 1 with (fail)
  go_cut [16] (fun v16 wc => ∃ (kq : Nat) (x16_1 : Bool), v16 = .bool x16_1 ∧ Aside0 (backhaulref01_Class.j0 kq a0 x16_1 = some r) ∧ Aside0 (kq ≤ k) ∧ Drawn0 w wc)
  case first =>
    have H := HC2.out; clear HC2; by_cases c3 : a0 ≥ 65
    · rw [if_pos c3] at H
      have c3b0 : decide (65 ≤ a0) = true := zFq c3; clear c3; (first | rw [c3b0] | (simp only [i64_w, i32_w]; rw [c3b0]) | skip)
      by_cases c4 : a0 ≤ 90
      · rw [if_pos c4] at H
        have c4b0 : decide (a0 ≤ 90) = true := zFq c4; clear c4; have H' := zA H; clear H; go_wp2; go_meet
        case rel => exact ⟨_, (true), (by first | rfl | (simp; done) | (simp [*]; done)), H', ⟨by first | omega | exact Nat.le_refl _⟩, by repeat (first | exact Drawn0.refl _ | apply Drawn0.step)⟩
      rw [if_neg c4] at H; have c4b0 : decide (a0 ≤ 90) = false := zGq c4; clear c4; by_cases c5 : a0 ≥ 97
      · rw [if_pos c5] at H
        have c5b0 : decide (97 ≤ a0) = true := zFq c5; clear c5; have H' := zA H; clear H; go_wp2; go_meet
        case rel => exact ⟨_, (decide (a0 ≤ 122)), (by first | rfl | (simp; done) | (simp [*]; done)), H', ⟨by first | omega | exact Nat.le_refl _⟩, by repeat (first | exact Drawn0.refl _ | apply Drawn0.step)⟩
      rw [if_neg c5] at H; have c5b0 : decide (97 ≤ a0) = false := zGq c5; clear c5; have H' := zA H; clear H; go_wp2; go_meet
      case rel => exact ⟨_, (false), (by first | rfl | (simp; done) | (simp [*]; done)), H', ⟨by first | omega | exact Nat.le_refl _⟩, by repeat (first | exact Drawn0.refl _ | apply Drawn0.step)⟩
    rw [if_neg c3] at H; have c3b0 : decide (65 ≤ a0) = false := zGq c3; clear c3; (first | rw [c3b0] | (simp only [i64_w, i32_w]; rw [c3b0]) | skip)
    by_cases c6 : a0 ≥ 97
    · rw [if_pos c6] at H
      have c6b0 : decide (97 ≤ a0) = true := zFq c6; clear c6; have H' := zA H; clear H; go_wp2; go_meet
      case rel => exact ⟨_, (decide (a0 ≤ 122)), (by first | rfl | (simp; done) | (simp [*]; done)), H', ⟨by first | omega | exact Nat.le_refl _⟩, by repeat (first | exact Drawn0.refl _ | apply Drawn0.step)⟩
    rw [if_neg c6] at H; have c6b0 : decide (97 ≤ a0) = false := zGq c6; clear c6; have H' := zA H; clear H; go_wp2; go_meet
    case rel => exact ⟨_, (false), (by first | rfl | (simp; done) | (simp [*]; done)), H', ⟨by first | omega | exact Nat.le_refl _⟩, by repeat (first | exact Drawn0.refl _ | apply Drawn0.step)⟩
  case rest =>
    clear HC2; try clear c1
    try clear p2
    try clear c3
    try clear c3b0
    try clear c4
    try clear c4b0
    try clear c5
    try clear c5b0
    try clear c6
    try clear c6b0
    obtain ⟨kq, x16_1, rfl, HA, HJ1, ⟨mc1, rfl⟩⟩ := hcut; cases kq with
    | zero => exact absurd HA.out (by simp [backhaulref01_Class.j0])
    | succ kj1 =>
      have H := HA.out; clear HA; simp only [backhaulref01_Class.j0] at H; by_cases c7 : x16_1 = true
      · subst c7
        have H1 : (some 1) = some r := by first | (rw [if_pos rfl] at H; exact H) | rfl
        clear H; have H := H1; clear H1; obtain rfl := zKq H; go_wp2; go_ret; exact ⟨by first | rfl | (simp; done) | (simp [*]; done), by repeat (first | exact Drawn0.refl _ | apply Drawn0.step)⟩
      replace c7 := Bool.eq_false_iff.mpr c7; subst c7; have H1 : (if a0 ≥ 48 then (backhaulref01_Class.j1 kj1 a0 (decide (a0 ≤ 57))) else (backhaulref01_Class.j1 kj1 a0 false)) = some r := by first | (rw [if_neg (show ¬ (false = true) by decide)] at H; exact H) | rfl
      clear H; have H := H1; clear H1; have HC8 := zA H; clear H; go_upto_region 3 with (fail)
      go_cut [22] (fun v22 wc => ∃ (kq : Nat) (x22_7 : Bool), v22 = .bool x22_7 ∧ Aside0 (backhaulref01_Class.j1 kq a0 x22_7 = some r) ∧ Aside0 (kq ≤ kj1) ∧ Drawn0 w wc)
      case first =>
        have H := HC8.out; clear HC8; by_cases c9 : a0 ≥ 48
        · rw [if_pos c9] at H
          have c9b0 : decide (48 ≤ a0) = true := zFq c9; clear c9; (first | rw [c9b0] | (simp only [i64_w, i32_w]; rw [c9b0]) | skip)
          have H' := zA H; clear H; go_wp2; go_meet
          case rel => exact ⟨_, (decide (a0 ≤ 57)), (by first | rfl | (simp; done) | (simp [*]; done)), H', ⟨by have := HJ1.out; first | omega | exact Nat.le_refl _⟩, by repeat (first | exact Drawn0.refl _ | apply Drawn0.step)⟩
        rw [if_neg c9] at H; have c9b0 : decide (48 ≤ a0) = false := zGq c9; clear c9; (first | rw [c9b0] | (simp only [i64_w, i32_w]; rw [c9b0]) | skip)
        have H' := zA H; clear H; go_wp2; go_meet
        case rel => exact ⟨_, (false), (by first | rfl | (simp; done) | (simp [*]; done)), H', ⟨by have := HJ1.out; first | omega | exact Nat.le_refl _⟩, by repeat (first | exact Drawn0.refl _ | apply Drawn0.step)⟩
      case rest =>
        clear HC8; try clear c1
        try clear p2
        try clear c3
        try clear c3b0
        try clear c4
        try clear c4b0
        try clear c5
        try clear c5b0
        try clear c6
        try clear c6b0
        try clear c7
        try clear c9
        try clear c9b0
        try clear p2
        obtain ⟨kq, x22_7, rfl, HA, HJ7, ⟨mc7, rfl⟩⟩ := hcut; cases kq with
        | zero => exact absurd HA.out (by simp [backhaulref01_Class.j1])
        | succ kj7 =>
          have H := HA.out; clear HA; simp only [backhaulref01_Class.j1] at H; by_cases c10 : x22_7 = true
          · subst c10
            have H1 : (some 2) = some r := by first | (rw [if_pos rfl] at H; exact H) | rfl
            clear H; have H := H1; clear H1; obtain rfl := zKq H; go_wp2; go_ret; exact ⟨by first | rfl | (simp; done) | (simp [*]; done), by repeat (first | exact Drawn0.refl _ | apply Drawn0.step)⟩
          replace c10 := Bool.eq_false_iff.mpr c10; subst c10; have H1 : (if a0 = 45 then (some 3) else (some 0)) = some r := by first | (rw [if_neg (show ¬ (false = true) by decide)] at H; exact H) | rfl
          clear H; have H := H1; clear H1; by_cases c11 : a0 = 45
          · rw [if_pos c11] at H
            have c11b0 : (a0 == 45) = true := beq_iff_eq.mpr c11; have c11b1 : (a0 != 45) = false := bne_eq_false_iff_eq.mpr c11; clear c11; obtain rfl := zKq H; go_wp2; go_ret; exact ⟨by first | rfl | (simp; done) | (simp [*]; done), by repeat (first | exact Drawn0.refl _ | apply Drawn0.step)⟩
          rw [if_neg c11] at H; have c11b0 : (a0 == 45) = false := beq_eq_false_iff_ne.mpr c11; have c11b1 : (a0 != 45) = true := bne_iff_ne.mpr c11; obtain rfl := zKq H; go_wp2; go_ret; exact ⟨by first | rfl | (simp; done) | (simp [*]; done), by repeat (first | exact Drawn0.refl _ | apply Drawn0.step)⟩
mutual
def backhaulref01_Fold.j0 : Nat → ByteArray → Bool → Option (ByteArray × Int)
  | 0, _, _ => none
  | k + 1, x0, x27 => if x27 = true then (some ((⟨#[]⟩ : ByteArray), 9)) else (backhaulref01_Fold.l0 k x0 ([] : List Int) 0)
def backhaulref01_Fold.l0 : Nat → ByteArray → List Int → Int → Option (ByteArray × Int)
  | 0, _, _, _ => none
  | k + 1, x0, x4, x5 => if x5 < (x0.size : Int) then (if 0 ≤ x5 then ((backhaulref01_Class.f k (wrap32 (bt x0 x5))).bind fun t101 => (if t101 = 0 then (backhaulref01_Fold.j2 k x0 x4 x5 (bt x0 x5) true) else (if (bt x0 x5) = 45 then (if 0 ≤ (wrap64 (x5 - 1)) then (if (wrap64 (x5 - 1)) < (x0.size : Int) then (backhaulref01_Fold.j2 k x0 x4 x5 (bt x0 x5) ((bt x0 (wrap64 (x5 - 1))) == 45)) else (none)) else (none)) else (backhaulref01_Fold.j2 k x0 x4 x5 (bt x0 x5) false)))) else (none)) else (some (strOfNums x4, 0))
def backhaulref01_Fold.j2 : Nat → ByteArray → List Int → Int → Int → Bool → Option (ByteArray × Int)
  | 0, _, _, _, _, _ => none
  | k + 1, x0, x4, x5, x6, x51 => if x51 = true then (some ((⟨#[]⟩ : ByteArray), 9)) else (if x6 ≥ 97 then (if x6 ≤ 122 then (if x4.length < 140737488355328 then (backhaulref01_Fold.l0 k x0 (x4 ++ [(x6 - 32) % 256]) (wrap64 (x5 + 1))) else (none)) else (if x4.length < 140737488355328 then (backhaulref01_Fold.l0 k x0 (x4 ++ [x6]) (wrap64 (x5 + 1))) else (none))) else (if x4.length < 140737488355328 then (backhaulref01_Fold.l0 k x0 (x4 ++ [x6]) (wrap64 (x5 + 1))) else (none)))
end
def backhaulref01_Fold.f (k : Nat) (a0 : ByteArray) : Option (ByteArray × Int) := if (a0.size : Int) = 0 then (backhaulref01_Fold.j0 k a0 true) else (if (a0.size : Int) > 16 then (backhaulref01_Fold.j0 k a0 true) else (if 0 < (a0.size : Int) then (if (bt a0 0) = 45 then (backhaulref01_Fold.j0 k a0 true) else (if 0 ≤ (wrap64 ((a0.size : Int) - 1)) then (if (wrap64 ((a0.size : Int) - 1)) < (a0.size : Int) then (backhaulref01_Fold.j0 k a0 ((bt a0 (wrap64 ((a0.size : Int) - 1))) == 45)) else (none)) else (none))) else (none)))
theorem backhaulref01_Fold.mono_l : ∀ k, (∀ y0 y1, LeO (backhaulref01_Fold.j0 k y0 y1) (backhaulref01_Fold.j0 (k + 1) y0 y1)) ∧ (∀ y0 y1 y2, LeO (backhaulref01_Fold.l0 k y0 y1 y2) (backhaulref01_Fold.l0 (k + 1) y0 y1 y2)) ∧ (∀ y0 y1 y2 y3 y4, LeO (backhaulref01_Fold.j2 k y0 y1 y2 y3 y4) (backhaulref01_Fold.j2 (k + 1) y0 y1 y2 y3 y4))
  | 0 => ⟨fun _ _ r h => by simp [backhaulref01_Fold.j0] at h, fun _ _ _ r h => by simp [backhaulref01_Fold.l0] at h, fun _ _ _ _ _ r h => by simp [backhaulref01_Fold.j2] at h⟩
  | k + 1 => by
    obtain ⟨ih0, ih1, ih2⟩ := backhaulref01_Fold.mono_l k
    refine ⟨?_, ?_, ?_⟩
    · intro y0 y1
      unfold backhaulref01_Fold.j0
      repeat' (with_reducible first | exact ih0 _ _ | exact ih1 _ _ _ | exact ih2 _ _ _ _ _ | exact backhaulref01_Class.mono _ _ | exact LeO.refl _ | exact LeO.none _ | refine LeO.ite ?_ ?_ | refine LeO.bind ?_ (fun _ => ?_))
    · intro y0 y1 y2
      unfold backhaulref01_Fold.l0
      repeat' (with_reducible first | exact ih0 _ _ | exact ih1 _ _ _ | exact ih2 _ _ _ _ _ | exact backhaulref01_Class.mono _ _ | exact LeO.refl _ | exact LeO.none _ | refine LeO.ite ?_ ?_ | refine LeO.bind ?_ (fun _ => ?_))
    intro y0 y1 y2 y3 y4
    unfold backhaulref01_Fold.j2
    repeat' (with_reducible first | exact ih0 _ _ | exact ih1 _ _ _ | exact ih2 _ _ _ _ _ | exact backhaulref01_Class.mono _ _ | exact LeO.refl _ | exact LeO.none _ | refine LeO.ite ?_ ?_ | refine LeO.bind ?_ (fun _ => ?_))
theorem backhaulref01_Fold.mono : ∀ a0 k, LeO (backhaulref01_Fold.f k a0) (backhaulref01_Fold.f (k + 1) a0) := by
  intro a0 k
  obtain ⟨ih0, ih1, ih2⟩ := backhaulref01_Fold.mono_l k
  unfold backhaulref01_Fold.f
  repeat' (with_reducible first | exact ih0 _ _ | exact ih1 _ _ _ | exact ih2 _ _ _ _ _ | exact backhaulref01_Class.mono _ _ | exact LeO.refl _ | exact LeO.none _ | refine LeO.ite ?_ ?_ | refine LeO.bind ?_ (fun _ => ?_))
set_option maxHeartbeats 8000000 in
set_option maxRecDepth 100000 in
theorem backhaulref01_Fold.calls (k : Nat) (a0 : ByteArray) (r1 : ByteArray) (r2 : Int) (w : World) (h : backhaulref01_Fold.f k a0 = some (r1, r2)) :
    Calls Try.prog 151 #[.string a0] w fun e w' => e = .returned (.tuple #[.string r1, .int .i64 r2]) ∧ Below w.heap.size w w' := by
  have HB := zA (Below.refl w.heap.size w)
  have H : (if (a0.size : Int) = 0 then (backhaulref01_Fold.j0 k a0 true) else (if (a0.size : Int) > 16 then (backhaulref01_Fold.j0 k a0 true) else (if 0 < (a0.size : Int) then (if (bt a0 0) = 45 then (backhaulref01_Fold.j0 k a0 true) else (if 0 ≤ (wrap64 ((a0.size : Int) - 1)) then (if (wrap64 ((a0.size : Int) - 1)) < (a0.size : Int) then (backhaulref01_Fold.j0 k a0 ((bt a0 (wrap64 ((a0.size : Int) - 1))) == 45)) else (none)) else (none))) else (none)))) = some (r1, r2) := h
  clear h
  have HC2 := zA H
  clear H
  go_enter Try.func151, Try.ntmps151
  go_upto_region 1 with (fail)
  go_cut [27] (fun v27 wc => ∃ (kq : Nat) (x27_1 : Bool), v27 = .bool x27_1 ∧ Aside0 (backhaulref01_Fold.j0 kq a0 x27_1 = some (r1, r2)) ∧ Aside0 (kq ≤ k) ∧ Aside0 (Below w.heap.size w wc))
  case first =>
    have H := HC2.out; clear HC2; by_cases c3 : (a0.size : Int) = 0
    · rw [if_pos c3] at H
      have c3b0 : ((a0.size : Int) == 0) = true := beq_iff_eq.mpr c3; have c3b1 : ((a0.size : Int) != 0) = false := bne_eq_false_iff_eq.mpr c3; clear c3; (first | rw [c3b0] | (simp only [i64_w, i32_w]; rw [c3b0]) | skip)
      have H' := zA H; clear H; go_wp2; go_meet
      case rel => exact ⟨_, (true), (by first | rfl | (simp; done) | (simp [*]; done)), H', ⟨by first | omega | exact Nat.le_refl _⟩, ⟨qB⟩⟩
    rw [if_neg c3] at H; have c3b0 : ((a0.size : Int) == 0) = false := beq_eq_false_iff_ne.mpr c3; have c3b1 : ((a0.size : Int) != 0) = true := bne_iff_ne.mpr c3; (first | rw [c3b0] | (simp only [i64_w, i32_w]; rw [c3b0]) | skip)
    by_cases c4 : (a0.size : Int) > 16
    · rw [if_pos c4] at H
      have c4b0 : decide (16 < (a0.size : Int)) = true := zFq c4; have c4b1 : decide (16 < a0.size) = true := zFq (by omega); clear c4; have H' := zA H; clear H; go_wp2; go_meet
      case rel => exact ⟨_, (true), (by first | rfl | (simp; done) | (simp [*]; done)), H', ⟨by first | omega | exact Nat.le_refl _⟩, ⟨qB⟩⟩
    rw [if_neg c4] at H; have c4b0 : decide (16 < (a0.size : Int)) = false := zGq c4; have c4b1 : decide (16 < a0.size) = false := zGq (by omega); clear c4; by_cases c5 : 0 < (a0.size : Int)
    · rw [if_pos c5] at H
      have c5b0 : decide (0 < (a0.size : Int)) = true := zFq c5; have c5b1 : decide (0 < a0.size) = true := zFq (by omega); clear c5; by_cases c7 : (bt a0 0) = 45
      · rw [if_pos c7] at H
        have c7b0 : ((bt a0 0) == 45) = true := beq_iff_eq.mpr c7; have c7b1 : ((bt a0 0) != 45) = false := bne_eq_false_iff_eq.mpr c7; clear c7; have H' := zA H; clear H; have p6 : 0 ≤ (0 : Int) := (by omega)
        have q6 : 0 < a0.size := (by have : (0 : Int) < (a0.size : Int) := of_decide_eq_true qA; omega)
        have hx6 : ∀ h : 0 < a0.size, ((a0[0]'h).toNat : Int) = bt a0 0 := bt_at a0 0; clear p6; have qi6 : (0 < (a0.size : Int)) = True := eq_true (of_decide_eq_true qA); replace q6 := eq_true q6; go_wp2; go_meet
        case rel => exact ⟨_, (true), (by first | rfl | (simp; done) | (simp [*]; done)), H', ⟨by first | omega | exact Nat.le_refl _⟩, ⟨qB⟩⟩
      rw [if_neg c7] at H; have c7b0 : ((bt a0 0) == 45) = false := beq_eq_false_iff_ne.mpr c7; have c7b1 : ((bt a0 0) != 45) = true := bne_iff_ne.mpr c7; obtain ⟨ji8, hji8⟩ : ∃ j_ : Int, (wrap64 ((a0.size : Int) - 1)) = j_ := ⟨_, rfl⟩
      replace H : (if 0 ≤ (ji8) then (if (ji8) < (a0.size : Int) then (backhaulref01_Fold.j0 k a0 ((bt a0 (ji8)) == 45)) else (none)) else (none)) = some (r1, r2) := by first | (rw [hji8] at H; exact H) | (simp only [hji8] at H ⊢; exact H)
      have hji8w : (IntKind.i64.wrap ((a0.size : Int) - 1)) = ji8 := (i64_w _).trans hji8; by_cases c9 : 0 ≤ (ji8)
      · rw [if_pos c9] at H
        have c9b0 : decide (0 ≤ (ji8)) = true := zFq c9; clear c9; by_cases c10 : (ji8) < (a0.size : Int)
        · rw [if_pos c10] at H
          have c10b0 : decide ((ji8) < (a0.size : Int)) = true := zFq c10; clear c10; have H' := zA H; clear H; have p6 : 0 ≤ (0 : Int) := (by omega)
          have q6 : 0 < a0.size := (by have : (0 : Int) < (a0.size : Int) := of_decide_eq_true qA; omega)
          have hx6 : ∀ h : 0 < a0.size, ((a0[0]'h).toNat : Int) = bt a0 0 := bt_at a0 0; clear p6; have qi6 : (0 < (a0.size : Int)) = True := eq_true (of_decide_eq_true qA); replace q6 := eq_true q6; have p11 : 0 ≤ ((ji8) : Int) := of_decide_eq_true qA; have q11 : (ji8) < (a0.size : Int) := of_decide_eq_true qA; have hx11 := bt_at a0 (ji8); replace p11 := eq_true p11; replace q11 := eq_true q11; go_wp2; go_meet
          case rel => exact ⟨_, (((bt a0 (ji8)) == 45)), (by first | rfl | (simp; done) | (simp only [← hji8] <;> (first | rfl | simp)) | (simp [*]; done)), H', ⟨by first | omega | exact Nat.le_refl _⟩, ⟨qB⟩⟩
        rw [if_neg c10] at H; exact absurd H (by simp)
      rw [if_neg c9] at H; exact absurd H (by simp)
    rw [if_neg c5] at H; exact absurd H (by simp)
  case rest =>
    clear HC2; try clear c1
    try clear p1
    try clear q1
    try clear hx1
    try clear p2
    try clear c3
    try clear c3b0
    try clear c3b1
    try clear c4
    try clear c4b0
    try clear c4b1
    try clear c5
    try clear c5b0
    try clear c5b1
    try clear p6
    try clear q6
    try clear hx6
    try clear qi6
    try clear c7
    try clear c7b0
    try clear c7b1
    try clear c9
    try clear c9b0
    try clear c10
    try clear c10b0
    try clear p11
    try clear q11
    try clear hx11
    try clear p11
    try clear p6
    try clear q11
    try clear q6
    obtain ⟨kq, x27_1, rfl, HA, HJ1, HB⟩ := hcut; cases kq with
    | zero => exact absurd HA.out (by simp [backhaulref01_Fold.j0])
    | succ kj1 =>
      have H := HA.out; clear HA; simp only [backhaulref01_Fold.j0] at H; by_cases c12 : x27_1 = true
      · subst c12
        have H1 : (some ((⟨#[]⟩ : ByteArray), 9)) = some (r1, r2) := by first | (rw [if_pos rfl] at H; exact H) | rfl
        clear H; have H := H1; clear H1; simp only [zNq, zOq] at H; obtain ⟨rfl, rfl⟩ := H; go_wp2; go_ret2; exact ⟨qE, qB⟩
      replace c12 := Bool.eq_false_iff.mpr c12; subst c12; have H1 : (backhaulref01_Fold.l0 kj1 a0 ([] : List Int) 0) = some (r1, r2) := by first | (rw [if_neg (show ¬ (false = true) by decide)] at H; exact H) | rfl
      clear H; have H := H1; clear H1; have H' := zA H; clear H; go_wp2; go_loopg [4, 5] kj1 (fun kq v4 v5 w' => ∃ (x4_2 : List Int) (x5_2 : Int), v5 = .int .i64 x5_2 ∧ Aside0 (backhaulref01_Fold.l0 kq a0 x4_2 x5_2 = some (r1, r2)) ∧ Aside0 (kq ≤ kj1) ∧ Aside0 (Kd.R (Kd.int .u8) 5 w' w.heap.size (fun _ => True) v4 x4_2) ∧ Aside0 (Below w.heap.size w w'))
      case atStart => exact ⟨(([] : List Int)), (0), (by first | rfl | (simp; done) | (simp [*]; done)), H', ⟨Nat.le_refl _⟩, ⟨qN⟩, ⟨qB⟩⟩
      case round =>
        clear H'; try clear c1
        try clear p1
        try clear q1
        try clear hx1
        try clear p2
        try clear c3
        try clear c3b0
        try clear c3b1
        try clear c4
        try clear c4b0
        try clear c4b1
        try clear c5
        try clear c5b0
        try clear c5b1
        try clear p6
        try clear q6
        try clear hx6
        try clear qi6
        try clear c7
        try clear c7b0
        try clear c7b1
        try clear c9
        try clear c9b0
        try clear c10
        try clear c10b0
        try clear p11
        try clear q11
        try clear hx11
        try clear c12
        try clear p1
        try clear p11
        try clear p2
        try clear p6
        try clear q1
        try clear q11
        try clear q6
        obtain ⟨x4_2, x5_2, rfl, HA, HK2, HO_4, HB⟩ := hrel; cases gk with
        | zero => exact absurd HA.out (by simp [backhaulref01_Fold.l0])
        | succ k2 =>
          have H := HA.out; clear HA; simp only [backhaulref01_Fold.l0] at H; by_cases c13 : x5_2 < (a0.size : Int)
          · rw [if_pos c13] at H
            have c13b0 : decide (x5_2 < (a0.size : Int)) = true := zFq c13; clear c13; by_cases c14 : 0 ≤ x5_2
            · rw [if_pos c14] at H
              have c14b0 : decide (0 ≤ x5_2) = true := zFq c14; clear c14; have HC16 := zA H; clear H; have p15 : 0 ≤ (x5_2 : Int) := of_decide_eq_true qA; have q15 : x5_2 < (a0.size : Int) := of_decide_eq_true qA; have hx15 := bt_at a0 x5_2; replace p15 := eq_true p15; replace q15 := eq_true q15; go_upto_region 8 with (fail)
              go_cut [51] (fun v51 wc => ∃ (kq : Nat) (x51_15 : Bool), v51 = .bool x51_15 ∧ Aside0 (backhaulref01_Fold.j2 kq a0 x4_2 x5_2 (bt a0 x5_2) x51_15 = some (r1, r2)) ∧ Aside0 (kq ≤ k2) ∧ Aside0 (Kd.R (Kd.int .u8) 5 wc w.heap.size (fun _ => True) u4 x4_2) ∧ Aside0 (Below w.heap.size w wc))
              case first =>
                have H := HC16.out; clear HC16; replace H := Option.bind_eq_some_iff.mp H; obtain ⟨t101, A170, H⟩ := H; try dsimp only at H
                have A17 := zA A170; clear A170; by_cases c18 : t101 = 0
                · rw [if_pos c18] at H
                  have c18b0 : (t101 == 0) = true := beq_iff_eq.mpr c18; have c18b1 : (t101 != 0) = false := bne_eq_false_iff_eq.mpr c18; clear c18; (first | rw [c18b0] | (simp only [i64_w, i32_w]; rw [c18b0]) | skip)
                  have H' := zA H; clear H; go_wp2_with (first | ((with_reducible refine zJq (f := 161) rfl ?_); refine goesL_ (some 39) rfl rfl Try.func161 (by kernel_rfl) rfl #[.int .i32 (wrap32 (bt a0 x5_2))] rfl qG ?_; (with_reducible refine (backhaulref01_Class.calls k2 (wrap32 (bt a0 x5_2)) t101 _ A17.out).mono ?_); rintro e w' ⟨rfl, ⟨nd, rfl⟩⟩; refine ⟨_, rfl, ?_⟩)); go_meet
                  case rel => exact ⟨_, (true), (by first | rfl | (simp; done) | (simp [*]; done)), H', ⟨by have := HJ1.out; have := HK2.out; first | omega | exact Nat.le_refl _⟩, ⟨by (with_reducible repeat (first | apply Kd.R_alloc | apply Kd.R_drewN | apply Kd.R_drew)); exact HO_4.out⟩, ⟨qB⟩⟩
                rw [if_neg c18] at H; have c18b0 : (t101 == 0) = false := beq_eq_false_iff_ne.mpr c18; have c18b1 : (t101 != 0) = true := bne_iff_ne.mpr c18; (first | rw [c18b0] | (simp only [i64_w, i32_w]; rw [c18b0]) | skip)
                by_cases c19 : (bt a0 x5_2) = 45
                · rw [if_pos c19] at H
                  have c19b0 : ((bt a0 x5_2) == 45) = true := beq_iff_eq.mpr c19; have c19b1 : ((bt a0 x5_2) != 45) = false := bne_eq_false_iff_eq.mpr c19; clear c19; obtain ⟨ji20, hji20⟩ : ∃ j_ : Int, (wrap64 (x5_2 - 1)) = j_ := ⟨_, rfl⟩
                  replace H : (if 0 ≤ (ji20) then (if (ji20) < (a0.size : Int) then (backhaulref01_Fold.j2 k2 a0 x4_2 x5_2 (bt a0 x5_2) ((bt a0 (ji20)) == 45)) else (none)) else (none)) = some (r1, r2) := by first | (rw [hji20] at H; exact H) | (simp only [hji20] at H ⊢; exact H)
                  (try rw [hji20] at A17)
                  have hji20w : (IntKind.i64.wrap (x5_2 - 1)) = ji20 := (i64_w _).trans hji20; by_cases c21 : 0 ≤ (ji20)
                  · rw [if_pos c21] at H
                    have c21b0 : decide (0 ≤ (ji20)) = true := zFq c21; clear c21; by_cases c22 : (ji20) < (a0.size : Int)
                    · rw [if_pos c22] at H
                      have c22b0 : decide ((ji20) < (a0.size : Int)) = true := zFq c22; clear c22; have H' := zA H; clear H; go_wp2_with (first | ((with_reducible refine zJq (f := 161) rfl ?_); refine goesL_ (some 39) rfl rfl Try.func161 (by kernel_rfl) rfl #[.int .i32 (wrap32 (bt a0 x5_2))] rfl qG ?_; (with_reducible refine (backhaulref01_Class.calls k2 (wrap32 (bt a0 x5_2)) t101 _ A17.out).mono ?_); rintro e w' ⟨rfl, ⟨nd, rfl⟩⟩; refine ⟨_, rfl, ?_⟩; have p23 : 0 ≤ ((ji20) : Int) := of_decide_eq_true qA; have q23 : (ji20) < (a0.size : Int) := of_decide_eq_true qA; have hx23 := bt_at a0 (ji20); replace p23 := eq_true p23; replace q23 := eq_true q23)); go_meet
                      case rel => exact ⟨_, (((bt a0 (ji20)) == 45)), (by first | rfl | (simp; done) | (simp only [← hji20] <;> (first | rfl | simp)) | (simp [*]; done)), H', ⟨by have := HJ1.out; have := HK2.out; first | omega | exact Nat.le_refl _⟩, ⟨by (with_reducible repeat (first | apply Kd.R_alloc | apply Kd.R_drewN | apply Kd.R_drew)); exact HO_4.out⟩, ⟨qB⟩⟩
                    rw [if_neg c22] at H; exact absurd H (by simp)
                  rw [if_neg c21] at H; exact absurd H (by simp)
                rw [if_neg c19] at H; have c19b0 : ((bt a0 x5_2) == 45) = false := beq_eq_false_iff_ne.mpr c19; have c19b1 : ((bt a0 x5_2) != 45) = true := bne_iff_ne.mpr c19; have H' := zA H; clear H; go_wp2_with (first | ((with_reducible refine zJq (f := 161) rfl ?_); refine goesL_ (some 39) rfl rfl Try.func161 (by kernel_rfl) rfl #[.int .i32 (wrap32 (bt a0 x5_2))] rfl qG ?_; (with_reducible refine (backhaulref01_Class.calls k2 (wrap32 (bt a0 x5_2)) t101 _ A17.out).mono ?_); rintro e w' ⟨rfl, ⟨nd, rfl⟩⟩; refine ⟨_, rfl, ?_⟩)); go_meet
                case rel => exact ⟨_, (false), (by first | rfl | (simp; done) | (simp [*]; done)), H', ⟨by have := HJ1.out; have := HK2.out; first | omega | exact Nat.le_refl _⟩, ⟨by (with_reducible repeat (first | apply Kd.R_alloc | apply Kd.R_drewN | apply Kd.R_drew)); exact HO_4.out⟩, ⟨qB⟩⟩
              case rest =>
                clear HC16; try clear c1
                try clear p1
                try clear q1
                try clear hx1
                try clear c2
                try clear p2
                try clear q2
                try clear hx2
                try clear c3
                try clear c3b0
                try clear c3b1
                try clear p3
                try clear c4
                try clear c4b0
                try clear c4b1
                try clear c5
                try clear c5b0
                try clear c5b1
                try clear p6
                try clear q6
                try clear hx6
                try clear qi6
                try clear c7
                try clear c7b0
                try clear c7b1
                try clear c9
                try clear c9b0
                try clear c10
                try clear c10b0
                try clear p11
                try clear q11
                try clear hx11
                try clear c12
                try clear c13
                try clear c13b0
                try clear c14
                try clear c14b0
                try clear c15
                try clear p15
                try clear q15
                try clear hx15
                try clear c16
                try clear c18
                try clear c18b0
                try clear c18b1
                try clear c19
                try clear c19b0
                try clear c19b1
                try clear c21
                try clear c21b0
                try clear c22
                try clear c22b0
                try clear p23
                try clear q23
                try clear hx23
                try clear p1
                try clear p11
                try clear p15
                try clear p2
                try clear p23
                try clear p6
                try clear q1
                try clear q11
                try clear q15
                try clear q23
                try clear q6
                obtain ⟨kq, x51_15, rfl, HA, HJ15, HO_4, HB⟩ := hcut; cases kq with
                | zero => exact absurd HA.out (by simp [backhaulref01_Fold.j2])
                | succ kj15 =>
                  have H := HA.out; clear HA; simp only [backhaulref01_Fold.j2] at H; by_cases c24 : x51_15 = true
                  · subst c24
                    have H1 : (some ((⟨#[]⟩ : ByteArray), 9)) = some (r1, r2) := by first | (rw [if_pos rfl] at H; exact H) | rfl
                    clear H; have H := H1; clear H1; simp only [zNq, zOq] at H; obtain ⟨rfl, rfl⟩ := H; go_wp2; go_ret2; exact ⟨qE, qB⟩
                  replace c24 := Bool.eq_false_iff.mpr c24; subst c24; have H1 : (if (bt a0 x5_2) ≥ 97 then (if (bt a0 x5_2) ≤ 122 then (if x4_2.length < 140737488355328 then (backhaulref01_Fold.l0 kj15 a0 (x4_2 ++ [((bt a0 x5_2) - 32) % 256]) (wrap64 (x5_2 + 1))) else (none)) else (if x4_2.length < 140737488355328 then (backhaulref01_Fold.l0 kj15 a0 (x4_2 ++ [(bt a0 x5_2)]) (wrap64 (x5_2 + 1))) else (none))) else (if x4_2.length < 140737488355328 then (backhaulref01_Fold.l0 kj15 a0 (x4_2 ++ [(bt a0 x5_2)]) (wrap64 (x5_2 + 1))) else (none))) = some (r1, r2) := by first | (rw [if_neg (show ¬ (false = true) by decide)] at H; exact H) | rfl
                  clear H; have H := H1; clear H1; by_cases c25 : (bt a0 x5_2) ≥ 97
                  · rw [if_pos c25] at H
                    have c25b0 : decide (97 ≤ (bt a0 x5_2)) = true := zFq c25; clear c25; by_cases c26 : (bt a0 x5_2) ≤ 122
                    · rw [if_pos c26] at H
                      have c26b0 : decide ((bt a0 x5_2) ≤ 122) = true := zFq c26; clear c26; by_cases c27 : x4_2.length < 140737488355328
                      · rw [if_pos c27] at H
                        have LMc27 := zA c27; clear c27; obtain ⟨y102, hy102⟩ : ∃ y_ : List Int, y_ = (x4_2 ++ [((bt a0 x5_2) - 32) % 256]) := ⟨_, rfl⟩
                        replace H : (backhaulref01_Fold.l0 kj15 a0 y102 (wrap64 (x5_2 + 1))) = some (r1, r2) := by first | (rw [hy102]; with_reducible exact H) | (have H2_ := (Option.bind_some _ _).symm.trans H; rw [hy102]; with_reducible exact H2_) | (have H2_ := (Option.bind_some _ _).symm.trans H; with_reducible exact H2_) | with_reducible exact H | (rw [hy102]; exact H) | exact H
                        have Ny102 := zA hy102; clear hy102; have H' := zA H; clear H; go_wp2_with (first | ((with_reducible refine gate_builtin (b := .append) (xs := #[.tmp 60, .tmp 62]) rfl ?_); (try (refine gate_guard (by rfl) ?_; dsimp only)); at_builtin; refine Kd.R_append (Kd.int .u8) (w0 := w) w.heap.size rfl (.tmp 60) (.tmp 62) 179 5 (.int .u8 0) 1 rfl Try.underlying179 info5 rfl (by decide) (by omega) u4 x4_2 (((bt a0 x5_2) - 32) % 256) [.int .u8 (((bt a0 x5_2) - 32) % 256)] (fun _ => True) (fun _ => False) rfl rfl ?aP (fun _ hk => hk.elim) ?aF ?aO ?aB ?aS ?aL ?_; (case aP => exact rfl); (case aB => exact qB); (case aF => exact (fun _ _ => trivial)); (case aO => exact (by (with_reducible repeat (first | apply Kd.R_alloc | apply Kd.R_drewN | apply Kd.R_drew)); exact HO_4.out)); (case aS => exact (zW qB)); (case aL => have := LMc27.out; omega); intro v103 w28 ho hb hg hat; rw [← Ny102.out] at ho; have n0_ := zA (hb); have n1_ := zA (ho); clear HB HO_4; have HB := n0_; have HO104 := n1_; clear n0_ n1_ ho hb hg hat)); go_roundg kj15
                        case measure => have := HJ1.out; have := HK2.out; have := HJ15.out; omega
                        case rel => exact ⟨(y102), (wrap64 (x5_2 + 1)), (by first | rfl | (simp; done) | (simp [*]; done)), H', ⟨by have := HJ1.out; have := HK2.out; have := HJ15.out; omega⟩, ⟨by (with_reducible repeat (first | apply Kd.R_alloc | apply Kd.R_drewN | apply Kd.R_drew)); exact HO104.out⟩, ⟨qB⟩⟩
                      rw [if_neg c27] at H; exact absurd H (by simp)
                    rw [if_neg c26] at H; have c26b0 : decide ((bt a0 x5_2) ≤ 122) = false := zGq c26; clear c26; by_cases c29 : x4_2.length < 140737488355328
                    · rw [if_pos c29] at H
                      have LMc29 := zA c29; clear c29; obtain ⟨y105, hy105⟩ : ∃ y_ : List Int, y_ = (x4_2 ++ [(bt a0 x5_2)]) := ⟨_, rfl⟩
                      replace H : (backhaulref01_Fold.l0 kj15 a0 y105 (wrap64 (x5_2 + 1))) = some (r1, r2) := by first | (rw [hy105]; with_reducible exact H) | (have H2_ := (Option.bind_some _ _).symm.trans H; rw [hy105]; with_reducible exact H2_) | (have H2_ := (Option.bind_some _ _).symm.trans H; with_reducible exact H2_) | with_reducible exact H | (rw [hy105]; exact H) | exact H
                      have Ny105 := zA hy105; clear hy105; have H' := zA H; clear H; go_wp2_with (first | ((with_reducible refine gate_builtin (b := .append) (xs := #[.tmp 60, .tmp 62]) rfl ?_); (try (refine gate_guard (by rfl) ?_; dsimp only)); at_builtin; refine Kd.R_append (Kd.int .u8) (w0 := w) w.heap.size rfl (.tmp 60) (.tmp 62) 179 5 (.int .u8 0) 1 rfl Try.underlying179 info5 rfl (by decide) (by omega) u4 x4_2 (bt a0 x5_2) [.int .u8 (bt a0 x5_2)] (fun _ => True) (fun _ => False) rfl rfl ?aP (fun _ hk => hk.elim) ?aF ?aO ?aB ?aS ?aL ?_; (case aP => exact rfl); (case aB => exact qB); (case aF => exact (fun _ _ => trivial)); (case aO => exact (by (with_reducible repeat (first | apply Kd.R_alloc | apply Kd.R_drewN | apply Kd.R_drew)); exact HO_4.out)); (case aS => exact (zW qB)); (case aL => have := LMc29.out; omega); intro v106 w30 ho hb hg hat; rw [← Ny105.out] at ho; have n0_ := zA (hb); have n1_ := zA (ho); clear HB HO_4; have HB := n0_; have HO107 := n1_; clear n0_ n1_ ho hb hg hat)); go_roundg kj15
                      case measure => have := HJ1.out; have := HK2.out; have := HJ15.out; omega
                      case rel => exact ⟨(y105), (wrap64 (x5_2 + 1)), (by first | rfl | (simp; done) | (simp [*]; done)), H', ⟨by have := HJ1.out; have := HK2.out; have := HJ15.out; omega⟩, ⟨by (with_reducible repeat (first | apply Kd.R_alloc | apply Kd.R_drewN | apply Kd.R_drew)); exact HO107.out⟩, ⟨qB⟩⟩
                    rw [if_neg c29] at H; exact absurd H (by simp)
                  rw [if_neg c25] at H; have c25b0 : decide (97 ≤ (bt a0 x5_2)) = false := zGq c25; clear c25; by_cases c31 : x4_2.length < 140737488355328
                  · rw [if_pos c31] at H
                    have LMc31 := zA c31; clear c31; obtain ⟨y108, hy108⟩ : ∃ y_ : List Int, y_ = (x4_2 ++ [(bt a0 x5_2)]) := ⟨_, rfl⟩
                    replace H : (backhaulref01_Fold.l0 kj15 a0 y108 (wrap64 (x5_2 + 1))) = some (r1, r2) := by first | (rw [hy108]; with_reducible exact H) | (have H2_ := (Option.bind_some _ _).symm.trans H; rw [hy108]; with_reducible exact H2_) | (have H2_ := (Option.bind_some _ _).symm.trans H; with_reducible exact H2_) | with_reducible exact H | (rw [hy108]; exact H) | exact H
                    have Ny108 := zA hy108; clear hy108; have H' := zA H; clear H; go_wp2_with (first | ((with_reducible refine gate_builtin (b := .append) (xs := #[.tmp 60, .tmp 62]) rfl ?_); (try (refine gate_guard (by rfl) ?_; dsimp only)); at_builtin; refine Kd.R_append (Kd.int .u8) (w0 := w) w.heap.size rfl (.tmp 60) (.tmp 62) 179 5 (.int .u8 0) 1 rfl Try.underlying179 info5 rfl (by decide) (by omega) u4 x4_2 (bt a0 x5_2) [.int .u8 (bt a0 x5_2)] (fun _ => True) (fun _ => False) rfl rfl ?aP (fun _ hk => hk.elim) ?aF ?aO ?aB ?aS ?aL ?_; (case aP => exact rfl); (case aB => exact qB); (case aF => exact (fun _ _ => trivial)); (case aO => exact (by (with_reducible repeat (first | apply Kd.R_alloc | apply Kd.R_drewN | apply Kd.R_drew)); exact HO_4.out)); (case aS => exact (zW qB)); (case aL => have := LMc31.out; omega); intro v109 w32 ho hb hg hat; rw [← Ny108.out] at ho; have n0_ := zA (hb); have n1_ := zA (ho); clear HB HO_4; have HB := n0_; have HO110 := n1_; clear n0_ n1_ ho hb hg hat)); go_roundg kj15
                    case measure => have := HJ1.out; have := HK2.out; have := HJ15.out; omega
                    case rel => exact ⟨(y108), (wrap64 (x5_2 + 1)), (by first | rfl | (simp; done) | (simp [*]; done)), H', ⟨by have := HJ1.out; have := HK2.out; have := HJ15.out; omega⟩, ⟨by (with_reducible repeat (first | apply Kd.R_alloc | apply Kd.R_drewN | apply Kd.R_drew)); exact HO110.out⟩, ⟨qB⟩⟩
                  rw [if_neg c31] at H; exact absurd H (by simp)
            rw [if_neg c14] at H; exact absurd H (by simp)
          rw [if_neg c13] at H; have c13b0 : decide (x5_2 < (a0.size : Int)) = false := zGq c13; clear c13; simp only [zNq, zOq] at H; obtain ⟨rfl, rfl⟩ := H; have hcv33 := own_string (P := Try.prog) Try.underlying179 Try.underlying5 Try.underlying9 (Kd.own_of_R HO_4.out); go_wp2; go_ret2; exact ⟨qE, qB⟩
def backhaulref01_Check.f (k : Nat) (a0 : ByteArray) : Option (Int) := (backhaulref01_Fold.f k a0).bind fun bt101 => (if bt101.2 = 0 then (if bt101.1.toList = a0.toList then (some 0) else (some 9)) else (some 9))
theorem backhaulref01_Check.mono : ∀ a0 k, LeO (backhaulref01_Check.f k a0) (backhaulref01_Check.f (k + 1) a0) := by
  intro a0 k
  unfold backhaulref01_Check.f
  repeat' (with_reducible first | exact backhaulref01_Fold.mono _ _ | exact LeO.refl _ | exact LeO.none _ | refine LeO.ite ?_ ?_ | refine LeO.bind ?_ (fun _ => ?_))
set_option maxHeartbeats 8000000 in
set_option maxRecDepth 100000 in
theorem backhaulref01_Check.calls (k : Nat) (a0 : ByteArray) (r : Int) (w : World) (h : backhaulref01_Check.f k a0 = some r) :
    Calls Try.prog 143 #[.string a0] w fun e w' => e = .returned (.int .i64 r) ∧ Below w.heap.size w w' := by
  have HB := zA (Below.refl w.heap.size w)
  have H : ((backhaulref01_Fold.f k a0).bind fun bt101 => (if bt101.2 = 0 then (if bt101.1.toList = a0.toList then (some 0) else (some 9)) else (some 9))) = some r := h
  clear h
  replace H := Option.bind_eq_some_iff.mp H
  obtain ⟨⟨t101, t102⟩, A20, H⟩ := H
  try dsimp only at H
  have A2 := zA A20
  clear A20
  by_cases c3 : t102 = 0
  · rw [if_pos c3] at H
    have c3b0 : (t102 == 0) = true := beq_iff_eq.mpr c3; have c3b1 : (t102 != 0) = false := bne_eq_false_iff_eq.mpr c3; clear c3; by_cases c4 : t101.toList = a0.toList
    · rw [if_pos c4] at H
      have c4b0 : (t101.toList == a0.toList) = true := beq_iff_eq.mpr c4; have c4b1 : (t101.toList != a0.toList) = false := bne_eq_false_iff_eq.mpr c4; clear c4; obtain rfl := zKq H; go_enter Try.func143, Try.ntmps143; go_wp2_with (first | ((with_reducible refine zJq (f := 151) rfl ?_); refine goesL_ (some 7) rfl rfl Try.func151 (by kernel_rfl) rfl #[.string a0] rfl qG ?_; (with_reducible refine (backhaulref01_Fold.calls k a0 t101 t102 _ A2.out).mono ?_); rintro e w5 ⟨rfl, hb⟩; refine ⟨_, rfl, ?_⟩; have n0_ := zA (zV qB hb); clear HB; have HB := n0_; clear n0_; (try clear hb))); go_ret; exact ⟨qE, qB⟩
    rw [if_neg c4] at H; have c4b0 : (t101.toList == a0.toList) = false := beq_eq_false_iff_ne.mpr c4; have c4b1 : (t101.toList != a0.toList) = true := bne_iff_ne.mpr c4; obtain rfl := zKq H; go_enter Try.func143, Try.ntmps143; go_wp2_with (first | ((with_reducible refine zJq (f := 151) rfl ?_); refine goesL_ (some 7) rfl rfl Try.func151 (by kernel_rfl) rfl #[.string a0] rfl qG ?_; (with_reducible refine (backhaulref01_Fold.calls k a0 t101 t102 _ A2.out).mono ?_); rintro e w6 ⟨rfl, hb⟩; refine ⟨_, rfl, ?_⟩; have n0_ := zA (zV qB hb); clear HB; have HB := n0_; clear n0_; (try clear hb))); go_ret; exact ⟨qE, qB⟩
  rw [if_neg c3] at H
  have c3b0 : (t102 == 0) = false := beq_eq_false_iff_ne.mpr c3
  have c3b1 : (t102 != 0) = true := bne_iff_ne.mpr c3
  obtain rfl := zKq H
  go_enter Try.func143, Try.ntmps143
  go_wp2_with (first | ((with_reducible refine zJq (f := 151) rfl ?_); refine goesL_ (some 7) rfl rfl Try.func151 (by kernel_rfl) rfl #[.string a0] rfl qG ?_; (with_reducible refine (backhaulref01_Fold.calls k a0 t101 t102 _ A2.out).mono ?_); rintro e w7 ⟨rfl, hb⟩; refine ⟨_, rfl, ?_⟩; have n0_ := zA (zV qB hb); clear HB; have HB := n0_; clear n0_; (try clear hb)))
  go_ret
  exact ⟨qE, qB⟩
end Go.Proofs.Ytefhljhpcpajgaa.F
