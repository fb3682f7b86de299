-- merged and pruned by prune.py (the session's own program); its words go back to the kit's print
import Derived.Test.YtakkhomjpflkbaaProg
import Derived.Below
import Derived.Deep.Draws
import Derived.Deep.AppendLies
import Derived.Maps.AppendAt
import Derived.OwnWalk
import Derived.Laws.BytesArg
import Derived.Laws.MakeOwn
import Derived.Laws.OwnMore
import Derived.Deep.OwnRows
import Derived.Tactics
import Derived.Lib.ConvBytes
import Derived.Laws.Slices
import Derived.WalkKit
import Derived.KernelRfl
import Derived.RowKit3
import Derived.Deep.LoopGhost
import Derived.Deep.QuietTactic
import Derived.BigQuiet
import Derived.WideLaws
import Derived.Deep.DeepCutAuto
import Derived.Deep.CutBlock
import Derived.Deep.RegionHeld3
import Derived.Laws.Rows
import Derived.Lib.AppendStr
import Derived.ArgAppend
import Derived.Laws.IdiomCopy
import Derived.OrdersHeld
import Derived.Laws.BitsLemmas
import Derived.RowKit
import Derived.Laws.StructEq
import Derived.Deep.RegionLawGrows
import Derived.Lib.SliceRun
import Derived.Lib.OthersKept
import Derived.Lib.RuneCount
import Derived.Laws.Cover4
import Derived.Outline
import Derived.Shelf.Strings.Builder1
import Derived.Shelf.Strings.BuilderF
import Derived.Shelf.Strings.BuilderK
import Derived.Shelf.Utf8.RuneCount
import Derived.Shelf.Strings.Prefix
import Derived.Maps.Own
import Derived.Maps.OwnOps
import Derived.Maps.Views
import Derived.StringKeys
import Derived.Carry
import Derived.Laws.CopyRow
import Derived.Laws.CopyOwn
import Derived.Test.YtakkhomjpflkbaaZRmaMakes1
namespace Go.Proofs.Ytakkhomjpflkbaa.F
open Go.RowKit Go.Proofs.YtakkhomjpflkbaaX Go.Proofs.YtakkhomjpflkbaaW.PrintWords Go.Proofs.YtakkhomjpflkbaaW.PrintLast Go.Proofs.YtakkhomjpflkbaaW.PrintMore
attribute [local go_sem] max2_int min2_int max_two min_two max_three min_three max_four min_four   
attribute [local go_sem high] str_geq str_leq str_gtr
set_option linter.unusedVariables false
set_option linter.unusedSimpArgs false
mutual
def order_Check.j0 : Nat → Bool → Int → Int → List (S216) → Option (Int)
  | 0, _, _, _, _ => none
  | k + 1, x32, x102000, x102001, x102002 => if x32 = true then (some 40) else (order_Check.l0 k x102002 (x102002.length : Int) 0 x102000 x102001 x102002)
def order_Check.l0 : Nat → List (S216) → Int → Int → Int → Int → List (S216) → Option (Int)
  | 0, _, _, _, _, _, _ => none
  | k + 1, x34, x35, x36, x102000, x102001, x102002 => if x36 < x35 then (if 0 ≤ x36 then (if x36 < (x34.length : Int) then ((line_Check.f k ((rd_T216 x34 x36).f0) ((rd_T216 x34 x36).f1) ((rd_T216 x34 x36).f2) ((rd_T216 x34 x36).f3) ((rd_T216 x34 x36).f4)).bind fun t105 => (if t105 = 0 then (order_Check.l0 k x34 x35 (wrap64 (x36 + 1)) x102000 x102001 x102002) else (some 40))) else (none)) else (none)) else ((order_total.f k x102002).bind fun bt106 => (if bt106.2 = 0 then ((order_twice.f x102002).bind fun t108 => (if t108 = true then (some 40) else (some 0))) else (some 40)))
end
def order_Check.f (k : Nat) (a0_0 : Int) (a0_1 : Int) (l0_2 : List (S216)) : Option (Int) := if a0_0 < 1 then (order_Check.j0 k true a0_0 a0_1 l0_2) else (if a0_0 > 999999 then (order_Check.j0 k true a0_0 a0_1 l0_2) else ((policy_Time.f a0_1).bind fun t102 => (if t102 = true then (if (l0_2.length : Int) < 1 then (order_Check.j0 k true a0_0 a0_1 l0_2) else (order_Check.j0 k (decide ((l0_2.length : Int) > 8)) a0_0 a0_1 l0_2)) else (order_Check.j0 k true a0_0 a0_1 l0_2))))
theorem order_Check.mono_l : ∀ k, (∀ y0 y1 y2 y3, LeO (order_Check.j0 k y0 y1 y2 y3) (order_Check.j0 (k + 1) y0 y1 y2 y3)) ∧ (∀ y0 y1 y2 y3 y4 y5, LeO (order_Check.l0 k y0 y1 y2 y3 y4 y5) (order_Check.l0 (k + 1) y0 y1 y2 y3 y4 y5))
  | 0 => ⟨fun _ _ _ _ r h => by simp [order_Check.j0] at h, fun _ _ _ _ _ _ r h => by simp [order_Check.l0] at h⟩
  | k + 1 => by
    obtain ⟨ih0, ih1⟩ := order_Check.mono_l k
    refine ⟨?_, ?_⟩
    · intro y0 y1 y2 y3
      unfold order_Check.j0
      repeat' first
      | (with_reducible exact ih0 _ _ _ _)
      | (with_reducible exact ih1 _ _ _ _ _ _)
      | (with_reducible exact line_Check.mono _ _ _ _ _ _)
      | (with_reducible exact order_total.mono _ _)
      | (with_reducible exact LeO.refl _)
      | (with_reducible exact LeO.none _)
      | (with_reducible refine LeO.ite ?_ ?_)
      | (with_reducible refine LeO.bind ?_ (fun _ => ?_))
      | exact ih0 _ _ _ _
      | exact ih1 _ _ _ _ _ _
      | exact line_Check.mono _ _ _ _ _ _
      | exact order_total.mono _ _
      | exact LeO.none _
      | refine LeO.ite ?_ ?_
      | refine LeO.bind ?_ (fun _ => ?_)
    intro y0 y1 y2 y3 y4 y5
    unfold order_Check.l0
    repeat' first
    | (with_reducible exact ih0 _ _ _ _)
    | (with_reducible exact ih1 _ _ _ _ _ _)
    | (with_reducible exact line_Check.mono _ _ _ _ _ _)
    | (with_reducible exact order_total.mono _ _)
    | (with_reducible exact LeO.refl _)
    | (with_reducible exact LeO.none _)
    | (with_reducible refine LeO.ite ?_ ?_)
    | (with_reducible refine LeO.bind ?_ (fun _ => ?_))
    | exact ih0 _ _ _ _
    | exact ih1 _ _ _ _ _ _
    | exact line_Check.mono _ _ _ _ _ _
    | exact order_total.mono _ _
    | exact LeO.none _
    | refine LeO.ite ?_ ?_
    | refine LeO.bind ?_ (fun _ => ?_)
theorem order_Check.mono : ∀ a0 a1 a2 k, LeO (order_Check.f k a0 a1 a2) (order_Check.f (k + 1) a0 a1 a2) := by
  intro a0 a1 a2 k
  obtain ⟨ih0, ih1⟩ := order_Check.mono_l k
  unfold order_Check.f
  repeat' first
      | (with_reducible exact ih0 _ _ _ _)
      | (with_reducible exact ih1 _ _ _ _ _ _)
      | (with_reducible exact line_Check.mono _ _ _ _ _ _)
      | (with_reducible exact order_total.mono _ _)
      | (with_reducible exact LeO.refl _)
      | (with_reducible exact LeO.none _)
      | (with_reducible refine LeO.ite ?_ ?_)
      | (with_reducible refine LeO.bind ?_ (fun _ => ?_))
      | exact ih0 _ _ _ _
      | exact ih1 _ _ _ _ _ _
      | exact line_Check.mono _ _ _ _ _ _
      | exact order_total.mono _ _
      | exact LeO.none _
      | refine LeO.ite ?_ ?_
      | refine LeO.bind ?_ (fun _ => ?_)
set_option maxHeartbeats 8000000 in
set_option maxRecDepth 100000 in
theorem order_Check.calls (k : Nat) (a0_0 : Int) (a0_1 : Int) (A0_2 : Option Addr) (c0_2 : Nat) (l0_2 : List (S216)) (r : Int) (w : World) (hr0_2 : Kd.C k216 w A0_2 l0_2.length l0_2) (hc0_2 : l0_2.length ≤ c0_2) (h : order_Check.f k a0_0 a0_1 l0_2 = some r) :
    Calls Try.prog 147 #[.agg #[.int .i64 a0_0, .int .i64 a0_1, .slice A0_2 l0_2.length c0_2]] w fun e w' => e = .returned (.int .i64 r) ∧ Below w.heap.size w w' := by
  have hu73 := Try.underlying73
  have hu216 := Try.underlying216
  have HR0_2 := zA hr0_2
  have HC0_2 := zA hc0_2
  clear hr0_2 hc0_2
  have HB := zA (Below.refl w.heap.size w)
  have H : (if a0_0 < 1 then (order_Check.j0 k true a0_0 a0_1 l0_2) else (if a0_0 > 999999 then (order_Check.j0 k true a0_0 a0_1 l0_2) else ((policy_Time.f a0_1).bind fun t102 => (if t102 = true then (if (l0_2.length : Int) < 1 then (order_Check.j0 k true a0_0 a0_1 l0_2) else (order_Check.j0 k (decide ((l0_2.length : Int) > 8)) a0_0 a0_1 l0_2)) else (order_Check.j0 k true a0_0 a0_1 l0_2))))) = some r := h
  clear h
  have HC2 := zA H
  clear H
  go_enter Try.func147, Try.ntmps147
  go_upto_region 1 with (first | ((with_reducible refine gate_dst (N := 1) rfl ?_); (try (refine gate_guard (by rfl) ?_; dsimp only)); refine box_event qr (N := 1) qr (cs := #[.int .i64 a0_0, .int .i64 a0_1, .slice A0_2 l0_2.length c0_2]) (t := 73) qg ?_; intro gb101 hg w3 hbox hb; have n0_ := zA (zV qB hb); have n1_ := zA (hbox); have n2_ := zA ((qS : w.heap.size ≤ gb101)); have n3_ := zA ((qS : w.heap.size ≤ gb101)); clear HB; have HB := n0_; have BK101 := n1_; have GW101 := n2_; have GE101 := n3_; clear n0_ n1_ n2_ n3_ hb hbox hg))
  (try simp only [Act.put, zH, zI, zJ])
  go_cut [32] (fun v32 wc => ∃ (kq : Nat) (x32_1 : Bool), v32 = .bool x32_1 ∧ Aside0 (order_Check.j0 kq x32_1 a0_0 a0_1 l0_2 = some r) ∧ Aside0 (kq ≤ k) ∧ Aside0 (wc.heap[gb101]? = some (.cells #[.int .i64 a0_0, .int .i64 a0_1, (.slice A0_2 l0_2.length c0_2)] 73 (0, 0))) ∧ Aside0 (Below w.heap.size w wc))
  case first =>
    have H := HC2.out; clear HC2; by_cases c4 : a0_0 < 1
    · rw [if_pos c4] at H
      have c4b0 : decide (a0_0 < 1) = true := zFq c4; clear c4; (first | rw [c4b0] | (simp only [i64_w, i32_w]; rw [c4b0]) | skip)
      have H' := zA H; clear H; obtain ⟨_, _, _, _, _, _⟩ := qc3f BK101.out; go_wp2; go_meet
      case rel => exact ⟨_, (true), (by first | rfl | (simp; done) | (simp [*]; done)), H', ⟨by first | omega | exact Nat.le_refl _⟩, ⟨by exact BK101.out⟩, ⟨qB⟩⟩
    rw [if_neg c4] at H; have c4b0 : decide (a0_0 < 1) = false := zGq c4; clear c4; (first | rw [c4b0] | (simp only [i64_w, i32_w]; rw [c4b0]) | skip)
    by_cases c6 : a0_0 > 999999
    · rw [if_pos c6] at H
      have c6b0 : decide (999999 < a0_0) = true := zFq c6; clear c6; have H' := zA H; clear H; obtain ⟨_, _, _, _, _, _⟩ := qc3f BK101.out; go_wp2; go_meet
      case rel => exact ⟨_, (true), (by first | rfl | (simp; done) | (simp [*]; done)), H', ⟨by first | omega | exact Nat.le_refl _⟩, ⟨by exact BK101.out⟩, ⟨qB⟩⟩
    rw [if_neg c6] at H; have c6b0 : decide (999999 < a0_0) = false := zGq c6; clear c6; replace H := Option.bind_eq_some_iff.mp H; obtain ⟨t102, A80, H⟩ := H; replace H : (if t102 = true then (if (l0_2.length : Int) < 1 then (order_Check.j0 k true a0_0 a0_1 l0_2) else (order_Check.j0 k (decide ((l0_2.length : Int) > 8)) a0_0 a0_1 l0_2)) else (order_Check.j0 k true a0_0 a0_1 l0_2)) = some r := H; have A8 := zA A80; clear A80; by_cases c9 : t102 = true
    · subst c9
      have H1 : (if (l0_2.length : Int) < 1 then (order_Check.j0 k true a0_0 a0_1 l0_2) else (order_Check.j0 k (decide ((l0_2.length : Int) > 8)) a0_0 a0_1 l0_2)) = some r := by first | (rw [if_pos rfl] at H; exact H) | rfl
      clear H; have H := H1; clear H1; by_cases c10 : (l0_2.length : Int) < 1
      · rw [if_pos c10] at H
        have c10b0 : decide ((l0_2.length : Int) < 1) = true := zFq c10; have c10b1 : decide (l0_2.length < 1) = true := zFq (by omega); clear c10; have H' := zA H; clear H; obtain ⟨_, _, _, _, _, _⟩ := qc3f BK101.out; go_wp2_with (first | (go_at_call 142; (with_reducible refine (policy_Time.calls a0_1 true _ A8.out).mono ?_); rintro e w12 ⟨rfl, hb⟩; have n0_ := zA (qX BK101.out hb); have n1_ := zA (zV qB hb); clear BK101 HB; have BK101 := n0_; have HB := n1_; clear n0_ n1_; (try clear hb); (try clear hb2); (try clear hk); (try clear hi); obtain ⟨_, _, _, _, _, _⟩ := qc3f BK101.out)); go_meet
        case rel => exact ⟨_, (true), (by first | rfl | (simp; done) | (simp [*]; done)), H', ⟨by first | omega | exact Nat.le_refl _⟩, ⟨by exact BK101.out⟩, ⟨qB⟩⟩
      rw [if_neg c10] at H; have c10b0 : decide ((l0_2.length : Int) < 1) = false := zGq c10; have c10b1 : decide (l0_2.length < 1) = false := zGq (by omega); clear c10; have H' := zA H; clear H; obtain ⟨_, _, _, _, _, _⟩ := qc3f BK101.out; go_wp2_with (first | (go_at_call 142; (with_reducible refine (policy_Time.calls a0_1 true _ A8.out).mono ?_); rintro e w15 ⟨rfl, hb⟩; have n0_ := zA (qX BK101.out hb); have n1_ := zA (zV qB hb); clear BK101 HB; have BK101 := n0_; have HB := n1_; clear n0_ n1_; (try clear hb); (try clear hb2); (try clear hk); (try clear hi); obtain ⟨_, _, _, _, _, _⟩ := qc3f BK101.out)); go_meet
      case rel => exact ⟨_, (decide ((l0_2.length : Int) > 8)), (by first | rfl | (simp; done) | (simp [*]; done)), H', ⟨by first | omega | exact Nat.le_refl _⟩, ⟨by exact BK101.out⟩, ⟨qB⟩⟩
    replace c9 := Bool.eq_false_iff.mpr c9; subst c9; have H1 : (order_Check.j0 k true a0_0 a0_1 l0_2) = some r := by first | (rw [if_neg (show ¬ (false = true) by decide)] at H; exact H) | rfl
    clear H; have H := H1; clear H1; have H' := zA H; clear H; obtain ⟨_, _, _, _, _, _⟩ := qc3f BK101.out; go_wp2_with (first | (go_at_call 142; (with_reducible refine (policy_Time.calls a0_1 false _ A8.out).mono ?_); rintro e w18 ⟨rfl, hb⟩; have n0_ := zA (qX BK101.out hb); have n1_ := zA (zV qB hb); clear BK101 HB; have BK101 := n0_; have HB := n1_; clear n0_ n1_; (try clear hb); (try clear hb2); (try clear hk); (try clear hi))); go_meet
    case rel => exact ⟨_, (true), (by first | rfl | (simp; done) | (simp [*]; done)), H', ⟨by first | omega | exact Nat.le_refl _⟩, ⟨by exact BK101.out⟩, ⟨qB⟩⟩
  case rest =>
    clear HC2; try clear c1
    try clear p2
    try clear c4
    try clear c4b0
    try clear c6
    try clear c6b0
    try clear c9
    try clear c10
    try clear c10b0
    try clear c10b1
    try clear c14
    obtain ⟨kq, x32_1, rfl, HA, HJ1, BK101, HB⟩ := hcut; cases kq with
    | zero => exact absurd HA.out (by simp [order_Check.j0])
    | succ kj1 =>
      have H := HA.out; clear HA; simp only [order_Check.j0] at H; by_cases c19 : x32_1 = true
      · subst c19
        have H1 : (some 40) = some r := by first | (rw [if_pos rfl] at H; exact H) | rfl
        clear H; have H := H1; clear H1; obtain rfl := zKq H; go_wp2; go_ret; exact ⟨qE, qB⟩
      replace c19 := Bool.eq_false_iff.mpr c19; subst c19; have H1 : (order_Check.l0 kj1 l0_2 (l0_2.length : Int) 0 a0_0 a0_1 l0_2) = some r := by first | (rw [if_neg (show ¬ (false = true) by decide)] at H; exact H) | rfl
      clear H; have H := H1; clear H1; have H' := zA H; clear H; obtain ⟨_, _, _, _, _, _⟩ := qc3f BK101.out; go_wp2; go_loopg [36] kj1 (fun kq v36 w' => ∃ (x36_2 : Int), v36 = .int .i64 x36_2 ∧ Aside0 (order_Check.l0 kq l0_2 (l0_2.length : Int) x36_2 a0_0 a0_1 l0_2 = some r) ∧ Aside0 (kq ≤ kj1) ∧ Aside0 (w'.heap[gb101]? = some (.cells #[.int .i64 a0_0, .int .i64 a0_1, (.slice A0_2 l0_2.length c0_2)] 73 (0, 0))) ∧ Aside0 (Below w.heap.size w w'))
      case atStart => exact ⟨(0), (by first | rfl | (simp; done) | (simp [*]; done)), H', ⟨Nat.le_refl _⟩, ⟨by exact BK101.out⟩, ⟨qB⟩⟩
      case round =>
        clear H'; try clear c1
        try clear p2
        try clear c4
        try clear c4b0
        try clear c6
        try clear c6b0
        try clear c9
        try clear c10
        try clear c10b0
        try clear c10b1
        try clear c14
        try clear c19
        try clear p2
        obtain ⟨x36_2, rfl, HA, HK2, BK101, HB⟩ := hrel; cases gk with
        | zero => exact absurd HA.out (by simp [order_Check.l0])
        | succ k2 =>
          have H := HA.out; clear HA; simp only [order_Check.l0] at H; by_cases c21 : x36_2 < (l0_2.length : Int)
          · rw [if_pos c21] at H
            have c21b0 : decide (x36_2 < (l0_2.length : Int)) = true := zFq c21; clear c21; by_cases c22 : 0 ≤ x36_2
            · rw [if_pos c22] at H
              have c22b0 : decide (0 ≤ x36_2) = true := zFq c22; clear c22; by_cases c23 : x36_2 < (l0_2.length : Int)
              · rw [if_pos c23] at H
                have c23b0 : decide (x36_2 < (l0_2.length : Int)) = true := zFq c23; clear c23; replace H := Option.bind_eq_some_iff.mp H; obtain ⟨t105, A240, H⟩ := H; replace H : (if t105 = 0 then (order_Check.l0 k2 l0_2 (l0_2.length : Int) (wrap64 (x36_2 + 1)) a0_0 a0_1 l0_2) else (some 40)) = some r := H; have A24 := zA A240; clear A240; by_cases c25 : t105 = 0
                · rw [if_pos c25] at H
                  have c25b0 : (t105 == 0) = true := beq_iff_eq.mpr c25; have c25b1 : (t105 != 0) = false := bne_eq_false_iff_eq.mpr c25; clear c25; have H' := zA H; clear H; have p103 : 0 ≤ (x36_2 : Int) := of_decide_eq_true qA; have q103 : x36_2 < (l0_2.length : Int) := of_decide_eq_true qA; obtain ⟨ad103, A103_4, c103_4, e103, hx103_0, hx103_1, hx103_2, hx103_3, hx103_4, hl103_4, hi103_4⟩ := at_T216 HR0_2.out x36_2 p103 q103; cases e103
                  replace hx103_0 := (HB.out.cell (zCq w _ hx103_0)).trans hx103_0; replace hx103_1 := (HB.out.cell (zCq w _ hx103_1)).trans hx103_1; replace hx103_2 := (HB.out.cell (zCq w _ hx103_2)).trans hx103_2; replace hx103_3 := (HB.out.cell (zCq w _ hx103_3)).trans hx103_3; replace hx103_4 := (HB.out.cell (zCq w _ hx103_4)).trans hx103_4; have HR103_4 := zA hi103_4; have HC103_4 := zA hl103_4; clear hi103_4 hl103_4; replace p103 := eq_true p103; replace q103 := eq_true q103; go_wp2_with (first | ((with_reducible refine gate_dst (N := 4) rfl ?_); (try (refine gate_guard (by rfl) ?_; dsimp only)); refine box_event qr (N := 4) qr (cs := #[.int .i64 0, .int .i64 0, .int .i64 0, .int .i64 0, .slice none 0 0]) (t := 216) qg ?_; intro gb104 hg w26 hbox hb; have n0_ := zA (qX BK101.out hb); have n1_ := zA (zV qB hb); have n2_ := zA (hbox); have n3_ := zA ((qS : w.heap.size ≤ gb104)); have n4_ := zA ((qS : w.heap.size ≤ gb104)); have n5_ := zA ((by rw [hg]; exact zLq (qL BK101.out) : gb101 ≠ gb104)); have n6_ := zA ((by rw [hg]; exact zMq (qL BK101.out) : gb104 ≠ gb101)); clear BK101 HB; have BK101 := n0_; have HB := n1_; have BK104 := n2_; have GW104 := n3_; have GE104 := n4_; have NB101_104 := n5_; have NB104_101 := n6_; clear n0_ n1_ n2_ n3_ n4_ n5_ n6_ hb hbox hg; have hnb27 := NB104_101.out; have hnc27 := NB101_104.out; obtain ⟨_, _, _, _, _, _, _, _, _, _⟩ := qc5f BK104.out) | ((with_reducible refine zJq (f := 220) rfl ?_); refine goesL_ (some 41) rfl rfl Try.func220 (by kernel_rfl) rfl #[.agg #[.int .i64 ((rd_T216 l0_2 x36_2).f0), .int .i64 ((rd_T216 l0_2 x36_2).f1), .int .i64 ((rd_T216 l0_2 x36_2).f2), .int .i64 ((rd_T216 l0_2 x36_2).f3), .slice A103_4 ((rd_T216 l0_2 x36_2).f4).length c103_4]] rfl (by (try simp only [zR, zS, zT]); first | done | rfl | (simp only [zP, zQ]; rfl)) ?_; (with_reducible refine (line_Check.calls k2 ((rd_T216 l0_2 x36_2).f0) ((rd_T216 l0_2 x36_2).f1) ((rd_T216 l0_2 x36_2).f2) ((rd_T216 l0_2 x36_2).f3) _ _ ((rd_T216 l0_2 x36_2).f4) t105 _ ?side1 ?side2 A24.out).mono ?_); (case side1 => exact Kd.C_below HR103_4.out qB); (case side2 => exact HC103_4.out); rintro e w29 ⟨rfl, hb⟩; refine ⟨_, rfl, ?_⟩; have n0_ := zA (qX BK101.out hb); have n1_ := zA (zX (g := gb104) (o := .cells #[.int .i64 ((rd_T216 l0_2 x36_2).f0), .int .i64 ((rd_T216 l0_2 x36_2).f1), .int .i64 ((rd_T216 l0_2 x36_2).f2), .int .i64 ((rd_T216 l0_2 x36_2).f3), .slice A103_4 ((rd_T216 l0_2 x36_2).f4).length c103_4] 216 (0, 0)) (qV BK104.out) hb); have n2_ := zA (zV qB hb); clear BK101 BK104 HB; have BK101 := n0_; have BK104 := n1_; have HB := n2_; clear n0_ n1_ n2_; (try clear hb); (try clear hb2); (try clear hk); (try clear hi))); go_roundg k2
                  case measure => have := HJ1.out; have := HK2.out; omega
                  case rel => exact ⟨(wrap64 (x36_2 + 1)), (by first | rfl | (simp; done) | (simp [*]; done)), H', ⟨by have := HJ1.out; have := HK2.out; omega⟩, ⟨by exact BK101.out⟩, ⟨qB⟩⟩
                rw [if_neg c25] at H; have c25b0 : (t105 == 0) = false := beq_eq_false_iff_ne.mpr c25; have c25b1 : (t105 != 0) = true := bne_iff_ne.mpr c25; obtain rfl := zKq H; have p103 : 0 ≤ (x36_2 : Int) := of_decide_eq_true qA; have q103 : x36_2 < (l0_2.length : Int) := of_decide_eq_true qA; obtain ⟨ad103, A103_4, c103_4, e103, hx103_0, hx103_1, hx103_2, hx103_3, hx103_4, hl103_4, hi103_4⟩ := at_T216 HR0_2.out x36_2 p103 q103; cases e103
                replace hx103_0 := (HB.out.cell (zCq w _ hx103_0)).trans hx103_0; replace hx103_1 := (HB.out.cell (zCq w _ hx103_1)).trans hx103_1; replace hx103_2 := (HB.out.cell (zCq w _ hx103_2)).trans hx103_2; replace hx103_3 := (HB.out.cell (zCq w _ hx103_3)).trans hx103_3; replace hx103_4 := (HB.out.cell (zCq w _ hx103_4)).trans hx103_4; have HR103_4 := zA hi103_4; have HC103_4 := zA hl103_4; clear hi103_4 hl103_4; replace p103 := eq_true p103; replace q103 := eq_true q103; go_wp2_with (first | ((with_reducible refine gate_dst (N := 4) rfl ?_); (try (refine gate_guard (by rfl) ?_; dsimp only)); refine box_event qr (N := 4) qr (cs := #[.int .i64 0, .int .i64 0, .int .i64 0, .int .i64 0, .slice none 0 0]) (t := 216) qg ?_; intro gb104 hg w30 hbox hb; have n0_ := zA (qX BK101.out hb); have n1_ := zA (zV qB hb); have n2_ := zA (hbox); have n3_ := zA ((qS : w.heap.size ≤ gb104)); have n4_ := zA ((qS : w.heap.size ≤ gb104)); have n5_ := zA ((by rw [hg]; exact zLq (qL BK101.out) : gb101 ≠ gb104)); have n6_ := zA ((by rw [hg]; exact zMq (qL BK101.out) : gb104 ≠ gb101)); clear BK101 HB; have BK101 := n0_; have HB := n1_; have BK104 := n2_; have GW104 := n3_; have GE104 := n4_; have NB101_104 := n5_; have NB104_101 := n6_; clear n0_ n1_ n2_ n3_ n4_ n5_ n6_ hb hbox hg; have hnb31 := NB104_101.out; have hnc31 := NB101_104.out; obtain ⟨_, _, _, _, _, _, _, _, _, _⟩ := qc5f BK104.out) | ((with_reducible refine zJq (f := 220) rfl ?_); refine goesL_ (some 41) rfl rfl Try.func220 (by kernel_rfl) rfl #[.agg #[.int .i64 ((rd_T216 l0_2 x36_2).f0), .int .i64 ((rd_T216 l0_2 x36_2).f1), .int .i64 ((rd_T216 l0_2 x36_2).f2), .int .i64 ((rd_T216 l0_2 x36_2).f3), .slice A103_4 ((rd_T216 l0_2 x36_2).f4).length c103_4]] rfl (by (try simp only [zR, zS, zT]); first | done | rfl | (simp only [zP, zQ]; rfl)) ?_; (with_reducible refine (line_Check.calls k2 ((rd_T216 l0_2 x36_2).f0) ((rd_T216 l0_2 x36_2).f1) ((rd_T216 l0_2 x36_2).f2) ((rd_T216 l0_2 x36_2).f3) _ _ ((rd_T216 l0_2 x36_2).f4) t105 _ ?side1 ?side2 A24.out).mono ?_); (case side1 => exact Kd.C_below HR103_4.out qB); (case side2 => exact HC103_4.out); rintro e w33 ⟨rfl, hb⟩; refine ⟨_, rfl, ?_⟩; have n0_ := zA (qX BK101.out hb); have n1_ := zA (zX (g := gb104) (o := .cells #[.int .i64 ((rd_T216 l0_2 x36_2).f0), .int .i64 ((rd_T216 l0_2 x36_2).f1), .int .i64 ((rd_T216 l0_2 x36_2).f2), .int .i64 ((rd_T216 l0_2 x36_2).f3), .slice A103_4 ((rd_T216 l0_2 x36_2).f4).length c103_4] 216 (0, 0)) (qV BK104.out) hb); have n2_ := zA (zV qB hb); clear BK101 BK104 HB; have BK101 := n0_; have BK104 := n1_; have HB := n2_; clear n0_ n1_ n2_; (try clear hb); (try clear hb2); (try clear hk); (try clear hi))); go_ret; exact ⟨qE, qB⟩
              rw [if_neg c23] at H; exact absurd H (by simp)
            rw [if_neg c22] at H; exact absurd H (by simp)
          rw [if_neg c21] at H; have c21b0 : decide (x36_2 < (l0_2.length : Int)) = false := zGq c21; clear c21; replace H := Option.bind_eq_some_iff.mp H; obtain ⟨⟨t106, t107⟩, A340, H⟩ := H; replace H : (if t107 = 0 then ((order_twice.f l0_2).bind fun t108 => (if t108 = true then (some 40) else (some 0))) else (some 40)) = some r := H; have A34 := zA A340; clear A340; by_cases c35 : t107 = 0
          · rw [if_pos c35] at H
            have c35b0 : (t107 == 0) = true := beq_iff_eq.mpr c35; have c35b1 : (t107 != 0) = false := bne_eq_false_iff_eq.mpr c35; clear c35; replace H := Option.bind_eq_some_iff.mp H; obtain ⟨t108, A360, H⟩ := H; replace H : (if t108 = true then (some 40) else (some 0)) = some r := H; have A36 := zA A360; clear A360; by_cases c37 : t108 = true
            · subst c37
              have H1 : (some 40) = some r := by first | (rw [if_pos rfl] at H; exact H) | rfl
              clear H; have H := H1; clear H1; obtain rfl := zKq H; obtain ⟨_, _, _, _, _, _⟩ := qc3f BK101.out; go_wp2_with (first | ((with_reducible refine zJq (f := 221) rfl ?_); refine goesL_ (some 47) rfl rfl Try.func221 (by kernel_rfl) rfl #[.slice A0_2 l0_2.length c0_2] rfl (by (try simp only [zR, zS, zT]); first | done | rfl | (simp only [zP, zQ]; rfl)) ?_; (with_reducible refine (order_total.calls k2 _ _ l0_2 t106 t107 _ ?side1 ?side2 A34.out).mono ?_); (case side1 => exact qC (Kd.C_below HR0_2.out HB.out)); (case side2 => exact HC0_2.out); rintro e w39 ⟨rfl, hb⟩; refine ⟨_, rfl, ?_⟩; have n0_ := zA (qX BK101.out hb); have n1_ := zA (zV qB hb); clear BK101 HB; have BK101 := n0_; have HB := n1_; clear n0_ n1_; (try clear hb); (try clear hb2); (try clear hk); (try clear hi); obtain ⟨_, _, _, _, _, _⟩ := qc3f BK101.out) | (go_at_call 222; (with_reducible refine (order_twice.calls _ _ l0_2 true _ ?side1 ?side2 A36.out).mono ?_); (case side1 => exact qC (Kd.C_below HR0_2.out HB.out)); (case side2 => exact HC0_2.out); rintro e w41 ⟨rfl, hb⟩; have n0_ := zA (qX BK101.out hb); have n1_ := zA (zV qB hb); clear BK101 HB; have BK101 := n0_; have HB := n1_; clear n0_ n1_; (try clear hb); (try clear hb2); (try clear hk); (try clear hi))); go_ret; exact ⟨qE, qB⟩
            replace c37 := Bool.eq_false_iff.mpr c37; subst c37; have H1 : (some 0) = some r := by first | (rw [if_neg (show ¬ (false = true) by decide)] at H; exact H) | rfl
            clear H; have H := H1; clear H1; obtain rfl := zKq H; obtain ⟨_, _, _, _, _, _⟩ := qc3f BK101.out; go_wp2_with (first | ((with_reducible refine zJq (f := 221) rfl ?_); refine goesL_ (some 47) rfl rfl Try.func221 (by kernel_rfl) rfl #[.slice A0_2 l0_2.length c0_2] rfl (by (try simp only [zR, zS, zT]); first | done | rfl | (simp only [zP, zQ]; rfl)) ?_; (with_reducible refine (order_total.calls k2 _ _ l0_2 t106 t107 _ ?side1 ?side2 A34.out).mono ?_); (case side1 => exact qC (Kd.C_below HR0_2.out HB.out)); (case side2 => exact HC0_2.out); rintro e w43 ⟨rfl, hb⟩; refine ⟨_, rfl, ?_⟩; have n0_ := zA (qX BK101.out hb); have n1_ := zA (zV qB hb); clear BK101 HB; have BK101 := n0_; have HB := n1_; clear n0_ n1_; (try clear hb); (try clear hb2); (try clear hk); (try clear hi); obtain ⟨_, _, _, _, _, _⟩ := qc3f BK101.out) | (go_at_call 222; (with_reducible refine (order_twice.calls _ _ l0_2 false _ ?side1 ?side2 A36.out).mono ?_); (case side1 => exact qC (Kd.C_below HR0_2.out HB.out)); (case side2 => exact HC0_2.out); rintro e w45 ⟨rfl, hb⟩; have n0_ := zA (qX BK101.out hb); have n1_ := zA (zV qB hb); clear BK101 HB; have BK101 := n0_; have HB := n1_; clear n0_ n1_; (try clear hb); (try clear hb2); (try clear hk); (try clear hi))); go_ret; exact ⟨qE, qB⟩
          rw [if_neg c35] at H; have c35b0 : (t107 == 0) = false := beq_eq_false_iff_ne.mpr c35; have c35b1 : (t107 != 0) = true := bne_iff_ne.mpr c35; obtain rfl := zKq H; obtain ⟨_, _, _, _, _, _⟩ := qc3f BK101.out; go_wp2_with (first | ((with_reducible refine zJq (f := 221) rfl ?_); refine goesL_ (some 47) rfl rfl Try.func221 (by kernel_rfl) rfl #[.slice A0_2 l0_2.length c0_2] rfl (by (try simp only [zR, zS, zT]); first | done | rfl | (simp only [zP, zQ]; rfl)) ?_; (with_reducible refine (order_total.calls k2 _ _ l0_2 t106 t107 _ ?side1 ?side2 A34.out).mono ?_); (case side1 => exact qC (Kd.C_below HR0_2.out HB.out)); (case side2 => exact HC0_2.out); rintro e w47 ⟨rfl, hb⟩; refine ⟨_, rfl, ?_⟩; have n0_ := zA (qX BK101.out hb); have n1_ := zA (zV qB hb); clear BK101 HB; have BK101 := n0_; have HB := n1_; clear n0_ n1_; (try clear hb); (try clear hb2); (try clear hk); (try clear hi))); go_ret; exact ⟨qE, qB⟩
def rma_Fits_1_v73.f (a0_0 : Int) (a0_1 : Int) (a0_2 : Int) (a1_0 : Int) (a1_1 : Int) (l1_2 : List (S216)) : Option (Bool) := if a0_0 ≥ (l1_2.length : Int) then (some true) else (if 0 ≤ a0_0 then (if a0_0 < (l1_2.length : Int) then (some (decide (a0_1 > (((rd_T216 l1_2 a0_0).f4).length : Int)))) else (none)) else (none))
set_option maxHeartbeats 8000000 in
set_option maxRecDepth 100000 in
theorem rma_Fits_1_v73.calls (a0_0 : Int) (a0_1 : Int) (a0_2 : Int) (g1 : Nat) (a1_0 : Int) (a1_1 : Int) (A1_2 : Option Addr) (c1_2 : Nat) (l1_2 : List (S216)) (r : Bool) (w : World) (hk1 : w.heap[g1]? = some (.cells #[.int .i64 a1_0, .int .i64 a1_1, .slice A1_2 l1_2.length c1_2] 73 (0, 0))) (hr1_2 : Kd.C k216 w A1_2 l1_2.length l1_2) (hc1_2 : l1_2.length ≤ c1_2) (h : rma_Fits_1_v73.f a0_0 a0_1 a0_2 a1_0 a1_1 l1_2 = some r) :
    Calls Try.prog 148 #[.agg #[.int .i64 a0_0, .int .i64 a0_1, .int .i64 a0_2], .pointer (some ⟨g1, 0, none⟩)] w fun e w' => e = .returned (.bool r) ∧ Below w.heap.size w w' := by
  have hu97 := Try.underlying97
  have HR1_2 := zA hr1_2
  have HC1_2 := zA hc1_2
  clear hr1_2 hc1_2
  have BK101 := zA hk1
  clear hk1
  have HB := zA (Below.refl w.heap.size w)
  have H : (if a0_0 ≥ (l1_2.length : Int) then (some true) else (if 0 ≤ a0_0 then (if a0_0 < (l1_2.length : Int) then (some (decide (a0_1 > (((rd_T216 l1_2 a0_0).f4).length : Int)))) else (none)) else (none))) = some r := h
  clear h
  by_cases c3 : a0_0 ≥ (l1_2.length : Int)
  · rw [if_pos c3] at H
    have c3b0 : decide ((l1_2.length : Int) ≤ a0_0) = true := zFq c3; clear c3; obtain rfl := zKq H; go_enter Try.func148, Try.ntmps148; go_wp2_with (first | ((with_reducible refine gate_dst (N := 2) rfl ?_); (try (refine gate_guard (by rfl) ?_; dsimp only)); refine box_event qr (N := 2) qr (cs := #[.int .i64 a0_0, .int .i64 a0_1, .int .i64 a0_2]) (t := 97) qg ?_; intro gb102 hg w4 hbox hb; have n0_ := zA (qX BK101.out hb); have n1_ := zA (zV qB hb); have n2_ := zA (hbox); have n3_ := zA ((qS : w.heap.size ≤ gb102)); have n4_ := zA ((qS : w.heap.size ≤ gb102)); have n5_ := zA ((by rw [hg]; exact zLq (qL BK101.out) : g1 ≠ gb102)); have n6_ := zA ((by rw [hg]; exact zMq (qL BK101.out) : gb102 ≠ g1)); clear BK101 HB; have BK101 := n0_; have HB := n1_; have BK102 := n2_; have GW102 := n3_; have GE102 := n4_; have NB101_102 := n5_; have NB102_101 := n6_; clear n0_ n1_ n2_ n3_ n4_ n5_ n6_ hb hbox hg; have hnb5 := NB102_101.out; have hnc5 := NB101_102.out; obtain ⟨hcz6_0, hcz6_1, hcz6_2, hfz6_0, hfz6_1, hfz6_2⟩ := qc3f BK102.out; obtain ⟨hcz7_0, hcz7_1, hcz7_2, hfz7_0, hfz7_1, hfz7_2⟩ := qc3f BK101.out)); repeat (go_quiet (first | ((with_reducible refine gate_dst (N := 2) rfl ?_); (try (refine gate_guard (by rfl) ?_; dsimp only)); refine box_event qr (N := 2) qr (cs := #[.int .i64 a0_0, .int .i64 a0_1, .int .i64 a0_2]) (t := 97) qg ?_; intro gb102 hg w4 hbox hb; have n0_ := zA (qX BK101.out hb); have n1_ := zA (zV qB hb); have n2_ := zA (hbox); have n3_ := zA ((qS : w.heap.size ≤ gb102)); have n4_ := zA ((qS : w.heap.size ≤ gb102)); have n5_ := zA ((by rw [hg]; exact zLq (qL BK101.out) : g1 ≠ gb102)); have n6_ := zA ((by rw [hg]; exact zMq (qL BK101.out) : gb102 ≠ g1)); clear BK101 HB; have BK101 := n0_; have HB := n1_; have BK102 := n2_; have GW102 := n3_; have GE102 := n4_; have NB101_102 := n5_; have NB102_101 := n6_; clear n0_ n1_ n2_ n3_ n4_ n5_ n6_ hb hbox hg; have hnb5 := NB102_101.out; have hnc5 := NB101_102.out; obtain ⟨hcz6_0, hcz6_1, hcz6_2, hfz6_0, hfz6_1, hfz6_2⟩ := qc3f BK102.out; obtain ⟨hcz7_0, hcz7_1, hcz7_2, hfz7_0, hfz7_1, hfz7_2⟩ := qc3f BK101.out)); try go_wp2_with (first | ((with_reducible refine gate_dst (N := 2) rfl ?_); (try (refine gate_guard (by rfl) ?_; dsimp only)); refine box_event qr (N := 2) qr (cs := #[.int .i64 a0_0, .int .i64 a0_1, .int .i64 a0_2]) (t := 97) qg ?_; intro gb102 hg w4 hbox hb; have n0_ := zA (qX BK101.out hb); have n1_ := zA (zV qB hb); have n2_ := zA (hbox); have n3_ := zA ((qS : w.heap.size ≤ gb102)); have n4_ := zA ((qS : w.heap.size ≤ gb102)); have n5_ := zA ((by rw [hg]; exact zLq (qL BK101.out) : g1 ≠ gb102)); have n6_ := zA ((by rw [hg]; exact zMq (qL BK101.out) : gb102 ≠ g1)); clear BK101 HB; have BK101 := n0_; have HB := n1_; have BK102 := n2_; have GW102 := n3_; have GE102 := n4_; have NB101_102 := n5_; have NB102_101 := n6_; clear n0_ n1_ n2_ n3_ n4_ n5_ n6_ hb hbox hg; have hnb5 := NB102_101.out; have hnc5 := NB101_102.out; obtain ⟨hcz6_0, hcz6_1, hcz6_2, hfz6_0, hfz6_1, hfz6_2⟩ := qc3f BK102.out; obtain ⟨hcz7_0, hcz7_1, hcz7_2, hfz7_0, hfz7_1, hfz7_2⟩ := qc3f BK101.out)))
    go_ret; exact ⟨qE, qB⟩
  rw [if_neg c3] at H
  have c3b0 : decide ((l1_2.length : Int) ≤ a0_0) = false := zGq c3
  clear c3
  by_cases c8 : 0 ≤ a0_0
  · rw [if_pos c8] at H
    have c8b0 : decide (0 ≤ a0_0) = true := zFq c8; clear c8; by_cases c9 : a0_0 < (l1_2.length : Int)
    · rw [if_pos c9] at H
      have c9b0 : decide (a0_0 < (l1_2.length : Int)) = true := zFq c9; clear c9; obtain rfl := zKq H; go_enter Try.func148, Try.ntmps148; go_wp2_with (first | ((with_reducible refine gate_dst (N := 2) rfl ?_); (try (refine gate_guard (by rfl) ?_; dsimp only)); refine box_event qr (N := 2) qr (cs := #[.int .i64 a0_0, .int .i64 a0_1, .int .i64 a0_2]) (t := 97) qg ?_; intro gb102 hg w10 hbox hb; have n0_ := zA (qX BK101.out hb); have n1_ := zA (zV qB hb); have n2_ := zA (hbox); have n3_ := zA ((qS : w.heap.size ≤ gb102)); have n4_ := zA ((qS : w.heap.size ≤ gb102)); have n5_ := zA ((by rw [hg]; exact zLq (qL BK101.out) : g1 ≠ gb102)); have n6_ := zA ((by rw [hg]; exact zMq (qL BK101.out) : gb102 ≠ g1)); clear BK101 HB; have BK101 := n0_; have HB := n1_; have BK102 := n2_; have GW102 := n3_; have GE102 := n4_; have NB101_102 := n5_; have NB102_101 := n6_; clear n0_ n1_ n2_ n3_ n4_ n5_ n6_ hb hbox hg; have hnb11 := NB102_101.out; have hnc11 := NB101_102.out; obtain ⟨hcz12_0, hcz12_1, hcz12_2, hfz12_0, hfz12_1, hfz12_2⟩ := qc3f BK102.out; obtain ⟨hcz13_0, hcz13_1, hcz13_2, hfz13_0, hfz13_1, hfz13_2⟩ := qc3f BK101.out; have p103 : 0 ≤ (a0_0 : Int) := of_decide_eq_true qA; have q103 : a0_0 < (l1_2.length : Int) := of_decide_eq_true qA; obtain ⟨ad103, A103_4, c103_4, e103, hx103_0, hx103_1, hx103_2, hx103_3, hx103_4, hl103_4, hi103_4⟩ := at_T216 HR1_2.out a0_0 p103 q103; cases e103; replace hx103_0 := (HB.out.cell (zCq w _ hx103_0)).trans hx103_0; replace hx103_1 := (HB.out.cell (zCq w _ hx103_1)).trans hx103_1; replace hx103_2 := (HB.out.cell (zCq w _ hx103_2)).trans hx103_2; replace hx103_3 := (HB.out.cell (zCq w _ hx103_3)).trans hx103_3; replace hx103_4 := (HB.out.cell (zCq w _ hx103_4)).trans hx103_4; have HR103_4 := zA hi103_4; have HC103_4 := zA hl103_4; clear hi103_4 hl103_4; replace p103 := eq_true p103; replace q103 := eq_true q103)); repeat (go_quiet (first | ((with_reducible refine gate_dst (N := 2) rfl ?_); (try (refine gate_guard (by rfl) ?_; dsimp only)); refine box_event qr (N := 2) qr (cs := #[.int .i64 a0_0, .int .i64 a0_1, .int .i64 a0_2]) (t := 97) qg ?_; intro gb102 hg w10 hbox hb; have n0_ := zA (qX BK101.out hb); have n1_ := zA (zV qB hb); have n2_ := zA (hbox); have n3_ := zA ((qS : w.heap.size ≤ gb102)); have n4_ := zA ((qS : w.heap.size ≤ gb102)); have n5_ := zA ((by rw [hg]; exact zLq (qL BK101.out) : g1 ≠ gb102)); have n6_ := zA ((by rw [hg]; exact zMq (qL BK101.out) : gb102 ≠ g1)); clear BK101 HB; have BK101 := n0_; have HB := n1_; have BK102 := n2_; have GW102 := n3_; have GE102 := n4_; have NB101_102 := n5_; have NB102_101 := n6_; clear n0_ n1_ n2_ n3_ n4_ n5_ n6_ hb hbox hg; have hnb11 := NB102_101.out; have hnc11 := NB101_102.out; obtain ⟨hcz12_0, hcz12_1, hcz12_2, hfz12_0, hfz12_1, hfz12_2⟩ := qc3f BK102.out; obtain ⟨hcz13_0, hcz13_1, hcz13_2, hfz13_0, hfz13_1, hfz13_2⟩ := qc3f BK101.out; have p103 : 0 ≤ (a0_0 : Int) := of_decide_eq_true qA; have q103 : a0_0 < (l1_2.length : Int) := of_decide_eq_true qA; obtain ⟨ad103, A103_4, c103_4, e103, hx103_0, hx103_1, hx103_2, hx103_3, hx103_4, hl103_4, hi103_4⟩ := at_T216 HR1_2.out a0_0 p103 q103; cases e103; replace hx103_0 := (HB.out.cell (zCq w _ hx103_0)).trans hx103_0; replace hx103_1 := (HB.out.cell (zCq w _ hx103_1)).trans hx103_1; replace hx103_2 := (HB.out.cell (zCq w _ hx103_2)).trans hx103_2; replace hx103_3 := (HB.out.cell (zCq w _ hx103_3)).trans hx103_3; replace hx103_4 := (HB.out.cell (zCq w _ hx103_4)).trans hx103_4; have HR103_4 := zA hi103_4; have HC103_4 := zA hl103_4; clear hi103_4 hl103_4; replace p103 := eq_true p103; replace q103 := eq_true q103)); try go_wp2_with (first | ((with_reducible refine gate_dst (N := 2) rfl ?_); (try (refine gate_guard (by rfl) ?_; dsimp only)); refine box_event qr (N := 2) qr (cs := #[.int .i64 a0_0, .int .i64 a0_1, .int .i64 a0_2]) (t := 97) qg ?_; intro gb102 hg w10 hbox hb; have n0_ := zA (qX BK101.out hb); have n1_ := zA (zV qB hb); have n2_ := zA (hbox); have n3_ := zA ((qS : w.heap.size ≤ gb102)); have n4_ := zA ((qS : w.heap.size ≤ gb102)); have n5_ := zA ((by rw [hg]; exact zLq (qL BK101.out) : g1 ≠ gb102)); have n6_ := zA ((by rw [hg]; exact zMq (qL BK101.out) : gb102 ≠ g1)); clear BK101 HB; have BK101 := n0_; have HB := n1_; have BK102 := n2_; have GW102 := n3_; have GE102 := n4_; have NB101_102 := n5_; have NB102_101 := n6_; clear n0_ n1_ n2_ n3_ n4_ n5_ n6_ hb hbox hg; have hnb11 := NB102_101.out; have hnc11 := NB101_102.out; obtain ⟨hcz12_0, hcz12_1, hcz12_2, hfz12_0, hfz12_1, hfz12_2⟩ := qc3f BK102.out; obtain ⟨hcz13_0, hcz13_1, hcz13_2, hfz13_0, hfz13_1, hfz13_2⟩ := qc3f BK101.out; have p103 : 0 ≤ (a0_0 : Int) := of_decide_eq_true qA; have q103 : a0_0 < (l1_2.length : Int) := of_decide_eq_true qA; obtain ⟨ad103, A103_4, c103_4, e103, hx103_0, hx103_1, hx103_2, hx103_3, hx103_4, hl103_4, hi103_4⟩ := at_T216 HR1_2.out a0_0 p103 q103; cases e103; replace hx103_0 := (HB.out.cell (zCq w _ hx103_0)).trans hx103_0; replace hx103_1 := (HB.out.cell (zCq w _ hx103_1)).trans hx103_1; replace hx103_2 := (HB.out.cell (zCq w _ hx103_2)).trans hx103_2; replace hx103_3 := (HB.out.cell (zCq w _ hx103_3)).trans hx103_3; replace hx103_4 := (HB.out.cell (zCq w _ hx103_4)).trans hx103_4; have HR103_4 := zA hi103_4; have HC103_4 := zA hl103_4; clear hi103_4 hl103_4; replace p103 := eq_true p103; replace q103 := eq_true q103)))
      go_ret; exact ⟨qE, qB⟩
    rw [if_neg c9] at H; exact absurd H (by simp)
  rw [if_neg c8] at H
  exact absurd H (by simp)
def slices_IndexFunc_rma_Fits_1_v73.l0 : Nat → List (S97) → Int → Int → Int → Int → List (S216) → Option (Int)
  | 0, _, _, _, _, _, _ => none
  | k + 1, x0, x7, x8, x102000, x102001, x102002 => if x8 < x7 then (if 0 ≤ x8 then (if x8 < (x0.length : Int) then ((rma_Fits_1_v73.f ((rd_T97 x0 x8).f0) ((rd_T97 x0 x8).f1) ((rd_T97 x0 x8).f2) x102000 x102001 x102002).bind fun t103 => (if t103 = true then (some x8) else (slices_IndexFunc_rma_Fits_1_v73.l0 k x0 x7 (wrap64 (x8 + 1)) x102000 x102001 x102002))) else (none)) else (none)) else (some (-1))
def slices_IndexFunc_rma_Fits_1_v73.f (k : Nat) (l0 : List (S97)) (a1_0_0 : Int) (a1_0_1 : Int) (l1_0_2 : List (S216)) : Option (Int) := slices_IndexFunc_rma_Fits_1_v73.l0 k l0 (l0.length : Int) 0 a1_0_0 a1_0_1 l1_0_2
theorem slices_IndexFunc_rma_Fits_1_v73.mono_l : ∀ k, (∀ y0 y1 y2 y3 y4 y5, LeO (slices_IndexFunc_rma_Fits_1_v73.l0 k y0 y1 y2 y3 y4 y5) (slices_IndexFunc_rma_Fits_1_v73.l0 (k + 1) y0 y1 y2 y3 y4 y5))
  | 0 => fun _ _ _ _ _ _ r h => by simp [slices_IndexFunc_rma_Fits_1_v73.l0] at h
  | k + 1 => by
    have ih0 := slices_IndexFunc_rma_Fits_1_v73.mono_l k
    intro y0 y1 y2 y3 y4 y5
    unfold slices_IndexFunc_rma_Fits_1_v73.l0
    repeat' first
    | (with_reducible exact ih0 _ _ _ _ _ _)
    | (with_reducible exact LeO.refl _)
    | (with_reducible exact LeO.none _)
    | (with_reducible refine LeO.ite ?_ ?_)
    | (with_reducible refine LeO.bind ?_ (fun _ => ?_))
    | exact ih0 _ _ _ _ _ _
    | exact LeO.none _
    | refine LeO.ite ?_ ?_
    | refine LeO.bind ?_ (fun _ => ?_)
theorem slices_IndexFunc_rma_Fits_1_v73.mono : ∀ a0 a1 a2 a3 k, LeO (slices_IndexFunc_rma_Fits_1_v73.f k a0 a1 a2 a3) (slices_IndexFunc_rma_Fits_1_v73.f (k + 1) a0 a1 a2 a3) := by
  intro a0 a1 a2 a3 k
  have ih0 := slices_IndexFunc_rma_Fits_1_v73.mono_l k
  unfold slices_IndexFunc_rma_Fits_1_v73.f
  repeat' first
      | (with_reducible exact ih0 _ _ _ _ _ _)
      | (with_reducible exact LeO.refl _)
      | (with_reducible exact LeO.none _)
      | (with_reducible refine LeO.ite ?_ ?_)
      | (with_reducible refine LeO.bind ?_ (fun _ => ?_))
      | exact ih0 _ _ _ _ _ _
      | exact LeO.none _
      | refine LeO.ite ?_ ?_
      | refine LeO.bind ?_ (fun _ => ?_)
set_option maxHeartbeats 8000000 in
set_option maxRecDepth 100000 in
theorem slices_IndexFunc_rma_Fits_1_v73.calls (k : Nat) (A0 : Option Addr) (c0 : Nat) (l0 : List (S97)) (g1_0 : Nat) (a1_0_0 : Int) (a1_0_1 : Int) (A1_0_2 : Option Addr) (c1_0_2 : Nat) (l1_0_2 : List (S216)) (r : Int) (w : World) (hr0 : Kd.C k97 w A0 l0.length l0) (hc0 : l0.length ≤ c0) (hk1_0 : w.heap[g1_0]? = some (.cells #[.int .i64 a1_0_0, .int .i64 a1_0_1, .slice A1_0_2 l1_0_2.length c1_0_2] 73 (0, 0))) (hr1_0_2 : Kd.C k216 w A1_0_2 l1_0_2.length l1_0_2) (hc1_0_2 : l1_0_2.length ≤ c1_0_2) (h : slices_IndexFunc_rma_Fits_1_v73.f k l0 a1_0_0 a1_0_1 l1_0_2 = some r) :
    Calls Try.prog 219 #[.slice A0 l0.length c0, .func (.func 148) #[] #[.pointer (some ⟨g1_0, 0, none⟩)]] w fun e w' => e = .returned (.int .i64 r) ∧ Below w.heap.size w w' := by
  have hu97 := Try.underlying97
  have HR0 := zA hr0
  have HC0 := zA hc0
  clear hr0 hc0
  have HR1_0_2 := zA hr1_0_2
  have HC1_0_2 := zA hc1_0_2
  clear hr1_0_2 hc1_0_2
  have BK101 := zA hk1_0
  clear hk1_0
  have HB := zA (Below.refl w.heap.size w)
  have H : (slices_IndexFunc_rma_Fits_1_v73.l0 k l0 (l0.length : Int) 0 a1_0_0 a1_0_1 l1_0_2) = some r := h
  clear h
  have H' := zA H
  clear H
  go_enter Try.func219, Try.ntmps219
  go_wp2
  go_loopg [8] k (fun kq v8 w' => ∃ (x8_1 : Int), v8 = .int .i64 x8_1 ∧ Aside0 (slices_IndexFunc_rma_Fits_1_v73.l0 kq l0 (l0.length : Int) x8_1 a1_0_0 a1_0_1 l1_0_2 = some r) ∧ Aside0 (kq ≤ k) ∧ Aside0 (w'.heap[g1_0]? = some (.cells #[.int .i64 a1_0_0, .int .i64 a1_0_1, (.slice A1_0_2 l1_0_2.length c1_0_2)] 73 (0, 0))) ∧ Aside0 (Below w.heap.size w w'))
  case atStart => exact ⟨(0), (by first | rfl | (simp; done) | (simp [*]; done)), H', ⟨Nat.le_refl _⟩, ⟨by exact BK101.out⟩, ⟨qB⟩⟩
  case round =>
    clear H'; try clear c1
    try clear p2
    obtain ⟨x8_1, rfl, HA, HK1, BK101, HB⟩ := hrel; cases gk with
    | zero => exact absurd HA.out (by simp [slices_IndexFunc_rma_Fits_1_v73.l0])
    | succ k1 =>
      have H := HA.out; clear HA; simp only [slices_IndexFunc_rma_Fits_1_v73.l0] at H; by_cases c3 : x8_1 < (l0.length : Int)
      · rw [if_pos c3] at H
        have c3b0 : decide (x8_1 < (l0.length : Int)) = true := zFq c3; clear c3; by_cases c4 : 0 ≤ x8_1
        · rw [if_pos c4] at H
          have c4b0 : decide (0 ≤ x8_1) = true := zFq c4; clear c4; by_cases c5 : x8_1 < (l0.length : Int)
          · rw [if_pos c5] at H
            have c5b0 : decide (x8_1 < (l0.length : Int)) = true := zFq c5; clear c5; replace H := Option.bind_eq_some_iff.mp H; obtain ⟨t103, A60, H⟩ := H; replace H : (if t103 = true then (some x8_1) else (slices_IndexFunc_rma_Fits_1_v73.l0 k1 l0 (l0.length : Int) (wrap64 (x8_1 + 1)) a1_0_0 a1_0_1 l1_0_2)) = some r := H; have A6 := zA A60; clear A60; by_cases c7 : t103 = true
            · subst c7
              have H1 : (some x8_1) = some r := by first | (rw [if_pos rfl] at H; exact H) | rfl
              clear H; have H := H1; clear H1; obtain rfl := zKq H; have p102 : 0 ≤ (x8_1 : Int) := of_decide_eq_true qA; have q102 : x8_1 < (l0.length : Int) := of_decide_eq_true qA; obtain ⟨ad102, e102, hx102_0, hx102_1, hx102_2⟩ := at_T97 HR0.out x8_1 p102 q102; cases e102
              replace hx102_0 := (HB.out.cell (zCq w _ hx102_0)).trans hx102_0; replace hx102_1 := (HB.out.cell (zCq w _ hx102_1)).trans hx102_1; replace hx102_2 := (HB.out.cell (zCq w _ hx102_2)).trans hx102_2; replace p102 := eq_true p102; replace q102 := eq_true q102; obtain ⟨_, _, _, _, _, _⟩ := qc3f BK101.out; go_wp2_with (first | (go_at_call 148; (with_reducible refine (rma_Fits_1_v73.calls ((rd_T97 l0 x8_1).f0) ((rd_T97 l0 x8_1).f1) ((rd_T97 l0 x8_1).f2) g1_0 a1_0_0 a1_0_1 A1_0_2 c1_0_2 l1_0_2 true _ ?side1 ?side2 ?side3 A6.out).mono ?_); (case side1 => exact (qW BK101.out)); (case side2 => exact qC (Kd.C_below HR1_0_2.out HB.out)); (case side3 => exact HC1_0_2.out); rintro e w9 ⟨rfl, hb⟩; have n0_ := zA (qX BK101.out hb); have n1_ := zA (zV qB hb); clear BK101 HB; have BK101 := n0_; have HB := n1_; clear n0_ n1_; (try clear hb); (try clear hb2); (try clear hk); (try clear hi))); go_ret; exact ⟨qE, qB⟩
            replace c7 := Bool.eq_false_iff.mpr c7; subst c7; have H1 : (slices_IndexFunc_rma_Fits_1_v73.l0 k1 l0 (l0.length : Int) (wrap64 (x8_1 + 1)) a1_0_0 a1_0_1 l1_0_2) = some r := by first | (rw [if_neg (show ¬ (false = true) by decide)] at H; exact H) | rfl
            clear H; have H := H1; clear H1; have H' := zA H; clear H; have p102 : 0 ≤ (x8_1 : Int) := of_decide_eq_true qA; have q102 : x8_1 < (l0.length : Int) := of_decide_eq_true qA; obtain ⟨ad102, e102, hx102_0, hx102_1, hx102_2⟩ := at_T97 HR0.out x8_1 p102 q102; cases e102
            replace hx102_0 := (HB.out.cell (zCq w _ hx102_0)).trans hx102_0; replace hx102_1 := (HB.out.cell (zCq w _ hx102_1)).trans hx102_1; replace hx102_2 := (HB.out.cell (zCq w _ hx102_2)).trans hx102_2; replace p102 := eq_true p102; replace q102 := eq_true q102; obtain ⟨_, _, _, _, _, _⟩ := qc3f BK101.out; go_wp2_with (first | (go_at_call 148; (with_reducible refine (rma_Fits_1_v73.calls ((rd_T97 l0 x8_1).f0) ((rd_T97 l0 x8_1).f1) ((rd_T97 l0 x8_1).f2) g1_0 a1_0_0 a1_0_1 A1_0_2 c1_0_2 l1_0_2 false _ ?side1 ?side2 ?side3 A6.out).mono ?_); (case side1 => exact (qW BK101.out)); (case side2 => exact qC (Kd.C_below HR1_0_2.out HB.out)); (case side3 => exact HC1_0_2.out); rintro e w11 ⟨rfl, hb⟩; have n0_ := zA (qX BK101.out hb); have n1_ := zA (zV qB hb); clear BK101 HB; have BK101 := n0_; have HB := n1_; clear n0_ n1_; (try clear hb); (try clear hb2); (try clear hk); (try clear hi))); go_roundg k1
            case measure => have := HK1.out; omega
            case rel => exact ⟨(wrap64 (x8_1 + 1)), (by first | rfl | (simp; done) | (simp [*]; done)), H', ⟨by have := HK1.out; omega⟩, ⟨by exact BK101.out⟩, ⟨qB⟩⟩
          rw [if_neg c5] at H; exact absurd H (by simp)
        rw [if_neg c4] at H; exact absurd H (by simp)
      rw [if_neg c3] at H; have c3b0 : decide (x8_1 < (l0.length : Int)) = false := zGq c3; clear c3; obtain rfl := zKq H; go_wp2; go_ret; exact ⟨qE, qB⟩
def slices_ContainsFunc_rma_Fits_1_v73.f (k : Nat) (l0 : List (S97)) (a1_0_0 : Int) (a1_0_1 : Int) (l1_0_2 : List (S216)) : Option (Bool) := (slices_IndexFunc_rma_Fits_1_v73.f k l0 a1_0_0 a1_0_1 l1_0_2).bind fun t102 => (some (decide (t102 ≥ 0)))
theorem slices_ContainsFunc_rma_Fits_1_v73.mono : ∀ a0 a1 a2 a3 k, LeO (slices_ContainsFunc_rma_Fits_1_v73.f k a0 a1 a2 a3) (slices_ContainsFunc_rma_Fits_1_v73.f (k + 1) a0 a1 a2 a3) := by
  intro a0 a1 a2 a3 k
  unfold slices_ContainsFunc_rma_Fits_1_v73.f
  repeat' first
      | (with_reducible exact slices_IndexFunc_rma_Fits_1_v73.mono _ _ _ _ _)
      | (with_reducible exact LeO.refl _)
      | (with_reducible exact LeO.none _)
      | (with_reducible refine LeO.ite ?_ ?_)
      | (with_reducible refine LeO.bind ?_ (fun _ => ?_))
      | exact slices_IndexFunc_rma_Fits_1_v73.mono _ _ _ _ _
      | exact LeO.none _
      | refine LeO.ite ?_ ?_
      | refine LeO.bind ?_ (fun _ => ?_)
set_option maxHeartbeats 8000000 in
set_option maxRecDepth 100000 in
theorem slices_ContainsFunc_rma_Fits_1_v73.calls (k : Nat) (A0 : Option Addr) (c0 : Nat) (l0 : List (S97)) (g1_0 : Nat) (a1_0_0 : Int) (a1_0_1 : Int) (A1_0_2 : Option Addr) (c1_0_2 : Nat) (l1_0_2 : List (S216)) (r : Bool) (w : World) (hr0 : Kd.C k97 w A0 l0.length l0) (hc0 : l0.length ≤ c0) (hk1_0 : w.heap[g1_0]? = some (.cells #[.int .i64 a1_0_0, .int .i64 a1_0_1, .slice A1_0_2 l1_0_2.length c1_0_2] 73 (0, 0))) (hr1_0_2 : Kd.C k216 w A1_0_2 l1_0_2.length l1_0_2) (hc1_0_2 : l1_0_2.length ≤ c1_0_2) (h : slices_ContainsFunc_rma_Fits_1_v73.f k l0 a1_0_0 a1_0_1 l1_0_2 = some r) :
    Calls Try.prog 144 #[.slice A0 l0.length c0, .func (.func 148) #[] #[.pointer (some ⟨g1_0, 0, none⟩)]] w fun e w' => e = .returned (.bool r) ∧ Below w.heap.size w w' := by
  have HR0 := zA hr0
  have HC0 := zA hc0
  clear hr0 hc0
  have HR1_0_2 := zA hr1_0_2
  have HC1_0_2 := zA hc1_0_2
  clear hr1_0_2 hc1_0_2
  have BK101 := zA hk1_0
  clear hk1_0
  have HB := zA (Below.refl w.heap.size w)
  have H : ((slices_IndexFunc_rma_Fits_1_v73.f k l0 a1_0_0 a1_0_1 l1_0_2).bind fun t102 => (some (decide (t102 ≥ 0)))) = some r := h
  clear h
  replace H := Option.bind_eq_some_iff.mp H
  obtain ⟨t102, A30, H⟩ := H
  replace H : (some (decide (t102 ≥ 0))) = some r := H
  have A3 := zA A30
  clear A30
  obtain rfl := zKq H
  obtain ⟨_, _, _, _, _, _⟩ := qc3f BK101.out
  go_enter Try.func144, Try.ntmps144
  go_wp2_with (first | (go_at_call 219; (with_reducible refine (slices_IndexFunc_rma_Fits_1_v73.calls k _ _ l0 g1_0 a1_0_0 a1_0_1 A1_0_2 c1_0_2 l1_0_2 t102 _ ?side1 ?side2 ?side3 ?side4 ?side5 A3.out).mono ?_); (case side1 => repeat (first | exact HR0.out | (with_reducible refine Kd.C_alloc ?_ _) | (with_reducible refine Kd.C_drewN ?_ _) | (with_reducible refine Kd.C_drew ?_))); (case side2 => exact HC0.out); (case side3 => exact (qW BK101.out)); (case side4 => repeat (first | exact HR1_0_2.out | (with_reducible refine Kd.C_alloc ?_ _) | (with_reducible refine Kd.C_drewN ?_ _) | (with_reducible refine Kd.C_drew ?_))); (case side5 => exact HC1_0_2.out); rintro e w5 ⟨rfl, hb⟩; have n0_ := zA (qX BK101.out hb); have n1_ := zA (zV qB hb); clear BK101 HB; have BK101 := n0_; have HB := n1_; clear n0_ n1_; (try clear hb); (try clear hb2); (try clear hk); (try clear hi)))
  go_ret
  exact ⟨qE, qB⟩
def rma_Fits.f (k : Nat) (a0_0 : Int) (a0_1 : Int) (a0_2 : Int) (a0_3 : Int) (l0_4 : List (S97)) (a1_0 : Int) (a1_1 : Int) (l1_2 : List (S216)) : Option (Bool) := (rma_Check.f k a0_0 a0_1 a0_2 a0_3 l0_4).bind fun t103 => (if t103 = 0 then ((order_Check.f k a1_0 a1_1 l1_2).bind fun t104 => (if t104 = 0 then (if a0_1 = a1_0 then ((slices_ContainsFunc_rma_Fits_1_v73.f k l0_4 a1_0 a1_1 l1_2).bind fun t105 => (some (!t105))) else (some false)) else (some false))) else (some false))
theorem rma_Fits.mono : ∀ a0 a1 a2 a3 a4 a5 a6 a7 k, LeO (rma_Fits.f k a0 a1 a2 a3 a4 a5 a6 a7) (rma_Fits.f (k + 1) a0 a1 a2 a3 a4 a5 a6 a7) := by
  intro a0 a1 a2 a3 a4 a5 a6 a7 k
  unfold rma_Fits.f
  repeat' first
      | (with_reducible exact order_Check.mono _ _ _ _)
      | (with_reducible exact rma_Check.mono _ _ _ _ _ _)
      | (with_reducible exact slices_ContainsFunc_rma_Fits_1_v73.mono _ _ _ _ _)
      | (with_reducible exact LeO.refl _)
      | (with_reducible exact LeO.none _)
      | (with_reducible refine LeO.ite ?_ ?_)
      | (with_reducible refine LeO.bind ?_ (fun _ => ?_))
      | exact order_Check.mono _ _ _ _
      | exact rma_Check.mono _ _ _ _ _ _
      | exact slices_ContainsFunc_rma_Fits_1_v73.mono _ _ _ _ _
      | exact LeO.none _
      | refine LeO.ite ?_ ?_
      | refine LeO.bind ?_ (fun _ => ?_)
set_option maxHeartbeats 8000000 in
set_option maxRecDepth 100000 in
theorem rma_Fits.calls (k : Nat) (a0_0 : Int) (a0_1 : Int) (a0_2 : Int) (a0_3 : Int) (A0_4 : Option Addr) (c0_4 : Nat) (l0_4 : List (S97)) (a1_0 : Int) (a1_1 : Int) (A1_2 : Option Addr) (c1_2 : Nat) (l1_2 : List (S216)) (r : Bool) (w : World) (hr0_4 : Kd.C k97 w A0_4 l0_4.length l0_4) (hc0_4 : l0_4.length ≤ c0_4) (hr1_2 : Kd.C k216 w A1_2 l1_2.length l1_2) (hc1_2 : l1_2.length ≤ c1_2) (h : rma_Fits.f k a0_0 a0_1 a0_2 a0_3 l0_4 a1_0 a1_1 l1_2 = some r) :
    Calls Try.prog 54 #[.agg #[.int .i64 a0_0, .int .i64 a0_1, .int .i64 a0_2, .int .i64 a0_3, .slice A0_4 l0_4.length c0_4], .agg #[.int .i64 a1_0, .int .i64 a1_1, .slice A1_2 l1_2.length c1_2]] w fun e w' => e = .returned (.bool r) ∧ Below w.heap.size w w' := by
  have hu70 := Try.underlying70
  have hu73 := Try.underlying73
  have hmf : ∀ (fn : Fn) (first cap : Array Value) (w : World), (Instr.makeFunc fn first cap).run Try.prog w = .ok (.func fn first cap) w := fun _ _ _ _ => rfl
  have HR0_4 := zA hr0_4
  have HC0_4 := zA hc0_4
  clear hr0_4 hc0_4
  have HR1_2 := zA hr1_2
  have HC1_2 := zA hc1_2
  clear hr1_2 hc1_2
  have HB := zA (Below.refl w.heap.size w)
  have H : ((rma_Check.f k a0_0 a0_1 a0_2 a0_3 l0_4).bind fun t103 => (if t103 = 0 then ((order_Check.f k a1_0 a1_1 l1_2).bind fun t104 => (if t104 = 0 then (if a0_1 = a1_0 then ((slices_ContainsFunc_rma_Fits_1_v73.f k l0_4 a1_0 a1_1 l1_2).bind fun t105 => (some (!t105))) else (some false)) else (some false))) else (some false))) = some r := h
  clear h
  replace H := Option.bind_eq_some_iff.mp H
  obtain ⟨t103, A30, H⟩ := H
  replace H : (if t103 = 0 then ((order_Check.f k a1_0 a1_1 l1_2).bind fun t104 => (if t104 = 0 then (if a0_1 = a1_0 then ((slices_ContainsFunc_rma_Fits_1_v73.f k l0_4 a1_0 a1_1 l1_2).bind fun t105 => (some (!t105))) else (some false)) else (some false))) else (some false)) = some r := H
  have A3 := zA A30
  clear A30
  by_cases c4 : t103 = 0
  · rw [if_pos c4] at H
    have c4b0 : (t103 == 0) = true := beq_iff_eq.mpr c4; have c4b1 : (t103 != 0) = false := bne_eq_false_iff_eq.mpr c4; clear c4; replace H := Option.bind_eq_some_iff.mp H; obtain ⟨t104, A50, H⟩ := H; replace H : (if t104 = 0 then (if a0_1 = a1_0 then ((slices_ContainsFunc_rma_Fits_1_v73.f k l0_4 a1_0 a1_1 l1_2).bind fun t105 => (some (!t105))) else (some false)) else (some false)) = some r := H; have A5 := zA A50; clear A50; by_cases c6 : t104 = 0
    · rw [if_pos c6] at H
      have c6b0 : (t104 == 0) = true := beq_iff_eq.mpr c6; have c6b1 : (t104 != 0) = false := bne_eq_false_iff_eq.mpr c6; clear c6; by_cases c7 : a0_1 = a1_0
      · rw [if_pos c7] at H
        have c7b0 : (a0_1 == a1_0) = true := beq_iff_eq.mpr c7; have c7b1 : (a0_1 != a1_0) = false := bne_eq_false_iff_eq.mpr c7; clear c7; replace H := Option.bind_eq_some_iff.mp H; obtain ⟨t105, A80, H⟩ := H; replace H : (some (!t105)) = some r := H; have A8 := zA A80; clear A80; obtain rfl := zKq H; go_enter Try.func54, Try.ntmps54; go_wp2_with (first | ((with_reducible refine gate_dst (N := 2) rfl ?_); refine box_event qr (N := 2) qr (cs := #[.int .i64 a0_0, .int .i64 a0_1, .int .i64 a0_2, .int .i64 a0_3, .slice A0_4 l0_4.length c0_4]) (t := 70) qg ?_; intro gb101 hg w9 hbox hb; have n0_ := zA (zV qB hb); have n1_ := zA (hbox); have n2_ := zA ((qS : w.heap.size ≤ gb101)); have n3_ := zA ((qS : w.heap.size ≤ gb101)); clear HB; have HB := n0_; have BK101 := n1_; have GW101 := n2_; have GE101 := n3_; clear n0_ n1_ n2_ n3_ hb hbox hg) | ((with_reducible refine gate_dst (N := 3) rfl ?_); refine box_event qr (N := 3) qr (cs := #[.int .i64 a1_0, .int .i64 a1_1, .slice A1_2 l1_2.length c1_2]) (t := 73) qg ?_; intro gb102 hg w10 hbox hb; have n0_ := zA (qX BK101.out hb); have n1_ := zA (zV qB hb); have n2_ := zA (hbox); have n3_ := zA ((qS : w.heap.size ≤ gb102)); have n4_ := zA ((qS : w.heap.size ≤ gb102)); have n5_ := zA ((by rw [hg]; exact zLq (qL BK101.out) : gb101 ≠ gb102)); have n6_ := zA ((by rw [hg]; exact zMq (qL BK101.out) : gb102 ≠ gb101)); clear BK101 HB; have BK101 := n0_; have HB := n1_; have BK102 := n2_; have GW102 := n3_; have GE102 := n4_; have NB101_102 := n5_; have NB102_101 := n6_; clear n0_ n1_ n2_ n3_ n4_ n5_ n6_ hb hbox hg; have hnb11 := NB101_102.out; have hnc11 := NB102_101.out; obtain ⟨_, _, _, _, _, _, _, _, _, _⟩ := qc5f BK101.out) | ((with_reducible refine zJq (f := 52) rfl ?_); refine goesL_ (some 7) rfl rfl Try.func52 (by kernel_rfl) rfl #[.agg #[.int .i64 a0_0, .int .i64 a0_1, .int .i64 a0_2, .int .i64 a0_3, .slice A0_4 l0_4.length c0_4]] rfl (by (try simp only [zR, zS, zT]); first | done | rfl | (simp only [zP, zQ]; rfl)) ?_; (with_reducible refine (rma_Check.calls k a0_0 a0_1 a0_2 a0_3 _ _ l0_4 t103 _ ?side1 ?side2 A3.out).mono ?_); (case side1 => exact qC (Kd.C_below HR0_4.out HB.out)); (case side2 => exact HC0_4.out); rintro e w13 ⟨rfl, hb⟩; refine ⟨_, rfl, ?_⟩; have n0_ := zA (qX BK101.out hb); have n1_ := zA (qX BK102.out hb); have n2_ := zA (zV qB hb); clear BK101 BK102 HB; have BK101 := n0_; have BK102 := n1_; have HB := n2_; clear n0_ n1_ n2_; (try clear hb); (try clear hb2); (try clear hk); (try clear hi); obtain ⟨_, _, _, _, _, _⟩ := qc3f BK102.out) | (go_at_call 147; (with_reducible refine (order_Check.calls k a1_0 a1_1 _ _ l1_2 t104 _ ?side1 ?side2 A5.out).mono ?_); (case side1 => exact qC (Kd.C_below HR1_2.out HB.out)); (case side2 => exact HC1_2.out); rintro e w15 ⟨rfl, hb⟩; have n0_ := zA (qX BK101.out hb); have n1_ := zA (qX BK102.out hb); have n2_ := zA (zV qB hb); clear BK101 BK102 HB; have BK101 := n0_; have BK102 := n1_; have HB := n2_; clear n0_ n1_ n2_; (try clear hb); (try clear hb2); (try clear hk); (try clear hi); obtain ⟨_, _, _, _, _, _, _, _, _, _⟩ := qc5f BK101.out; obtain ⟨_, _, _, _, _, _⟩ := qc3f BK102.out) | (go_at_call 144; (with_reducible refine (slices_ContainsFunc_rma_Fits_1_v73.calls k _ _ l0_4 gb102 a1_0 a1_1 A1_2 c1_2 l1_2 t105 _ ?side1 ?side2 ?side3 ?side4 ?side5 A8.out).mono ?_); (case side1 => exact qC (Kd.C_below HR0_4.out HB.out)); (case side2 => exact HC0_4.out); (case side3 => exact (qW BK102.out)); (case side4 => exact qC (Kd.C_below HR1_2.out HB.out)); (case side5 => exact HC1_2.out); rintro e w18 ⟨rfl, hb⟩; have n0_ := zA (qX BK101.out hb); have n1_ := zA (qX BK102.out hb); have n2_ := zA (zV qB hb); clear BK101 BK102 HB; have BK101 := n0_; have BK102 := n1_; have HB := n2_; clear n0_ n1_ n2_; (try clear hb); (try clear hb2); (try clear hk); (try clear hi)))
        go_ret; exact ⟨qE, qB⟩
      rw [if_neg c7] at H; have c7b0 : (a0_1 == a1_0) = false := beq_eq_false_iff_ne.mpr c7; have c7b1 : (a0_1 != a1_0) = true := bne_iff_ne.mpr c7; obtain rfl := zKq H; go_enter Try.func54, Try.ntmps54; go_wp2_with (first | ((with_reducible refine gate_dst (N := 2) rfl ?_); refine box_event qr (N := 2) qr (cs := #[.int .i64 a0_0, .int .i64 a0_1, .int .i64 a0_2, .int .i64 a0_3, .slice A0_4 l0_4.length c0_4]) (t := 70) qg ?_; intro gb101 hg w19 hbox hb; have n0_ := zA (zV qB hb); have n1_ := zA (hbox); have n2_ := zA ((qS : w.heap.size ≤ gb101)); have n3_ := zA ((qS : w.heap.size ≤ gb101)); clear HB; have HB := n0_; have BK101 := n1_; have GW101 := n2_; have GE101 := n3_; clear n0_ n1_ n2_ n3_ hb hbox hg) | ((with_reducible refine gate_dst (N := 3) rfl ?_); refine box_event qr (N := 3) qr (cs := #[.int .i64 a1_0, .int .i64 a1_1, .slice A1_2 l1_2.length c1_2]) (t := 73) qg ?_; intro gb102 hg w20 hbox hb; have n0_ := zA (qX BK101.out hb); have n1_ := zA (zV qB hb); have n2_ := zA (hbox); have n3_ := zA ((qS : w.heap.size ≤ gb102)); have n4_ := zA ((qS : w.heap.size ≤ gb102)); have n5_ := zA ((by rw [hg]; exact zLq (qL BK101.out) : gb101 ≠ gb102)); have n6_ := zA ((by rw [hg]; exact zMq (qL BK101.out) : gb102 ≠ gb101)); clear BK101 HB; have BK101 := n0_; have HB := n1_; have BK102 := n2_; have GW102 := n3_; have GE102 := n4_; have NB101_102 := n5_; have NB102_101 := n6_; clear n0_ n1_ n2_ n3_ n4_ n5_ n6_ hb hbox hg; have hnb21 := NB101_102.out; have hnc21 := NB102_101.out; obtain ⟨_, _, _, _, _, _, _, _, _, _⟩ := qc5f BK101.out) | ((with_reducible refine zJq (f := 52) rfl ?_); refine goesL_ (some 7) rfl rfl Try.func52 (by kernel_rfl) rfl #[.agg #[.int .i64 a0_0, .int .i64 a0_1, .int .i64 a0_2, .int .i64 a0_3, .slice A0_4 l0_4.length c0_4]] rfl (by (try simp only [zR, zS, zT]); first | done | rfl | (simp only [zP, zQ]; rfl)) ?_; (with_reducible refine (rma_Check.calls k a0_0 a0_1 a0_2 a0_3 _ _ l0_4 t103 _ ?side1 ?side2 A3.out).mono ?_); (case side1 => exact qC (Kd.C_below HR0_4.out HB.out)); (case side2 => exact HC0_4.out); rintro e w23 ⟨rfl, hb⟩; refine ⟨_, rfl, ?_⟩; have n0_ := zA (qX BK101.out hb); have n1_ := zA (qX BK102.out hb); have n2_ := zA (zV qB hb); clear BK101 BK102 HB; have BK101 := n0_; have BK102 := n1_; have HB := n2_; clear n0_ n1_ n2_; (try clear hb); (try clear hb2); (try clear hk); (try clear hi); obtain ⟨_, _, _, _, _, _⟩ := qc3f BK102.out) | (go_at_call 147; (with_reducible refine (order_Check.calls k a1_0 a1_1 _ _ l1_2 t104 _ ?side1 ?side2 A5.out).mono ?_); (case side1 => exact qC (Kd.C_below HR1_2.out HB.out)); (case side2 => exact HC1_2.out); rintro e w25 ⟨rfl, hb⟩; have n0_ := zA (qX BK101.out hb); have n1_ := zA (qX BK102.out hb); have n2_ := zA (zV qB hb); clear BK101 BK102 HB; have BK101 := n0_; have BK102 := n1_; have HB := n2_; clear n0_ n1_ n2_; (try clear hb); (try clear hb2); (try clear hk); (try clear hi); obtain ⟨_, _, _, _, _, _, _, _, _, _⟩ := qc5f BK101.out; obtain ⟨_, _, _, _, _, _⟩ := qc3f BK102.out))
      go_ret; exact ⟨qE, qB⟩
    rw [if_neg c6] at H; have c6b0 : (t104 == 0) = false := beq_eq_false_iff_ne.mpr c6; have c6b1 : (t104 != 0) = true := bne_iff_ne.mpr c6; obtain rfl := zKq H; go_enter Try.func54, Try.ntmps54; go_wp2_with (first | ((with_reducible refine gate_dst (N := 2) rfl ?_); refine box_event qr (N := 2) qr (cs := #[.int .i64 a0_0, .int .i64 a0_1, .int .i64 a0_2, .int .i64 a0_3, .slice A0_4 l0_4.length c0_4]) (t := 70) qg ?_; intro gb101 hg w28 hbox hb; have n0_ := zA (zV qB hb); have n1_ := zA (hbox); have n2_ := zA ((qS : w.heap.size ≤ gb101)); have n3_ := zA ((qS : w.heap.size ≤ gb101)); clear HB; have HB := n0_; have BK101 := n1_; have GW101 := n2_; have GE101 := n3_; clear n0_ n1_ n2_ n3_ hb hbox hg) | ((with_reducible refine gate_dst (N := 3) rfl ?_); refine box_event qr (N := 3) qr (cs := #[.int .i64 a1_0, .int .i64 a1_1, .slice A1_2 l1_2.length c1_2]) (t := 73) qg ?_; intro gb102 hg w29 hbox hb; have n0_ := zA (qX BK101.out hb); have n1_ := zA (zV qB hb); have n2_ := zA (hbox); have n3_ := zA ((qS : w.heap.size ≤ gb102)); have n4_ := zA ((qS : w.heap.size ≤ gb102)); have n5_ := zA ((by rw [hg]; exact zLq (qL BK101.out) : gb101 ≠ gb102)); have n6_ := zA ((by rw [hg]; exact zMq (qL BK101.out) : gb102 ≠ gb101)); clear BK101 HB; have BK101 := n0_; have HB := n1_; have BK102 := n2_; have GW102 := n3_; have GE102 := n4_; have NB101_102 := n5_; have NB102_101 := n6_; clear n0_ n1_ n2_ n3_ n4_ n5_ n6_ hb hbox hg; have hnb30 := NB101_102.out; have hnc30 := NB102_101.out; obtain ⟨_, _, _, _, _, _, _, _, _, _⟩ := qc5f BK101.out) | ((with_reducible refine zJq (f := 52) rfl ?_); refine goesL_ (some 7) rfl rfl Try.func52 (by kernel_rfl) rfl #[.agg #[.int .i64 a0_0, .int .i64 a0_1, .int .i64 a0_2, .int .i64 a0_3, .slice A0_4 l0_4.length c0_4]] rfl (by (try simp only [zR, zS, zT]); first | done | rfl | (simp only [zP, zQ]; rfl)) ?_; (with_reducible refine (rma_Check.calls k a0_0 a0_1 a0_2 a0_3 _ _ l0_4 t103 _ ?side1 ?side2 A3.out).mono ?_); (case side1 => exact qC (Kd.C_below HR0_4.out HB.out)); (case side2 => exact HC0_4.out); rintro e w32 ⟨rfl, hb⟩; refine ⟨_, rfl, ?_⟩; have n0_ := zA (qX BK101.out hb); have n1_ := zA (qX BK102.out hb); have n2_ := zA (zV qB hb); clear BK101 BK102 HB; have BK101 := n0_; have BK102 := n1_; have HB := n2_; clear n0_ n1_ n2_; (try clear hb); (try clear hb2); (try clear hk); (try clear hi); obtain ⟨_, _, _, _, _, _⟩ := qc3f BK102.out) | (go_at_call 147; (with_reducible refine (order_Check.calls k a1_0 a1_1 _ _ l1_2 t104 _ ?side1 ?side2 A5.out).mono ?_); (case side1 => exact qC (Kd.C_below HR1_2.out HB.out)); (case side2 => exact HC1_2.out); rintro e w34 ⟨rfl, hb⟩; have n0_ := zA (qX BK101.out hb); have n1_ := zA (qX BK102.out hb); have n2_ := zA (zV qB hb); clear BK101 BK102 HB; have BK101 := n0_; have BK102 := n1_; have HB := n2_; clear n0_ n1_ n2_; (try clear hb); (try clear hb2); (try clear hk); (try clear hi)))
    go_ret; exact ⟨qE, qB⟩
  rw [if_neg c4] at H
  have c4b0 : (t103 == 0) = false := beq_eq_false_iff_ne.mpr c4
  have c4b1 : (t103 != 0) = true := bne_iff_ne.mpr c4
  obtain rfl := zKq H
  go_enter Try.func54, Try.ntmps54
  go_wp2_with (first | ((with_reducible refine gate_dst (N := 2) rfl ?_); refine box_event qr (N := 2) qr (cs := #[.int .i64 a0_0, .int .i64 a0_1, .int .i64 a0_2, .int .i64 a0_3, .slice A0_4 l0_4.length c0_4]) (t := 70) qg ?_; intro gb101 hg w35 hbox hb; have n0_ := zA (zV qB hb); have n1_ := zA (hbox); have n2_ := zA ((qS : w.heap.size ≤ gb101)); have n3_ := zA ((qS : w.heap.size ≤ gb101)); clear HB; have HB := n0_; have BK101 := n1_; have GW101 := n2_; have GE101 := n3_; clear n0_ n1_ n2_ n3_ hb hbox hg) | ((with_reducible refine gate_dst (N := 3) rfl ?_); refine box_event qr (N := 3) qr (cs := #[.int .i64 a1_0, .int .i64 a1_1, .slice A1_2 l1_2.length c1_2]) (t := 73) qg ?_; intro gb102 hg w36 hbox hb; have n0_ := zA (qX BK101.out hb); have n1_ := zA (zV qB hb); have n2_ := zA (hbox); have n3_ := zA ((qS : w.heap.size ≤ gb102)); have n4_ := zA ((qS : w.heap.size ≤ gb102)); have n5_ := zA ((by rw [hg]; exact zLq (qL BK101.out) : gb101 ≠ gb102)); have n6_ := zA ((by rw [hg]; exact zMq (qL BK101.out) : gb102 ≠ gb101)); clear BK101 HB; have BK101 := n0_; have HB := n1_; have BK102 := n2_; have GW102 := n3_; have GE102 := n4_; have NB101_102 := n5_; have NB102_101 := n6_; clear n0_ n1_ n2_ n3_ n4_ n5_ n6_ hb hbox hg; have hnb37 := NB101_102.out; have hnc37 := NB102_101.out; obtain ⟨_, _, _, _, _, _, _, _, _, _⟩ := qc5f BK101.out) | ((with_reducible refine zJq (f := 52) rfl ?_); refine goesL_ (some 7) rfl rfl Try.func52 (by kernel_rfl) rfl #[.agg #[.int .i64 a0_0, .int .i64 a0_1, .int .i64 a0_2, .int .i64 a0_3, .slice A0_4 l0_4.length c0_4]] rfl (by (try simp only [zR, zS, zT]); first | done | rfl | (simp only [zP, zQ]; rfl)) ?_; (with_reducible refine (rma_Check.calls k a0_0 a0_1 a0_2 a0_3 _ _ l0_4 t103 _ ?side1 ?side2 A3.out).mono ?_); (case side1 => exact qC (Kd.C_below HR0_4.out HB.out)); (case side2 => exact HC0_4.out); rintro e w39 ⟨rfl, hb⟩; refine ⟨_, rfl, ?_⟩; have n0_ := zA (qX BK101.out hb); have n1_ := zA (qX BK102.out hb); have n2_ := zA (zV qB hb); clear BK101 BK102 HB; have BK101 := n0_; have BK102 := n1_; have HB := n2_; clear n0_ n1_ n2_; (try clear hb); (try clear hb2); (try clear hk); (try clear hi)))
  go_ret
  exact ⟨qE, qB⟩
def rma_Make.l0 : Nat → Int → Int → Int → Int → List (S216) → Int → Int → Int → Int → List (S97) → Option (Int × Int × Int × Int × (List (S97)) × Int)
  | 0, _, _, _, _, _, _, _, _, _, _ => none
  | k + 1, x21, x22, x102000, x102001, x102002, x107000, x107001, x107002, x107003, x107004 => if x22 < x21 then (if 0 ≤ x22 then (if x22 < (x107004.length : Int) then (rma_Make.l0 k x21 (wrap64 (x22 + 1)) x102000 x102001 x102002 x107000 x107001 x107002 x107003 (x107004.set (x22 : Int).toNat (⟨(rd_T97 x107004 x22).f0, (rd_T97 x107004 x22).f1, 0⟩ : S97))) else (none)) else (none)) else ((rma_Check.f k x107000 x107001 x107002 x107003 x107004).bind fun t108 => (if t108 = 0 then ((rma_Fits.f k x107000 x107001 x107002 x107003 x107004 x102000 x102001 x102002).bind fun t109 => (if t109 = true then (some (x107000, x107001, x107002, x107003, x107004, 0)) else (some (0, 0, 0, 0, ([] : List (S97)), 34)))) else (some (0, 0, 0, 0, ([] : List (S97)), 2))))
def rma_Make.f (k : Nat) (a0 : Int) (a1_0 : Int) (a1_1 : Int) (l1_2 : List (S216)) (a2 : Int) (l3 : List (S97)) : Option (Int × Int × Int × Int × (List (S97)) × Int) := (api_Want_140.f l3).bind fun t103 => (rma_Make.l0 k (t103.length : Int) 0 a1_0 a1_1 l1_2 a0 a1_0 a2 1 t103)
theorem rma_Make.mono_l : ∀ k, (∀ y0 y1 y2 y3 y4 y5 y6 y7 y8 y9, LeO (rma_Make.l0 k y0 y1 y2 y3 y4 y5 y6 y7 y8 y9) (rma_Make.l0 (k + 1) y0 y1 y2 y3 y4 y5 y6 y7 y8 y9))
  | 0 => fun _ _ _ _ _ _ _ _ _ _ r h => by simp [rma_Make.l0] at h
  | k + 1 => by
    have ih0 := rma_Make.mono_l k
    intro y0 y1 y2 y3 y4 y5 y6 y7 y8 y9
    unfold rma_Make.l0
    repeat' first
    | (with_reducible exact ih0 _ _ _ _ _ _ _ _ _ _)
    | (with_reducible exact rma_Check.mono _ _ _ _ _ _)
    | (with_reducible exact rma_Fits.mono _ _ _ _ _ _ _ _ _)
    | (with_reducible exact LeO.refl _)
    | (with_reducible exact LeO.none _)
    | (with_reducible refine LeO.ite ?_ ?_)
    | (with_reducible refine LeO.bind ?_ (fun _ => ?_))
    | exact ih0 _ _ _ _ _ _ _ _ _ _
    | exact rma_Check.mono _ _ _ _ _ _
    | exact rma_Fits.mono _ _ _ _ _ _ _ _ _
    | exact LeO.none _
    | refine LeO.ite ?_ ?_
    | refine LeO.bind ?_ (fun _ => ?_)
theorem rma_Make.mono : ∀ a0 a1 a2 a3 a4 a5 k, LeO (rma_Make.f k a0 a1 a2 a3 a4 a5) (rma_Make.f (k + 1) a0 a1 a2 a3 a4 a5) := by
  intro a0 a1 a2 a3 a4 a5 k
  have ih0 := rma_Make.mono_l k
  unfold rma_Make.f
  repeat' first
      | (with_reducible exact ih0 _ _ _ _ _ _ _ _ _ _)
      | (with_reducible exact rma_Check.mono _ _ _ _ _ _)
      | (with_reducible exact rma_Fits.mono _ _ _ _ _ _ _ _ _)
      | (with_reducible exact LeO.refl _)
      | (with_reducible exact LeO.none _)
      | (with_reducible refine LeO.ite ?_ ?_)
      | (with_reducible refine LeO.bind ?_ (fun _ => ?_))
      | exact ih0 _ _ _ _ _ _ _ _ _ _
      | exact rma_Check.mono _ _ _ _ _ _
      | exact rma_Fits.mono _ _ _ _ _ _ _ _ _
      | exact LeO.none _
      | refine LeO.ite ?_ ?_
      | refine LeO.bind ?_ (fun _ => ?_)
def rma_Make.T1 : Bool × List (List Nat × List Nat) := (true, [([], []), ([], []), ([1], [1]), ([], []), ([], []), ([4], [4]), ([0, 2, 3, 5], [0, 2, 3, 5]), ([], []), ([7, 6, 5, 0, 1, 2, 3, 4, 5, 6, 7], [6, 7])])
def rma_Make.B1 : List Nat := [0, 0, 2, 0, 0, 16, 63, 0, 255]
theorem rma_Make.tab1 : rtab .any (opsOf Try.f50 1) = rma_Make.T1 := by kernel_rfl
theorem rma_Make.bits1 : waitsOk rma_Make.T1.2 rma_Make.B1 = true := by kernel_rfl
set_option maxHeartbeats 8000000 in
set_option maxRecDepth 100000 in
theorem rma_Make.calls (k : Nat) (a0 : Int) (a1_0 : Int) (a1_1 : Int) (A1_2 : Option Addr) (c1_2 : Nat) (l1_2 : List (S216)) (a2 : Int) (A3 : Option Addr) (c3 : Nat) (l3 : List (S97)) (r1 : Int) (r2 : Int) (r3 : Int) (r4 : Int) (r5 : List (S97)) (r6 : Int) (w : World) (hr1_2 : Kd.C k216 w A1_2 l1_2.length l1_2) (hc1_2 : l1_2.length ≤ c1_2) (hr3 : Kd.C k97 w A3 l3.length l3) (hc3 : l3.length ≤ c3) (h : rma_Make.f k a0 a1_0 a1_1 l1_2 a2 l3 = some (r1, r2, r3, r4, r5, r6)) :
    Calls Try.prog 50 #[.int .i64 a0, .agg #[.int .i64 a1_0, .int .i64 a1_1, .slice A1_2 l1_2.length c1_2], .int .i64 a2, .slice A3 l3.length c3] w fun e w' => ∃ v4_ : Value, e = .returned (.tuple #[.agg #[.int .i64 r1, .int .i64 r2, .int .i64 r3, .int .i64 r4, v4_], .int .i64 r6]) ∧ Kd.R k97 97 w' w.heap.size (fun _ => True) v4_ r5 ∧ Below w.heap.size w w' := by
  have hu73 := Try.underlying73
  have hu70 := Try.underlying70
  have HR1_2 := zA hr1_2
  have HC1_2 := zA hc1_2
  clear hr1_2 hc1_2
  have HR3 := zA hr3
  have HC3 := zA hc3
  clear hr3 hc3
  have HB := zA (Below.refl w.heap.size w)
  have H : ((api_Want_140.f l3).bind fun t103 => (rma_Make.l0 k (t103.length : Int) 0 a1_0 a1_1 l1_2 a0 a1_0 a2 1 t103)) = some (r1, r2, r3, r4, r5, r6) := h
  clear h
  replace H := Option.bind_eq_some_iff.mp H
  obtain ⟨t103, A50, H⟩ := H
  replace H : (rma_Make.l0 k (t103.length : Int) 0 a1_0 a1_1 l1_2 a0 a1_0 a2 1 t103) = some (r1, r2, r3, r4, r5, r6) := H
  have A5 := zA A50
  clear A50
  have H' := zA H
  clear H
  go_enter Try.func50, Try.ntmps50
  try go_wp2_with (first | ((with_reducible refine gate_dst (N := 5) rfl ?_); refine box_event qr (N := 5) qr (cs := #[.int .i64 a1_0, .int .i64 a1_1, .slice A1_2 l1_2.length c1_2]) (t := 73) qg ?_; intro gb101 hg w6 hbox hb; have n0_ := zA (zV qB hb); have n1_ := zA (hbox); have n2_ := zA ((qS : w.heap.size ≤ gb101)); have n3_ := zA ((qS : w.heap.size ≤ gb101)); clear HB; have HB := n0_; have BK101 := n1_; have GW101 := n2_; have GE101 := n3_; clear n0_ n1_ n2_ n3_ hb hbox hg) | ((with_reducible refine gate_dst (N := 8) rfl ?_); refine box_event qr (N := 8) qr (cs := #[.int .i64 0, .int .i64 0, .int .i64 0, .int .i64 0, .slice none 0 0]) (t := 70) qg ?_; intro gb102 hg w7 hbox hb; have n0_ := zA (qX BK101.out hb); have n1_ := zA (zV qB hb); have n2_ := zA (hbox); have n3_ := zA ((qS : w.heap.size ≤ gb102)); have n4_ := zA ((qS : w.heap.size ≤ gb102)); have n5_ := zA ((by rw [hg]; exact zLq (qL BK101.out) : gb101 ≠ gb102)); have n6_ := zA ((by rw [hg]; exact zMq (qL BK101.out) : gb102 ≠ gb101)); clear BK101 HB; have BK101 := n0_; have HB := n1_; have BK102 := n2_; have GW102 := n3_; have GE102 := n4_; have NB101_102 := n5_; have NB102_101 := n6_; clear n0_ n1_ n2_ n3_ n4_ n5_ n6_ hb hbox hg))
  have n0_ := zA (zAq BK101.out); have n1_ := zA (zAq BK102.out); have n2_ := zA (zC HB.out); clear BK101; clear BK102; clear HB; have BK101 := n0_; have BK102 := n1_; have HB := n2_; clear n0_ n1_ n2_
  refine start_ (n := 9) (S := fun w' => w'.cell? ⟨gb101, 0, none⟩ = some (.int .i64 a1_0) ∧ w'.cell? ⟨gb101, 1, none⟩ = some (.int .i64 a1_1) ∧ w'.cell? ⟨gb101, 2, none⟩ = some (.slice A1_2 l1_2.length c1_2)) (ds := []) #[o0, o0, o0, o0, o0, o0, o0, o0, o0] (by kernel_rfl) rfl rfl ⟨(zF BK101.out 0).trans rfl, (zF BK101.out 1).trans rfl, (zF BK101.out 2).trans rfl⟩ (fun hHeld => ?_); refine with_tabW rma_Make.tab1 rma_Make.bits1 (fun HT_ HW_ => ?_)
  generalize w7.drew = w8 at BK101 BK102 HB hHeld ⊢
  refine pure_ (i := 0) (N := some 12) #[o1, o0, o0, o0, o0, o0, o0, o0, o0] rfl rfl (any_of HT_.out (by kernel_rfl)) (fun _ _ _ h => h) (Or.inl ⟨by rfl, qy⟩) qz ?_
  refine pure_ (i := 1) (N := some 13) #[o1, o1, o0, o0, o0, o0, o0, o0, o0] rfl rfl (any_of HT_.out (by kernel_rfl)) (fun _ _ _ h => h) (Or.inl ⟨by rfl, qy⟩) qz ?_
  refine pure_ (i := 3) (N := some 15) #[o1, o1, o0, o1, o0, o0, o0, o0, o0] rfl rfl (any_of HT_.out (by kernel_rfl)) (fun _ _ _ h => h) (Or.inl ⟨by rfl, qy⟩) qz ?_
  refine pure_ (i := 4) (N := some 16) #[o1, o1, o0, o1, o1, o0, o0, o0, o0] rfl rfl (any_of HT_.out (by kernel_rfl)) (fun _ _ _ h => h) (Or.inl ⟨by rfl, qy⟩) qz ?_
  refine take_ (i := 2) (N := some 14) (v := ?_) (a' := ?_) #[o1, o1, o1, o1, o1, o0, o0, o0, o0] rfl rfl (take_ofW HT_.out HW_.out (by kernel_rfl)) (fun _ _ _ h => h) (Or.inl ⟨by rfl, ?_⟩) hHeld ?_ ?_
  rotate_left
  · rintro w' ⟨s0, s1, s2⟩
    go_simp; with_reducible rfl
  rotate_left
  · simp only [Act.put, zH, zI, zJ, i64_w, i32_w]
    rfl
  refine join_ (σ := Value × Nat) 1 #[o1, o1, o1, o1, o1, o1, o1, o1, o0] (fun s_ => [(17, s_.1), (10, .pointer (some ⟨s_.2, 0, none⟩)), (18, .agg #[.int .i64 a0, .int .i64 a1_0, .int .i64 a2, .int .i64 1, s_.1])]) (fun s_ w' => (w'.cell? ⟨gb101, 0, none⟩ = some (.int .i64 a1_0) ∧ w'.cell? ⟨gb101, 1, none⟩ = some (.int .i64 a1_1) ∧ w'.cell? ⟨gb101, 2, none⟩ = some (.slice A1_2 l1_2.length c1_2)) ∧ (Kd.R k97 97 w' w.heap.size (fun _ => True) s_.1 t103) ∧ (w'.heap[gb101]? = some (.cells #[.int .i64 a1_0, .int .i64 a1_1, .slice A1_2 l1_2.length c1_2] 73 (0, 0))) ∧ (w'.heap[gb102]? = some (.cells #[.int .i64 0, .int .i64 0, .int .i64 0, .int .i64 0, .slice none 0 0] 70 (0, 0))) ∧ (w'.heap[s_.2]? = some (.cells #[.int .i64 0, .int .i64 0, .int .i64 0, .int .i64 0, .slice none 0 0] 70 (0, 0))) ∧ (w.heap.size ≤ s_.2) ∧ (w.heap.size ≤ s_.2) ∧ (gb101 ≠ s_.2) ∧ (s_.2 ≠ gb101) ∧ (gb102 ≠ s_.2) ∧ (s_.2 ≠ gb102) ∧ (Below w.heap.size w w')) ?_ ?_
  rotate_left
  · intro hCont
    refine two_ (i := 5) (j := 7) (Ni := some 17) (Nj := some 10) #[o1, o1, o1, o1, o1, o1, o0, o0, o0] #[o1, o1, o1, o1, o1, o0, o0, o1, o0] rfl rfl rfl rfl (two_of HT_.out (by kernel_rfl)) (by decide) (by decide) (fun K hK => ?_) (fun K hK => ?_)
    · skip
      refine goes_ Try.func140 (by kernel_rfl) rfl #[.slice A3 l3.length c3] (by rfl) rfl rfl (by (try simp only [zR, zS, zT]); first | done | rfl | (simp only [zP, zQ]; rfl)) ?_; with_reducible refine (api_Want_140.calls _ _ l3 t103 _ ?side1 ?side2 A5.out).mono ?_
      (case side1 => exact qC (Kd.C_below HR3.out HB.out))
      (case side2 => exact HC3.out)
      rintro e w9 ⟨v104, rfl, ho0, hb⟩; refine ⟨_, rfl, ?_⟩; have n0_ := zA (Kd.R_lower ho0 (zW qB)); have n1_ := zA (qX BK101.out hb); have n2_ := zA (qX BK102.out hb); have n3_ := zA (zV qB hb); clear BK101; clear BK102; clear HB; have HO105 := n0_; have BK101 := n1_; have BK102 := n2_; have HB := n3_; clear n0_ n1_ n2_ n3_; (try clear hb); (try clear hb2); (try clear hk); (try clear hi); (try clear ho0); obtain ⟨Ao10, co10, eo10⟩ := Kd.R_slice HO105.out; (first | subst eo10 | (injection eo10 with f1_ f2_ f3_; have f4_ := f1_.symm; have f5_ := f3_.symm; clear f1_ f2_ f3_; subst f4_; subst f5_))
      refine hK.out _ _ ⟨(zF BK101.out 0).trans rfl, (zF BK101.out 1).trans rfl, (zF BK101.out 2).trans rfl⟩ (fun hHeld => ?_); clear hK K; refine norm_ (a' := ?_) ?_ ?_; rotate_left
      · show Act.put _ (some 17) _ = _
        simp only [Act.put, zH, zI, zJ, i64_w, i32_w]; rfl
      refine pure_ (i := 6) (N := some 18) #[o1, o1, o1, o1, o1, o1, o1, o0, o0] rfl rfl (any_of HT_.out (by kernel_rfl)) (fun _ _ _ h => h) (Or.inl ⟨by rfl, qy⟩) qz ?_; refine one_ (i := 7) (N := some 10) #[o1, o1, o1, o1, o1, o1, o1, o1, o0] rfl rfl (one_of HT_.out (by kernel_rfl)) (by decide) (fun K hK => ?_); refine box_step ?hg (N := 10) ?hd (cs := #[.int .i64 0, .int .i64 0, .int .i64 0, .int .i64 0, .slice none 0 0]) (t := 70) ?hr ?_; (case hd => rfl); (case hg => rfl); (case hr => first | (go_simp; done) | (go_simp; rfl)); intro gb106 hg w11 hbox hb; have n0_ := zA (Kd.R_below (by (with_reducible repeat (first | apply Kd.R_alloc | apply Kd.R_drewN | apply Kd.R_drew)); exact HO105.out) hb); have n1_ := zA (qX BK101.out hb); have n2_ := zA (qX BK102.out hb); have n3_ := zA (zV qB hb); have n4_ := zA (hbox); have n5_ := zA ((qS : w.heap.size ≤ gb106)); have n6_ := zA ((qS : w.heap.size ≤ gb106)); have n7_ := zA ((by rw [hg]; exact zLq (qL BK101.out) : gb101 ≠ gb106)); have n8_ := zA ((by rw [hg]; exact zMq (qL BK101.out) : gb106 ≠ gb101)); have n9_ := zA ((by rw [hg]; exact zLq (qL BK102.out) : gb102 ≠ gb106)); have n10_ := zA ((by rw [hg]; exact zMq (qL BK102.out) : gb106 ≠ gb102)); clear HO105; clear BK101; clear BK102; clear HB; have HO105 := n0_; have BK101 := n1_; have BK102 := n2_; have HB := n3_; have BK106 := n4_; have GW106 := n5_; have GE106 := n6_; have NB101_106 := n7_; have NB106_101 := n8_; have NB102_106 := n9_; have NB106_102 := n10_; clear n0_ n1_ n2_ n3_ n4_ n5_ n6_ n7_ n8_ n9_ n10_; clear hb hbox hg; refine hK.out _ _ ⟨(zF BK101.out 0).trans rfl, (zF BK101.out 1).trans rfl, (zF BK101.out 2).trans rfl⟩ (fun hHeld => ?_); clear hK K; refine norm_ (a' := ?_) ?_ ?_; rotate_left
      · show Act.put _ (some 10) _ = _
        simp only [Act.put, zH, zI, zJ, i64_w, i32_w]; rfl
      exact norm_ (by simp only [putAll, Act.put, zH, zI, zJ]) (hCont (.slice Ao10 t103.length co10, gb106) _ ⟨hHeld, (by (with_reducible repeat (first | apply Kd.R_alloc | apply Kd.R_drewN | apply Kd.R_drew)); exact HO105.out), (qW BK101.out), (qW BK102.out), (qW BK106.out), GW106.out, GE106.out, NB101_106.out, NB106_101.out, NB102_106.out, NB106_102.out, qB⟩)
    skip; refine box_step ?hg (N := 10) ?hd (cs := #[.int .i64 0, .int .i64 0, .int .i64 0, .int .i64 0, .slice none 0 0]) (t := 70) ?hr ?_; (case hd => rfl); (case hg => rfl); (case hr => first | (go_simp; done) | (go_simp; rfl)); intro gb106 hg w9 hbox hb; have n0_ := zA (qX BK101.out hb); have n1_ := zA (qX BK102.out hb); have n2_ := zA (zV qB hb); have n3_ := zA (hbox); have n4_ := zA ((qS : w.heap.size ≤ gb106)); have n5_ := zA ((qS : w.heap.size ≤ gb106)); have n6_ := zA ((by rw [hg]; exact zLq (qL BK101.out) : gb101 ≠ gb106)); have n7_ := zA ((by rw [hg]; exact zMq (qL BK101.out) : gb106 ≠ gb101)); have n8_ := zA ((by rw [hg]; exact zLq (qL BK102.out) : gb102 ≠ gb106)); have n9_ := zA ((by rw [hg]; exact zMq (qL BK102.out) : gb106 ≠ gb102)); clear BK101; clear BK102; clear HB; have BK101 := n0_; have BK102 := n1_; have HB := n2_; have BK106 := n3_; have GW106 := n4_; have GE106 := n5_; have NB101_106 := n6_; have NB106_101 := n7_; have NB102_106 := n8_; have NB106_102 := n9_; clear n0_ n1_ n2_ n3_ n4_ n5_ n6_ n7_ n8_ n9_; clear hb hbox hg; refine hK.out _ _ ⟨(zF BK101.out 0).trans rfl, (zF BK101.out 1).trans rfl, (zF BK101.out 2).trans rfl⟩ (fun hHeld => ?_); clear hK K; refine norm_ (a' := ?_) ?_ ?_; rotate_left
    · show Act.put _ (some 10) _ = _
      simp only [Act.put, zH, zI, zJ, i64_w, i32_w]; rfl
    refine one_ (i := 5) (N := some 17) #[o1, o1, o1, o1, o1, o1, o0, o1, o0] rfl rfl (one_of HT_.out (by kernel_rfl)) (by decide) (fun K hK => ?_); refine goes_ Try.func140 (by kernel_rfl) rfl #[.slice A3 l3.length c3] (by rfl) rfl rfl (by (try simp only [zR, zS, zT]); first | done | rfl | (simp only [zP, zQ]; rfl)) ?_; with_reducible refine (api_Want_140.calls _ _ l3 t103 _ ?side1 ?side2 A5.out).mono ?_
    (case side1 => exact qC (Kd.C_below HR3.out HB.out))
    (case side2 => exact HC3.out)
    rintro e w10 ⟨v104, rfl, ho0, hb⟩; refine ⟨_, rfl, ?_⟩; have n0_ := zA (Kd.R_lower ho0 (zW qB)); have n1_ := zA (qX BK101.out hb); have n2_ := zA (qX BK102.out hb); have n3_ := zA (qX BK106.out hb); have n4_ := zA (zV qB hb); clear BK101; clear BK102; clear BK106; clear HB; have HO105 := n0_; have BK101 := n1_; have BK102 := n2_; have BK106 := n3_; have HB := n4_; clear n0_ n1_ n2_ n3_ n4_; (try clear hb); (try clear hb2); (try clear hk); (try clear hi); (try clear ho0); obtain ⟨Ao11, co11, eo11⟩ := Kd.R_slice HO105.out; (first | subst eo11 | (injection eo11 with f1_ f2_ f3_; have f4_ := f1_.symm; have f5_ := f3_.symm; clear f1_ f2_ f3_; subst f4_; subst f5_))
    refine hK.out _ _ ⟨(zF BK101.out 0).trans rfl, (zF BK101.out 1).trans rfl, (zF BK101.out 2).trans rfl⟩ (fun hHeld => ?_); clear hK K; refine norm_ (a' := ?_) ?_ ?_; rotate_left
    · show Act.put _ (some 17) _ = _
      simp only [Act.put, zH, zI, zJ, i64_w, i32_w]; rfl
    refine pure_ (i := 6) (N := some 18) #[o1, o1, o1, o1, o1, o1, o1, o1, o0] rfl rfl (any_of HT_.out (by kernel_rfl)) (fun _ _ _ h => h) (Or.inl ⟨by rfl, qy⟩) qz ?_; exact norm_ (by simp only [putAll, Act.put, zH, zI, zJ]) (hCont (.slice Ao11 t103.length co11, gb106) _ ⟨hHeld, (by (with_reducible repeat (first | apply Kd.R_alloc | apply Kd.R_drewN | apply Kd.R_drew)); exact HO105.out), (qW BK101.out), (qW BK102.out), (qW BK106.out), GW106.out, GE106.out, NB101_106.out, NB106_101.out, NB102_106.out, NB106_102.out, qB⟩)
  rintro ⟨v104, gb106⟩ w12 ⟨hS_, h0_, h1_, h2_, h3_, h4_, h5_, h6_, h7_, h8_, h9_, h10_⟩
  have n0_ : Aside0 (Kd.R k97 97 w12 w.heap.size (fun _ => True) v104 t103) := ⟨h0_⟩
  have n1_ : Aside0 (w12.heap[gb101]? = some (.cells #[.int .i64 a1_0, .int .i64 a1_1, .slice A1_2 l1_2.length c1_2] 73 (0, 0))) := ⟨h1_⟩
  have n2_ : Aside0 (w12.heap[gb102]? = some (.cells #[.int .i64 0, .int .i64 0, .int .i64 0, .int .i64 0, .slice none 0 0] 70 (0, 0))) := ⟨h2_⟩
  have n3_ : Aside0 (w12.heap[gb106]? = some (.cells #[.int .i64 0, .int .i64 0, .int .i64 0, .int .i64 0, .slice none 0 0] 70 (0, 0))) := ⟨h3_⟩
  have n4_ : Aside0 (w.heap.size ≤ gb106) := ⟨h4_⟩
  have n5_ : Aside0 (w.heap.size ≤ gb106) := ⟨h5_⟩
  have n6_ : Aside0 (gb101 ≠ gb106) := ⟨h6_⟩
  have n7_ : Aside0 (gb106 ≠ gb101) := ⟨h7_⟩
  have n8_ : Aside0 (gb102 ≠ gb106) := ⟨h8_⟩
  have n9_ : Aside0 (gb106 ≠ gb102) := ⟨h9_⟩
  have n10_ : Aside0 (Below w.heap.size w w12) := ⟨h10_⟩
  clear BK101; clear BK102; clear HB; clear h0_ h1_ h2_ h3_ h4_ h5_ h6_ h7_ h8_ h9_ h10_; have HO105 := n0_; have BK101 := n1_; have BK102 := n2_; have BK106 := n3_; have GW106 := n4_; have GE106 := n5_; have NB101_106 := n6_; have NB106_101 := n7_; have NB102_106 := n8_; have NB106_102 := n9_; have HB := n10_; clear n0_ n1_ n2_ n3_ n4_ n5_ n6_ n7_ n8_ n9_ n10_
  have hHeld : w12.cell? ⟨gb101, 0, none⟩ = some (.int .i64 a1_0) ∧ w12.cell? ⟨gb101, 1, none⟩ = some (.int .i64 a1_1) ∧ w12.cell? ⟨gb101, 2, none⟩ = some (.slice A1_2 l1_2.length c1_2) := hS_
  obtain ⟨Ao13, co13, eo13⟩ := Kd.R_slice HO105.out
  (first | subst eo13 | (injection eo13 with f1_ f2_ f3_; have f4_ := f1_.symm; have f5_ := f3_.symm; clear f1_ f2_ f3_; subst f4_; subst f5_))
  refine norm_ (a' := ?_) ?_ ?_
  rotate_left
  · simp only [putAll, Act.put, zH, zI, zJ]
    rfl
  refine one_ (i := 8) (N := none) #[o1, o1, o1, o1, o1, o1, o1, o1, o1] rfl rfl (one_of HT_.out (by kernel_rfl)) (by decide) (fun K hK => ?_)
  have hs14 : w12.cell? ⟨gb106, 0, none⟩ = some (.int .i64 0) := (zF BK106.out 0).trans rfl; have hfs14 := zG BK106.out 0; have hns14_0 := NB101_106.out; have hns14_1 := NB102_106.out
  have hms14_0 := NB106_101.out
  have hms14_1 := NB106_102.out
  have hs15 : w12.cell? ⟨gb106, 1, none⟩ = some (.int .i64 0) := (zF BK106.out 1).trans rfl; have hfs15 := zG BK106.out 1; have hns15_0 := NB101_106.out; have hns15_1 := NB102_106.out
  have hms15_0 := NB106_101.out
  have hms15_1 := NB106_102.out
  have hs16 : w12.cell? ⟨gb106, 2, none⟩ = some (.int .i64 0) := (zF BK106.out 2).trans rfl; have hfs16 := zG BK106.out 2; have hns16_0 := NB101_106.out; have hns16_1 := NB102_106.out
  have hms16_0 := NB106_101.out
  have hms16_1 := NB106_102.out
  have hs17 : w12.cell? ⟨gb106, 3, none⟩ = some (.int .i64 0) := (zF BK106.out 3).trans rfl; have hfs17 := zG BK106.out 3; have hns17_0 := NB101_106.out; have hns17_1 := NB102_106.out
  have hms17_0 := NB106_101.out
  have hms17_1 := NB106_102.out
  have hs18 : w12.cell? ⟨gb106, 4, none⟩ = some (.slice none 0 0) := (zF BK106.out 4).trans rfl; have hfs18 := zG BK106.out 4; have hns18_0 := NB101_106.out; have hns18_1 := NB102_106.out
  have hms18_0 := NB106_101.out
  have hms18_1 := NB106_102.out
  refine skip_ (w1 := ?_) (by rfl) rfl ?_ ?_
  rotate_left
  · go_simp
    rfl
  refine hK.out _ _ ⟨((cell_far (p := ⟨gb106, _, none⟩) NB101_106.out _).trans (((cell_far (p := ⟨gb106, _, none⟩) NB101_106.out _).trans (((cell_far (p := ⟨gb106, _, none⟩) NB101_106.out _).trans (((cell_far (p := ⟨gb106, _, none⟩) NB101_106.out _).trans (((cell_far (p := ⟨gb106, _, none⟩) NB101_106.out _).trans (hHeld.1)))))))))), ((cell_far (p := ⟨gb106, _, none⟩) NB101_106.out _).trans (((cell_far (p := ⟨gb106, _, none⟩) NB101_106.out _).trans (((cell_far (p := ⟨gb106, _, none⟩) NB101_106.out _).trans (((cell_far (p := ⟨gb106, _, none⟩) NB101_106.out _).trans (((cell_far (p := ⟨gb106, _, none⟩) NB101_106.out _).trans (hHeld.2.1)))))))))), ((cell_far (p := ⟨gb106, _, none⟩) NB101_106.out _).trans (((cell_far (p := ⟨gb106, _, none⟩) NB101_106.out _).trans (((cell_far (p := ⟨gb106, _, none⟩) NB101_106.out _).trans (((cell_far (p := ⟨gb106, _, none⟩) NB101_106.out _).trans (((cell_far (p := ⟨gb106, _, none⟩) NB101_106.out _).trans (hHeld.2.2))))))))))⟩ (fun hHeld => ?_)
  clear hK K
  refine done_ (done_of HT_.out (by kernel_rfl)) ?_
  have hnb19 := NB106_101.out; have hnc19 := NB101_106.out; have hnb20 := NB106_102.out; have hnc20 := NB102_106.out
  obtain ⟨_, _, _, _, _, _, _, _, _, _⟩ := qc5f BK106.out
  try go_wp2
  go_loopg [22] k (fun kq v22 w' => ∃ (x22_1 : Int) (x107004_1 : List (S97)) (u107004 : Value), v22 = .int .i64 x22_1 ∧ Aside0 (rma_Make.l0 kq (t103.length : Int) x22_1 a1_0 a1_1 l1_2 a0 a1_0 a2 1 x107004_1 = some (r1, r2, r3, r4, r5, r6)) ∧ Aside0 (kq ≤ k) ∧ Aside0 (Kd.R k97 97 w' w.heap.size (fun _ => True) u107004 x107004_1) ∧ Aside0 (w'.heap[gb101]? = some (.cells #[.int .i64 a1_0, .int .i64 a1_1, (.slice A1_2 l1_2.length c1_2)] 73 (0, 0))) ∧ Aside0 (w'.heap[gb102]? = some (.cells #[.int .i64 0, .int .i64 0, .int .i64 0, .int .i64 0, (.slice none 0 0)] 70 (0, 0))) ∧ Aside0 (w'.heap[gb106]? = some (.cells #[.int .i64 a0, .int .i64 a1_0, .int .i64 a2, .int .i64 1, u107004] 70 (0, 0))) ∧ Aside0 (Below w.heap.size w w'))
  case atStart => exact ⟨(0), (t103), (.slice Ao13 t103.length co13), (by first | rfl | (simp; done) | (simp [*]; done)), H', ⟨Nat.le_refl _⟩, ⟨by (with_reducible repeat (first | apply Kd.R_alloc | apply Kd.R_drewN | apply Kd.R_drew)); exact Kd.R_mono (Kd.R_far (p := ⟨gb106, 4, none⟩) (Kd.R_far (p := ⟨gb106, 3, none⟩) (Kd.R_far (p := ⟨gb106, 2, none⟩) (Kd.R_far (p := ⟨gb106, 1, none⟩) (Kd.R_far (p := ⟨gb106, 0, none⟩) (Kd.R_types HO105.out BK106.out (by decide)) (fun _ hk => hk.2) (.int .i64 a0)) (fun _ hk => hk.2) (.int .i64 a1_0)) (fun _ hk => hk.2) (.int .i64 a2)) (fun _ hk => hk.2) (.int .i64 1)) (fun _ hk => hk.2) (.slice Ao13 t103.length co13)) (fun _ hk => trivial)⟩, ⟨by (with_reducible repeat (first | refine zY ?_ _ | refine zAq ?_ | refine zZ ?_ _)); refine blk_far ?_ NB101_106.out _; (with_reducible repeat (first | refine zY ?_ _ | refine zAq ?_ | refine zZ ?_ _)); refine blk_far ?_ NB101_106.out _; (with_reducible repeat (first | refine zY ?_ _ | refine zAq ?_ | refine zZ ?_ _)); refine blk_far ?_ NB101_106.out _; (with_reducible repeat (first | refine zY ?_ _ | refine zAq ?_ | refine zZ ?_ _)); refine blk_far ?_ NB101_106.out _; (with_reducible repeat (first | refine zY ?_ _ | refine zAq ?_ | refine zZ ?_ _)); refine blk_far ?_ NB101_106.out _; exact BK101.out⟩, ⟨by (with_reducible repeat (first | refine zY ?_ _ | refine zAq ?_ | refine zZ ?_ _)); refine blk_far ?_ NB102_106.out _; (with_reducible repeat (first | refine zY ?_ _ | refine zAq ?_ | refine zZ ?_ _)); refine blk_far ?_ NB102_106.out _; (with_reducible repeat (first | refine zY ?_ _ | refine zAq ?_ | refine zZ ?_ _)); refine blk_far ?_ NB102_106.out _; (with_reducible repeat (first | refine zY ?_ _ | refine zAq ?_ | refine zZ ?_ _)); refine blk_far ?_ NB102_106.out _; (with_reducible repeat (first | refine zY ?_ _ | refine zAq ?_ | refine zZ ?_ _)); refine blk_far ?_ NB102_106.out _; exact BK102.out⟩, ⟨by (with_reducible repeat (first | refine zY ?_ _ | refine zAq ?_ | refine zZ ?_ _)); apply qP5; exact BK106.out⟩, ⟨qB⟩⟩
  case round =>
    clear H'; try clear c1
    try clear c2
    try clear p2
    try clear c3
    try clear c5
    try clear c14
    try clear c19
    try clear c20
    obtain ⟨x22_1, x107004_1, u107004, rfl, HA, HK1, HO_107004, BK101, BK102, BK106, HB⟩ := hrel; cases gk with
    | zero => exact absurd HA.out (by simp [rma_Make.l0])
    | succ k1 =>
      have H := HA.out; clear HA; simp only [rma_Make.l0] at H; by_cases c22 : x22_1 < (t103.length : Int)
      · rw [if_pos c22] at H
        have c22b0 : decide (x22_1 < (t103.length : Int)) = true := zFq c22; clear c22; by_cases c23 : 0 ≤ x22_1
        · rw [if_pos c23] at H
          have c23b0 : decide (0 ≤ x22_1) = true := zFq c23; clear c23; by_cases c24 : x22_1 < (x107004_1.length : Int)
          · rw [if_pos c24] at H
            have c24b0 : decide (x22_1 < (x107004_1.length : Int)) = true := zFq c24; clear c24; obtain ⟨y107, hy107⟩ : ∃ y_ : List (S97), y_ = (x107004_1.set (x22_1 : Int).toNat (⟨(rd_T97 x107004_1 x22_1).f0, (rd_T97 x107004_1 x22_1).f1, 0⟩ : S97)) := ⟨_, rfl⟩
            replace H : (rma_Make.l0 k1 (t103.length : Int) (wrap64 (x22_1 + 1)) a1_0 a1_1 l1_2 a0 a1_0 a2 1 y107) = some (r1, r2, r3, r4, r5, r6) := by first | (rw [hy107]; with_reducible exact H) | (have H2_ := (Option.bind_some _ _).symm.trans H; rw [hy107]; with_reducible exact H2_) | (have H2_ := (Option.bind_some _ _).symm.trans H; with_reducible exact H2_) | with_reducible exact H | (rw [hy107]; exact H) | exact H
            have Ny107 := zA hy107; clear hy107; have H' := zA H; clear H; have hnb26 := NB106_101.out; have hnc26 := NB101_106.out; have hnb27 := NB106_102.out; have hnc27 := NB102_106.out; obtain ⟨_, _, _, _, _, _, _, _, _, _⟩ := qc5f BK106.out; have p25 : 0 ≤ (x22_1 : Int) := of_decide_eq_true qA; have q25 : (x22_1 : Int) < ((x107004_1.length : Int) : Int) := of_decide_eq_true qA; obtain ⟨go25, co25, eo25, gb25, gl25, cl25, HG25⟩ := Kd.R_form HO_107004.out (by omega); (first | cases eo25 | (injection eo25 with ea_ en_ ec_; (first | subst ea_ | (injection ea_ with ea_; subst ea_)); subst ec_; clear en_))
            have GB25 := zA gb25; have GG25 := zA HG25; clear gb25 gl25 HG25; obtain ⟨ce25, hcl25, hM25, hcc25, hfr25⟩ := Kd.R_elem HO_107004.out z97 (x22_1 : Int) p25 q25; obtain rfl := k97_openM hM25; have hx25_0 : wr.cell? ⟨go25, (x22_1 : Int).toNat * 3, none⟩ = some (.int .i64 ((rd_T97 x107004_1 x22_1).f0)) := hcc25 0 _ rfl; have hx25_1 : wr.cell? ⟨go25, (x22_1 : Int).toNat * 3 + 1, none⟩ = some (.int .i64 ((rd_T97 x107004_1 x22_1).f1)) := hcc25 1 _ rfl; have hx25_2 : wr.cell? ⟨go25, (x22_1 : Int).toNat * 3 + 2, none⟩ = some (.int .i64 ((rd_T97 x107004_1 x22_1).f2)) := hcc25 2 _ rfl; have hf25_0 : wr.frozen? ⟨go25, (x22_1 : Int).toNat * 3, none⟩ = false := hfr25 0; have hf25_1 : wr.frozen? ⟨go25, (x22_1 : Int).toNat * 3 + 1, none⟩ = false := hfr25 1; have hf25_2 : wr.frozen? ⟨go25, (x22_1 : Int).toNat * 3 + 2, none⟩ = false := hfr25 2; clear hcl25 hcc25 hfr25 hM25; replace p25 := eq_true p25; replace q25 := eq_true q25; have HX29 := zA (show Kd.R k97 97 wr w.heap.size (fun _ => True) (.slice (some ⟨go25, 0, none⟩) x107004_1.length co25) x107004_1 from (by (with_reducible repeat (first | apply Kd.R_alloc | apply Kd.R_drewN | apply Kd.R_drew)); exact HO_107004.out)); obtain ⟨ce29, hcl29, hM29, hcc29, hfr29⟩ := Kd.R_elem HX29.out z97 (x22_1 : Int) (of_decide_eq_true qA) (by have h_ : (x22_1 : Int) < ((x107004_1.length : Int) : Int) := of_decide_eq_true qA; first | exact h_ | (have e_ := (Kd.R_reads' HO_107004.out).1; omega) | simpa using h_); obtain rfl := k97_openM hM29; have HP29 := Kd.R_seg HX29.out (x22_1 : Int) (of_decide_eq_true qA) (by have h_ : (x22_1 : Int) < ((x107004_1.length : Int) : Int) := of_decide_eq_true qA; first | exact h_ | (have e_ := (Kd.R_reads' HO_107004.out).1; omega) | simpa using h_) (seg := [.int .i64 0]) (j := 2) hcl29 hcc29 (show 3 ≤ 3 from by decide) (x' := (⟨(rd_T97 x107004_1 x22_1).f0, (rd_T97 x107004_1 x22_1).f1, 0⟩ : S97)) (k97_mkM _ _ _ (⟨(rd_T97 x107004_1 x22_1).f0, (rd_T97 x107004_1 x22_1).f1, 0⟩ : S97) ) (fun _ hk => hk); have hx29_2 := hcc29 2 _ rfl; (try simp only [show (k97).sz = 3 from rfl, Nat.mul_one, Nat.add_zero] at hx29_2)
            have hf29_2 := hfr29 2; (try simp only [show (k97).sz = 3 from rfl, Nat.mul_one, Nat.add_zero] at hf29_2)
            clear hcl29 hcc29 hfr29 hM29; go_wp2_with (first | ((with_reducible refine gate_store (t := 3) (p := 29) rfl ?_); refine store_event (t := 3) (p := 29) (v := ?vo_w30) (w1 := (wr.setCell ⟨go25, (x22_1 : Int).toNat * 3 + 2, none⟩ (.int .i64 0))) ?hg ?ho ?hn ?hr ?_; (case ho => rfl); (case hg => rfl); (case hn => rfl); (case hr => first | (go_simp; done) | (go_simp; rfl)); intro w30 hw; have hg : wr.grownBy w30 (some go25) := (by rw [hw]; exact HP29.2); have hp_ : Kd.R k97 97 w30 w.heap.size (fun _ => True) (.slice (some ⟨go25, 0, none⟩) x107004_1.length co25) y107 := (by rw [hw, Ny107.out]; exact HP29.1); clear HP29; have n0_ := zA (hp_); have n1_ := zA (blk_grown (g := gb101) (o := .cells #[.int .i64 a1_0, .int .i64 a1_1, .slice A1_2 l1_2.length c1_2] 73 (0, 0)) (qW BK101.out) hg (Kd.R_ne HO_107004.out BK101.out (by decide))); have n2_ := zA (blk_grown (g := gb102) (o := .cells #[.int .i64 0, .int .i64 0, .int .i64 0, .int .i64 0, .slice none 0 0] 70 (0, 0)) (qW BK102.out) hg (Kd.R_ne HO_107004.out BK102.out (by decide))); have n3_ := zA (blk_grown (g := gb106) (o := .cells #[.int .i64 a0, .int .i64 a1_0, .int .i64 a2, .int .i64 1, .slice (some ⟨go25, 0, none⟩) x107004_1.length co25] 70 (0, 0)) (qW BK106.out) hg (Kd.R_ne HO_107004.out BK106.out (by decide))); have n4_ := zA ((by rw [hw]; exact zE (HB.out) GB25.out : Below w.heap.size w w30)); clear HO_107004 BK101 BK102 BK106 HB; have HO_107004 := n0_; have BK101 := n1_; have BK102 := n2_; have BK106 := n3_; have HB := n4_; clear n0_ n1_ n2_ n3_ n4_ hg hw hp_)); go_roundg k1
            case measure => have := HK1.out; omega
            case rel => exact ⟨(wrap64 (x22_1 + 1)), (y107), (.slice (some ⟨go25, 0, none⟩) x107004_1.length co25), (by first | rfl | (simp; done) | (simp [*]; done)), H', ⟨by have := HK1.out; omega⟩, ⟨by (with_reducible repeat (first | apply Kd.R_alloc | apply Kd.R_drewN | apply Kd.R_drew)); exact HO_107004.out⟩, ⟨by exact BK101.out⟩, ⟨by exact BK102.out⟩, ⟨by exact BK106.out⟩, ⟨qB⟩⟩
          rw [if_neg c24] at H; exact absurd H (by simp)
        rw [if_neg c23] at H; exact absurd H (by simp)
      rw [if_neg c22] at H; have c22b0 : decide (x22_1 < (t103.length : Int)) = false := zGq c22; clear c22; replace H := Option.bind_eq_some_iff.mp H; obtain ⟨t108, A310, H⟩ := H; replace H : (if t108 = 0 then ((rma_Fits.f k1 a0 a1_0 a2 1 x107004_1 a1_0 a1_1 l1_2).bind fun t109 => (if t109 = true then (some (a0, a1_0, a2, 1, x107004_1, 0)) else (some (0, 0, 0, 0, ([] : List (S97)), 34)))) else (some (0, 0, 0, 0, ([] : List (S97)), 2))) = some (r1, r2, r3, r4, r5, r6) := H; have A31 := zA A310; clear A310; by_cases c32 : t108 = 0
      · rw [if_pos c32] at H
        have c32b0 : (t108 == 0) = true := beq_iff_eq.mpr c32; have c32b1 : (t108 != 0) = false := bne_eq_false_iff_eq.mpr c32; clear c32; replace H := Option.bind_eq_some_iff.mp H; obtain ⟨t109, A330, H⟩ := H; replace H : (if t109 = true then (some (a0, a1_0, a2, 1, x107004_1, 0)) else (some (0, 0, 0, 0, ([] : List (S97)), 34))) = some (r1, r2, r3, r4, r5, r6) := H; have A33 := zA A330; clear A330; by_cases c34 : t109 = true
        · subst c34
          have H1 : (some (a0, a1_0, a2, 1, x107004_1, 0)) = some (r1, r2, r3, r4, r5, r6) := by first | (rw [if_pos rfl] at H; exact H) | rfl
          clear H; have H := H1; clear H1; simp only [zNq, zOq] at H; obtain ⟨rfl, rfl, rfl, rfl, rfl, rfl⟩ := H; have hnb35 := NB106_101.out; have hnc35 := NB101_106.out; have hnb36 := NB106_102.out; have hnc36 := NB102_106.out; obtain ⟨_, _, _, _, _, _, _, _, _, _⟩ := qc5f BK106.out; obtain ⟨Ao38, co38, eo38⟩ := Kd.R_slice HO_107004.out; subst eo38; go_wp2_with (first | ((with_reducible refine zJq (f := 52) rfl ?_); refine goesL_ (some 32) rfl rfl Try.func52 (by kernel_rfl) rfl #[.agg #[.int .i64 a0, .int .i64 a1_0, .int .i64 a2, .int .i64 1, .slice Ao38 x107004_1.length co38]] rfl (by (try simp only [zR, zS, zT]); first | done | rfl | (simp only [zP, zQ]; rfl)) ?_; (with_reducible refine (rma_Check.calls k1 a0 a1_0 a2 1 _ _ x107004_1 t108 _ ?side1 ?side2 A31.out).mono ?_); (case side1 => repeat (first | exact (Kd.R_reads' HO_107004.out).2.2 | (with_reducible refine Kd.C_alloc ?_ _) | (with_reducible refine Kd.C_drewN ?_ _) | (with_reducible refine Kd.C_drew ?_))); (case side2 => exact (Kd.R_reads' HO_107004.out).2.1); rintro e w39 ⟨rfl, hb⟩; refine ⟨_, rfl, ?_⟩; have n0_ := zA (Kd.R_below (by (with_reducible repeat (first | apply Kd.R_alloc | apply Kd.R_drewN | apply Kd.R_drew)); exact HO_107004.out) hb); have n1_ := zA (qX BK101.out hb); have n2_ := zA (qX BK102.out hb); have n3_ := zA (qX BK106.out hb); have n4_ := zA (zV qB hb); clear HO_107004 BK101 BK102 BK106 HB; have HO_107004 := n0_; have BK101 := n1_; have BK102 := n2_; have BK106 := n3_; have HB := n4_; clear n0_ n1_ n2_ n3_ n4_; (try clear hb); (try clear hb2); (try clear hk); (try clear hi); obtain ⟨_, _, _, _, _, _, _, _, _, _⟩ := qc5f BK106.out; have hnb41 := NB101_102.out; have hnc41 := NB102_101.out; obtain ⟨_, _, _, _, _, _⟩ := qc3f BK101.out) | ((with_reducible refine zJq (f := 54) rfl ?_); refine goesL_ (some 37) rfl rfl Try.func54 (by kernel_rfl) rfl #[.agg #[.int .i64 a0, .int .i64 a1_0, .int .i64 a2, .int .i64 1, .slice Ao38 x107004_1.length co38], .agg #[.int .i64 a1_0, .int .i64 a1_1, .slice A1_2 l1_2.length c1_2]] rfl (by (try simp only [zR, zS, zT]); first | done | rfl | (simp only [zP, zQ]; rfl)) ?_; (with_reducible refine (rma_Fits.calls k1 a0 a1_0 a2 1 _ _ x107004_1 a1_0 a1_1 _ _ l1_2 true _ ?side1 ?side2 ?side3 ?side4 A33.out).mono ?_); (case side1 => repeat (first | exact (Kd.R_reads' HO_107004.out).2.2 | (with_reducible refine Kd.C_alloc ?_ _) | (with_reducible refine Kd.C_drewN ?_ _) | (with_reducible refine Kd.C_drew ?_))); (case side2 => exact (Kd.R_reads' HO_107004.out).2.1); (case side3 => exact qC (Kd.C_below HR1_2.out HB.out)); (case side4 => exact HC1_2.out); rintro e w43 ⟨rfl, hb⟩; refine ⟨_, rfl, ?_⟩; have n0_ := zA (Kd.R_below (by (with_reducible repeat (first | apply Kd.R_alloc | apply Kd.R_drewN | apply Kd.R_drew)); exact HO_107004.out) hb); have n1_ := zA (qX BK101.out hb); have n2_ := zA (qX BK102.out hb); have n3_ := zA (qX BK106.out hb); have n4_ := zA (zV qB hb); clear HO_107004 BK101 BK102 BK106 HB; have HO_107004 := n0_; have BK101 := n1_; have BK102 := n2_; have BK106 := n3_; have HB := n4_; clear n0_ n1_ n2_ n3_ n4_; (try clear hb); (try clear hb2); (try clear hk); (try clear hi); obtain ⟨_, _, _, _, _, _, _, _, _, _⟩ := qc5f BK106.out; obtain ⟨_, _, _, _, _, _, _, _, _, _⟩ := qc5f BK102.out))
          refine bodyPost_ret (results_ct rfl _ _ gb102 70 #[.int .i64 a0, .int .i64 a1_0, .int .i64 a2, .int .i64 1, .slice Ao38 x107004_1.length co38] (0, 0) _ rfl (qV BK102.out) Try.underlying70 rfl (by kernel_rfl)) rfl ?_; exact ⟨_, qE, by (with_reducible repeat (first | apply Kd.R_alloc | apply Kd.R_drewN | apply Kd.R_drew)); exact Kd.R_mono (Kd.R_far (p := ⟨gb102, 4, none⟩) (Kd.R_far (p := ⟨gb102, 3, none⟩) (Kd.R_far (p := ⟨gb102, 2, none⟩) (Kd.R_far (p := ⟨gb102, 1, none⟩) (Kd.R_far (p := ⟨gb102, 0, none⟩) (Kd.R_types HO_107004.out BK102.out (by decide)) (fun _ hk => hk.2) (.int .i64 a0)) (fun _ hk => hk.2) (.int .i64 a1_0)) (fun _ hk => hk.2) (.int .i64 a2)) (fun _ hk => hk.2) (.int .i64 1)) (fun _ hk => hk.2) (.slice Ao38 x107004_1.length co38)) (fun _ hk => trivial), qB⟩
        replace c34 := Bool.eq_false_iff.mpr c34; subst c34; have H1 : (some (0, 0, 0, 0, ([] : List (S97)), 34)) = some (r1, r2, r3, r4, r5, r6) := by first | (rw [if_neg (show ¬ (false = true) by decide)] at H; exact H) | rfl
        clear H; have H := H1; clear H1; simp only [zNq, zOq] at H; obtain ⟨rfl, rfl, rfl, rfl, rfl, rfl⟩ := H; have hnb46 := NB106_101.out; have hnc46 := NB101_106.out; have hnb47 := NB106_102.out; have hnc47 := NB102_106.out; obtain ⟨_, _, _, _, _, _, _, _, _, _⟩ := qc5f BK106.out; obtain ⟨Ao49, co49, eo49⟩ := Kd.R_slice HO_107004.out; subst eo49; go_wp2_with (first | ((with_reducible refine zJq (f := 52) rfl ?_); refine goesL_ (some 32) rfl rfl Try.func52 (by kernel_rfl) rfl #[.agg #[.int .i64 a0, .int .i64 a1_0, .int .i64 a2, .int .i64 1, .slice Ao49 x107004_1.length co49]] rfl (by (try simp only [zR, zS, zT]); first | done | rfl | (simp only [zP, zQ]; rfl)) ?_; (with_reducible refine (rma_Check.calls k1 a0 a1_0 a2 1 _ _ x107004_1 t108 _ ?side1 ?side2 A31.out).mono ?_); (case side1 => repeat (first | exact (Kd.R_reads' HO_107004.out).2.2 | (with_reducible refine Kd.C_alloc ?_ _) | (with_reducible refine Kd.C_drewN ?_ _) | (with_reducible refine Kd.C_drew ?_))); (case side2 => exact (Kd.R_reads' HO_107004.out).2.1); rintro e w50 ⟨rfl, hb⟩; refine ⟨_, rfl, ?_⟩; have n0_ := zA (Kd.R_below (by (with_reducible repeat (first | apply Kd.R_alloc | apply Kd.R_drewN | apply Kd.R_drew)); exact HO_107004.out) hb); have n1_ := zA (qX BK101.out hb); have n2_ := zA (qX BK102.out hb); have n3_ := zA (qX BK106.out hb); have n4_ := zA (zV qB hb); clear HO_107004 BK101 BK102 BK106 HB; have HO_107004 := n0_; have BK101 := n1_; have BK102 := n2_; have BK106 := n3_; have HB := n4_; clear n0_ n1_ n2_ n3_ n4_; (try clear hb); (try clear hb2); (try clear hk); (try clear hi); obtain ⟨_, _, _, _, _, _, _, _, _, _⟩ := qc5f BK106.out; have hnb52 := NB101_102.out; have hnc52 := NB102_101.out; obtain ⟨_, _, _, _, _, _⟩ := qc3f BK101.out) | ((with_reducible refine zJq (f := 54) rfl ?_); refine goesL_ (some 37) rfl rfl Try.func54 (by kernel_rfl) rfl #[.agg #[.int .i64 a0, .int .i64 a1_0, .int .i64 a2, .int .i64 1, .slice Ao49 x107004_1.length co49], .agg #[.int .i64 a1_0, .int .i64 a1_1, .slice A1_2 l1_2.length c1_2]] rfl (by (try simp only [zR, zS, zT]); first | done | rfl | (simp only [zP, zQ]; rfl)) ?_; (with_reducible refine (rma_Fits.calls k1 a0 a1_0 a2 1 _ _ x107004_1 a1_0 a1_1 _ _ l1_2 false _ ?side1 ?side2 ?side3 ?side4 A33.out).mono ?_); (case side1 => repeat (first | exact (Kd.R_reads' HO_107004.out).2.2 | (with_reducible refine Kd.C_alloc ?_ _) | (with_reducible refine Kd.C_drewN ?_ _) | (with_reducible refine Kd.C_drew ?_))); (case side2 => exact (Kd.R_reads' HO_107004.out).2.1); (case side3 => exact qC (Kd.C_below HR1_2.out HB.out)); (case side4 => exact HC1_2.out); rintro e w54 ⟨rfl, hb⟩; refine ⟨_, rfl, ?_⟩; have n0_ := zA (Kd.R_below (by (with_reducible repeat (first | apply Kd.R_alloc | apply Kd.R_drewN | apply Kd.R_drew)); exact HO_107004.out) hb); have n1_ := zA (qX BK101.out hb); have n2_ := zA (qX BK102.out hb); have n3_ := zA (qX BK106.out hb); have n4_ := zA (zV qB hb); clear HO_107004 BK101 BK102 BK106 HB; have HO_107004 := n0_; have BK101 := n1_; have BK102 := n2_; have BK106 := n3_; have HB := n4_; clear n0_ n1_ n2_ n3_ n4_; (try clear hb); (try clear hb2); (try clear hk); (try clear hi); obtain ⟨_, _, _, _, _, _, _, _, _, _⟩ := qc5f BK102.out))
        refine bodyPost_ret (results_ct rfl _ _ gb102 70 #[.int .i64 0, .int .i64 0, .int .i64 0, .int .i64 0, .slice none 0 0] (0, 0) _ rfl (qV BK102.out) Try.underlying70 rfl (by kernel_rfl)) rfl ?_; exact ⟨_, qE, qN, qB⟩
      rw [if_neg c32] at H; have c32b0 : (t108 == 0) = false := beq_eq_false_iff_ne.mpr c32; have c32b1 : (t108 != 0) = true := bne_iff_ne.mpr c32; simp only [zNq, zOq] at H; obtain ⟨rfl, rfl, rfl, rfl, rfl, rfl⟩ := H; have hnb56 := NB106_101.out; have hnc56 := NB101_106.out; have hnb57 := NB106_102.out; have hnc57 := NB102_106.out; obtain ⟨_, _, _, _, _, _, _, _, _, _⟩ := qc5f BK106.out; obtain ⟨Ao59, co59, eo59⟩ := Kd.R_slice HO_107004.out; subst eo59; go_wp2_with (first | ((with_reducible refine zJq (f := 52) rfl ?_); refine goesL_ (some 32) rfl rfl Try.func52 (by kernel_rfl) rfl #[.agg #[.int .i64 a0, .int .i64 a1_0, .int .i64 a2, .int .i64 1, .slice Ao59 x107004_1.length co59]] rfl (by (try simp only [zR, zS, zT]); first | done | rfl | (simp only [zP, zQ]; rfl)) ?_; (with_reducible refine (rma_Check.calls k1 a0 a1_0 a2 1 _ _ x107004_1 t108 _ ?side1 ?side2 A31.out).mono ?_); (case side1 => repeat (first | exact (Kd.R_reads' HO_107004.out).2.2 | (with_reducible refine Kd.C_alloc ?_ _) | (with_reducible refine Kd.C_drewN ?_ _) | (with_reducible refine Kd.C_drew ?_))); (case side2 => exact (Kd.R_reads' HO_107004.out).2.1); rintro e w60 ⟨rfl, hb⟩; refine ⟨_, rfl, ?_⟩; have n0_ := zA (Kd.R_below (by (with_reducible repeat (first | apply Kd.R_alloc | apply Kd.R_drewN | apply Kd.R_drew)); exact HO_107004.out) hb); have n1_ := zA (qX BK101.out hb); have n2_ := zA (qX BK102.out hb); have n3_ := zA (qX BK106.out hb); have n4_ := zA (zV qB hb); clear HO_107004 BK101 BK102 BK106 HB; have HO_107004 := n0_; have BK101 := n1_; have BK102 := n2_; have BK106 := n3_; have HB := n4_; clear n0_ n1_ n2_ n3_ n4_; (try clear hb); (try clear hb2); (try clear hk); (try clear hi); have hnb61 := NB102_101.out; have hnc61 := NB101_102.out; obtain ⟨_, _, _, _, _, _, _, _, _, _⟩ := qc5f BK102.out)); refine bodyPost_ret (results_ct rfl _ _ gb102 70 #[.int .i64 0, .int .i64 0, .int .i64 0, .int .i64 0, .slice none 0 0] (0, 0) _ rfl (qV BK102.out) Try.underlying70 rfl (by kernel_rfl)) rfl ?_; exact ⟨_, qE, qN, qB⟩
theorem eqA97 (d : Nat) (w : World) (x0 y0 : Int) (x1 y1 : Int) (x2 y2 : Int) :
    (Op.equalIn (d + 2) 97 (.agg #[.int .i64 x0, .int .i64 x1, .int .i64 x2]) (.agg #[.int .i64 y0, .int .i64 y1, .int .i64 y2])).run Try.prog w = .ok (x0 == y0 && (x1 == y1 && (x2 == y2))) w := by
  refine eqA_of Try.underlying97 (by kernel_rfl) ?_
  refine eqf_cons (by rfl) (by go_simp; rfl) (by go_simp; rfl) (by go_simp) ?_
  refine eqf_cons (by rfl) (by go_simp; rfl) (by go_simp; rfl) (by go_simp) ?_
  exact eqf_last (by rfl) (by go_simp; rfl) (by go_simp; rfl) (by go_simp)
end Go.Proofs.Ytakkhomjpflkbaa.F
namespace Go.Proofs.Ytakkhomjpflkbaa.F
open Go.RowKit Go.Proofs.YtakkhomjpflkbaaX Go.Proofs.YtakkhomjpflkbaaW.PrintWords Go.Proofs.YtakkhomjpflkbaaW.PrintLast Go.Proofs.YtakkhomjpflkbaaW.PrintMore
attribute [local go_sem] max2_int min2_int max_two min_two max_three min_three max_four min_four   
attribute [local go_sem high] str_geq str_leq str_gtr
set_option linter.unusedVariables false
set_option linter.unusedSimpArgs false
attribute [local go_sem high] eqA97
def api_Want_150.l0 : Nat → List (S97) → List (S97) → Int → Int → Option (Bool)
  | 0, _, _, _, _ => none
  | k + 1, x0, x1, x12, x13 => if x13 < x12 then (if 0 ≤ x13 then (if x13 < (x0.length : Int) then (if x13 < (x1.length : Int) then (if (!(((rd_T97 x0 x13).f0) == ((rd_T97 x1 x13).f0)) || (!(((rd_T97 x0 x13).f1) == ((rd_T97 x1 x13).f1)) || (!(((rd_T97 x0 x13).f2) == ((rd_T97 x1 x13).f2))))) = true then (some false) else (api_Want_150.l0 k x0 x1 x12 (wrap64 (x13 + 1)))) else (none)) else (none)) else (none)) else (some true)
def api_Want_150.f (k : Nat) (l0 : List (S97)) (l1 : List (S97)) : Option (Bool) := if (l0.length : Int) = (l1.length : Int) then (api_Want_150.l0 k l0 l1 (l0.length : Int) 0) else (some false)
theorem api_Want_150.mono_l : ∀ k, (∀ y0 y1 y2 y3, LeO (api_Want_150.l0 k y0 y1 y2 y3) (api_Want_150.l0 (k + 1) y0 y1 y2 y3))
  | 0 => fun _ _ _ _ r h => by simp [api_Want_150.l0] at h
  | k + 1 => by
    have ih0 := api_Want_150.mono_l k
    intro y0 y1 y2 y3
    unfold api_Want_150.l0
    repeat' first
    | (with_reducible exact ih0 _ _ _ _)
    | (with_reducible exact LeO.refl _)
    | (with_reducible exact LeO.none _)
    | (with_reducible refine LeO.ite ?_ ?_)
    | (with_reducible refine LeO.bind ?_ (fun _ => ?_))
    | exact ih0 _ _ _ _
    | exact LeO.none _
    | refine LeO.ite ?_ ?_
    | refine LeO.bind ?_ (fun _ => ?_)
theorem api_Want_150.mono : ∀ a0 a1 k, LeO (api_Want_150.f k a0 a1) (api_Want_150.f (k + 1) a0 a1) := by
  intro a0 a1 k
  have ih0 := api_Want_150.mono_l k
  unfold api_Want_150.f
  repeat' first
      | (with_reducible exact ih0 _ _ _ _)
      | (with_reducible exact LeO.refl _)
      | (with_reducible exact LeO.none _)
      | (with_reducible refine LeO.ite ?_ ?_)
      | (with_reducible refine LeO.bind ?_ (fun _ => ?_))
      | exact ih0 _ _ _ _
      | exact LeO.none _
      | refine LeO.ite ?_ ?_
      | refine LeO.bind ?_ (fun _ => ?_)
set_option maxHeartbeats 8000000 in
set_option maxRecDepth 100000 in
theorem api_Want_150.calls (k : Nat) (A0 : Option Addr) (c0 : Nat) (l0 : List (S97)) (A1 : Option Addr) (c1 : Nat) (l1 : List (S97)) (r : Bool) (w : World) (hr0 : Kd.C k97 w A0 l0.length l0) (hc0 : l0.length ≤ c0) (hr1 : Kd.C k97 w A1 l1.length l1) (hc1 : l1.length ≤ c1) (h : api_Want_150.f k l0 l1 = some r) :
    Calls Try.prog 150 #[.slice A0 l0.length c0, .slice A1 l1.length c1] w fun e w' => e = .returned (.bool r) ∧ Drawn0 w w' := by
  have hu97 := Try.underlying97
  have HR0 := zA hr0
  have HC0 := zA hc0
  clear hr0 hc0
  have HR1 := zA hr1
  have HC1 := zA hc1
  clear hr1 hc1
  have H : (if (l0.length : Int) = (l1.length : Int) then (api_Want_150.l0 k l0 l1 (l0.length : Int) 0) else (some false)) = some r := h
  clear h
  by_cases c3 : (l0.length : Int) = (l1.length : Int)
  · rw [if_pos c3] at H
    have c3b0 : ((l0.length : Int) == (l1.length : Int)) = true := beq_iff_eq.mpr c3; have c3b1 : ((l0.length : Int) != (l1.length : Int)) = false := bne_eq_false_iff_eq.mpr c3; have c3b2 : (l0.length == l1.length) = true := by first | simpa using c3 | (simp at c3 ⊢; omega)
    clear c3; have H' := zA H; clear H; go_enter Try.func150, Try.ntmps150; go_wp2; repeat (go_quiet (fail); try go_wp2)
    go_loopg [13] k (fun kq v13 w' => ∃ (x13_1 : Int), v13 = .int .i64 x13_1 ∧ Aside0 (api_Want_150.l0 kq l0 l1 (l0.length : Int) x13_1 = some r) ∧ Aside0 (kq ≤ k) ∧ Drawn0 w w')
    case atStart => exact ⟨(0), (by first | rfl | (simp; done) | (simp [*]; done)), H', ⟨Nat.le_refl _⟩, by repeat (first | exact Drawn0.refl _ | apply Drawn0.step)⟩
    case round =>
      clear H'; try clear c1
      try clear p2
      try clear c3
      try clear c3b0
      try clear c3b1
      try clear c3b2
      obtain ⟨x13_1, rfl, HA, HK1, ⟨m1, rfl⟩⟩ := hrel; cases gk with
      | zero => exact absurd HA.out (by simp [api_Want_150.l0])
      | succ k1 =>
        have H := HA.out; clear HA; simp only [api_Want_150.l0] at H; by_cases c4 : x13_1 < (l0.length : Int)
        · rw [if_pos c4] at H
          have c4b0 : decide (x13_1 < (l0.length : Int)) = true := zFq c4; clear c4; by_cases c5 : 0 ≤ x13_1
          · rw [if_pos c5] at H
            have c5b0 : decide (0 ≤ x13_1) = true := zFq c5; clear c5; by_cases c6 : x13_1 < (l0.length : Int)
            · rw [if_pos c6] at H
              have c6b0 : decide (x13_1 < (l0.length : Int)) = true := zFq c6; clear c6; by_cases c7 : x13_1 < (l1.length : Int)
              · rw [if_pos c7] at H
                have c7b0 : decide (x13_1 < (l1.length : Int)) = true := zFq c7; clear c7; by_cases c8 : (!(((rd_T97 l0 x13_1).f0) == ((rd_T97 l1 x13_1).f0)) || (!(((rd_T97 l0 x13_1).f1) == ((rd_T97 l1 x13_1).f1)) || (!(((rd_T97 l0 x13_1).f2) == ((rd_T97 l1 x13_1).f2))))) = true
                · rw [if_pos c8] at H
                  have c8b0 : (!(((rd_T97 l0 x13_1).f0) == ((rd_T97 l1 x13_1).f0)) || (!(((rd_T97 l0 x13_1).f1) == ((rd_T97 l1 x13_1).f1)) || (!(((rd_T97 l0 x13_1).f2) == ((rd_T97 l1 x13_1).f2))))) = true := c8; clear c8; obtain rfl := zKq H; have p101 : 0 ≤ (x13_1 : Int) := of_decide_eq_true qA; have q101 : x13_1 < (l0.length : Int) := of_decide_eq_true qA; obtain ⟨ad101, e101, hx101_0, hx101_1, hx101_2⟩ := at_T97 HR0.out x13_1 p101 q101; cases e101
                  replace p101 := eq_true p101; replace q101 := eq_true q101; have p102 : 0 ≤ (x13_1 : Int) := of_decide_eq_true qA; have q102 : x13_1 < (l1.length : Int) := of_decide_eq_true qA; obtain ⟨ad102, e102, hx102_0, hx102_1, hx102_2⟩ := at_T97 HR1.out x13_1 p102 q102; cases e102
                  replace p102 := eq_true p102; replace q102 := eq_true q102; go_wp2; repeat (go_quiet (fail); try go_wp2)
                  go_ret; exact ⟨by first | rfl | (simp; done) | (simp [*]; done), by repeat (first | exact Drawn0.refl _ | apply Drawn0.step)⟩
                rw [if_neg c8] at H; have c8b0 : (!(((rd_T97 l0 x13_1).f0) == ((rd_T97 l1 x13_1).f0)) || (!(((rd_T97 l0 x13_1).f1) == ((rd_T97 l1 x13_1).f1)) || (!(((rd_T97 l0 x13_1).f2) == ((rd_T97 l1 x13_1).f2))))) = false := by simpa using c8
                clear c8; have H' := zA H; clear H; have p101 : 0 ≤ (x13_1 : Int) := of_decide_eq_true qA; have q101 : x13_1 < (l0.length : Int) := of_decide_eq_true qA; obtain ⟨ad101, e101, hx101_0, hx101_1, hx101_2⟩ := at_T97 HR0.out x13_1 p101 q101; cases e101
                replace p101 := eq_true p101; replace q101 := eq_true q101; have p102 : 0 ≤ (x13_1 : Int) := of_decide_eq_true qA; have q102 : x13_1 < (l1.length : Int) := of_decide_eq_true qA; obtain ⟨ad102, e102, hx102_0, hx102_1, hx102_2⟩ := at_T97 HR1.out x13_1 p102 q102; cases e102
                replace p102 := eq_true p102; replace q102 := eq_true q102; go_wp2; repeat (go_quiet (fail); try go_wp2)
                go_roundg k1
                case measure => have := HK1.out; omega
                case rel => exact ⟨(wrap64 (x13_1 + 1)), (by first | rfl | (simp; done) | (simp [*]; done)), H', ⟨by have := HK1.out; omega⟩, by repeat (first | exact Drawn0.refl _ | apply Drawn0.step)⟩
              rw [if_neg c7] at H; exact absurd H (by simp)
            rw [if_neg c6] at H; exact absurd H (by simp)
          rw [if_neg c5] at H; exact absurd H (by simp)
        rw [if_neg c4] at H; have c4b0 : decide (x13_1 < (l0.length : Int)) = false := zGq c4; clear c4; obtain rfl := zKq H; go_wp2; repeat (go_quiet (fail); try go_wp2)
        go_ret; exact ⟨by first | rfl | (simp; done) | (simp [*]; done), by repeat (first | exact Drawn0.refl _ | apply Drawn0.step)⟩
  rw [if_neg c3] at H
  have c3b0 : ((l0.length : Int) == (l1.length : Int)) = false := beq_eq_false_iff_ne.mpr c3
  have c3b1 : ((l0.length : Int) != (l1.length : Int)) = true := bne_iff_ne.mpr c3
  have c3b2 : (l0.length == l1.length) = false := by first | simpa using c3 | (simp at c3 ⊢; omega)
  obtain rfl := zKq H
  go_enter Try.func150, Try.ntmps150
  go_wp2
  repeat (go_quiet (fail); try go_wp2)
  go_ret
  exact ⟨by first | rfl | (simp; done) | (simp [*]; done), by repeat (first | exact Drawn0.refl _ | apply Drawn0.step)⟩
def rma_Same.f (k : Nat) (a0_0 : Int) (a0_1 : Int) (a0_2 : Int) (a0_3 : Int) (l0_4 : List (S97)) (a1_0 : Int) (a1_1 : Int) (a1_2 : Int) (a1_3 : Int) (l1_4 : List (S97)) : Option (Bool) := if a0_0 = a1_0 then (if a0_1 = a1_1 then (if a0_2 = a1_2 then (if a0_3 = a1_3 then ((api_Want_150.f k l0_4 l1_4).bind fun t103 => (some t103)) else (some false)) else (some false)) else (some false)) else (some false)
theorem rma_Same.mono : ∀ a0 a1 a2 a3 a4 a5 a6 a7 a8 a9 k, LeO (rma_Same.f k a0 a1 a2 a3 a4 a5 a6 a7 a8 a9) (rma_Same.f (k + 1) a0 a1 a2 a3 a4 a5 a6 a7 a8 a9) := by
  intro a0 a1 a2 a3 a4 a5 a6 a7 a8 a9 k
  unfold rma_Same.f
  repeat' first
      | (with_reducible exact api_Want_150.mono _ _ _)
      | (with_reducible exact LeO.refl _)
      | (with_reducible exact LeO.none _)
      | (with_reducible refine LeO.ite ?_ ?_)
      | (with_reducible refine LeO.bind ?_ (fun _ => ?_))
      | exact api_Want_150.mono _ _ _
      | exact LeO.none _
      | refine LeO.ite ?_ ?_
      | refine LeO.bind ?_ (fun _ => ?_)
set_option maxHeartbeats 8000000 in
set_option maxRecDepth 100000 in
theorem rma_Same.calls (k : Nat) (a0_0 : Int) (a0_1 : Int) (a0_2 : Int) (a0_3 : Int) (A0_4 : Option Addr) (c0_4 : Nat) (l0_4 : List (S97)) (a1_0 : Int) (a1_1 : Int) (a1_2 : Int) (a1_3 : Int) (A1_4 : Option Addr) (c1_4 : Nat) (l1_4 : List (S97)) (r : Bool) (w : World) (hr0_4 : Kd.C k97 w A0_4 l0_4.length l0_4) (hc0_4 : l0_4.length ≤ c0_4) (hr1_4 : Kd.C k97 w A1_4 l1_4.length l1_4) (hc1_4 : l1_4.length ≤ c1_4) (h : rma_Same.f k a0_0 a0_1 a0_2 a0_3 l0_4 a1_0 a1_1 a1_2 a1_3 l1_4 = some r) :
    Calls Try.prog 57 #[.agg #[.int .i64 a0_0, .int .i64 a0_1, .int .i64 a0_2, .int .i64 a0_3, .slice A0_4 l0_4.length c0_4], .agg #[.int .i64 a1_0, .int .i64 a1_1, .int .i64 a1_2, .int .i64 a1_3, .slice A1_4 l1_4.length c1_4]] w fun e w' => e = .returned (.bool r) ∧ Below w.heap.size w w' := by
  have hu70 := Try.underlying70
  have HR0_4 := zA hr0_4
  have HC0_4 := zA hc0_4
  clear hr0_4 hc0_4
  have HR1_4 := zA hr1_4
  have HC1_4 := zA hc1_4
  clear hr1_4 hc1_4
  have HB := zA (Below.refl w.heap.size w)
  have H : (if a0_0 = a1_0 then (if a0_1 = a1_1 then (if a0_2 = a1_2 then (if a0_3 = a1_3 then ((api_Want_150.f k l0_4 l1_4).bind fun t103 => (some t103)) else (some false)) else (some false)) else (some false)) else (some false)) = some r := h
  clear h
  by_cases c3 : a0_0 = a1_0
  · rw [if_pos c3] at H
    have c3b0 : (a0_0 == a1_0) = true := beq_iff_eq.mpr c3; have c3b1 : (a0_0 != a1_0) = false := bne_eq_false_iff_eq.mpr c3; clear c3; by_cases c4 : a0_1 = a1_1
    · rw [if_pos c4] at H
      have c4b0 : (a0_1 == a1_1) = true := beq_iff_eq.mpr c4; have c4b1 : (a0_1 != a1_1) = false := bne_eq_false_iff_eq.mpr c4; clear c4; by_cases c5 : a0_2 = a1_2
      · rw [if_pos c5] at H
        have c5b0 : (a0_2 == a1_2) = true := beq_iff_eq.mpr c5; have c5b1 : (a0_2 != a1_2) = false := bne_eq_false_iff_eq.mpr c5; clear c5; by_cases c6 : a0_3 = a1_3
        · rw [if_pos c6] at H
          have c6b0 : (a0_3 == a1_3) = true := beq_iff_eq.mpr c6; have c6b1 : (a0_3 != a1_3) = false := bne_eq_false_iff_eq.mpr c6; clear c6; replace H := Option.bind_eq_some_iff.mp H; obtain ⟨t103, A70, H⟩ := H; replace H : (some t103) = some r := H; have A7 := zA A70; clear A70; obtain rfl := zKq H; go_enter Try.func57, Try.ntmps57; go_wp2_with (first | ((with_reducible refine gate_dst (N := 2) rfl ?_); refine box_event qr (N := 2) qr (cs := #[.int .i64 a0_0, .int .i64 a0_1, .int .i64 a0_2, .int .i64 a0_3, .slice A0_4 l0_4.length c0_4]) (t := 70) qg ?_; intro gb101 hg w8 hbox hb; have n0_ := zA (zV qB hb); have n1_ := zA (hbox); have n2_ := zA ((qS : w.heap.size ≤ gb101)); have n3_ := zA ((qS : w.heap.size ≤ gb101)); clear HB; have HB := n0_; have BK101 := n1_; have GW101 := n2_; have GE101 := n3_; clear n0_ n1_ n2_ n3_ hb hbox hg) | ((with_reducible refine gate_dst (N := 3) rfl ?_); refine box_event qr (N := 3) qr (cs := #[.int .i64 a1_0, .int .i64 a1_1, .int .i64 a1_2, .int .i64 a1_3, .slice A1_4 l1_4.length c1_4]) (t := 70) qg ?_; intro gb102 hg w9 hbox hb; have n0_ := zA (qX BK101.out hb); have n1_ := zA (zV qB hb); have n2_ := zA (hbox); have n3_ := zA ((qS : w.heap.size ≤ gb102)); have n4_ := zA ((qS : w.heap.size ≤ gb102)); have n5_ := zA ((by rw [hg]; exact zLq (qL BK101.out) : gb101 ≠ gb102)); have n6_ := zA ((by rw [hg]; exact zMq (qL BK101.out) : gb102 ≠ gb101)); clear BK101 HB; have BK101 := n0_; have HB := n1_; have BK102 := n2_; have GW102 := n3_; have GE102 := n4_; have NB101_102 := n5_; have NB102_101 := n6_; clear n0_ n1_ n2_ n3_ n4_ n5_ n6_ hb hbox hg; have hnb10 := NB101_102.out; have hnc10 := NB102_101.out; obtain ⟨_, _, _, _, _, _, _, _, _, _⟩ := qc5f BK101.out; obtain ⟨_, _, _, _, _, _, _, _, _, _⟩ := qc5f BK102.out) | (go_at_call 150; (with_reducible refine (api_Want_150.calls k _ _ l0_4 _ _ l1_4 t103 _ ?side1 ?side2 ?side3 ?side4 A7.out).mono ?_); (case side1 => exact qC (Kd.C_below HR0_4.out HB.out)); (case side2 => exact HC0_4.out); (case side3 => exact qC (Kd.C_below HR1_4.out HB.out)); (case side4 => exact HC1_4.out); rintro e w' ⟨rfl, ⟨nd, rfl⟩⟩)); go_ret; exact ⟨qE, qB⟩
        rw [if_neg c6] at H; have c6b0 : (a0_3 == a1_3) = false := beq_eq_false_iff_ne.mpr c6; have c6b1 : (a0_3 != a1_3) = true := bne_iff_ne.mpr c6; obtain rfl := zKq H; go_enter Try.func57, Try.ntmps57; go_wp2_with (first | ((with_reducible refine gate_dst (N := 2) rfl ?_); refine box_event qr (N := 2) qr (cs := #[.int .i64 a0_0, .int .i64 a0_1, .int .i64 a0_2, .int .i64 a0_3, .slice A0_4 l0_4.length c0_4]) (t := 70) qg ?_; intro gb101 hg w13 hbox hb; have n0_ := zA (zV qB hb); have n1_ := zA (hbox); have n2_ := zA ((qS : w.heap.size ≤ gb101)); have n3_ := zA ((qS : w.heap.size ≤ gb101)); clear HB; have HB := n0_; have BK101 := n1_; have GW101 := n2_; have GE101 := n3_; clear n0_ n1_ n2_ n3_ hb hbox hg) | ((with_reducible refine gate_dst (N := 3) rfl ?_); refine box_event qr (N := 3) qr (cs := #[.int .i64 a1_0, .int .i64 a1_1, .int .i64 a1_2, .int .i64 a1_3, .slice A1_4 l1_4.length c1_4]) (t := 70) qg ?_; intro gb102 hg w14 hbox hb; have n0_ := zA (qX BK101.out hb); have n1_ := zA (zV qB hb); have n2_ := zA (hbox); have n3_ := zA ((qS : w.heap.size ≤ gb102)); have n4_ := zA ((qS : w.heap.size ≤ gb102)); have n5_ := zA ((by rw [hg]; exact zLq (qL BK101.out) : gb101 ≠ gb102)); have n6_ := zA ((by rw [hg]; exact zMq (qL BK101.out) : gb102 ≠ gb101)); clear BK101 HB; have BK101 := n0_; have HB := n1_; have BK102 := n2_; have GW102 := n3_; have GE102 := n4_; have NB101_102 := n5_; have NB102_101 := n6_; clear n0_ n1_ n2_ n3_ n4_ n5_ n6_ hb hbox hg; have hnb15 := NB101_102.out; have hnc15 := NB102_101.out; obtain ⟨_, _, _, _, _, _, _, _, _, _⟩ := qc5f BK101.out; obtain ⟨_, _, _, _, _, _, _, _, _, _⟩ := qc5f BK102.out)); go_ret; exact ⟨qE, qB⟩
      rw [if_neg c5] at H; have c5b0 : (a0_2 == a1_2) = false := beq_eq_false_iff_ne.mpr c5; have c5b1 : (a0_2 != a1_2) = true := bne_iff_ne.mpr c5; obtain rfl := zKq H; go_enter Try.func57, Try.ntmps57; go_wp2_with (first | ((with_reducible refine gate_dst (N := 2) rfl ?_); refine box_event qr (N := 2) qr (cs := #[.int .i64 a0_0, .int .i64 a0_1, .int .i64 a0_2, .int .i64 a0_3, .slice A0_4 l0_4.length c0_4]) (t := 70) qg ?_; intro gb101 hg w18 hbox hb; have n0_ := zA (zV qB hb); have n1_ := zA (hbox); have n2_ := zA ((qS : w.heap.size ≤ gb101)); have n3_ := zA ((qS : w.heap.size ≤ gb101)); clear HB; have HB := n0_; have BK101 := n1_; have GW101 := n2_; have GE101 := n3_; clear n0_ n1_ n2_ n3_ hb hbox hg) | ((with_reducible refine gate_dst (N := 3) rfl ?_); refine box_event qr (N := 3) qr (cs := #[.int .i64 a1_0, .int .i64 a1_1, .int .i64 a1_2, .int .i64 a1_3, .slice A1_4 l1_4.length c1_4]) (t := 70) qg ?_; intro gb102 hg w19 hbox hb; have n0_ := zA (qX BK101.out hb); have n1_ := zA (zV qB hb); have n2_ := zA (hbox); have n3_ := zA ((qS : w.heap.size ≤ gb102)); have n4_ := zA ((qS : w.heap.size ≤ gb102)); have n5_ := zA ((by rw [hg]; exact zLq (qL BK101.out) : gb101 ≠ gb102)); have n6_ := zA ((by rw [hg]; exact zMq (qL BK101.out) : gb102 ≠ gb101)); clear BK101 HB; have BK101 := n0_; have HB := n1_; have BK102 := n2_; have GW102 := n3_; have GE102 := n4_; have NB101_102 := n5_; have NB102_101 := n6_; clear n0_ n1_ n2_ n3_ n4_ n5_ n6_ hb hbox hg; have hnb20 := NB101_102.out; have hnc20 := NB102_101.out; obtain ⟨_, _, _, _, _, _, _, _, _, _⟩ := qc5f BK101.out; obtain ⟨_, _, _, _, _, _, _, _, _, _⟩ := qc5f BK102.out)); go_ret; exact ⟨qE, qB⟩
    rw [if_neg c4] at H; have c4b0 : (a0_1 == a1_1) = false := beq_eq_false_iff_ne.mpr c4; have c4b1 : (a0_1 != a1_1) = true := bne_iff_ne.mpr c4; obtain rfl := zKq H; go_enter Try.func57, Try.ntmps57; go_wp2_with (first | ((with_reducible refine gate_dst (N := 2) rfl ?_); refine box_event qr (N := 2) qr (cs := #[.int .i64 a0_0, .int .i64 a0_1, .int .i64 a0_2, .int .i64 a0_3, .slice A0_4 l0_4.length c0_4]) (t := 70) qg ?_; intro gb101 hg w23 hbox hb; have n0_ := zA (zV qB hb); have n1_ := zA (hbox); have n2_ := zA ((qS : w.heap.size ≤ gb101)); have n3_ := zA ((qS : w.heap.size ≤ gb101)); clear HB; have HB := n0_; have BK101 := n1_; have GW101 := n2_; have GE101 := n3_; clear n0_ n1_ n2_ n3_ hb hbox hg) | ((with_reducible refine gate_dst (N := 3) rfl ?_); refine box_event qr (N := 3) qr (cs := #[.int .i64 a1_0, .int .i64 a1_1, .int .i64 a1_2, .int .i64 a1_3, .slice A1_4 l1_4.length c1_4]) (t := 70) qg ?_; intro gb102 hg w24 hbox hb; have n0_ := zA (qX BK101.out hb); have n1_ := zA (zV qB hb); have n2_ := zA (hbox); have n3_ := zA ((qS : w.heap.size ≤ gb102)); have n4_ := zA ((qS : w.heap.size ≤ gb102)); have n5_ := zA ((by rw [hg]; exact zLq (qL BK101.out) : gb101 ≠ gb102)); have n6_ := zA ((by rw [hg]; exact zMq (qL BK101.out) : gb102 ≠ gb101)); clear BK101 HB; have BK101 := n0_; have HB := n1_; have BK102 := n2_; have GW102 := n3_; have GE102 := n4_; have NB101_102 := n5_; have NB102_101 := n6_; clear n0_ n1_ n2_ n3_ n4_ n5_ n6_ hb hbox hg; have hnb25 := NB101_102.out; have hnc25 := NB102_101.out; obtain ⟨_, _, _, _, _, _, _, _, _, _⟩ := qc5f BK101.out; obtain ⟨_, _, _, _, _, _, _, _, _, _⟩ := qc5f BK102.out)); go_ret; exact ⟨qE, qB⟩
  rw [if_neg c3] at H
  have c3b0 : (a0_0 == a1_0) = false := beq_eq_false_iff_ne.mpr c3
  have c3b1 : (a0_0 != a1_0) = true := bne_iff_ne.mpr c3
  obtain rfl := zKq H
  go_enter Try.func57, Try.ntmps57
  go_wp2_with (first | ((with_reducible refine gate_dst (N := 2) rfl ?_); refine box_event qr (N := 2) qr (cs := #[.int .i64 a0_0, .int .i64 a0_1, .int .i64 a0_2, .int .i64 a0_3, .slice A0_4 l0_4.length c0_4]) (t := 70) qg ?_; intro gb101 hg w28 hbox hb; have n0_ := zA (zV qB hb); have n1_ := zA (hbox); have n2_ := zA ((qS : w.heap.size ≤ gb101)); have n3_ := zA ((qS : w.heap.size ≤ gb101)); clear HB; have HB := n0_; have BK101 := n1_; have GW101 := n2_; have GE101 := n3_; clear n0_ n1_ n2_ n3_ hb hbox hg) | ((with_reducible refine gate_dst (N := 3) rfl ?_); refine box_event qr (N := 3) qr (cs := #[.int .i64 a1_0, .int .i64 a1_1, .int .i64 a1_2, .int .i64 a1_3, .slice A1_4 l1_4.length c1_4]) (t := 70) qg ?_; intro gb102 hg w29 hbox hb; have n0_ := zA (qX BK101.out hb); have n1_ := zA (zV qB hb); have n2_ := zA (hbox); have n3_ := zA ((qS : w.heap.size ≤ gb102)); have n4_ := zA ((qS : w.heap.size ≤ gb102)); have n5_ := zA ((by rw [hg]; exact zLq (qL BK101.out) : gb101 ≠ gb102)); have n6_ := zA ((by rw [hg]; exact zMq (qL BK101.out) : gb102 ≠ gb101)); clear BK101 HB; have BK101 := n0_; have HB := n1_; have BK102 := n2_; have GW102 := n3_; have GE102 := n4_; have NB101_102 := n5_; have NB102_101 := n6_; clear n0_ n1_ n2_ n3_ n4_ n5_ n6_ hb hbox hg; have hnb30 := NB101_102.out; have hnc30 := NB102_101.out; obtain ⟨_, _, _, _, _, _, _, _, _, _⟩ := qc5f BK101.out; obtain ⟨_, _, _, _, _, _, _, _, _, _⟩ := qc5f BK102.out))
  go_ret
  exact ⟨qE, qB⟩
def rma_open_1_v3.f (a0_0 : Int) (a0_1 : Int) (a0_2 : Int) (a1_0 : Int) : Option (Bool) := some (a0_0 == a1_0)
set_option maxHeartbeats 8000000 in
set_option maxRecDepth 100000 in
theorem rma_open_1_v3.calls (a0_0 : Int) (a0_1 : Int) (a0_2 : Int) (g1 : Nat) (a1_0 : Int) (r : Bool) (w : World) (hk1 : w.heap[g1]? = some (.cells #[.int .i64 a1_0] 3 (0, 0))) (h : rma_open_1_v3.f a0_0 a0_1 a0_2 a1_0 = some r) :
    Calls Try.prog 227 #[.agg #[.int .i64 a0_0, .int .i64 a0_1, .int .i64 a0_2], .pointer (some ⟨g1, 0, none⟩)] w fun e w' => e = .returned (.bool r) ∧ Below w.heap.size w w' := by
  have hu97 := Try.underlying97
  have BK101 := zA hk1
  clear hk1
  have HB := zA (Below.refl w.heap.size w)
  have H : (some (a0_0 == a1_0)) = some r := h
  clear h
  obtain rfl := zKq H
  go_enter Try.func227, Try.ntmps227
  go_wp2_with (first | ((with_reducible refine gate_dst (N := 2) rfl ?_); refine box_event qr (N := 2) qr (cs := #[.int .i64 a0_0, .int .i64 a0_1, .int .i64 a0_2]) (t := 97) qg ?_; intro gb102 hg w3 hbox hb; have n0_ := zA (qX BK101.out hb); have n1_ := zA (zV qB hb); have n2_ := zA (hbox); have n3_ := zA ((qS : w.heap.size ≤ gb102)); have n4_ := zA ((qS : w.heap.size ≤ gb102)); have n5_ := zA ((by rw [hg]; exact zLq (qL BK101.out) : g1 ≠ gb102)); have n6_ := zA ((by rw [hg]; exact zMq (qL BK101.out) : gb102 ≠ g1)); clear BK101 HB; have BK101 := n0_; have HB := n1_; have BK102 := n2_; have GW102 := n3_; have GE102 := n4_; have NB101_102 := n5_; have NB102_101 := n6_; clear n0_ n1_ n2_ n3_ n4_ n5_ n6_ hb hbox hg; have hnb4 := NB102_101.out; have hnc4 := NB101_102.out; obtain ⟨_, _, _, _, _, _⟩ := qc3f BK102.out; have hcz6_0 : w3.cell? ⟨g1, 0, none⟩ = some (.int .i64 a1_0) := (zF BK101.out 0).trans rfl; have hfz6_0 := zG BK101.out 0))
  go_ret
  exact ⟨qE, qB⟩
def slices_IndexFunc_rma_open_1_v3.l0 : Nat → List (S97) → Int → Int → Int → Option (Int)
  | 0, _, _, _, _ => none
  | k + 1, x0, x7, x8, x102000 => if x8 < x7 then (if 0 ≤ x8 then (if x8 < (x0.length : Int) then ((rma_open_1_v3.f ((rd_T97 x0 x8).f0) ((rd_T97 x0 x8).f1) ((rd_T97 x0 x8).f2) x102000).bind fun t103 => (if t103 = true then (some x8) else (slices_IndexFunc_rma_open_1_v3.l0 k x0 x7 (wrap64 (x8 + 1)) x102000))) else (none)) else (none)) else (some (-1))
def slices_IndexFunc_rma_open_1_v3.f (k : Nat) (l0 : List (S97)) (a1_0_0 : Int) : Option (Int) := slices_IndexFunc_rma_open_1_v3.l0 k l0 (l0.length : Int) 0 a1_0_0
theorem slices_IndexFunc_rma_open_1_v3.mono_l : ∀ k, (∀ y0 y1 y2 y3, LeO (slices_IndexFunc_rma_open_1_v3.l0 k y0 y1 y2 y3) (slices_IndexFunc_rma_open_1_v3.l0 (k + 1) y0 y1 y2 y3))
  | 0 => fun _ _ _ _ r h => by simp [slices_IndexFunc_rma_open_1_v3.l0] at h
  | k + 1 => by
    have ih0 := slices_IndexFunc_rma_open_1_v3.mono_l k
    intro y0 y1 y2 y3
    unfold slices_IndexFunc_rma_open_1_v3.l0
    repeat' first
    | (with_reducible exact ih0 _ _ _ _)
    | (with_reducible exact LeO.refl _)
    | (with_reducible exact LeO.none _)
    | (with_reducible refine LeO.ite ?_ ?_)
    | (with_reducible refine LeO.bind ?_ (fun _ => ?_))
    | exact ih0 _ _ _ _
    | exact LeO.none _
    | refine LeO.ite ?_ ?_
    | refine LeO.bind ?_ (fun _ => ?_)
theorem slices_IndexFunc_rma_open_1_v3.mono : ∀ a0 a1 k, LeO (slices_IndexFunc_rma_open_1_v3.f k a0 a1) (slices_IndexFunc_rma_open_1_v3.f (k + 1) a0 a1) := by
  intro a0 a1 k
  have ih0 := slices_IndexFunc_rma_open_1_v3.mono_l k
  unfold slices_IndexFunc_rma_open_1_v3.f
  repeat' first
      | (with_reducible exact ih0 _ _ _ _)
      | (with_reducible exact LeO.refl _)
      | (with_reducible exact LeO.none _)
      | (with_reducible refine LeO.ite ?_ ?_)
      | (with_reducible refine LeO.bind ?_ (fun _ => ?_))
      | exact ih0 _ _ _ _
      | exact LeO.none _
      | refine LeO.ite ?_ ?_
      | refine LeO.bind ?_ (fun _ => ?_)
set_option maxHeartbeats 8000000 in
set_option maxRecDepth 100000 in
theorem slices_IndexFunc_rma_open_1_v3.calls (k : Nat) (A0 : Option Addr) (c0 : Nat) (l0 : List (S97)) (g1_0 : Nat) (a1_0_0 : Int) (r : Int) (w : World) (hr0 : Kd.C k97 w A0 l0.length l0) (hc0 : l0.length ≤ c0) (hk1_0 : w.heap[g1_0]? = some (.cells #[.int .i64 a1_0_0] 3 (0, 0))) (h : slices_IndexFunc_rma_open_1_v3.f k l0 a1_0_0 = some r) :
    Calls Try.prog 219 #[.slice A0 l0.length c0, .func (.func 227) #[] #[.pointer (some ⟨g1_0, 0, none⟩)]] w fun e w' => e = .returned (.int .i64 r) ∧ Below w.heap.size w w' := by
  have hu97 := Try.underlying97
  have HR0 := zA hr0
  have HC0 := zA hc0
  clear hr0 hc0
  have BK101 := zA hk1_0
  clear hk1_0
  have HB := zA (Below.refl w.heap.size w)
  have H : (slices_IndexFunc_rma_open_1_v3.l0 k l0 (l0.length : Int) 0 a1_0_0) = some r := h
  clear h
  have H' := zA H
  clear H
  go_enter Try.func219, Try.ntmps219
  go_wp2
  go_loopg [8] k (fun kq v8 w' => ∃ (x8_1 : Int), v8 = .int .i64 x8_1 ∧ Aside0 (slices_IndexFunc_rma_open_1_v3.l0 kq l0 (l0.length : Int) x8_1 a1_0_0 = some r) ∧ Aside0 (kq ≤ k) ∧ Aside0 (w'.heap[g1_0]? = some (.cells #[.int .i64 a1_0_0] 3 (0, 0))) ∧ Aside0 (Below w.heap.size w w'))
  case atStart => exact ⟨(0), (by first | rfl | (simp; done) | (simp [*]; done)), H', ⟨Nat.le_refl _⟩, ⟨by exact BK101.out⟩, ⟨qB⟩⟩
  case round =>
    clear H'; try clear p2
    obtain ⟨x8_1, rfl, HA, HK1, BK101, HB⟩ := hrel; cases gk with
    | zero => exact absurd HA.out (by simp [slices_IndexFunc_rma_open_1_v3.l0])
    | succ k1 =>
      have H := HA.out; clear HA; simp only [slices_IndexFunc_rma_open_1_v3.l0] at H; by_cases c3 : x8_1 < (l0.length : Int)
      · rw [if_pos c3] at H
        have c3b0 : decide (x8_1 < (l0.length : Int)) = true := zFq c3; clear c3; by_cases c4 : 0 ≤ x8_1
        · rw [if_pos c4] at H
          have c4b0 : decide (0 ≤ x8_1) = true := zFq c4; clear c4; by_cases c5 : x8_1 < (l0.length : Int)
          · rw [if_pos c5] at H
            have c5b0 : decide (x8_1 < (l0.length : Int)) = true := zFq c5; clear c5; replace H := Option.bind_eq_some_iff.mp H; obtain ⟨t103, A60, H⟩ := H; replace H : (if t103 = true then (some x8_1) else (slices_IndexFunc_rma_open_1_v3.l0 k1 l0 (l0.length : Int) (wrap64 (x8_1 + 1)) a1_0_0)) = some r := H; have A6 := zA A60; clear A60; by_cases c7 : t103 = true
            · subst c7
              have H1 : (some x8_1) = some r := by first | (rw [if_pos rfl] at H; exact H) | rfl
              clear H; have H := H1; clear H1; obtain rfl := zKq H; have p102 : 0 ≤ (x8_1 : Int) := of_decide_eq_true qA; have q102 : x8_1 < (l0.length : Int) := of_decide_eq_true qA; obtain ⟨ad102, e102, hx102_0, hx102_1, hx102_2⟩ := at_T97 HR0.out x8_1 p102 q102; cases e102
              replace hx102_0 := (HB.out.cell (zCq w _ hx102_0)).trans hx102_0; replace hx102_1 := (HB.out.cell (zCq w _ hx102_1)).trans hx102_1; replace hx102_2 := (HB.out.cell (zCq w _ hx102_2)).trans hx102_2; replace p102 := eq_true p102; replace q102 := eq_true q102; have hcz8_0 : wr.cell? ⟨g1_0, 0, none⟩ = some (.int .i64 a1_0_0) := (zF BK101.out 0).trans rfl; have hfz8_0 := zG BK101.out 0; go_wp2_with (first | (go_at_call 227; (with_reducible refine (rma_open_1_v3.calls ((rd_T97 l0 x8_1).f0) ((rd_T97 l0 x8_1).f1) ((rd_T97 l0 x8_1).f2) g1_0 a1_0_0 true _ ?side1 A6.out).mono ?_); (case side1 => exact (qW BK101.out)); rintro e w9 ⟨rfl, hb⟩; have n0_ := zA (qX BK101.out hb); have n1_ := zA (zV qB hb); clear BK101 HB; have BK101 := n0_; have HB := n1_; clear n0_ n1_; (try clear hb); (try clear hb2); (try clear hk); (try clear hi))); go_ret; exact ⟨qE, qB⟩
            replace c7 := Bool.eq_false_iff.mpr c7; subst c7; have H1 : (slices_IndexFunc_rma_open_1_v3.l0 k1 l0 (l0.length : Int) (wrap64 (x8_1 + 1)) a1_0_0) = some r := by first | (rw [if_neg (show ¬ (false = true) by decide)] at H; exact H) | rfl
            clear H; have H := H1; clear H1; have H' := zA H; clear H; have p102 : 0 ≤ (x8_1 : Int) := of_decide_eq_true qA; have q102 : x8_1 < (l0.length : Int) := of_decide_eq_true qA; obtain ⟨ad102, e102, hx102_0, hx102_1, hx102_2⟩ := at_T97 HR0.out x8_1 p102 q102; cases e102
            replace hx102_0 := (HB.out.cell (zCq w _ hx102_0)).trans hx102_0; replace hx102_1 := (HB.out.cell (zCq w _ hx102_1)).trans hx102_1; replace hx102_2 := (HB.out.cell (zCq w _ hx102_2)).trans hx102_2; replace p102 := eq_true p102; replace q102 := eq_true q102; have hcz10_0 : wr.cell? ⟨g1_0, 0, none⟩ = some (.int .i64 a1_0_0) := (zF BK101.out 0).trans rfl; have hfz10_0 := zG BK101.out 0; go_wp2_with (first | (go_at_call 227; (with_reducible refine (rma_open_1_v3.calls ((rd_T97 l0 x8_1).f0) ((rd_T97 l0 x8_1).f1) ((rd_T97 l0 x8_1).f2) g1_0 a1_0_0 false _ ?side1 A6.out).mono ?_); (case side1 => exact (qW BK101.out)); rintro e w11 ⟨rfl, hb⟩; have n0_ := zA (qX BK101.out hb); have n1_ := zA (zV qB hb); clear BK101 HB; have BK101 := n0_; have HB := n1_; clear n0_ n1_; (try clear hb); (try clear hb2); (try clear hk); (try clear hi))); go_roundg k1
            case measure => have := HK1.out; omega
            case rel => exact ⟨(wrap64 (x8_1 + 1)), (by first | rfl | (simp; done) | (simp [*]; done)), H', ⟨by have := HK1.out; omega⟩, ⟨by exact BK101.out⟩, ⟨qB⟩⟩
          rw [if_neg c5] at H; exact absurd H (by simp)
        rw [if_neg c4] at H; exact absurd H (by simp)
      rw [if_neg c3] at H; have c3b0 : decide (x8_1 < (l0.length : Int)) = false := zGq c3; clear c3; obtain rfl := zKq H; go_wp2; go_ret; exact ⟨qE, qB⟩
end Go.Proofs.Ytakkhomjpflkbaa.F
set_option linter.unusedVariables false
set_option linter.unusedSimpArgs false
namespace Go.Proofs.YtakkhomjpflkbaaX
open Go.RowKit Go.Proofs.YtakkhomjpflkbaaW.PrintWords Go.Proofs.YtakkhomjpflkbaaW.PrintLast Go.Proofs.YtakkhomjpflkbaaW.PrintMore
theorem run_copy_sized {P : Program} (w : World) (dT sT ty elem : TypeId) (sz : Nat) (g o dLen dCap : Nat) (a : Addr) (sLen sCap : Nat) (cur : Array Value) (t : TypeId) (cs : List Value)
    (hu : P.underlying dT = some (.slice elem)) (hs : (P.info? elem).map (·.size) = some sz)
    (hg : w.heap[g]? = some (.cells cur t (0, 0))) (hn : cs.length = Nat.min sLen dLen * sz)
    (hsrc : ∀ j v, cs[j]? = some v → w.cell? (a.add j) = some v) (hfit : o + cs.length ≤ cur.size) (h1 : ∀ v ∈ cs, v.oneCell' = true) :
    (Builtin.copy_ #[dT, sT] ty #[.slice (some ⟨g, o, none⟩) dLen dCap, .slice (some a) sLen sCap]).run P w =
      .ok (goInt (Nat.min sLen dLen)) (w.setRow g (cur.toList.take o ++ cs ++ cur.toList.drop (o + cs.length)).toArray) := by
  have hl := run_loadCells_list (P := P) w a cs hsrc
  have hst := run_storeCells_at P g o t cs 0 cur w hg (by simpa using hfit) h1
  cases hq : P.info? elem with
  | none => simp [hq] at hs
  | some i =>
    have hi : i.size = sz := by simpa [hq] using hs
    rw [hn] at hl
    simp [Builtin.copy_, run_underlying hu, Builtin.lenOf, Builtin.firstCells, sizeOf, typeInfo, hq, hi, hl, hst]
theorem run_copy_zero {P : Program} (w : World) (dT sT ty elem : TypeId) (d a : Option Addr) (dLen dCap sLen sCap : Nat) (hu : P.underlying dT = some (.slice elem)) (hs : ((P.info? elem).map (·.size)).isSome = true) (hn : Nat.min sLen dLen = 0) :
    (Builtin.copy_ #[dT, sT] ty #[.slice d dLen dCap, .slice a sLen sCap]).run P w = .ok (goInt 0) w := by
  cases hq : P.info? elem with
  | none => simp [hq] at hs
  | some i =>
    have hl : ∀ (x : Addr), (loadCells x 0).run P w = .ok #[] w := fun x => by simpa using run_loadCells_list (P := P) w x [] (by simp)
    cases d <;> cases a <;> simp [Builtin.copy_, run_underlying hu, Builtin.lenOf, Builtin.firstCells, sizeOf, typeInfo, hq, hn, storeCells, hl]
theorem wpList_copy_row {α : Type} {P : Program} {ops : Array Oper} {rest : List Oper} {o : Oper} {a : Act} {Q : Exit → Act → World → Prop} (d : Kd α) (hflat : Flat d) (hstill : ∀ (w w1 : World) (x : α) (cs : List Value), d.K w x cs → d.K w1 x cs) {w0 W : World} (base : Nat) (hgd : o.guard = none) (s x : Operand) (t u e : TypeId)
    (ho : o.op = .call { callee := .builtin .copy, args := #[s, x], argTypes := #[t, u] }) (ht : P.underlying t = some (.slice e)) (hsz : (P.info? e).map (·.size) = some d.sz) (hs0 : 0 < d.sz)
    (v : Value) (zs xs : List α) (A : Option Addr) (m c : Nat) (ok : Nat → Prop) (hs : a.eval s = v) (hx : a.eval x = .slice A m c)
    (HO : d.R e W base ok v zs) (HC : d.C W A m xs) (hl : xs.length = zs.length) (HB : Below base w0 W)
    (h : ∀ w1, d.R e w1 base ok v xs → Below base w0 w1 → W.grownBy w1 v.ownBlock → wpList P ops Q rest (a.put o.dst (goInt m)) w1) : wpList P ops Q (o :: rest) a W := by
  have hm : xs.length = m := HC.1
  have hsz' : ((P.info? e).map (·.size)).isSome = true := by rw [hsz]; rfl
  obtain ⟨hok, inner, ⟨hil, hcase⟩, hR⟩ := HO
  have nothing : ∀ (dp : Option Addr) (dc : Nat), v = .slice dp zs.length dc → m = 0 → wpList P ops Q (o :: rest) a W := by
    intro dp dc hv h0
    refine wpList_plain hgd fun K hK => ?_
    have hrun := run_copy_zero (P := P) W t u o.type e dp A zs.length dc m c ht hsz' (by rw [h0]; simp)
    unfold Oper.wp
    simp only [execOp, ho, resolve, invoke, builtin, Sem.run_bind, Sem.run_pure, Result.andThen_ok, List.map_toArray, List.map_cons, List.map_nil, hs, hv, hx, hrun]
    subst h0
    refine hK _ _ (h W ?_ HB ⟨rfl, rfl, rfl, Nat.le_refl _, fun _ _ _ => rfl⟩)
    have e1 : xs = [] := List.eq_nil_of_length_eq_zero (by omega)
    have e2 : zs = [] := List.eq_nil_of_length_eq_zero (by omega)
    rw [e1, ← e2]
    exact ⟨hok, inner, ⟨hil, hcase⟩, hR⟩
  rcases hcase with ⟨hv, h0⟩ | ⟨g, cap, cur, hv, hg, hh, hcap, hmax, hcur, htake⟩
  · exact nothing none 0 (by rw [hv, h0]) (by omega)
  rcases Nat.eq_zero_or_pos m with h0 | hpos
  · exact nothing _ _ hv h0
  obtain ⟨ad, hA, _⟩ := HC.2.2 hpos
  subst hA
  obtain ⟨cs, hr, hcells⟩ := C_cells HC
  have hone := one_of_reps hs0 hr
  have hcl : cs.length = m * d.sz := by rw [hr.1, hm]
  have hmin : Nat.min m zs.length = m := by rw [← hl, hm]; exact Nat.min_self m
  have hle : m * d.sz ≤ cap * d.sz := Nat.mul_le_mul_right _ (by omega)
  have hrun := run_copy_sized (P := P) W t u o.type e d.sz g 0 zs.length cap ad m c cur e cs ht hsz hh (by rw [hmin]; exact hcl) hcells (by omega) hone
  refine wpList_plain hgd fun K hK => ?_
  unfold Oper.wp
  simp only [execOp, ho, resolve, invoke, builtin, Sem.run_bind, Sem.run_pure, Result.andThen_ok, List.map_toArray, List.map_cons, List.map_nil, hs, hv, hx, hrun]
  rw [hmin]
  have hgrow : W.grownBy (W.setRow g (cur.toList.take 0 ++ cs ++ cur.toList.drop (0 + cs.length)).toArray) v.ownBlock := ⟨rfl, rfl, rfl, by simp [World.setRow], fun k _ hk => setRow_other W g k _ (fun e => hk (by rw [hv, e]; rfl))⟩
  refine hK _ _ (h _ ?_ (HB.trans ⟨rfl, rfl, rfl, by simp [World.setRow], fun k hk => setRow_other W g k _ (by omega)⟩) hgrow)
  refine ⟨hok, cs, ⟨by rw [hm]; exact hcl, .inr ⟨g, cap, _, by rw [hv, hl], hg, setRow_heap _ _ _ _ _ _ hh, by omega, hmax, ?_, ?_⟩⟩, ?_⟩
  · simp
    omega
  · rw [hm, ← hcl]
    simp
  exact hr.imp_ (fun p cc hp => hflat _ _ _ _ _ (hstill _ _ _ _ hp))
abbrev o1 : Bool := true
abbrev o0 : Bool := false
theorem R5 {α : Type} {d : Kd α} {e : Nat} {w : World} {base : Nat} {ok : Nat → Prop} {v : Value} {xs : List α} (g : Nat) (h : d.R e w base (fun k => ok k ∧ k ≠ g) v xs) (u0 u1 u2 u3 u4 : Value) :
    d.R e (((((w.setCell ⟨g, 0, none⟩ u0).setCell ⟨g, 1, none⟩ u1).setCell ⟨g, 2, none⟩ u2).setCell ⟨g, 3, none⟩ u3).setCell ⟨g, 4, none⟩ u4) base (fun k => ok k ∧ k ≠ g) v xs :=
  Kd.R_far (p := ⟨g, 4, none⟩) (Kd.R_far (p := ⟨g, 3, none⟩) (Kd.R_far (p := ⟨g, 2, none⟩) (Kd.R_far (p := ⟨g, 1, none⟩) (Kd.R_far (p := ⟨g, 0, none⟩) h (fun _ hk => hk.2) u0) (fun _ hk => hk.2) u1) (fun _ hk => hk.2) u2) (fun _ hk => hk.2) u3) (fun _ hk => hk.2) u4
theorem N5 {α : Type} {d : Kd α} {e : Nat} {w : World} {base : Nat} {ok : Nat → Prop} {v : Value} {xs : List α} (g : Nat) (h : Kd.N d e w base (fun k => ok k ∧ k ≠ g) v xs) (u0 u1 u2 u3 u4 : Value) :
    Kd.N d e (((((w.setCell ⟨g, 0, none⟩ u0).setCell ⟨g, 1, none⟩ u1).setCell ⟨g, 2, none⟩ u2).setCell ⟨g, 3, none⟩ u3).setCell ⟨g, 4, none⟩ u4) base (fun k => ok k ∧ k ≠ g) v xs :=
  Kd.N_far (p := ⟨g, 4, none⟩) (Kd.N_far (p := ⟨g, 3, none⟩) (Kd.N_far (p := ⟨g, 2, none⟩) (Kd.N_far (p := ⟨g, 1, none⟩) (Kd.N_far (p := ⟨g, 0, none⟩) h (fun _ hk => hk.2) u0) (fun _ hk => hk.2) u1) (fun _ hk => hk.2) u2) (fun _ hk => hk.2) u3) (fun _ hk => hk.2) u4
end Go.Proofs.YtakkhomjpflkbaaX
namespace Go.Proofs.Ytakkhomjpflkbaa.F
open Go.RowKit Go.Proofs.YtakkhomjpflkbaaX Go.Proofs.YtakkhomjpflkbaaW.PrintWords Go.Proofs.YtakkhomjpflkbaaW.PrintLast Go.Proofs.YtakkhomjpflkbaaW.PrintMore
attribute [local go_sem] max2_int min2_int max_two min_two max_three min_three max_four min_four   
attribute [local go_sem high] str_geq str_leq str_gtr
set_option linter.unusedVariables false
set_option linter.unusedSimpArgs false
def rma_open.f (k : Nat) (a0_0 : Int) (a0_1 : Int) (a0_2 : Int) (a0_3 : Int) (l0_4 : List (S97)) (a1 : Int) : Option (Int × Int × Int × Int × (List (S97)) × Int × Int) := (rma_Check.f k a0_0 a0_1 a0_2 a0_3 l0_4).bind fun t104 => (if t104 = 0 then (if a0_3 = 1 then (if 0 ≤ (l0_4.length : Int) then (if ((l0_4.length : Int) : Int).toNat ≤ 11728124029610 then (if l0_4.length = (List.replicate ((l0_4.length : Int) : Int).toNat z97).length then ((some (l0_4 : List (S97))).bind fun y108 => ((slices_IndexFunc_rma_open_1_v3.f k y108 a1).bind fun t111 => (some (a0_0, a0_1, a0_2, a0_3, y108, t111, 0)))) else (none)) else (none)) else (none)) else (some (0, 0, 0, 0, ([] : List (S97)), 0, 33))) else (some (0, 0, 0, 0, ([] : List (S97)), 0, t104)))
theorem rma_open.mono : ∀ a0 a1 a2 a3 a4 a5 k, LeO (rma_open.f k a0 a1 a2 a3 a4 a5) (rma_open.f (k + 1) a0 a1 a2 a3 a4 a5) := by
  intro a0 a1 a2 a3 a4 a5 k
  unfold rma_open.f
  repeat' first
      | (with_reducible exact rma_Check.mono _ _ _ _ _ _)
      | (with_reducible exact slices_IndexFunc_rma_open_1_v3.mono _ _ _)
      | (with_reducible exact LeO.refl _)
      | (with_reducible exact LeO.none _)
      | (with_reducible refine LeO.ite ?_ ?_)
      | (with_reducible refine LeO.bind ?_ (fun _ => ?_))
      | exact rma_Check.mono _ _ _ _ _ _
      | exact slices_IndexFunc_rma_open_1_v3.mono _ _ _
      | exact LeO.none _
      | refine LeO.ite ?_ ?_
      | refine LeO.bind ?_ (fun _ => ?_)
set_option maxHeartbeats 8000000 in
set_option maxRecDepth 100000 in
theorem rma_open.calls (k : Nat) (a0_0 : Int) (a0_1 : Int) (a0_2 : Int) (a0_3 : Int) (A0_4 : Option Addr) (c0_4 : Nat) (l0_4 : List (S97)) (a1 : Int) (r1 : Int) (r2 : Int) (r3 : Int) (r4 : Int) (r5 : List (S97)) (r6 : Int) (r7 : Int) (w : World) (hr0_4 : Kd.C k97 w A0_4 l0_4.length l0_4) (hc0_4 : l0_4.length ≤ c0_4) (h : rma_open.f k a0_0 a0_1 a0_2 a0_3 l0_4 a1 = some (r1, r2, r3, r4, r5, r6, r7)) :
    Calls Try.prog 151 #[.agg #[.int .i64 a0_0, .int .i64 a0_1, .int .i64 a0_2, .int .i64 a0_3, .slice A0_4 l0_4.length c0_4], .int .i64 a1] w fun e w' => ∃ v4_ : Value, e = .returned (.tuple #[.agg #[.int .i64 r1, .int .i64 r2, .int .i64 r3, .int .i64 r4, v4_], .int .i64 r6, .int .i64 r7]) ∧ Kd.R k97 97 w' w.heap.size (fun _ => True) v4_ r5 ∧ Below w.heap.size w w' := by
  have hu70 := Try.underlying70
  have hmf : ∀ (fn : Fn) (first cap : Array Value) (w : World), (Instr.makeFunc fn first cap).run Try.prog w = .ok (.func fn first cap) w := fun _ _ _ _ => rfl
  have HR0_4 := zA hr0_4
  have HC0_4 := zA hc0_4
  clear hr0_4 hc0_4
  have HB := zA (Below.refl w.heap.size w)
  have H : ((rma_Check.f k a0_0 a0_1 a0_2 a0_3 l0_4).bind fun t104 => (if t104 = 0 then (if a0_3 = 1 then (if 0 ≤ (l0_4.length : Int) then (if ((l0_4.length : Int) : Int).toNat ≤ 11728124029610 then (if l0_4.length = (List.replicate ((l0_4.length : Int) : Int).toNat z97).length then ((some (l0_4 : List (S97))).bind fun y108 => ((slices_IndexFunc_rma_open_1_v3.f k y108 a1).bind fun t111 => (some (a0_0, a0_1, a0_2, a0_3, y108, t111, 0)))) else (none)) else (none)) else (none)) else (some (0, 0, 0, 0, ([] : List (S97)), 0, 33))) else (some (0, 0, 0, 0, ([] : List (S97)), 0, t104)))) = some (r1, r2, r3, r4, r5, r6, r7) := h
  clear h
  replace H := Option.bind_eq_some_iff.mp H
  obtain ⟨t104, A30, H⟩ := H
  replace H : (if t104 = 0 then (if a0_3 = 1 then (if 0 ≤ (l0_4.length : Int) then (if ((l0_4.length : Int) : Int).toNat ≤ 11728124029610 then (if l0_4.length = (List.replicate ((l0_4.length : Int) : Int).toNat z97).length then ((some (l0_4 : List (S97))).bind fun y108 => ((slices_IndexFunc_rma_open_1_v3.f k y108 a1).bind fun t111 => (some (a0_0, a0_1, a0_2, a0_3, y108, t111, 0)))) else (none)) else (none)) else (none)) else (some (0, 0, 0, 0, ([] : List (S97)), 0, 33))) else (some (0, 0, 0, 0, ([] : List (S97)), 0, t104))) = some (r1, r2, r3, r4, r5, r6, r7) := H
  have A3 := zA A30
  clear A30
  by_cases c4 : t104 = 0
  · rw [if_pos c4] at H
    have c4b0 : (t104 == 0) = true := beq_iff_eq.mpr c4; have c4b1 : (t104 != 0) = false := bne_eq_false_iff_eq.mpr c4; clear c4; by_cases c5 : a0_3 = 1
    · rw [if_pos c5] at H
      have c5b0 : (a0_3 == 1) = true := beq_iff_eq.mpr c5; have c5b1 : (a0_3 != 1) = false := bne_eq_false_iff_eq.mpr c5; clear c5; by_cases c6 : 0 ≤ (l0_4.length : Int)
      · rw [if_pos c6] at H
        have c6b0 := eq_true c6; have c6b1 : decide (0 ≤ (l0_4.length : Int)) = true := zFq c6; clear c6; by_cases c7 : ((l0_4.length : Int) : Int).toNat ≤ 11728124029610
        · rw [if_pos c7] at H
          have c7b0 := eq_true c7; have c7b1 : decide (((l0_4.length : Int) : Int).toNat ≤ 11728124029610) = true := zFq c7; clear c7; obtain ⟨y105, hy105⟩ : ∃ y_ : List (S97), y_ = (List.replicate ((l0_4.length : Int) : Int).toNat z97) := ⟨_, rfl⟩
          replace H : (if l0_4.length = y105.length then ((some (l0_4 : List (S97))).bind fun y108 => ((slices_IndexFunc_rma_open_1_v3.f k y108 a1).bind fun t111 => (some (a0_0, a0_1, a0_2, a0_3, y108, t111, 0)))) else (none)) = some (r1, r2, r3, r4, r5, r6, r7) := by first | (rw [hy105]; with_reducible exact H) | (have H2_ := (Option.bind_some _ _).symm.trans H; rw [hy105]; with_reducible exact H2_) | (have H2_ := (Option.bind_some _ _).symm.trans H; with_reducible exact H2_) | with_reducible exact H | (rw [hy105]; exact H) | exact H
          have Ny105 := zA hy105; clear hy105; by_cases c8 : l0_4.length = y105.length
          · rw [if_pos c8] at H
            have LMc8 := zA c8; clear c8; obtain ⟨y108, hy108⟩ : ∃ y_ : List (S97), y_ = (l0_4) := ⟨_, rfl⟩
            replace H : ((slices_IndexFunc_rma_open_1_v3.f k y108 a1).bind fun t111 => (some (a0_0, a0_1, a0_2, a0_3, y108, t111, 0))) = some (r1, r2, r3, r4, r5, r6, r7) := by first | (rw [hy108]; with_reducible exact H) | (have H2_ := (Option.bind_some _ _).symm.trans H; rw [hy108]; with_reducible exact H2_) | (have H2_ := (Option.bind_some _ _).symm.trans H; with_reducible exact H2_) | with_reducible exact H | (rw [hy108]; exact H) | exact H
            have Ny108 := zA hy108; clear hy108; replace H := Option.bind_eq_some_iff.mp H; obtain ⟨t111, A90, H⟩ := H; replace H : (some (a0_0, a0_1, a0_2, a0_3, y108, t111, 0)) = some (r1, r2, r3, r4, r5, r6, r7) := H; have A9 := zA A90; clear A90; simp only [zNq, zOq] at H; obtain ⟨rfl, rfl, rfl, rfl, rfl, rfl, rfl⟩ := H; go_enter Try.func151, Try.ntmps151; try go_wp2_with (first | ((with_reducible refine gate_dst (N := 2) rfl ?_); refine box_event qr (N := 2) qr (cs := #[.int .i64 a0_0, .int .i64 a0_1, .int .i64 a0_2, .int .i64 a0_3, .slice A0_4 l0_4.length c0_4]) (t := 70) qg ?_; intro gb101 hg w10 hbox hb; have n0_ := zA (zV qB hb); have n1_ := zA (hbox); have n2_ := zA ((qS : w.heap.size ≤ gb101)); have n3_ := zA ((qS : w.heap.size ≤ gb101)); clear HB; have HB := n0_; have BK101 := n1_; have GW101 := n2_; have GE101 := n3_; clear n0_ n1_ n2_ n3_ hb hbox hg) | ((with_reducible refine gate_dst (N := 3) rfl ?_); refine box_event qr (N := 3) qr (cs := #[.int .i64 a1]) (t := 3) qg ?_; intro gb102 hg w11 hbox hb; have n0_ := zA (qX BK101.out hb); have n1_ := zA (zV qB hb); have n2_ := zA (hbox); have n3_ := zA ((qS : w.heap.size ≤ gb102)); have n4_ := zA ((qS : w.heap.size ≤ gb102)); have n5_ := zA ((by rw [hg]; exact zLq (qL BK101.out) : gb101 ≠ gb102)); have n6_ := zA ((by rw [hg]; exact zMq (qL BK101.out) : gb102 ≠ gb101)); clear BK101 HB; have BK101 := n0_; have HB := n1_; have BK102 := n2_; have GW102 := n3_; have GE102 := n4_; have NB101_102 := n5_; have NB102_101 := n6_; clear n0_ n1_ n2_ n3_ n4_ n5_ n6_ hb hbox hg) | ((with_reducible refine gate_dst (N := 4) rfl ?_); refine box_event qr (N := 4) qr (cs := #[.int .i64 0, .int .i64 0, .int .i64 0, .int .i64 0, .slice none 0 0]) (t := 70) qg ?_; intro gb103 hg w12 hbox hb; have n0_ := zA (qX BK101.out hb); have n1_ := zA (qX BK102.out hb); have n2_ := zA (zV qB hb); have n3_ := zA (hbox); have n4_ := zA ((qS : w.heap.size ≤ gb103)); have n5_ := zA ((qS : w.heap.size ≤ gb103)); have n6_ := zA ((by rw [hg]; exact zLq (qL BK101.out) : gb101 ≠ gb103)); have n7_ := zA ((by rw [hg]; exact zMq (qL BK101.out) : gb103 ≠ gb101)); have n8_ := zA ((by rw [hg]; exact zLq (qL BK102.out) : gb102 ≠ gb103)); have n9_ := zA ((by rw [hg]; exact zMq (qL BK102.out) : gb103 ≠ gb102)); clear BK101 BK102 HB; have BK101 := n0_; have BK102 := n1_; have HB := n2_; have BK103 := n3_; have GW103 := n4_; have GE103 := n5_; have NB101_103 := n6_; have NB103_101 := n7_; have NB102_103 := n8_; have NB103_102 := n9_; clear n0_ n1_ n2_ n3_ n4_ n5_ n6_ n7_ n8_ n9_ hb hbox hg; have hnb13 := NB101_102.out; have hnc13 := NB102_101.out; have hnb14 := NB101_103.out; have hnc14 := NB103_101.out; obtain ⟨_, _, _, _, _, _, _, _, _, _⟩ := qc5f BK101.out) | ((with_reducible refine zJq (f := 52) rfl ?_); refine goesL_ (some 10) rfl rfl Try.func52 (by kernel_rfl) rfl #[.agg #[.int .i64 a0_0, .int .i64 a0_1, .int .i64 a0_2, .int .i64 a0_3, .slice A0_4 l0_4.length c0_4]] rfl (by (try simp only [zR, zS, zT]); first | done | rfl | (simp only [zP, zQ]; rfl)) ?_; (with_reducible refine (rma_Check.calls k a0_0 a0_1 a0_2 a0_3 _ _ l0_4 t104 _ ?side1 ?side2 A3.out).mono ?_); (case side1 => exact qC (Kd.C_below HR0_4.out HB.out)); (case side2 => exact HC0_4.out); rintro e w16 ⟨rfl, hb⟩; refine ⟨_, rfl, ?_⟩; have n0_ := zA (qX BK101.out hb); have n1_ := zA (qX BK102.out hb); have n2_ := zA (qX BK103.out hb); have n3_ := zA (zV qB hb); clear BK101 BK102 BK103 HB; have BK101 := n0_; have BK102 := n1_; have BK103 := n2_; have HB := n3_; clear n0_ n1_ n2_ n3_; (try clear hb); (try clear hb2); (try clear hk); (try clear hi); obtain ⟨_, _, _, _, _, _, _, _, _, _⟩ := qc5f BK101.out) | ((with_reducible refine gate_dst (N := 22) rfl ?_); refine Kd.R_make k97 _ 97 rfl (N := 22) rfl 68 _ _ rfl (l0_4.length : Int) rfl rfl Try.underlying68 (.agg #[(.int .i64 0), (.int .i64 0), (.int .i64 0)]) 24 info97 rfl (by decide) (by omega) z97 (ok := fun _ => True) (okp := fun _ => True) (k97_mkM _ _ _ z97 ) (fun _ hk => hk) trivial (of_decide_eq_true qA) (Nat.le_trans (Nat.mul_le_mul_right _ (of_decide_eq_true qA : (l0_4.length : Int).toNat ≤ 11728124029610)) (by omega)) (Below.refl _ _) (Nat.le_refl _) ?_; intro v106 w18 ho19 hb hg_ hnew_; clear hg_ hnew_; (first | rw [← Ny105.out] at ho19 | (simp only [Int.reduceToNat] at ho19; rw [← Ny105.out] at ho19)); have n0_ := zA (Kd.R_lower ho19 (zW qB)); have n1_ := zA (qX BK101.out hb); have n2_ := zA (qX BK102.out hb); have n3_ := zA (qX BK103.out hb); have n4_ := zA (zV qB hb); clear BK101 BK102 BK103 HB; have HO107 := n0_; have BK101 := n1_; have BK102 := n2_; have BK103 := n3_; have HB := n4_; clear n0_ n1_ n2_ n3_ n4_ hb ho19; obtain ⟨_, _, _, _, _, _, _, _, _, _⟩ := qc5f BK101.out) | ((with_reducible refine gate_builtin (b := .copy) (xs := #[.tmp 23, .tmp 25]) rfl ?_); refine wpList_copy_row k97 flat_k97 (fun _ _ _ _ h => h) (w0 := w) w.heap.size rfl (.tmp 23) (.tmp 25) 68 68 97 rfl Try.underlying68 (by obtain ⟨i_, h1_, h2_⟩ := Option.map_eq_some_iff.1 info97; simp only [zOq] at h2_; rw [h1_]; exact congrArg some h2_.2.1) (by decide) v106 y105 l0_4 _ _ _ (fun _ => True) rfl rfl ?aO ?aR ?aL ?aB ?_; (case aR => exact qC (Kd.C_below HR0_4.out HB.out)); (case aB => exact qB); (case aO => exact (by (with_reducible repeat (first | apply Kd.R_alloc | apply Kd.R_drewN | apply Kd.R_drew)); exact HO107.out)); (case aL => exact LMc8.out); intro w21 ho hb hg; have hat := True.intro; rw [← Ny108.out] at ho; have n0_ := zA (blk_grown (g := gb101) (o := .cells #[.int .i64 a0_0, .int .i64 a0_1, .int .i64 a0_2, .int .i64 a0_3, .slice A0_4 l0_4.length c0_4] 70 (0, 0)) (qW BK101.out) hg (Kd.R_ne HO107.out BK101.out (by decide))); have n1_ := zA (blk_grown (g := gb102) (o := .cells #[.int .i64 a1] 3 (0, 0)) (qW BK102.out) hg (Kd.R_ne HO107.out BK102.out (by decide))); have n2_ := zA (blk_grown (g := gb103) (o := .cells #[.int .i64 0, .int .i64 0, .int .i64 0, .int .i64 0, .slice none 0 0] 70 (0, 0)) (qW BK103.out) hg (Kd.R_ne HO107.out BK103.out (by decide))); have n3_ := zA (hb); have n4_ := zA (ho); clear BK101 BK102 BK103 HB HO107; have BK101 := n0_; have BK102 := n1_; have BK103 := n2_; have HB := n3_; have HO110 := n4_; clear n0_ n1_ n2_ n3_ n4_ ho hb hg hat; obtain ⟨Ao22, co22, eo22⟩ := Kd.R_slice HO110.out; subst eo22; obtain ⟨_, _, _, _, _, _, _, _, _, _⟩ := qc5f BK101.out))
            have n0_ : Aside0 (Kd.R k97 97 (w21.setCell ⟨gb101, 4, none⟩ (.slice Ao22 y108.length co22)) w.heap.size (fun _ => True) (.slice Ao22 y108.length co22) y108) := ⟨by (with_reducible repeat (first | apply Kd.R_alloc | apply Kd.R_drewN | apply Kd.R_drew)); exact Kd.R_mono (Kd.R_far (p := ⟨gb101, 4, none⟩) (Kd.R_types HO110.out BK101.out (by decide)) (fun _ hk => hk.2) (.slice Ao22 y108.length co22)) (fun _ hk => trivial)⟩
            have n1_ : Aside0 ((w21.setCell ⟨gb101, 4, none⟩ (.slice Ao22 y108.length co22)).heap[gb101]? = some (.cells #[.int .i64 a0_0, .int .i64 a0_1, .int .i64 a0_2, .int .i64 a0_3, .slice Ao22 y108.length co22] 70 (0, 0))) := ⟨by (with_reducible repeat (first | refine zY ?_ _ | refine zAq ?_ | refine zZ ?_ _)); refine blk_put (cs := #[.int .i64 a0_0, .int .i64 a0_1, .int .i64 a0_2, .int .i64 a0_3, .slice A0_4 l0_4.length c0_4]) ?_ 4 _ rfl; exact BK101.out⟩
            have n2_ : Aside0 ((w21.setCell ⟨gb101, 4, none⟩ (.slice Ao22 y108.length co22)).heap[gb102]? = some (.cells #[.int .i64 a1] 3 (0, 0))) := ⟨by (with_reducible repeat (first | refine zY ?_ _ | refine zAq ?_ | refine zZ ?_ _)); refine blk_far ?_ NB102_101.out _; exact BK102.out⟩
            have n3_ : Aside0 ((w21.setCell ⟨gb101, 4, none⟩ (.slice Ao22 y108.length co22)).heap[gb103]? = some (.cells #[.int .i64 0, .int .i64 0, .int .i64 0, .int .i64 0, .slice none 0 0] 70 (0, 0))) := ⟨by (with_reducible repeat (first | refine zY ?_ _ | refine zAq ?_ | refine zZ ?_ _)); refine blk_far ?_ NB103_101.out _; exact BK103.out⟩
            have n4_ : Aside0 (Below w.heap.size w (w21.setCell ⟨gb101, 4, none⟩ (.slice Ao22 y108.length co22))) := ⟨qB⟩
            (try clear HO110); (try clear BK101); (try clear BK102); (try clear BK103); (try clear HB)
            generalize (w21.setCell ⟨gb101, 4, none⟩ (.slice Ao22 y108.length co22)) = w24 at n0_ n1_ n2_ n3_ n4_ ⊢; have HO110 := n0_; have BK101 := n1_; have BK102 := n2_; have BK103 := n3_; have HB := n4_; clear n0_ n1_ n2_ n3_ n4_; have n0_ := zA (Kd.R_drew HO110.out); have n1_ := zA (zAq BK101.out); have n2_ := zA (zAq BK102.out); have n3_ := zA (zAq BK103.out); have n4_ := zA (zC HB.out); clear HO110; clear BK101; clear BK102; clear BK103; clear HB; have HO110 := n0_; have BK101 := n1_; have BK102 := n2_; have BK103 := n3_; have HB := n4_; clear n0_ n1_ n2_ n3_ n4_; refine start_ (n := 7) (S := fun w' => w'.cell? ⟨gb101, 0, none⟩ = some (.int .i64 a0_0) ∧ w'.cell? ⟨gb101, 1, none⟩ = some (.int .i64 a0_1) ∧ w'.cell? ⟨gb101, 2, none⟩ = some (.int .i64 a0_2) ∧ w'.cell? ⟨gb101, 3, none⟩ = some (.int .i64 a0_3) ∧ w'.cell? ⟨gb101, 4, none⟩ = some (.slice Ao22 y108.length co22) ∧ w'.cell? ⟨gb102, 0, none⟩ = some (.int .i64 a1)) (ds := []) #[o0, o0, o0, o0, o0, o0, o0] (by kernel_rfl) rfl rfl ⟨(zF BK101.out 0).trans rfl, (zF BK101.out 1).trans rfl, (zF BK101.out 2).trans rfl, (zF BK101.out 3).trans rfl, (zF BK101.out 4).trans rfl, (zF BK102.out 0).trans rfl⟩ (fun hHeld => ?_); generalize w24.drew = w25 at HO110 BK101 BK102 BK103 HB hHeld ⊢; refine pure_ (i := 1) (N := some 30) (v := ?_) (a' := ?_) #[o0, o1, o0, o0, o0, o0, o0] rfl rfl (by kernel_rfl) (fun _ _ _ h => h) (Or.inl ⟨by rfl, ?_⟩) ?_ ?_; rotate_left
            · intro w'
              go_simp; with_reducible rfl
            rotate_left
            · simp only [Act.put, zH, zI, zJ, i64_w, i32_w]
              rfl
            refine pure_ (i := 2) (N := some 31) (v := ?_) (a' := ?_) #[o0, o1, o1, o0, o0, o0, o0] rfl rfl (by kernel_rfl) (fun _ _ _ h => h) (Or.inl ⟨by rfl, ?_⟩) ?_ ?_; rotate_left
            · intro w'
              go_simp; with_reducible rfl
            rotate_left
            · simp only [Act.put, zH, zI, zJ, i64_w, i32_w]
              rfl
            refine take_ (i := 0) (N := some 29) (v := ?_) (a' := ?_) #[o1, o1, o1, o0, o0, o0, o0] rfl rfl (by kernel_rfl) (fun _ _ _ h => h) (Or.inl ⟨by rfl, ?_⟩) hHeld ?_ ?_; rotate_left
            · rintro w' ⟨s0, s1, s2, s3, s4, s5⟩
              go_simp; with_reducible rfl
            rotate_left
            · simp only [Act.put, zH, zI, zJ, i64_w, i32_w]
              rfl
            refine one_ (i := 3) (N := some 32) #[o1, o1, o1, o1, o0, o0, o0] rfl rfl (by kernel_rfl) (by decide) (fun K hK => ?_); refine goes_ Try.func219 (by kernel_rfl) rfl #[.slice Ao22 y108.length co22, .func (.func 227) #[] #[.pointer (some ⟨gb102, 0, none⟩)]] (by rfl) rfl rfl (by (try simp only [zR, zS, zT]); first | done | rfl | (simp only [zP, zQ]; rfl)) ?_; with_reducible refine (slices_IndexFunc_rma_open_1_v3.calls k _ _ y108 gb102 a1 t111 _ ?side1 ?side2 ?side3 A9.out).mono ?_
            (case side1 => repeat (first | exact (Kd.R_reads' HO110.out).2.2 | (with_reducible refine Kd.C_alloc ?_ _) | (with_reducible refine Kd.C_drewN ?_ _) | (with_reducible refine Kd.C_drew ?_)))
            (case side2 => exact (Kd.R_reads' HO110.out).2.1)
            (case side3 => exact (qW BK102.out))
            rintro e w26 ⟨rfl, hb⟩; refine ⟨_, rfl, ?_⟩; have n0_ := zA (Kd.R_below (by (with_reducible repeat (first | apply Kd.R_alloc | apply Kd.R_drewN | apply Kd.R_drew)); exact HO110.out) hb); have n1_ := zA (qX BK101.out hb); have n2_ := zA (qX BK102.out hb); have n3_ := zA (qX BK103.out hb); have n4_ := zA (zV qB hb); clear HO110; clear BK101; clear BK102; clear BK103; clear HB; have HO110 := n0_; have BK101 := n1_; have BK102 := n2_; have BK103 := n3_; have HB := n4_; clear n0_ n1_ n2_ n3_ n4_; (try clear hb); (try clear hb2); (try clear hk); (try clear hi); refine hK.out _ _ ⟨(zF BK101.out 0).trans rfl, (zF BK101.out 1).trans rfl, (zF BK101.out 2).trans rfl, (zF BK101.out 3).trans rfl, (zF BK101.out 4).trans rfl, (zF BK102.out 0).trans rfl⟩ (fun hHeld => ?_); clear hK K; refine norm_ (a' := ?_) ?_ ?_; rotate_left
            · show Act.put _ (some 32) _ = _
              simp only [Act.put, zH, zI, zJ, i64_w, i32_w]; rfl
            refine one_ (i := 4) (N := none) #[o1, o1, o1, o1, o1, o0, o0] rfl rfl (by kernel_rfl) (by decide) (fun K hK => ?_); have hs27 : w26.cell? ⟨gb103, 0, none⟩ = some (.int .i64 0) := (zF BK103.out 0).trans rfl; have hfs27 := zG BK103.out 0; have hns27_0 := NB101_103.out; have hns27_1 := NB102_103.out; have hms27_0 := NB103_101.out; have hms27_1 := NB103_102.out; have hs28 : w26.cell? ⟨gb103, 1, none⟩ = some (.int .i64 0) := (zF BK103.out 1).trans rfl; have hfs28 := zG BK103.out 1; have hns28_0 := NB101_103.out; have hns28_1 := NB102_103.out; have hms28_0 := NB103_101.out; have hms28_1 := NB103_102.out; have hs29 : w26.cell? ⟨gb103, 2, none⟩ = some (.int .i64 0) := (zF BK103.out 2).trans rfl; have hfs29 := zG BK103.out 2; have hns29_0 := NB101_103.out; have hns29_1 := NB102_103.out; have hms29_0 := NB103_101.out; have hms29_1 := NB103_102.out; have hs30 : w26.cell? ⟨gb103, 3, none⟩ = some (.int .i64 0) := (zF BK103.out 3).trans rfl; have hfs30 := zG BK103.out 3; have hns30_0 := NB101_103.out; have hns30_1 := NB102_103.out; have hms30_0 := NB103_101.out; have hms30_1 := NB103_102.out; have hs31 : w26.cell? ⟨gb103, 4, none⟩ = some (.slice none 0 0) := (zF BK103.out 4).trans rfl; have hfs31 := zG BK103.out 4; have hns31_0 := NB101_103.out; have hns31_1 := NB102_103.out; have hms31_0 := NB103_101.out; have hms31_1 := NB103_102.out; refine skip_ (w1 := ?_) (by rfl) rfl ?_ ?_; rotate_left
            · go_simp
              rfl
            refine hK.out _ _ ⟨((cell_far (p := ⟨gb103, _, none⟩) NB101_103.out _).trans (((cell_far (p := ⟨gb103, _, none⟩) NB101_103.out _).trans (((cell_far (p := ⟨gb103, _, none⟩) NB101_103.out _).trans (((cell_far (p := ⟨gb103, _, none⟩) NB101_103.out _).trans (((cell_far (p := ⟨gb103, _, none⟩) NB101_103.out _).trans (hHeld.1)))))))))), ((cell_far (p := ⟨gb103, _, none⟩) NB101_103.out _).trans (((cell_far (p := ⟨gb103, _, none⟩) NB101_103.out _).trans (((cell_far (p := ⟨gb103, _, none⟩) NB101_103.out _).trans (((cell_far (p := ⟨gb103, _, none⟩) NB101_103.out _).trans (((cell_far (p := ⟨gb103, _, none⟩) NB101_103.out _).trans (hHeld.2.1)))))))))), ((cell_far (p := ⟨gb103, _, none⟩) NB101_103.out _).trans (((cell_far (p := ⟨gb103, _, none⟩) NB101_103.out _).trans (((cell_far (p := ⟨gb103, _, none⟩) NB101_103.out _).trans (((cell_far (p := ⟨gb103, _, none⟩) NB101_103.out _).trans (((cell_far (p := ⟨gb103, _, none⟩) NB101_103.out _).trans (hHeld.2.2.1)))))))))), ((cell_far (p := ⟨gb103, _, none⟩) NB101_103.out _).trans (((cell_far (p := ⟨gb103, _, none⟩) NB101_103.out _).trans (((cell_far (p := ⟨gb103, _, none⟩) NB101_103.out _).trans (((cell_far (p := ⟨gb103, _, none⟩) NB101_103.out _).trans (((cell_far (p := ⟨gb103, _, none⟩) NB101_103.out _).trans (hHeld.2.2.2.1)))))))))), ((cell_far (p := ⟨gb103, _, none⟩) NB101_103.out _).trans (((cell_far (p := ⟨gb103, _, none⟩) NB101_103.out _).trans (((cell_far (p := ⟨gb103, _, none⟩) NB101_103.out _).trans (((cell_far (p := ⟨gb103, _, none⟩) NB101_103.out _).trans (((cell_far (p := ⟨gb103, _, none⟩) NB101_103.out _).trans (hHeld.2.2.2.2.1)))))))))), ((cell_far (p := ⟨gb103, _, none⟩) NB102_103.out _).trans (((cell_far (p := ⟨gb103, _, none⟩) NB102_103.out _).trans (((cell_far (p := ⟨gb103, _, none⟩) NB102_103.out _).trans (((cell_far (p := ⟨gb103, _, none⟩) NB102_103.out _).trans (((cell_far (p := ⟨gb103, _, none⟩) NB102_103.out _).trans (hHeld.2.2.2.2.2))))))))))⟩ (fun hHeld => ?_); clear hK K; refine pure_ (i := 5) (N := some 5) (v := ?_) (a' := ?_) #[o1, o1, o1, o1, o1, o1, o0] rfl rfl (by kernel_rfl) (fun _ _ _ h => h) (Or.inl ⟨by rfl, ?_⟩) ?_ ?_; rotate_left
            · intro w'
              go_simp; with_reducible rfl
            rotate_left
            · simp only [Act.put, zH, zI, zJ, i64_w, i32_w]
              rfl
            refine pure_ (i := 6) (N := some 6) (v := ?_) (a' := ?_) #[o1, o1, o1, o1, o1, o1, o1] rfl rfl (by kernel_rfl) (fun _ _ _ h => h) (Or.inl ⟨by rfl, ?_⟩) ?_ ?_; rotate_left
            · intro w'
              go_simp; with_reducible rfl
            rotate_left
            · simp only [Act.put, zH, zI, zJ, i64_w, i32_w]
              rfl
            refine done_ (by kernel_rfl) ?_; try go_wp2
            refine bodyPost_ret (results_ctt rfl _ _ gb103 70 #[.int .i64 a0_0, .int .i64 a0_1, .int .i64 a0_2, .int .i64 a0_3, .slice Ao22 y108.length co22] (0, 0) _ rfl (qV BK103.out) Try.underlying70 rfl (by kernel_rfl)) rfl ?_; exact ⟨_, qE, by (with_reducible repeat (first | apply Kd.R_alloc | apply Kd.R_drewN | apply Kd.R_drew)); exact Kd.R_mono (Kd.R_far (p := ⟨gb103, 4, none⟩) (Kd.R_far (p := ⟨gb103, 3, none⟩) (Kd.R_far (p := ⟨gb103, 2, none⟩) (Kd.R_far (p := ⟨gb103, 1, none⟩) (Kd.R_far (p := ⟨gb103, 0, none⟩) (Kd.R_types HO110.out BK103.out (by decide)) (fun _ hk => hk.2) (.int .i64 a0_0)) (fun _ hk => hk.2) (.int .i64 a0_1)) (fun _ hk => hk.2) (.int .i64 a0_2)) (fun _ hk => hk.2) (.int .i64 a0_3)) (fun _ hk => hk.2) (.slice Ao22 y108.length co22)) (fun _ hk => trivial), qB⟩
          rw [if_neg c8] at H; exact absurd H (by simp)
        rw [if_neg c7] at H; exact absurd H (by simp)
      rw [if_neg c6] at H; exact absurd H (by simp)
    rw [if_neg c5] at H; have c5b0 : (a0_3 == 1) = false := beq_eq_false_iff_ne.mpr c5; have c5b1 : (a0_3 != 1) = true := bne_iff_ne.mpr c5; simp only [zNq, zOq] at H; obtain ⟨rfl, rfl, rfl, rfl, rfl, rfl, rfl⟩ := H; go_enter Try.func151, Try.ntmps151; go_wp2_with (first | ((with_reducible refine gate_dst (N := 2) rfl ?_); refine box_event qr (N := 2) qr (cs := #[.int .i64 a0_0, .int .i64 a0_1, .int .i64 a0_2, .int .i64 a0_3, .slice A0_4 l0_4.length c0_4]) (t := 70) qg ?_; intro gb101 hg w32 hbox hb; have n0_ := zA (zV qB hb); have n1_ := zA (hbox); have n2_ := zA ((qS : w.heap.size ≤ gb101)); have n3_ := zA ((qS : w.heap.size ≤ gb101)); clear HB; have HB := n0_; have BK101 := n1_; have GW101 := n2_; have GE101 := n3_; clear n0_ n1_ n2_ n3_ hb hbox hg) | ((with_reducible refine gate_dst (N := 3) rfl ?_); refine box_event qr (N := 3) qr (cs := #[.int .i64 a1]) (t := 3) qg ?_; intro gb102 hg w33 hbox hb; have n0_ := zA (qX BK101.out hb); have n1_ := zA (zV qB hb); have n2_ := zA (hbox); have n3_ := zA ((qS : w.heap.size ≤ gb102)); have n4_ := zA ((qS : w.heap.size ≤ gb102)); have n5_ := zA ((by rw [hg]; exact zLq (qL BK101.out) : gb101 ≠ gb102)); have n6_ := zA ((by rw [hg]; exact zMq (qL BK101.out) : gb102 ≠ gb101)); clear BK101 HB; have BK101 := n0_; have HB := n1_; have BK102 := n2_; have GW102 := n3_; have GE102 := n4_; have NB101_102 := n5_; have NB102_101 := n6_; clear n0_ n1_ n2_ n3_ n4_ n5_ n6_ hb hbox hg) | ((with_reducible refine gate_dst (N := 4) rfl ?_); refine box_event qr (N := 4) qr (cs := #[.int .i64 0, .int .i64 0, .int .i64 0, .int .i64 0, .slice none 0 0]) (t := 70) qg ?_; intro gb103 hg w34 hbox hb; have n0_ := zA (qX BK101.out hb); have n1_ := zA (qX BK102.out hb); have n2_ := zA (zV qB hb); have n3_ := zA (hbox); have n4_ := zA ((qS : w.heap.size ≤ gb103)); have n5_ := zA ((qS : w.heap.size ≤ gb103)); have n6_ := zA ((by rw [hg]; exact zLq (qL BK101.out) : gb101 ≠ gb103)); have n7_ := zA ((by rw [hg]; exact zMq (qL BK101.out) : gb103 ≠ gb101)); have n8_ := zA ((by rw [hg]; exact zLq (qL BK102.out) : gb102 ≠ gb103)); have n9_ := zA ((by rw [hg]; exact zMq (qL BK102.out) : gb103 ≠ gb102)); clear BK101 BK102 HB; have BK101 := n0_; have BK102 := n1_; have HB := n2_; have BK103 := n3_; have GW103 := n4_; have GE103 := n5_; have NB101_103 := n6_; have NB103_101 := n7_; have NB102_103 := n8_; have NB103_102 := n9_; clear n0_ n1_ n2_ n3_ n4_ n5_ n6_ n7_ n8_ n9_ hb hbox hg; have hnb35 := NB101_102.out; have hnc35 := NB102_101.out; have hnb36 := NB101_103.out; have hnc36 := NB103_101.out; obtain ⟨_, _, _, _, _, _, _, _, _, _⟩ := qc5f BK101.out) | ((with_reducible refine zJq (f := 52) rfl ?_); refine goesL_ (some 10) rfl rfl Try.func52 (by kernel_rfl) rfl #[.agg #[.int .i64 a0_0, .int .i64 a0_1, .int .i64 a0_2, .int .i64 a0_3, .slice A0_4 l0_4.length c0_4]] rfl (by (try simp only [zR, zS, zT]); first | done | rfl | (simp only [zP, zQ]; rfl)) ?_; (with_reducible refine (rma_Check.calls k a0_0 a0_1 a0_2 a0_3 _ _ l0_4 t104 _ ?side1 ?side2 A3.out).mono ?_); (case side1 => exact qC (Kd.C_below HR0_4.out HB.out)); (case side2 => exact HC0_4.out); rintro e w38 ⟨rfl, hb⟩; refine ⟨_, rfl, ?_⟩; have n0_ := zA (qX BK101.out hb); have n1_ := zA (qX BK102.out hb); have n2_ := zA (qX BK103.out hb); have n3_ := zA (zV qB hb); clear BK101 BK102 BK103 HB; have BK101 := n0_; have BK102 := n1_; have BK103 := n2_; have HB := n3_; clear n0_ n1_ n2_ n3_; (try clear hb); (try clear hb2); (try clear hk); (try clear hi); obtain ⟨_, _, _, _, _, _, _, _, _, _⟩ := qc5f BK101.out; have hnb40 := NB103_102.out; have hnc40 := NB102_103.out; obtain ⟨_, _, _, _, _, _, _, _, _, _⟩ := qc5f BK103.out))
    refine bodyPost_ret (results_ctt rfl _ _ gb103 70 #[.int .i64 0, .int .i64 0, .int .i64 0, .int .i64 0, .slice none 0 0] (0, 0) _ rfl (qV BK103.out) Try.underlying70 rfl (by kernel_rfl)) rfl ?_; exact ⟨_, qE, qN, qB⟩
  rw [if_neg c4] at H
  have c4b0 : (t104 == 0) = false := beq_eq_false_iff_ne.mpr c4
  have c4b1 : (t104 != 0) = true := bne_iff_ne.mpr c4
  simp only [zNq, zOq] at H
  obtain ⟨rfl, rfl, rfl, rfl, rfl, rfl, rfl⟩ := H
  go_enter Try.func151, Try.ntmps151
  go_wp2_with (first | ((with_reducible refine gate_dst (N := 2) rfl ?_); refine box_event qr (N := 2) qr (cs := #[.int .i64 a0_0, .int .i64 a0_1, .int .i64 a0_2, .int .i64 a0_3, .slice A0_4 l0_4.length c0_4]) (t := 70) qg ?_; intro gb101 hg w42 hbox hb; have n0_ := zA (zV qB hb); have n1_ := zA (hbox); have n2_ := zA ((qS : w.heap.size ≤ gb101)); have n3_ := zA ((qS : w.heap.size ≤ gb101)); clear HB; have HB := n0_; have BK101 := n1_; have GW101 := n2_; have GE101 := n3_; clear n0_ n1_ n2_ n3_ hb hbox hg) | ((with_reducible refine gate_dst (N := 3) rfl ?_); refine box_event qr (N := 3) qr (cs := #[.int .i64 a1]) (t := 3) qg ?_; intro gb102 hg w43 hbox hb; have n0_ := zA (qX BK101.out hb); have n1_ := zA (zV qB hb); have n2_ := zA (hbox); have n3_ := zA ((qS : w.heap.size ≤ gb102)); have n4_ := zA ((qS : w.heap.size ≤ gb102)); have n5_ := zA ((by rw [hg]; exact zLq (qL BK101.out) : gb101 ≠ gb102)); have n6_ := zA ((by rw [hg]; exact zMq (qL BK101.out) : gb102 ≠ gb101)); clear BK101 HB; have BK101 := n0_; have HB := n1_; have BK102 := n2_; have GW102 := n3_; have GE102 := n4_; have NB101_102 := n5_; have NB102_101 := n6_; clear n0_ n1_ n2_ n3_ n4_ n5_ n6_ hb hbox hg) | ((with_reducible refine gate_dst (N := 4) rfl ?_); refine box_event qr (N := 4) qr (cs := #[.int .i64 0, .int .i64 0, .int .i64 0, .int .i64 0, .slice none 0 0]) (t := 70) qg ?_; intro gb103 hg w44 hbox hb; have n0_ := zA (qX BK101.out hb); have n1_ := zA (qX BK102.out hb); have n2_ := zA (zV qB hb); have n3_ := zA (hbox); have n4_ := zA ((qS : w.heap.size ≤ gb103)); have n5_ := zA ((qS : w.heap.size ≤ gb103)); have n6_ := zA ((by rw [hg]; exact zLq (qL BK101.out) : gb101 ≠ gb103)); have n7_ := zA ((by rw [hg]; exact zMq (qL BK101.out) : gb103 ≠ gb101)); have n8_ := zA ((by rw [hg]; exact zLq (qL BK102.out) : gb102 ≠ gb103)); have n9_ := zA ((by rw [hg]; exact zMq (qL BK102.out) : gb103 ≠ gb102)); clear BK101 BK102 HB; have BK101 := n0_; have BK102 := n1_; have HB := n2_; have BK103 := n3_; have GW103 := n4_; have GE103 := n5_; have NB101_103 := n6_; have NB103_101 := n7_; have NB102_103 := n8_; have NB103_102 := n9_; clear n0_ n1_ n2_ n3_ n4_ n5_ n6_ n7_ n8_ n9_ hb hbox hg; have hnb45 := NB101_102.out; have hnc45 := NB102_101.out; have hnb46 := NB101_103.out; have hnc46 := NB103_101.out; obtain ⟨_, _, _, _, _, _, _, _, _, _⟩ := qc5f BK101.out) | ((with_reducible refine zJq (f := 52) rfl ?_); refine goesL_ (some 10) rfl rfl Try.func52 (by kernel_rfl) rfl #[.agg #[.int .i64 a0_0, .int .i64 a0_1, .int .i64 a0_2, .int .i64 a0_3, .slice A0_4 l0_4.length c0_4]] rfl (by (try simp only [zR, zS, zT]); first | done | rfl | (simp only [zP, zQ]; rfl)) ?_; (with_reducible refine (rma_Check.calls k a0_0 a0_1 a0_2 a0_3 _ _ l0_4 t104 _ ?side1 ?side2 A3.out).mono ?_); (case side1 => exact qC (Kd.C_below HR0_4.out HB.out)); (case side2 => exact HC0_4.out); rintro e w48 ⟨rfl, hb⟩; refine ⟨_, rfl, ?_⟩; have n0_ := zA (qX BK101.out hb); have n1_ := zA (qX BK102.out hb); have n2_ := zA (qX BK103.out hb); have n3_ := zA (zV qB hb); clear BK101 BK102 BK103 HB; have BK101 := n0_; have BK102 := n1_; have BK103 := n2_; have HB := n3_; clear n0_ n1_ n2_ n3_; (try clear hb); (try clear hb2); (try clear hk); (try clear hi); have hnb49 := NB103_102.out; have hnc49 := NB102_103.out; obtain ⟨_, _, _, _, _, _, _, _, _, _⟩ := qc5f BK103.out))
  refine bodyPost_ret (results_ctt rfl _ _ gb103 70 #[.int .i64 0, .int .i64 0, .int .i64 0, .int .i64 0, .slice none 0 0] (0, 0) _ rfl (qV BK103.out) Try.underlying70 rfl (by kernel_rfl)) rfl ?_
  exact ⟨_, qE, qN, qB⟩
def rma_closed.f (k : Nat) (a0_0 : Int) (a0_1 : Int) (a0_2 : Int) (a0_3 : Int) (l0_4 : List (S97)) : Option (Int × Int × Int × Int × (List (S97))) := (slices_ContainsFunc_rma_waits.f k l0_4).bind fun t103 => (if t103 = true then (some (a0_0, a0_1, a0_2, a0_3, l0_4)) else (some (a0_0, a0_1, a0_2, 2, l0_4)))
theorem rma_closed.mono : ∀ a0 a1 a2 a3 a4 k, LeO (rma_closed.f k a0 a1 a2 a3 a4) (rma_closed.f (k + 1) a0 a1 a2 a3 a4) := by
  intro a0 a1 a2 a3 a4 k
  unfold rma_closed.f
  repeat' first
      | (with_reducible exact slices_ContainsFunc_rma_waits.mono _ _)
      | (with_reducible exact LeO.refl _)
      | (with_reducible exact LeO.none _)
      | (with_reducible refine LeO.ite ?_ ?_)
      | (with_reducible refine LeO.bind ?_ (fun _ => ?_))
      | exact slices_ContainsFunc_rma_waits.mono _ _
      | exact LeO.none _
      | refine LeO.ite ?_ ?_
      | refine LeO.bind ?_ (fun _ => ?_)
set_option maxHeartbeats 8000000 in
set_option maxRecDepth 100000 in
theorem rma_closed.calls (k : Nat) (a0_0 : Int) (a0_1 : Int) (a0_2 : Int) (a0_3 : Int) (P0_4_ : Nat → Prop) (u9000_ : Value) (l0_4 : List (S97)) (r1 : Int) (r2 : Int) (r3 : Int) (r4 : Int) (r5 : List (S97)) (w0 w : World) (hB : Below w0.heap.size w0 w) (ho0_4 : Kd.R k97 97 w w0.heap.size P0_4_ u9000_ l0_4) (h : rma_closed.f k a0_0 a0_1 a0_2 a0_3 l0_4 = some (r1, r2, r3, r4, r5)) :
    Calls Try.prog 152 #[.agg #[.int .i64 a0_0, .int .i64 a0_1, .int .i64 a0_2, .int .i64 a0_3, u9000_]] w fun e w' => ∃ v4_ : Value, e = .returned (.agg #[.int .i64 r1, .int .i64 r2, .int .i64 r3, .int .i64 r4, v4_]) ∧ Kd.R k97 97 w' w0.heap.size (fun k_ => (P0_4_ k_ ∨ w.heap.size ≤ k_)) v4_ r5 ∧ Below w0.heap.size w0 w' ∧ Kept w w' (fun k_ => P0_4_ k_) := by
  have hu70 := Try.underlying70
  have HO0_4 := zA (show Kd.R k97 97 w w0.heap.size (fun k_ => (P0_4_ k_ ∨ w.heap.size ≤ k_)) u9000_ l0_4 from Kd.R_mono ho0_4 (fun k_ hk => (.inl hk)))
  have HK := zA (Kept.refl w (fun k_ => P0_4_ k_))
  have HW0 := zA hB.size
  have HB := zA hB
  clear hB
  have H : ((slices_ContainsFunc_rma_waits.f k l0_4).bind fun t103 => (if t103 = true then (some (a0_0, a0_1, a0_2, a0_3, l0_4)) else (some (a0_0, a0_1, a0_2, 2, l0_4)))) = some (r1, r2, r3, r4, r5) := h
  clear h
  replace H := Option.bind_eq_some_iff.mp H
  obtain ⟨t103, A20, H⟩ := H
  replace H : (if t103 = true then (some (a0_0, a0_1, a0_2, a0_3, l0_4)) else (some (a0_0, a0_1, a0_2, 2, l0_4))) = some (r1, r2, r3, r4, r5) := H
  have A2 := zA A20
  clear A20
  by_cases c3 : t103 = true
  · subst c3
    have H1 : (some (a0_0, a0_1, a0_2, a0_3, l0_4)) = some (r1, r2, r3, r4, r5) := by first | (rw [if_pos rfl] at H; exact H) | rfl
    clear H; have H := H1; clear H1; simp only [zNq, zOq] at H; obtain ⟨rfl, rfl, rfl, rfl, rfl⟩ := H; obtain ⟨Ao4, co4, eo4⟩ := Kd.R_slice HO0_4.out; subst eo4; go_enter Try.func152, Try.ntmps152; go_wp2_with (first | ((with_reducible refine gate_dst (N := 1) rfl ?_); refine box_event qr (N := 1) qr (cs := #[.int .i64 a0_0, .int .i64 a0_1, .int .i64 a0_2, .int .i64 a0_3, .slice Ao4 l0_4.length co4]) (t := 70) qg ?_; intro gb101 hg w5 hbox hb; have n0_ := zA (Kd.R_below (by (with_reducible repeat (first | apply Kd.R_alloc | apply Kd.R_drewN | apply Kd.R_drew)); exact HO0_4.out) hb); have n1_ := zA (Kept.below (S := (fun k_ => P0_4_ k_)) (by repeat (first | (with_reducible first | exact HK.out | apply Kept.alloc | apply Kept.drewN | apply Kept.drew) | exact HK.out)) hb); have n2_ := zA (zV qB hb); have n3_ := zA (hbox); have n4_ := zA ((by rw [hg]; exact (by first | exact HK.out.1 | exact (show Kept w _ (fun k_ => P0_4_ k_) from by repeat (first | (with_reducible first | exact HK.out | apply Kept.alloc | apply Kept.drewN | apply Kept.drew) | exact HK.out)).1) : w.heap.size ≤ gb101)); have n5_ := zA ((qS : w0.heap.size ≤ gb101)); clear HO0_4 HK HB; have HO0_4 := n0_; have HK := n1_; have HB := n2_; have BK101 := n3_; have GW101 := n4_; have GE101 := n5_; clear n0_ n1_ n2_ n3_ n4_ n5_ hb hbox hg) | ((with_reducible refine gate_dst (N := 2) rfl ?_); refine box_event qr (N := 2) qr (cs := #[.int .i64 0, .int .i64 0, .int .i64 0, .int .i64 0, .slice none 0 0]) (t := 70) qg ?_; intro gb102 hg w6 hbox hb; have n0_ := zA (Kd.R_below (by (with_reducible repeat (first | apply Kd.R_alloc | apply Kd.R_drewN | apply Kd.R_drew)); exact HO0_4.out) hb); have n1_ := zA (qX BK101.out hb); have n2_ := zA (Kept.below (S := (fun k_ => P0_4_ k_)) (by repeat (first | (with_reducible first | exact HK.out | apply Kept.alloc | apply Kept.drewN | apply Kept.drew | refine Kept.setCell ?_ (.inr GW101.out) _) | exact HK.out)) hb); have n3_ := zA (zV qB hb); have n4_ := zA (hbox); have n5_ := zA ((by rw [hg]; exact (by first | exact HK.out.1 | exact (show Kept w _ (fun k_ => P0_4_ k_) from by repeat (first | (with_reducible first | exact HK.out | apply Kept.alloc | apply Kept.drewN | apply Kept.drew | refine Kept.setCell ?_ (.inr GW101.out) _) | exact HK.out)).1) : w.heap.size ≤ gb102)); have n6_ := zA ((qS : w0.heap.size ≤ gb102)); have n7_ := zA ((by rw [hg]; exact zLq (qL BK101.out) : gb101 ≠ gb102)); have n8_ := zA ((by rw [hg]; exact zMq (qL BK101.out) : gb102 ≠ gb101)); clear HO0_4 BK101 HK HB; have HO0_4 := n0_; have BK101 := n1_; have HK := n2_; have HB := n3_; have BK102 := n4_; have GW102 := n5_; have GE102 := n6_; have NB101_102 := n7_; have NB102_101 := n8_; clear n0_ n1_ n2_ n3_ n4_ n5_ n6_ n7_ n8_ hb hbox hg; have hnb7 := NB101_102.out; have hnc7 := NB102_101.out; obtain ⟨_, _, _, _, _, _, _, _, _, _⟩ := qc5f BK101.out) | (go_at_call 144; (with_reducible refine (slices_ContainsFunc_rma_waits.calls k _ _ l0_4  true _ ?side1 ?side2 A2.out).mono ?_); (case side1 => repeat (first | exact (Kd.R_reads' HO0_4.out).2.2 | (with_reducible refine Kd.C_alloc ?_ _) | (with_reducible refine Kd.C_drewN ?_ _) | (with_reducible refine Kd.C_drew ?_))); (case side2 => exact (Kd.R_reads' HO0_4.out).2.1); rintro e w9 ⟨rfl, hb⟩; have n0_ := zA (Kd.R_below (by (with_reducible repeat (first | apply Kd.R_alloc | apply Kd.R_drewN | apply Kd.R_drew)); exact HO0_4.out) hb); have n1_ := zA (qX BK101.out hb); have n2_ := zA (qX BK102.out hb); have n3_ := zA (Kept.below (S := (fun k_ => P0_4_ k_)) (by repeat (first | (with_reducible first | exact HK.out | apply Kept.alloc | apply Kept.drewN | apply Kept.drew | refine Kept.setCell ?_ (.inr GW101.out) _ | refine Kept.setCell ?_ (.inr GW102.out) _) | exact HK.out)) hb); have n4_ := zA (zV qB hb); clear HO0_4 BK101 BK102 HK HB; have HO0_4 := n0_; have BK101 := n1_; have BK102 := n2_; have HK := n3_; have HB := n4_; clear n0_ n1_ n2_ n3_ n4_; (try clear hb); (try clear hb2); (try clear hk); (try clear hi); obtain ⟨_, _, _, _, _, _, _, _, _, _⟩ := qc5f BK101.out; obtain ⟨_, _, _, _, _, _, _, _, _, _⟩ := qc5f BK102.out))
    refine bodyPost_ret (results_cell_row rfl _ _ gb102 70 #[.int .i64 a0_0, .int .i64 a0_1, .int .i64 a0_2, .int .i64 a0_3, .slice Ao4 l0_4.length co4] (0, 0) _ rfl (qV BK102.out) Try.underlying70 rfl (by kernel_rfl)) rfl ?_; exact ⟨_, qE, by (with_reducible repeat (first | apply Kd.R_alloc | apply Kd.R_drewN | apply Kd.R_drew)); exact Kd.R_mono (Kd.R_far (p := ⟨gb102, 4, none⟩) (Kd.R_far (p := ⟨gb102, 3, none⟩) (Kd.R_far (p := ⟨gb102, 2, none⟩) (Kd.R_far (p := ⟨gb102, 1, none⟩) (Kd.R_far (p := ⟨gb102, 0, none⟩) (Kd.R_types HO0_4.out BK102.out (by decide)) (fun _ hk => hk.2) (.int .i64 a0_0)) (fun _ hk => hk.2) (.int .i64 a0_1)) (fun _ hk => hk.2) (.int .i64 a0_2)) (fun _ hk => hk.2) (.int .i64 a0_3)) (fun _ hk => hk.2) (.slice Ao4 l0_4.length co4)) (fun _ hk => hk.1), qB, by repeat (first | (with_reducible first | exact HK.out | apply Kept.alloc | apply Kept.drewN | apply Kept.drew | refine Kept.setCell ?_ (.inr GW101.out) _ | refine Kept.setCell ?_ (.inr GW102.out) _) | exact HK.out)⟩
  replace c3 := Bool.eq_false_iff.mpr c3
  subst c3
  have H1 : (some (a0_0, a0_1, a0_2, 2, l0_4)) = some (r1, r2, r3, r4, r5) := by first | (rw [if_neg (show ¬ (false = true) by decide)] at H; exact H) | rfl
  clear H
  have H := H1
  clear H1
  simp only [zNq, zOq] at H
  obtain ⟨rfl, rfl, rfl, rfl, rfl⟩ := H
  obtain ⟨Ao12, co12, eo12⟩ := Kd.R_slice HO0_4.out
  subst eo12
  go_enter Try.func152, Try.ntmps152
  go_wp2_with (first | ((with_reducible refine gate_dst (N := 1) rfl ?_); refine box_event qr (N := 1) qr (cs := #[.int .i64 a0_0, .int .i64 a0_1, .int .i64 a0_2, .int .i64 a0_3, .slice Ao12 l0_4.length co12]) (t := 70) qg ?_; intro gb101 hg w13 hbox hb; have n0_ := zA (Kd.R_below (by (with_reducible repeat (first | apply Kd.R_alloc | apply Kd.R_drewN | apply Kd.R_drew)); exact HO0_4.out) hb); have n1_ := zA (Kept.below (S := (fun k_ => P0_4_ k_)) (by repeat (first | (with_reducible first | exact HK.out | apply Kept.alloc | apply Kept.drewN | apply Kept.drew) | exact HK.out)) hb); have n2_ := zA (zV qB hb); have n3_ := zA (hbox); have n4_ := zA ((by rw [hg]; exact (by first | exact HK.out.1 | exact (show Kept w _ (fun k_ => P0_4_ k_) from by repeat (first | (with_reducible first | exact HK.out | apply Kept.alloc | apply Kept.drewN | apply Kept.drew) | exact HK.out)).1) : w.heap.size ≤ gb101)); have n5_ := zA ((qS : w0.heap.size ≤ gb101)); clear HO0_4 HK HB; have HO0_4 := n0_; have HK := n1_; have HB := n2_; have BK101 := n3_; have GW101 := n4_; have GE101 := n5_; clear n0_ n1_ n2_ n3_ n4_ n5_ hb hbox hg) | ((with_reducible refine gate_dst (N := 2) rfl ?_); refine box_event qr (N := 2) qr (cs := #[.int .i64 0, .int .i64 0, .int .i64 0, .int .i64 0, .slice none 0 0]) (t := 70) qg ?_; intro gb102 hg w14 hbox hb; have n0_ := zA (Kd.R_below (by (with_reducible repeat (first | apply Kd.R_alloc | apply Kd.R_drewN | apply Kd.R_drew)); exact HO0_4.out) hb); have n1_ := zA (qX BK101.out hb); have n2_ := zA (Kept.below (S := (fun k_ => P0_4_ k_)) (by repeat (first | (with_reducible first | exact HK.out | apply Kept.alloc | apply Kept.drewN | apply Kept.drew | refine Kept.setCell ?_ (.inr GW101.out) _) | exact HK.out)) hb); have n3_ := zA (zV qB hb); have n4_ := zA (hbox); have n5_ := zA ((by rw [hg]; exact (by first | exact HK.out.1 | exact (show Kept w _ (fun k_ => P0_4_ k_) from by repeat (first | (with_reducible first | exact HK.out | apply Kept.alloc | apply Kept.drewN | apply Kept.drew | refine Kept.setCell ?_ (.inr GW101.out) _) | exact HK.out)).1) : w.heap.size ≤ gb102)); have n6_ := zA ((qS : w0.heap.size ≤ gb102)); have n7_ := zA ((by rw [hg]; exact zLq (qL BK101.out) : gb101 ≠ gb102)); have n8_ := zA ((by rw [hg]; exact zMq (qL BK101.out) : gb102 ≠ gb101)); clear HO0_4 BK101 HK HB; have HO0_4 := n0_; have BK101 := n1_; have HK := n2_; have HB := n3_; have BK102 := n4_; have GW102 := n5_; have GE102 := n6_; have NB101_102 := n7_; have NB102_101 := n8_; clear n0_ n1_ n2_ n3_ n4_ n5_ n6_ n7_ n8_ hb hbox hg; have hnb15 := NB101_102.out; have hnc15 := NB102_101.out; obtain ⟨_, _, _, _, _, _, _, _, _, _⟩ := qc5f BK101.out) | (go_at_call 144; (with_reducible refine (slices_ContainsFunc_rma_waits.calls k _ _ l0_4  false _ ?side1 ?side2 A2.out).mono ?_); (case side1 => repeat (first | exact (Kd.R_reads' HO0_4.out).2.2 | (with_reducible refine Kd.C_alloc ?_ _) | (with_reducible refine Kd.C_drewN ?_ _) | (with_reducible refine Kd.C_drew ?_))); (case side2 => exact (Kd.R_reads' HO0_4.out).2.1); rintro e w17 ⟨rfl, hb⟩; have n0_ := zA (Kd.R_below (by (with_reducible repeat (first | apply Kd.R_alloc | apply Kd.R_drewN | apply Kd.R_drew)); exact HO0_4.out) hb); have n1_ := zA (qX BK101.out hb); have n2_ := zA (qX BK102.out hb); have n3_ := zA (Kept.below (S := (fun k_ => P0_4_ k_)) (by repeat (first | (with_reducible first | exact HK.out | apply Kept.alloc | apply Kept.drewN | apply Kept.drew | refine Kept.setCell ?_ (.inr GW101.out) _ | refine Kept.setCell ?_ (.inr GW102.out) _) | exact HK.out)) hb); have n4_ := zA (zV qB hb); clear HO0_4 BK101 BK102 HK HB; have HO0_4 := n0_; have BK101 := n1_; have BK102 := n2_; have HK := n3_; have HB := n4_; clear n0_ n1_ n2_ n3_ n4_; (try clear hb); (try clear hb2); (try clear hk); (try clear hi); obtain ⟨_, _, _, _, _, _, _, _, _, _⟩ := qc5f BK101.out; obtain ⟨_, _, _, _, _, _, _, _, _, _⟩ := qc5f BK102.out))
  refine bodyPost_ret (results_cell_row rfl _ _ gb102 70 #[.int .i64 a0_0, .int .i64 a0_1, .int .i64 a0_2, .int .i64 2, .slice Ao12 l0_4.length co12] (0, 0) _ rfl (qV BK102.out) Try.underlying70 rfl (by kernel_rfl)) rfl ?_
  exact ⟨_, qE, by (with_reducible repeat (first | apply Kd.R_alloc | apply Kd.R_drewN | apply Kd.R_drew)); exact Kd.R_mono (Kd.R_far (p := ⟨gb102, 4, none⟩) (Kd.R_far (p := ⟨gb102, 3, none⟩) (Kd.R_far (p := ⟨gb102, 2, none⟩) (Kd.R_far (p := ⟨gb102, 1, none⟩) (Kd.R_far (p := ⟨gb102, 0, none⟩) (Kd.R_far (p := ⟨gb101, 3, none⟩) (Kd.R_types (Kd.R_types HO0_4.out BK101.out (by decide)) BK102.out (by decide)) (fun _ hk => hk.1.2) (.int .i64 2)) (fun _ hk => hk.2) (.int .i64 a0_0)) (fun _ hk => hk.2) (.int .i64 a0_1)) (fun _ hk => hk.2) (.int .i64 a0_2)) (fun _ hk => hk.2) (.int .i64 2)) (fun _ hk => hk.2) (.slice Ao12 l0_4.length co12)) (fun _ hk => hk.1.1), qB, by repeat (first | (with_reducible first | exact HK.out | apply Kept.alloc | apply Kept.drewN | apply Kept.drew | refine Kept.setCell ?_ (.inr GW101.out) _ | refine Kept.setCell ?_ (.inr GW102.out) _) | exact HK.out)⟩
def rma_Amend.f (k : Nat) (a0_0 : Int) (a0_1 : Int) (a0_2 : Int) (a0_3 : Int) (l0_4 : List (S97)) (a1 : Int) (a2 : Int) : Option (Int × Int × Int × Int × (List (S97)) × Int) := (rma_open.f k a0_0 a0_1 a0_2 a0_3 l0_4 a1).bind fun bt103 => (if bt103.2.2.2.2.2.2 = 0 then (if bt103.2.2.2.2.2.1 < 0 then (some (0, 0, 0, 0, ([] : List (S97)), 31)) else (if a2 < 1 then (some (0, 0, 0, 0, ([] : List (S97)), 34)) else (if a2 > 20 then (some (0, 0, 0, 0, ([] : List (S97)), 34)) else (if 0 ≤ bt103.2.2.2.2.2.1 then (if bt103.2.2.2.2.2.1 < (bt103.2.2.2.2.1.length : Int) then (if a2 < ((rd_T97 bt103.2.2.2.2.1 bt103.2.2.2.2.2.1).f2) then (some (0, 0, 0, 0, ([] : List (S97)), 34)) else ((rma_closed.f k bt103.1 bt103.2.1 bt103.2.2.1 bt103.2.2.2.1 (bt103.2.2.2.2.1.set (bt103.2.2.2.2.2.1 : Int).toNat (⟨(rd_T97 bt103.2.2.2.2.1 bt103.2.2.2.2.2.1).f0, a2, (rd_T97 bt103.2.2.2.2.1 bt103.2.2.2.2.2.1).f2⟩ : S97))).bind fun bt114 => (some (bt114.1, bt114.2.1, bt114.2.2.1, bt114.2.2.2.1, bt114.2.2.2.2, 0)))) else (none)) else (none))))) else (some (0, 0, 0, 0, ([] : List (S97)), bt103.2.2.2.2.2.2)))
theorem rma_Amend.mono : ∀ a0 a1 a2 a3 a4 a5 a6 k, LeO (rma_Amend.f k a0 a1 a2 a3 a4 a5 a6) (rma_Amend.f (k + 1) a0 a1 a2 a3 a4 a5 a6) := by
  intro a0 a1 a2 a3 a4 a5 a6 k
  unfold rma_Amend.f
  repeat' first
      | (with_reducible exact rma_closed.mono _ _ _ _ _ _)
      | (with_reducible exact rma_open.mono _ _ _ _ _ _ _)
      | (with_reducible exact LeO.refl _)
      | (with_reducible exact LeO.none _)
      | (with_reducible refine LeO.ite ?_ ?_)
      | (with_reducible refine LeO.bind ?_ (fun _ => ?_))
      | exact rma_closed.mono _ _ _ _ _ _
      | exact rma_open.mono _ _ _ _ _ _ _
      | exact LeO.none _
      | refine LeO.ite ?_ ?_
      | refine LeO.bind ?_ (fun _ => ?_)
set_option maxHeartbeats 8000000 in
set_option maxRecDepth 100000 in
theorem rma_Amend.calls (k : Nat) (a0_0 : Int) (a0_1 : Int) (a0_2 : Int) (a0_3 : Int) (A0_4 : Option Addr) (c0_4 : Nat) (l0_4 : List (S97)) (a1 : Int) (a2 : Int) (r1 : Int) (r2 : Int) (r3 : Int) (r4 : Int) (r5 : List (S97)) (r6 : Int) (w : World) (hr0_4 : Kd.C k97 w A0_4 l0_4.length l0_4) (hc0_4 : l0_4.length ≤ c0_4) (h : rma_Amend.f k a0_0 a0_1 a0_2 a0_3 l0_4 a1 a2 = some (r1, r2, r3, r4, r5, r6)) :
    Calls Try.prog 58 #[.agg #[.int .i64 a0_0, .int .i64 a0_1, .int .i64 a0_2, .int .i64 a0_3, .slice A0_4 l0_4.length c0_4], .int .i64 a1, .int .i64 a2] w fun e w' => ∃ v4_ : Value, e = .returned (.tuple #[.agg #[.int .i64 r1, .int .i64 r2, .int .i64 r3, .int .i64 r4, v4_], .int .i64 r6]) ∧ Kd.R k97 97 w' w.heap.size (fun _ => True) v4_ r5 ∧ Below w.heap.size w w' := by
  have hu70 := Try.underlying70
  have HR0_4 := zA hr0_4
  have HC0_4 := zA hc0_4
  clear hr0_4 hc0_4
  have HB := zA (Below.refl w.heap.size w)
  have H : ((rma_open.f k a0_0 a0_1 a0_2 a0_3 l0_4 a1).bind fun bt103 => (if bt103.2.2.2.2.2.2 = 0 then (if bt103.2.2.2.2.2.1 < 0 then (some (0, 0, 0, 0, ([] : List (S97)), 31)) else (if a2 < 1 then (some (0, 0, 0, 0, ([] : List (S97)), 34)) else (if a2 > 20 then (some (0, 0, 0, 0, ([] : List (S97)), 34)) else (if 0 ≤ bt103.2.2.2.2.2.1 then (if bt103.2.2.2.2.2.1 < (bt103.2.2.2.2.1.length : Int) then (if a2 < ((rd_T97 bt103.2.2.2.2.1 bt103.2.2.2.2.2.1).f2) then (some (0, 0, 0, 0, ([] : List (S97)), 34)) else ((rma_closed.f k bt103.1 bt103.2.1 bt103.2.2.1 bt103.2.2.2.1 (bt103.2.2.2.2.1.set (bt103.2.2.2.2.2.1 : Int).toNat (⟨(rd_T97 bt103.2.2.2.2.1 bt103.2.2.2.2.2.1).f0, a2, (rd_T97 bt103.2.2.2.2.1 bt103.2.2.2.2.2.1).f2⟩ : S97))).bind fun bt114 => (some (bt114.1, bt114.2.1, bt114.2.2.1, bt114.2.2.2.1, bt114.2.2.2.2, 0)))) else (none)) else (none))))) else (some (0, 0, 0, 0, ([] : List (S97)), bt103.2.2.2.2.2.2)))) = some (r1, r2, r3, r4, r5, r6) := h
  clear h
  replace H := Option.bind_eq_some_iff.mp H
  obtain ⟨⟨t103, t104, t105, t106, t107, t110, t111⟩, A40, H⟩ := H
  replace H : (if t111 = 0 then (if t110 < 0 then (some (0, 0, 0, 0, ([] : List (S97)), 31)) else (if a2 < 1 then (some (0, 0, 0, 0, ([] : List (S97)), 34)) else (if a2 > 20 then (some (0, 0, 0, 0, ([] : List (S97)), 34)) else (if 0 ≤ t110 then (if t110 < (t107.length : Int) then (if a2 < ((rd_T97 t107 t110).f2) then (some (0, 0, 0, 0, ([] : List (S97)), 34)) else ((rma_closed.f k t103 t104 t105 t106 (t107.set (t110 : Int).toNat (⟨(rd_T97 t107 t110).f0, a2, (rd_T97 t107 t110).f2⟩ : S97))).bind fun bt114 => (some (bt114.1, bt114.2.1, bt114.2.2.1, bt114.2.2.2.1, bt114.2.2.2.2, 0)))) else (none)) else (none))))) else (some (0, 0, 0, 0, ([] : List (S97)), t111))) = some (r1, r2, r3, r4, r5, r6) := H
  have A4 := zA A40
  clear A40
  by_cases c5 : t111 = 0
  · rw [if_pos c5] at H
    have c5b0 : (t111 == 0) = true := beq_iff_eq.mpr c5; have c5b1 : (t111 != 0) = false := bne_eq_false_iff_eq.mpr c5; clear c5; by_cases c6 : t110 < 0
    · rw [if_pos c6] at H
      have c6b0 : decide (t110 < 0) = true := zFq c6; clear c6; simp only [zNq, zOq] at H; obtain ⟨rfl, rfl, rfl, rfl, rfl, rfl⟩ := H; go_enter Try.func58, Try.ntmps58; go_wp2_with (first | ((with_reducible refine gate_dst (N := 3) rfl ?_); refine box_event qr (N := 3) qr (cs := #[.int .i64 a0_0, .int .i64 a0_1, .int .i64 a0_2, .int .i64 a0_3, .slice A0_4 l0_4.length c0_4]) (t := 70) qg ?_; intro gb101 hg w7 hbox hb; have n0_ := zA (zV qB hb); have n1_ := zA (hbox); have n2_ := zA ((qS : w.heap.size ≤ gb101)); have n3_ := zA ((qS : w.heap.size ≤ gb101)); clear HB; have HB := n0_; have BK101 := n1_; have GW101 := n2_; have GE101 := n3_; clear n0_ n1_ n2_ n3_ hb hbox hg) | ((with_reducible refine gate_dst (N := 6) rfl ?_); refine box_event qr (N := 6) qr (cs := #[.int .i64 0, .int .i64 0, .int .i64 0, .int .i64 0, .slice none 0 0]) (t := 70) qg ?_; intro gb102 hg w8 hbox hb; have n0_ := zA (qX BK101.out hb); have n1_ := zA (zV qB hb); have n2_ := zA (hbox); have n3_ := zA ((qS : w.heap.size ≤ gb102)); have n4_ := zA ((qS : w.heap.size ≤ gb102)); have n5_ := zA ((by rw [hg]; exact zLq (qL BK101.out) : gb101 ≠ gb102)); have n6_ := zA ((by rw [hg]; exact zMq (qL BK101.out) : gb102 ≠ gb101)); clear BK101 HB; have BK101 := n0_; have HB := n1_; have BK102 := n2_; have GW102 := n3_; have GE102 := n4_; have NB101_102 := n5_; have NB102_101 := n6_; clear n0_ n1_ n2_ n3_ n4_ n5_ n6_ hb hbox hg; have hnb9 := NB101_102.out; have hnc9 := NB102_101.out; obtain ⟨_, _, _, _, _, _, _, _, _, _⟩ := qc5f BK101.out) | ((with_reducible refine zJq (f := 151) rfl ?_); refine goesL_ (some 13) rfl rfl Try.func151 (by kernel_rfl) rfl #[.agg #[.int .i64 a0_0, .int .i64 a0_1, .int .i64 a0_2, .int .i64 a0_3, .slice A0_4 l0_4.length c0_4], .int .i64 a1] rfl (by (try simp only [zR, zS, zT]); first | done | rfl | (simp only [zP, zQ]; rfl)) ?_; (with_reducible refine (rma_open.calls k a0_0 a0_1 a0_2 a0_3 _ _ l0_4 a1 t103 t104 t105 t106 t107 t110 t111 _ ?side1 ?side2 A4.out).mono ?_); (case side1 => exact qC (Kd.C_below HR0_4.out HB.out)); (case side2 => exact HC0_4.out); rintro e w11 ⟨v108, rfl, ho0, hb⟩; refine ⟨_, rfl, ?_⟩; have n0_ := zA (Kd.R_lower ho0 (zW qB)); have n1_ := zA (qX BK101.out hb); have n2_ := zA (qX BK102.out hb); have n3_ := zA (zV qB hb); clear BK101 BK102 HB; have HO109 := n0_; have BK101 := n1_; have BK102 := n2_; have HB := n3_; clear n0_ n1_ n2_ n3_; (try clear hb); (try clear hb2); (try clear hk); (try clear hi); (try clear ho0); obtain ⟨_, _, _, _, _, _, _, _, _, _⟩ := qc5f BK101.out; obtain ⟨Ao13, co13, eo13⟩ := Kd.R_slice HO109.out; subst eo13; obtain ⟨_, _, _, _, _, _, _, _, _, _⟩ := qc5f BK102.out)); refine bodyPost_ret (results_ct rfl _ _ gb102 70 #[.int .i64 0, .int .i64 0, .int .i64 0, .int .i64 0, .slice none 0 0] (0, 0) _ rfl (qV BK102.out) Try.underlying70 rfl (by kernel_rfl)) rfl ?_
      exact ⟨_, qE, qN, qB⟩
    rw [if_neg c6] at H; have c6b0 : decide (t110 < 0) = false := zGq c6; clear c6; by_cases c15 : a2 < 1
    · rw [if_pos c15] at H
      have c15b0 : decide (a2 < 1) = true := zFq c15; clear c15; simp only [zNq, zOq] at H; obtain ⟨rfl, rfl, rfl, rfl, rfl, rfl⟩ := H; go_enter Try.func58, Try.ntmps58; go_wp2_with (first | ((with_reducible refine gate_dst (N := 3) rfl ?_); refine box_event qr (N := 3) qr (cs := #[.int .i64 a0_0, .int .i64 a0_1, .int .i64 a0_2, .int .i64 a0_3, .slice A0_4 l0_4.length c0_4]) (t := 70) qg ?_; intro gb101 hg w16 hbox hb; have n0_ := zA (zV qB hb); have n1_ := zA (hbox); have n2_ := zA ((qS : w.heap.size ≤ gb101)); have n3_ := zA ((qS : w.heap.size ≤ gb101)); clear HB; have HB := n0_; have BK101 := n1_; have GW101 := n2_; have GE101 := n3_; clear n0_ n1_ n2_ n3_ hb hbox hg) | ((with_reducible refine gate_dst (N := 6) rfl ?_); refine box_event qr (N := 6) qr (cs := #[.int .i64 0, .int .i64 0, .int .i64 0, .int .i64 0, .slice none 0 0]) (t := 70) qg ?_; intro gb102 hg w17 hbox hb; have n0_ := zA (qX BK101.out hb); have n1_ := zA (zV qB hb); have n2_ := zA (hbox); have n3_ := zA ((qS : w.heap.size ≤ gb102)); have n4_ := zA ((qS : w.heap.size ≤ gb102)); have n5_ := zA ((by rw [hg]; exact zLq (qL BK101.out) : gb101 ≠ gb102)); have n6_ := zA ((by rw [hg]; exact zMq (qL BK101.out) : gb102 ≠ gb101)); clear BK101 HB; have BK101 := n0_; have HB := n1_; have BK102 := n2_; have GW102 := n3_; have GE102 := n4_; have NB101_102 := n5_; have NB102_101 := n6_; clear n0_ n1_ n2_ n3_ n4_ n5_ n6_ hb hbox hg; have hnb18 := NB101_102.out; have hnc18 := NB102_101.out; obtain ⟨_, _, _, _, _, _, _, _, _, _⟩ := qc5f BK101.out) | ((with_reducible refine zJq (f := 151) rfl ?_); refine goesL_ (some 13) rfl rfl Try.func151 (by kernel_rfl) rfl #[.agg #[.int .i64 a0_0, .int .i64 a0_1, .int .i64 a0_2, .int .i64 a0_3, .slice A0_4 l0_4.length c0_4], .int .i64 a1] rfl (by (try simp only [zR, zS, zT]); first | done | rfl | (simp only [zP, zQ]; rfl)) ?_; (with_reducible refine (rma_open.calls k a0_0 a0_1 a0_2 a0_3 _ _ l0_4 a1 t103 t104 t105 t106 t107 t110 t111 _ ?side1 ?side2 A4.out).mono ?_); (case side1 => exact qC (Kd.C_below HR0_4.out HB.out)); (case side2 => exact HC0_4.out); rintro e w20 ⟨v108, rfl, ho0, hb⟩; refine ⟨_, rfl, ?_⟩; have n0_ := zA (Kd.R_lower ho0 (zW qB)); have n1_ := zA (qX BK101.out hb); have n2_ := zA (qX BK102.out hb); have n3_ := zA (zV qB hb); clear BK101 BK102 HB; have HO109 := n0_; have BK101 := n1_; have BK102 := n2_; have HB := n3_; clear n0_ n1_ n2_ n3_; (try clear hb); (try clear hb2); (try clear hk); (try clear hi); (try clear ho0); obtain ⟨_, _, _, _, _, _, _, _, _, _⟩ := qc5f BK101.out; obtain ⟨Ao22, co22, eo22⟩ := Kd.R_slice HO109.out; subst eo22; obtain ⟨_, _, _, _, _, _, _, _, _, _⟩ := qc5f BK102.out)); refine bodyPost_ret (results_ct rfl _ _ gb102 70 #[.int .i64 0, .int .i64 0, .int .i64 0, .int .i64 0, .slice none 0 0] (0, 0) _ rfl (qV BK102.out) Try.underlying70 rfl (by kernel_rfl)) rfl ?_
      exact ⟨_, qE, qN, qB⟩
    rw [if_neg c15] at H; have c15b0 : decide (a2 < 1) = false := zGq c15; clear c15; by_cases c24 : a2 > 20
    · rw [if_pos c24] at H
      have c24b0 : decide (20 < a2) = true := zFq c24; clear c24; simp only [zNq, zOq] at H; obtain ⟨rfl, rfl, rfl, rfl, rfl, rfl⟩ := H; go_enter Try.func58, Try.ntmps58; go_wp2_with (first | ((with_reducible refine gate_dst (N := 3) rfl ?_); refine box_event qr (N := 3) qr (cs := #[.int .i64 a0_0, .int .i64 a0_1, .int .i64 a0_2, .int .i64 a0_3, .slice A0_4 l0_4.length c0_4]) (t := 70) qg ?_; intro gb101 hg w25 hbox hb; have n0_ := zA (zV qB hb); have n1_ := zA (hbox); have n2_ := zA ((qS : w.heap.size ≤ gb101)); have n3_ := zA ((qS : w.heap.size ≤ gb101)); clear HB; have HB := n0_; have BK101 := n1_; have GW101 := n2_; have GE101 := n3_; clear n0_ n1_ n2_ n3_ hb hbox hg) | ((with_reducible refine gate_dst (N := 6) rfl ?_); refine box_event qr (N := 6) qr (cs := #[.int .i64 0, .int .i64 0, .int .i64 0, .int .i64 0, .slice none 0 0]) (t := 70) qg ?_; intro gb102 hg w26 hbox hb; have n0_ := zA (qX BK101.out hb); have n1_ := zA (zV qB hb); have n2_ := zA (hbox); have n3_ := zA ((qS : w.heap.size ≤ gb102)); have n4_ := zA ((qS : w.heap.size ≤ gb102)); have n5_ := zA ((by rw [hg]; exact zLq (qL BK101.out) : gb101 ≠ gb102)); have n6_ := zA ((by rw [hg]; exact zMq (qL BK101.out) : gb102 ≠ gb101)); clear BK101 HB; have BK101 := n0_; have HB := n1_; have BK102 := n2_; have GW102 := n3_; have GE102 := n4_; have NB101_102 := n5_; have NB102_101 := n6_; clear n0_ n1_ n2_ n3_ n4_ n5_ n6_ hb hbox hg; have hnb27 := NB101_102.out; have hnc27 := NB102_101.out; obtain ⟨_, _, _, _, _, _, _, _, _, _⟩ := qc5f BK101.out) | ((with_reducible refine zJq (f := 151) rfl ?_); refine goesL_ (some 13) rfl rfl Try.func151 (by kernel_rfl) rfl #[.agg #[.int .i64 a0_0, .int .i64 a0_1, .int .i64 a0_2, .int .i64 a0_3, .slice A0_4 l0_4.length c0_4], .int .i64 a1] rfl (by (try simp only [zR, zS, zT]); first | done | rfl | (simp only [zP, zQ]; rfl)) ?_; (with_reducible refine (rma_open.calls k a0_0 a0_1 a0_2 a0_3 _ _ l0_4 a1 t103 t104 t105 t106 t107 t110 t111 _ ?side1 ?side2 A4.out).mono ?_); (case side1 => exact qC (Kd.C_below HR0_4.out HB.out)); (case side2 => exact HC0_4.out); rintro e w29 ⟨v108, rfl, ho0, hb⟩; refine ⟨_, rfl, ?_⟩; have n0_ := zA (Kd.R_lower ho0 (zW qB)); have n1_ := zA (qX BK101.out hb); have n2_ := zA (qX BK102.out hb); have n3_ := zA (zV qB hb); clear BK101 BK102 HB; have HO109 := n0_; have BK101 := n1_; have BK102 := n2_; have HB := n3_; clear n0_ n1_ n2_ n3_; (try clear hb); (try clear hb2); (try clear hk); (try clear hi); (try clear ho0); obtain ⟨_, _, _, _, _, _, _, _, _, _⟩ := qc5f BK101.out; obtain ⟨Ao31, co31, eo31⟩ := Kd.R_slice HO109.out; subst eo31; obtain ⟨_, _, _, _, _, _, _, _, _, _⟩ := qc5f BK102.out)); refine bodyPost_ret (results_ct rfl _ _ gb102 70 #[.int .i64 0, .int .i64 0, .int .i64 0, .int .i64 0, .slice none 0 0] (0, 0) _ rfl (qV BK102.out) Try.underlying70 rfl (by kernel_rfl)) rfl ?_
      exact ⟨_, qE, qN, qB⟩
    rw [if_neg c24] at H; have c24b0 : decide (20 < a2) = false := zGq c24; clear c24; by_cases c33 : 0 ≤ t110
    · rw [if_pos c33] at H
      have c33b0 : decide (0 ≤ t110) = true := zFq c33; clear c33; by_cases c34 : t110 < (t107.length : Int)
      · rw [if_pos c34] at H
        have c34b0 : decide (t110 < (t107.length : Int)) = true := zFq c34; clear c34; by_cases c35 : a2 < ((rd_T97 t107 t110).f2)
        · rw [if_pos c35] at H
          have c35b0 : decide (a2 < ((rd_T97 t107 t110).f2)) = true := zFq c35; clear c35; simp only [zNq, zOq] at H; obtain ⟨rfl, rfl, rfl, rfl, rfl, rfl⟩ := H; go_enter Try.func58, Try.ntmps58; go_wp2_with (first | ((with_reducible refine gate_dst (N := 3) rfl ?_); refine box_event qr (N := 3) qr (cs := #[.int .i64 a0_0, .int .i64 a0_1, .int .i64 a0_2, .int .i64 a0_3, .slice A0_4 l0_4.length c0_4]) (t := 70) qg ?_; intro gb101 hg w36 hbox hb; have n0_ := zA (zV qB hb); have n1_ := zA (hbox); have n2_ := zA ((qS : w.heap.size ≤ gb101)); have n3_ := zA ((qS : w.heap.size ≤ gb101)); clear HB; have HB := n0_; have BK101 := n1_; have GW101 := n2_; have GE101 := n3_; clear n0_ n1_ n2_ n3_ hb hbox hg) | ((with_reducible refine gate_dst (N := 6) rfl ?_); refine box_event qr (N := 6) qr (cs := #[.int .i64 0, .int .i64 0, .int .i64 0, .int .i64 0, .slice none 0 0]) (t := 70) qg ?_; intro gb102 hg w37 hbox hb; have n0_ := zA (qX BK101.out hb); have n1_ := zA (zV qB hb); have n2_ := zA (hbox); have n3_ := zA ((qS : w.heap.size ≤ gb102)); have n4_ := zA ((qS : w.heap.size ≤ gb102)); have n5_ := zA ((by rw [hg]; exact zLq (qL BK101.out) : gb101 ≠ gb102)); have n6_ := zA ((by rw [hg]; exact zMq (qL BK101.out) : gb102 ≠ gb101)); clear BK101 HB; have BK101 := n0_; have HB := n1_; have BK102 := n2_; have GW102 := n3_; have GE102 := n4_; have NB101_102 := n5_; have NB102_101 := n6_; clear n0_ n1_ n2_ n3_ n4_ n5_ n6_ hb hbox hg; have hnb38 := NB101_102.out; have hnc38 := NB102_101.out; obtain ⟨_, _, _, _, _, _, _, _, _, _⟩ := qc5f BK101.out) | ((with_reducible refine zJq (f := 151) rfl ?_); refine goesL_ (some 13) rfl rfl Try.func151 (by kernel_rfl) rfl #[.agg #[.int .i64 a0_0, .int .i64 a0_1, .int .i64 a0_2, .int .i64 a0_3, .slice A0_4 l0_4.length c0_4], .int .i64 a1] rfl (by (try simp only [zR, zS, zT]); first | done | rfl | (simp only [zP, zQ]; rfl)) ?_; (with_reducible refine (rma_open.calls k a0_0 a0_1 a0_2 a0_3 _ _ l0_4 a1 t103 t104 t105 t106 t107 t110 t111 _ ?side1 ?side2 A4.out).mono ?_); (case side1 => exact qC (Kd.C_below HR0_4.out HB.out)); (case side2 => exact HC0_4.out); rintro e w40 ⟨v108, rfl, ho0, hb⟩; refine ⟨_, rfl, ?_⟩; have n0_ := zA (Kd.R_lower ho0 (zW qB)); have n1_ := zA (qX BK101.out hb); have n2_ := zA (qX BK102.out hb); have n3_ := zA (zV qB hb); clear BK101 BK102 HB; have HO109 := n0_; have BK101 := n1_; have BK102 := n2_; have HB := n3_; clear n0_ n1_ n2_ n3_; (try clear hb); (try clear hb2); (try clear hk); (try clear hi); (try clear ho0); obtain ⟨_, _, _, _, _, _, _, _, _, _⟩ := qc5f BK101.out; obtain ⟨Ao42, co42, eo42⟩ := Kd.R_slice HO109.out; subst eo42; have p112 : 0 ≤ (t110 : Int) := of_decide_eq_true qA; have q112 : t110 < (t107.length : Int) := of_decide_eq_true qA; obtain ⟨ad112, e112, hx112_0, hx112_1, hx112_2⟩ := at_T97 (Kd.R_reads' HO109.out).2.2 t110 p112 q112; cases e112; have hn112_0 : ad112.block ≠ gb101 := Kd.own_blk (Kd.R_ne HO109.out BK101.out (by decide)); have hn112_1 : ad112.block ≠ gb101 := Kd.own_blk (Kd.R_ne HO109.out BK101.out (by decide)); have hn112_2 : ad112.block ≠ gb101 := Kd.own_blk (Kd.R_ne HO109.out BK101.out (by decide)); have hn112_3 : ad112.block ≠ gb101 := Kd.own_blk (Kd.R_ne HO109.out BK101.out (by decide)); have hn112_4 : ad112.block ≠ gb101 := Kd.own_blk (Kd.R_ne HO109.out BK101.out (by decide)); replace hx112_0 := (cell_far (p := ⟨gb101, 0, none⟩) (by first | (rw [add_block]; exact hn112_0) | (show (Addr.add _ _).block ≠ _; rw [add_block]; exact hn112_0) | exact hn112_0) (.int .i64 t103)).trans hx112_0; replace hx112_1 := (cell_far (p := ⟨gb101, 0, none⟩) (by first | (rw [add_block]; exact hn112_0) | (show (Addr.add _ _).block ≠ _; rw [add_block]; exact hn112_0) | exact hn112_0) (.int .i64 t103)).trans hx112_1; replace hx112_2 := (cell_far (p := ⟨gb101, 0, none⟩) (by first | (rw [add_block]; exact hn112_0) | (show (Addr.add _ _).block ≠ _; rw [add_block]; exact hn112_0) | exact hn112_0) (.int .i64 t103)).trans hx112_2; replace hx112_0 := (cell_far (p := ⟨gb101, 1, none⟩) (by first | (rw [add_block]; exact hn112_1) | (show (Addr.add _ _).block ≠ _; rw [add_block]; exact hn112_1) | exact hn112_1) (.int .i64 t104)).trans hx112_0; replace hx112_1 := (cell_far (p := ⟨gb101, 1, none⟩) (by first | (rw [add_block]; exact hn112_1) | (show (Addr.add _ _).block ≠ _; rw [add_block]; exact hn112_1) | exact hn112_1) (.int .i64 t104)).trans hx112_1; replace hx112_2 := (cell_far (p := ⟨gb101, 1, none⟩) (by first | (rw [add_block]; exact hn112_1) | (show (Addr.add _ _).block ≠ _; rw [add_block]; exact hn112_1) | exact hn112_1) (.int .i64 t104)).trans hx112_2; replace hx112_0 := (cell_far (p := ⟨gb101, 2, none⟩) (by first | (rw [add_block]; exact hn112_2) | (show (Addr.add _ _).block ≠ _; rw [add_block]; exact hn112_2) | exact hn112_2) (.int .i64 t105)).trans hx112_0; replace hx112_1 := (cell_far (p := ⟨gb101, 2, none⟩) (by first | (rw [add_block]; exact hn112_2) | (show (Addr.add _ _).block ≠ _; rw [add_block]; exact hn112_2) | exact hn112_2) (.int .i64 t105)).trans hx112_1; replace hx112_2 := (cell_far (p := ⟨gb101, 2, none⟩) (by first | (rw [add_block]; exact hn112_2) | (show (Addr.add _ _).block ≠ _; rw [add_block]; exact hn112_2) | exact hn112_2) (.int .i64 t105)).trans hx112_2; replace hx112_0 := (cell_far (p := ⟨gb101, 3, none⟩) (by first | (rw [add_block]; exact hn112_3) | (show (Addr.add _ _).block ≠ _; rw [add_block]; exact hn112_3) | exact hn112_3) (.int .i64 t106)).trans hx112_0; replace hx112_1 := (cell_far (p := ⟨gb101, 3, none⟩) (by first | (rw [add_block]; exact hn112_3) | (show (Addr.add _ _).block ≠ _; rw [add_block]; exact hn112_3) | exact hn112_3) (.int .i64 t106)).trans hx112_1; replace hx112_2 := (cell_far (p := ⟨gb101, 3, none⟩) (by first | (rw [add_block]; exact hn112_3) | (show (Addr.add _ _).block ≠ _; rw [add_block]; exact hn112_3) | exact hn112_3) (.int .i64 t106)).trans hx112_2; replace hx112_0 := (cell_far (p := ⟨gb101, 4, none⟩) (by first | (rw [add_block]; exact hn112_4) | (show (Addr.add _ _).block ≠ _; rw [add_block]; exact hn112_4) | exact hn112_4) (.slice (some ad112) t107.length co42)).trans hx112_0; replace hx112_1 := (cell_far (p := ⟨gb101, 4, none⟩) (by first | (rw [add_block]; exact hn112_4) | (show (Addr.add _ _).block ≠ _; rw [add_block]; exact hn112_4) | exact hn112_4) (.slice (some ad112) t107.length co42)).trans hx112_1; replace hx112_2 := (cell_far (p := ⟨gb101, 4, none⟩) (by first | (rw [add_block]; exact hn112_4) | (show (Addr.add _ _).block ≠ _; rw [add_block]; exact hn112_4) | exact hn112_4) (.slice (some ad112) t107.length co42)).trans hx112_2; clear hn112_0 hn112_1 hn112_2 hn112_3 hn112_4; replace p112 := eq_true p112; replace q112 := eq_true q112; obtain ⟨_, _, _, _, _, _, _, _, _, _⟩ := qc5f BK102.out))
          refine bodyPost_ret (results_ct rfl _ _ gb102 70 #[.int .i64 0, .int .i64 0, .int .i64 0, .int .i64 0, .slice none 0 0] (0, 0) _ rfl (qV BK102.out) Try.underlying70 rfl (by kernel_rfl)) rfl ?_; exact ⟨_, qE, qN, qB⟩
        rw [if_neg c35] at H; have c35b0 : decide (a2 < ((rd_T97 t107 t110).f2)) = false := zGq c35; clear c35; obtain ⟨y113, hy113⟩ : ∃ y_ : List (S97), y_ = (t107.set (t110 : Int).toNat (⟨(rd_T97 t107 t110).f0, a2, (rd_T97 t107 t110).f2⟩ : S97)) := ⟨_, rfl⟩
        replace H : ((rma_closed.f k t103 t104 t105 t106 y113).bind fun bt114 => (some (bt114.1, bt114.2.1, bt114.2.2.1, bt114.2.2.2.1, bt114.2.2.2.2, 0))) = some (r1, r2, r3, r4, r5, r6) := by first | (rw [hy113]; with_reducible exact H) | (have H2_ := (Option.bind_some _ _).symm.trans H; rw [hy113]; with_reducible exact H2_) | (have H2_ := (Option.bind_some _ _).symm.trans H; with_reducible exact H2_) | with_reducible exact H | (rw [hy113]; exact H) | exact H
        have Ny113 := zA hy113; clear hy113; replace H := Option.bind_eq_some_iff.mp H; obtain ⟨⟨t114, t115, t116, t117, t118⟩, A450, H⟩ := H; replace H : (some (t114, t115, t116, t117, t118, 0)) = some (r1, r2, r3, r4, r5, r6) := H; have A45 := zA A450; clear A450; simp only [zNq, zOq] at H; obtain ⟨rfl, rfl, rfl, rfl, rfl, rfl⟩ := H; go_enter Try.func58, Try.ntmps58; go_wp2_with (first | ((with_reducible refine gate_dst (N := 3) rfl ?_); refine box_event qr (N := 3) qr (cs := #[.int .i64 a0_0, .int .i64 a0_1, .int .i64 a0_2, .int .i64 a0_3, .slice A0_4 l0_4.length c0_4]) (t := 70) qg ?_; intro gb101 hg w46 hbox hb; have n0_ := zA (zV qB hb); have n1_ := zA (hbox); have n2_ := zA ((qS : w.heap.size ≤ gb101)); have n3_ := zA ((qS : w.heap.size ≤ gb101)); clear HB; have HB := n0_; have BK101 := n1_; have GW101 := n2_; have GE101 := n3_; clear n0_ n1_ n2_ n3_ hb hbox hg) | ((with_reducible refine gate_dst (N := 6) rfl ?_); refine box_event qr (N := 6) qr (cs := #[.int .i64 0, .int .i64 0, .int .i64 0, .int .i64 0, .slice none 0 0]) (t := 70) qg ?_; intro gb102 hg w47 hbox hb; have n0_ := zA (qX BK101.out hb); have n1_ := zA (zV qB hb); have n2_ := zA (hbox); have n3_ := zA ((qS : w.heap.size ≤ gb102)); have n4_ := zA ((qS : w.heap.size ≤ gb102)); have n5_ := zA ((by rw [hg]; exact zLq (qL BK101.out) : gb101 ≠ gb102)); have n6_ := zA ((by rw [hg]; exact zMq (qL BK101.out) : gb102 ≠ gb101)); clear BK101 HB; have BK101 := n0_; have HB := n1_; have BK102 := n2_; have GW102 := n3_; have GE102 := n4_; have NB101_102 := n5_; have NB102_101 := n6_; clear n0_ n1_ n2_ n3_ n4_ n5_ n6_ hb hbox hg; have hnb48 := NB101_102.out; have hnc48 := NB102_101.out; obtain ⟨_, _, _, _, _, _, _, _, _, _⟩ := qc5f BK101.out) | ((with_reducible refine zJq (f := 151) rfl ?_); refine goesL_ (some 13) rfl rfl Try.func151 (by kernel_rfl) rfl #[.agg #[.int .i64 a0_0, .int .i64 a0_1, .int .i64 a0_2, .int .i64 a0_3, .slice A0_4 l0_4.length c0_4], .int .i64 a1] rfl (by (try simp only [zR, zS, zT]); first | done | rfl | (simp only [zP, zQ]; rfl)) ?_; (with_reducible refine (rma_open.calls k a0_0 a0_1 a0_2 a0_3 _ _ l0_4 a1 t103 t104 t105 t106 t107 t110 t111 _ ?side1 ?side2 A4.out).mono ?_); (case side1 => exact qC (Kd.C_below HR0_4.out HB.out)); (case side2 => exact HC0_4.out); rintro e w50 ⟨v108, rfl, ho0, hb⟩; refine ⟨_, rfl, ?_⟩; have n0_ := zA (Kd.R_lower ho0 (zW qB)); have n1_ := zA (qX BK101.out hb); have n2_ := zA (qX BK102.out hb); have n3_ := zA (zV qB hb); clear BK101 BK102 HB; have HO109 := n0_; have BK101 := n1_; have BK102 := n2_; have HB := n3_; clear n0_ n1_ n2_ n3_; (try clear hb); (try clear hb2); (try clear hk); (try clear hi); (try clear ho0); obtain ⟨_, _, _, _, _, _, _, _, _, _⟩ := qc5f BK101.out; obtain ⟨Ao52, co52, eo52⟩ := Kd.R_slice HO109.out; subst eo52) | ((with_reducible refine gate_store (t := 70) (p := 3) rfl ?_); refine store_event (t := 70) (p := 3) (v := ?vo_w53) (w1 := (((((w50.setCell ⟨gb101, 0, none⟩ (.int .i64 t103)).setCell ⟨gb101, 1, none⟩ (.int .i64 t104)).setCell ⟨gb101, 2, none⟩ (.int .i64 t105)).setCell ⟨gb101, 3, none⟩ (.int .i64 t106)).setCell ⟨gb101, 4, none⟩ (.slice Ao52 t107.length co52))) ?hg ?ho ?hn ?hr ?_; (case ho => rfl); (case hg => rfl); (case hn => rfl); (case hr => first | (go_simp; done) | (go_simp; rfl)); intro w53 hw; have n0_ : Aside0 (Kd.R k97 97 w53 w.heap.size (fun _ => True) (.slice Ao52 t107.length co52) t107) := ⟨(by rw [hw]; exact (by (with_reducible repeat (first | apply Kd.R_alloc | apply Kd.R_drewN | apply Kd.R_drew)); exact Kd.R_mono (Kd.R_far (p := ⟨gb101, 4, none⟩) (Kd.R_far (p := ⟨gb101, 3, none⟩) (Kd.R_far (p := ⟨gb101, 2, none⟩) (Kd.R_far (p := ⟨gb101, 1, none⟩) (Kd.R_far (p := ⟨gb101, 0, none⟩) (Kd.R_types HO109.out BK101.out (by decide)) (fun _ hk => hk.2) (.int .i64 t103)) (fun _ hk => hk.2) (.int .i64 t104)) (fun _ hk => hk.2) (.int .i64 t105)) (fun _ hk => hk.2) (.int .i64 t106)) (fun _ hk => hk.2) (.slice Ao52 t107.length co52)) (fun _ hk => trivial)))⟩; have n1_ : Aside0 (w53.heap[gb101]? = some (.cells #[.int .i64 t103, .int .i64 t104, .int .i64 t105, .int .i64 t106, .slice Ao52 t107.length co52] 70 (0, 0))) := ⟨(by rw [hw]; exact (qV BK101.out))⟩; have n2_ : Aside0 (w53.heap[gb102]? = some (.cells #[.int .i64 0, .int .i64 0, .int .i64 0, .int .i64 0, .slice none 0 0] 70 (0, 0))) := ⟨(by rw [hw]; exact (qW BK102.out))⟩; have n3_ : Aside0 (Below w.heap.size w w53) := ⟨(by rw [hw]; exact qB)⟩; clear hw HO109 BK101 BK102 HB; have HO109 := n0_; have BK101 := n1_; have BK102 := n2_; have HB := n3_; clear n0_ n1_ n2_ n3_; obtain ⟨_, _, _, _, _, _, _, _, _, _⟩ := qc5f BK101.out; have p112 : 0 ≤ (t110 : Int) := of_decide_eq_true qA; have q112 : t110 < (t107.length : Int) := of_decide_eq_true qA; obtain ⟨ad112, e112, hx112_0, hx112_1, hx112_2⟩ := at_T97 (Kd.R_reads' HO109.out).2.2 t110 p112 q112; cases e112; replace p112 := eq_true p112; replace q112 := eq_true q112; have p44 : 0 ≤ (t110 : Int) := of_decide_eq_true qA; have q44 : (t110 : Int) < ((t107.length : Int) : Int) := of_decide_eq_true qA; obtain ⟨go44, co44, eo44, gb44, gl44, cl44, HG44⟩ := Kd.R_form HO109.out (by omega); (first | cases eo44 | (injection eo44 with ea_ en_ ec_; (first | subst ea_ | (injection ea_ with ea_; subst ea_)); subst ec_; clear en_)); have GB44 := zA gb44; have GG44 := zA HG44; clear gb44 gl44 HG44; (first | simp only [add_plain] at hx112_0 | skip); (first | simp only [add_plain] at hx112_1 | skip); (first | simp only [add_plain] at hx112_2 | skip); obtain ⟨ce44, hcl44, hM44, hcc44, hfr44⟩ := Kd.R_elem HO109.out z97 (t110 : Int) p44 q44; obtain rfl := k97_openM hM44; have hx44_0 : w53.cell? ⟨go44, (t110 : Int).toNat * 3, none⟩ = some (.int .i64 ((rd_T97 t107 t110).f0)) := hcc44 0 _ rfl; have hx44_1 : w53.cell? ⟨go44, (t110 : Int).toNat * 3 + 1, none⟩ = some (.int .i64 ((rd_T97 t107 t110).f1)) := hcc44 1 _ rfl; have hx44_2 : w53.cell? ⟨go44, (t110 : Int).toNat * 3 + 2, none⟩ = some (.int .i64 ((rd_T97 t107 t110).f2)) := hcc44 2 _ rfl; have hf44_0 : w53.frozen? ⟨go44, (t110 : Int).toNat * 3, none⟩ = false := hfr44 0; have hf44_1 : w53.frozen? ⟨go44, (t110 : Int).toNat * 3 + 1, none⟩ = false := hfr44 1; have hf44_2 : w53.frozen? ⟨go44, (t110 : Int).toNat * 3 + 2, none⟩ = false := hfr44 2; clear hcl44 hcc44 hfr44 hM44; replace p44 := eq_true p44; replace q44 := eq_true q44; have HX55 := zA (show Kd.R k97 97 w53 w.heap.size (fun _ => True) (.slice (some ⟨go44, 0, none⟩) t107.length co52) t107 from (by (with_reducible repeat (first | apply Kd.R_alloc | apply Kd.R_drewN | apply Kd.R_drew)); exact HO109.out)); obtain ⟨ce55, hcl55, hM55, hcc55, hfr55⟩ := Kd.R_elem HX55.out z97 (t110 : Int) (of_decide_eq_true qA) (by have h_ : (t110 : Int) < ((t107.length : Int) : Int) := of_decide_eq_true qA; first | exact h_ | (have e_ := (Kd.R_reads' HO109.out).1; omega) | simpa using h_); obtain rfl := k97_openM hM55; have HP55 := Kd.R_seg HX55.out (t110 : Int) (of_decide_eq_true qA) (by have h_ : (t110 : Int) < ((t107.length : Int) : Int) := of_decide_eq_true qA; first | exact h_ | (have e_ := (Kd.R_reads' HO109.out).1; omega) | simpa using h_) (seg := [.int .i64 a2]) (j := 1) hcl55 hcc55 (show 2 ≤ 3 from by decide) (x' := (⟨(rd_T97 t107 t110).f0, a2, (rd_T97 t107 t110).f2⟩ : S97)) (k97_mkM _ _ _ (⟨(rd_T97 t107 t110).f0, a2, (rd_T97 t107 t110).f2⟩ : S97) ) (fun _ hk => hk); have hx55_1 := hcc55 1 _ rfl; (try simp only [show (k97).sz = 3 from rfl, Nat.mul_one, Nat.add_zero] at hx55_1); have hf55_1 := hfr55 1; (try simp only [show (k97).sz = 3 from rfl, Nat.mul_one, Nat.add_zero] at hf55_1); clear hcl55 hcc55 hfr55 hM55) | ((with_reducible refine gate_store (t := 3) (p := 49) rfl ?_); refine store_event (t := 3) (p := 49) (v := ?vo_w56) (w1 := (w53.setCell ⟨go44, (t110 : Int).toNat * 3 + 1, none⟩ (.int .i64 a2))) ?hg ?ho ?hn ?hr ?_; (case ho => rfl); (case hg => rfl); (case hn => rfl); (case hr => first | (go_simp; done) | (go_simp; rfl)); intro w56 hw; have hg : w53.grownBy w56 (some go44) := (by rw [hw]; exact HP55.2); have hp_ : Kd.R k97 97 w56 w.heap.size (fun _ => True) (.slice (some ⟨go44, 0, none⟩) t107.length co52) y113 := (by rw [hw, Ny113.out]; exact HP55.1); clear HP55; have n0_ := zA (blk_grown (g := gb101) (o := .cells #[.int .i64 t103, .int .i64 t104, .int .i64 t105, .int .i64 t106, .slice (some ⟨go44, 0, none⟩) t107.length co52] 70 (0, 0)) (qW BK101.out) hg (Kd.R_ne HO109.out BK101.out (by decide))); have n1_ := zA (blk_grown (g := gb102) (o := .cells #[.int .i64 0, .int .i64 0, .int .i64 0, .int .i64 0, .slice none 0 0] 70 (0, 0)) (qW BK102.out) hg (Kd.R_ne HO109.out BK102.out (by decide))); have n2_ := zA (hp_); have n3_ := zA ((by rw [hw]; exact zE (HB.out) GB44.out : Below w.heap.size w w56)); clear BK101 BK102 HO109 HB; have BK101 := n0_; have BK102 := n1_; have HO109 := n2_; have HB := n3_; clear n0_ n1_ n2_ n3_ hg hw hp_; obtain ⟨_, _, _, _, _, _, _, _, _, _⟩ := qc5f BK101.out) | ((with_reducible refine zJq (f := 152) rfl ?_); refine goesL_ (some 51) rfl rfl Try.func152 (by kernel_rfl) rfl #[.agg #[.int .i64 t103, .int .i64 t104, .int .i64 t105, .int .i64 t106, .slice (some ⟨go44, 0, none⟩) t107.length co52]] rfl (by (try simp only [zR, zS, zT]); first | done | rfl | (simp only [zP, zQ]; rfl)) ?_; (with_reducible refine (rma_closed.calls k t103 t104 t105 t106 (fun k_ => some k_ = (.slice (some ⟨go44, 0, none⟩) t107.length co52 : Value).ownBlock) (.slice (some ⟨go44, 0, none⟩) t107.length co52) y113 t114 t115 t116 t117 t118 w _ ?side1 ?side2 A45.out).mono ?_); (case side1 => repeat (first | (with_reducible first | exact HB.out | apply zD | apply zB | apply zC | refine zE ?_ GE101.out | refine zE ?_ GE102.out) | exact HB.out)); (case side2 => exact Kd.R_tight rfl HO109.out); rintro e w58 ⟨v119, rfl, ho0, hb, hkp⟩; refine ⟨_, rfl, ?_⟩; have n0_ := zA (blk_kept (qW BK101.out) hkp (fun hs_ => (fun e_ => (Kd.R_ne HO109.out BK101.out (by decide)) e_) hs_)); have n1_ := zA (blk_kept (qW BK102.out) hkp (fun hs_ => (fun e_ => (Kd.R_ne HO109.out BK102.out (by decide)) e_) hs_)); have n2_ := zA (Kd.R_mono (ok' := fun k_ => True) ho0 (fun k_ hk_ => trivial)); have n3_ := zA (hb); clear BK101 BK102 HB HO109; have BK101 := n0_; have BK102 := n1_; have HO120 := n2_; have HB := n3_; clear n0_ n1_ n2_ n3_; (try clear hb); (try clear hkp); (try clear ho0); obtain ⟨_, _, _, _, _, _, _, _, _, _⟩ := qc5f BK102.out; obtain ⟨Ao60, co60, eo60⟩ := Kd.R_slice HO120.out; subst eo60))
        refine bodyPost_ret (results_ct rfl _ _ gb102 70 #[.int .i64 t114, .int .i64 t115, .int .i64 t116, .int .i64 t117, .slice Ao60 t118.length co60] (0, 0) _ rfl (qV BK102.out) Try.underlying70 rfl (by kernel_rfl)) rfl ?_; exact ⟨_, qE, by (with_reducible repeat (first | apply Kd.R_alloc | apply Kd.R_drewN | apply Kd.R_drew)); exact Kd.R_mono (Kd.R_far (p := ⟨gb102, 4, none⟩) (Kd.R_far (p := ⟨gb102, 3, none⟩) (Kd.R_far (p := ⟨gb102, 2, none⟩) (Kd.R_far (p := ⟨gb102, 1, none⟩) (Kd.R_far (p := ⟨gb102, 0, none⟩) (Kd.R_types HO120.out BK102.out (by decide)) (fun _ hk => hk.2) (.int .i64 t114)) (fun _ hk => hk.2) (.int .i64 t115)) (fun _ hk => hk.2) (.int .i64 t116)) (fun _ hk => hk.2) (.int .i64 t117)) (fun _ hk => hk.2) (.slice Ao60 t118.length co60)) (fun _ hk => trivial), qB⟩
      rw [if_neg c34] at H; exact absurd H (by simp)
    rw [if_neg c33] at H; exact absurd H (by simp)
  rw [if_neg c5] at H
  have c5b0 : (t111 == 0) = false := beq_eq_false_iff_ne.mpr c5
  have c5b1 : (t111 != 0) = true := bne_iff_ne.mpr c5
  simp only [zNq, zOq] at H
  obtain ⟨rfl, rfl, rfl, rfl, rfl, rfl⟩ := H
  go_enter Try.func58, Try.ntmps58
  go_wp2_with (first | ((with_reducible refine gate_dst (N := 3) rfl ?_); refine box_event qr (N := 3) qr (cs := #[.int .i64 a0_0, .int .i64 a0_1, .int .i64 a0_2, .int .i64 a0_3, .slice A0_4 l0_4.length c0_4]) (t := 70) qg ?_; intro gb101 hg w61 hbox hb; have n0_ := zA (zV qB hb); have n1_ := zA (hbox); have n2_ := zA ((qS : w.heap.size ≤ gb101)); have n3_ := zA ((qS : w.heap.size ≤ gb101)); clear HB; have HB := n0_; have BK101 := n1_; have GW101 := n2_; have GE101 := n3_; clear n0_ n1_ n2_ n3_ hb hbox hg) | ((with_reducible refine gate_dst (N := 6) rfl ?_); refine box_event qr (N := 6) qr (cs := #[.int .i64 0, .int .i64 0, .int .i64 0, .int .i64 0, .slice none 0 0]) (t := 70) qg ?_; intro gb102 hg w62 hbox hb; have n0_ := zA (qX BK101.out hb); have n1_ := zA (zV qB hb); have n2_ := zA (hbox); have n3_ := zA ((qS : w.heap.size ≤ gb102)); have n4_ := zA ((qS : w.heap.size ≤ gb102)); have n5_ := zA ((by rw [hg]; exact zLq (qL BK101.out) : gb101 ≠ gb102)); have n6_ := zA ((by rw [hg]; exact zMq (qL BK101.out) : gb102 ≠ gb101)); clear BK101 HB; have BK101 := n0_; have HB := n1_; have BK102 := n2_; have GW102 := n3_; have GE102 := n4_; have NB101_102 := n5_; have NB102_101 := n6_; clear n0_ n1_ n2_ n3_ n4_ n5_ n6_ hb hbox hg; have hnb63 := NB101_102.out; have hnc63 := NB102_101.out; obtain ⟨_, _, _, _, _, _, _, _, _, _⟩ := qc5f BK101.out) | ((with_reducible refine zJq (f := 151) rfl ?_); refine goesL_ (some 13) rfl rfl Try.func151 (by kernel_rfl) rfl #[.agg #[.int .i64 a0_0, .int .i64 a0_1, .int .i64 a0_2, .int .i64 a0_3, .slice A0_4 l0_4.length c0_4], .int .i64 a1] rfl (by (try simp only [zR, zS, zT]); first | done | rfl | (simp only [zP, zQ]; rfl)) ?_; (with_reducible refine (rma_open.calls k a0_0 a0_1 a0_2 a0_3 _ _ l0_4 a1 t103 t104 t105 t106 t107 t110 t111 _ ?side1 ?side2 A4.out).mono ?_); (case side1 => exact qC (Kd.C_below HR0_4.out HB.out)); (case side2 => exact HC0_4.out); rintro e w65 ⟨v108, rfl, ho0, hb⟩; refine ⟨_, rfl, ?_⟩; have n0_ := zA (Kd.R_lower ho0 (zW qB)); have n1_ := zA (qX BK101.out hb); have n2_ := zA (qX BK102.out hb); have n3_ := zA (zV qB hb); clear BK101 BK102 HB; have HO109 := n0_; have BK101 := n1_; have BK102 := n2_; have HB := n3_; clear n0_ n1_ n2_ n3_; (try clear hb); (try clear hb2); (try clear hk); (try clear hi); (try clear ho0); obtain ⟨_, _, _, _, _, _, _, _, _, _⟩ := qc5f BK101.out; obtain ⟨Ao67, co67, eo67⟩ := Kd.R_slice HO109.out; subst eo67; obtain ⟨_, _, _, _, _, _, _, _, _, _⟩ := qc5f BK102.out))
  refine bodyPost_ret (results_ct rfl _ _ gb102 70 #[.int .i64 0, .int .i64 0, .int .i64 0, .int .i64 0, .slice none 0 0] (0, 0) _ rfl (qV BK102.out) Try.underlying70 rfl (by kernel_rfl)) rfl ?_
  exact ⟨_, qE, qN, qB⟩
end Go.Proofs.Ytakkhomjpflkbaa.F
