-- merged and pruned by prune.py (the session's own program); its words go back to the kit's print
import Derived.Test.YtakkhomjpflkbaaProg
import Derived.Below
import Derived.Deep.Draws
import Derived.Deep.AppendLies
import Derived.Maps.AppendAt
import Derived.OwnWalk
import Derived.Laws.BytesArg
import Derived.Laws.MakeOwn
import Derived.Laws.OwnMore
import Derived.Deep.OwnRows
import Derived.Tactics
import Derived.Lib.ConvBytes
import Derived.Laws.Slices
import Derived.WalkKit
import Derived.KernelRfl
import Derived.RowKit3
import Derived.Deep.LoopGhost
import Derived.Deep.QuietTactic
import Derived.BigQuiet
import Derived.WideLaws
import Derived.Deep.DeepCutAuto
import Derived.Deep.CutBlock
import Derived.Deep.RegionHeld3
import Derived.Laws.Rows
import Derived.Lib.AppendStr
import Derived.ArgAppend
import Derived.Laws.IdiomCopy
import Derived.OrdersHeld
import Derived.Laws.BitsLemmas
import Derived.RowKit
import Derived.Laws.StructEq
import Derived.Deep.RegionLawGrows
import Derived.Lib.SliceRun
import Derived.Shelf.Strings.BuilderK
import Derived.Shelf.Strings.Builder1
import Derived.Shelf.Small.Wraps
import Derived.Shelf.Strings.BuilderF
import Derived.Shelf.Utf8.RuneCount
import Derived.Shelf.Strings.Prefix
import Derived.Shelf.Strings.RuneCount
import Derived.Shelf.Slices.Turned
import Derived.Shelf.Slices.Equal
import Derived.Ground.Names2Prog
import Derived.Shelf.Slices.ReverseS
import Derived.Shelf.Slices.Clone
import Derived.Shelf.Slices.SearchI
import Derived.Shelf.Slices.Delete
import Derived.Shelf.Slices.Cells
import Derived.Shelf.Slices.Empties
import Derived.Shelf.Slices.Empties2
import Derived.Ground.SlgnProg
import Derived.Shelf.SlicesE.Reverse
import Derived.Shelf.SlicesE.Delete
import Derived.Shelf.SlicesE.Clone
import Derived.Test.YtakkhomjpflkbaaZReplyBack3
namespace Go.Proofs.Ytakkhomjpflkbaa.F
open Go.RowKit Go.Proofs.YtakkhomjpflkbaaX Go.Proofs.YtakkhomjpflkbaaW.PrintWords Go.Proofs.YtakkhomjpflkbaaW.PrintLast Go.Proofs.YtakkhomjpflkbaaW.PrintMore
attribute [local go_sem] max2_int min2_int max_two min_two max_three min_three max_four min_four   
attribute [local go_sem high] str_geq str_leq str_gtr
set_option linter.unusedVariables false
set_option linter.unusedSimpArgs false
def backhaullaw31_ReplyBack.j0 : Nat → Bool → Int → List Int → Option (Bool)
  | 0, _, _, _ => none
  | k + 1, x45, x404000, x404001 => if x45 = true then (some false) else ((reply_Put.f k x404000 x404001).bind fun bt416 => (if bt416.2 = 0 then ((reply_Take.f k bt416.1).bind fun bt418 => ((backhaulref31_Same.f k bt418.1 bt418.2.1 x404000 x404001).bind fun t424 => (if t424 = true then (if bt418.2.2 = 0 then ((backhaullaw31_awake.f).bind fun t425 => (if t425 = true then (some true) else (some false))) else (some false)) else (some false)))) else (if bt416.1.toList = ([] : List UInt8) then ((reply_Check.f k x404000 x404001).bind fun t426 => (if t426 = bt416.2 then ((backhaullaw31_awake.f).bind fun t427 => (if t427 = true then (some true) else (some false))) else (some false))) else (some false))))
def backhaullaw31_ReplyBack.f (k : Nat) (a0_0 : Int) (l0_1 : List Int) : Option (Bool) := if (l0_1.length : Int) > 300 then ((backhaullaw31_awake.f).bind fun t404 => (if t404 = true then (some true) else (some false))) else ((reply_OK.f l0_1).bind fun bt405 => ((reply_Wrong.f a0_0).bind fun bt409 => (if bt405.1 = 0 then ((backhaulref31_Same.f k a0_0 bt405.2 a0_0 l0_1).bind fun t415 => (if t415 = true then (if bt409.1 = a0_0 then (backhaullaw31_ReplyBack.j0 k ((bt409.2.length : Int) != 0) a0_0 l0_1) else (backhaullaw31_ReplyBack.j0 k true a0_0 l0_1)) else (backhaullaw31_ReplyBack.j0 k true a0_0 l0_1))) else (backhaullaw31_ReplyBack.j0 k true a0_0 l0_1))))
theorem backhaullaw31_ReplyBack.mono_l : ∀ k, (∀ y0 y1 y2, LeO (backhaullaw31_ReplyBack.j0 k y0 y1 y2) (backhaullaw31_ReplyBack.j0 (k + 1) y0 y1 y2))
  | 0 => fun _ _ _ r h => by simp [backhaullaw31_ReplyBack.j0] at h
  | k + 1 => by
    have ih0 := backhaullaw31_ReplyBack.mono_l k
    · intro y0 y1 y2
      unfold backhaullaw31_ReplyBack.j0
      repeat' first
      | (with_reducible exact ih0 _ _ _)
      | (with_reducible exact backhaulref31_Same.mono _ _ _ _ _)
      | (with_reducible exact reply_Check.mono _ _ _)
      | (with_reducible exact reply_Put.mono _ _ _)
      | (with_reducible exact reply_Take.mono _ _)
      | (with_reducible exact LeO.refl _)
      | (with_reducible exact LeO.none _)
      | (with_reducible refine LeO.ite ?_ ?_)
      | (with_reducible refine LeO.bind ?_ (fun _ => ?_))
      | exact ih0 _ _ _
      | exact backhaulref31_Same.mono _ _ _ _ _
      | exact reply_Check.mono _ _ _
      | exact reply_Put.mono _ _ _
      | exact reply_Take.mono _ _
      | exact LeO.none _
      | refine LeO.ite ?_ ?_
      | refine LeO.bind ?_ (fun _ => ?_)
theorem backhaullaw31_ReplyBack.mono : ∀ a0 a1 k, LeO (backhaullaw31_ReplyBack.f k a0 a1) (backhaullaw31_ReplyBack.f (k + 1) a0 a1) := by
  intro a0 a1 k
  have ih0 := backhaullaw31_ReplyBack.mono_l k
  unfold backhaullaw31_ReplyBack.f
  repeat' first
      | (with_reducible exact ih0 _ _ _)
      | (with_reducible exact backhaulref31_Same.mono _ _ _ _ _)
      | (with_reducible exact reply_Check.mono _ _ _)
      | (with_reducible exact reply_Put.mono _ _ _)
      | (with_reducible exact reply_Take.mono _ _)
      | (with_reducible exact LeO.refl _)
      | (with_reducible exact LeO.none _)
      | (with_reducible refine LeO.ite ?_ ?_)
      | (with_reducible refine LeO.bind ?_ (fun _ => ?_))
      | exact ih0 _ _ _
      | exact backhaulref31_Same.mono _ _ _ _ _
      | exact reply_Check.mono _ _ _
      | exact reply_Put.mono _ _ _
      | exact reply_Take.mono _ _
      | exact LeO.none _
      | refine LeO.ite ?_ ?_
      | refine LeO.bind ?_ (fun _ => ?_)
def backhaullaw31_ReplyBack.T3 : Bool × List (List Nat × List Nat) := (true, [([], []), ([0], [0]), ([1], [1]), ([], []), ([3], [3]), ([4, 2], [4]), ([], []), ([], []), ([6, 2, 5, 0, 1, 2, 6, 7], [2, 6]), ([7, 5, 8, 0, 1, 2, 3, 4, 5, 6, 7, 8], [5, 7])])
def backhaullaw31_ReplyBack.B3 : List Nat := [0, 1, 3, 0, 8, 31, 0, 0, 255, 511]
theorem backhaullaw31_ReplyBack.tab3 : rtab .any (opsOf Try.f4 3) = backhaullaw31_ReplyBack.T3 := by kernel_rfl
theorem backhaullaw31_ReplyBack.bits3 : waitsOk backhaullaw31_ReplyBack.T3.2 backhaullaw31_ReplyBack.B3 = true := by kernel_rfl
set_option maxHeartbeats 8000000 in
set_option maxRecDepth 100000 in
theorem backhaullaw31_ReplyBack.calls (k : Nat) (a0_0 : Int) (A0_1 : Option Addr) (c0_1 : Nat) (l0_1 : List Int) (w : World) (hr0_1 : Kd.C (Kd.int .i64) w A0_1 l0_1.length l0_1) (hc0_1 : l0_1.length ≤ c0_1) (h : backhaullaw31_ReplyBack.f k a0_0 l0_1 = some true) :
    Calls Try.prog 4 #[.agg #[.int .i64 a0_0, .slice A0_1 l0_1.length c0_1]] w fun e w' => e = .returned (.bool true) ∧ Below w.heap.size w w' := by
  have hu25 := Try.underlying25
  have HR0_1 := Aside0.mk hr0_1
  have HC0_1 := Aside0.mk hc0_1
  clear hr0_1 hc0_1
  have HB := Aside0.mk (Below.refl w.heap.size w)
  have H : (if (l0_1.length : Int) > 300 then ((backhaullaw31_awake.f).bind fun t404 => (if t404 = true then (some true) else (some false))) else ((reply_OK.f l0_1).bind fun bt405 => ((reply_Wrong.f a0_0).bind fun bt409 => (if bt405.1 = 0 then ((backhaulref31_Same.f k a0_0 bt405.2 a0_0 l0_1).bind fun t415 => (if t415 = true then (if bt409.1 = a0_0 then (backhaullaw31_ReplyBack.j0 k ((bt409.2.length : Int) != 0) a0_0 l0_1) else (backhaullaw31_ReplyBack.j0 k true a0_0 l0_1)) else (backhaullaw31_ReplyBack.j0 k true a0_0 l0_1))) else (backhaullaw31_ReplyBack.j0 k true a0_0 l0_1))))) = some true := h
  clear h
  by_cases c2 : (l0_1.length : Int) > 300
  · rw [if_pos c2] at H
    have c2b0 : decide (300 < (l0_1.length : Int)) = true := decide_eq_true c2
    have c2b1 : decide (300 < l0_1.length) = true := decide_eq_true (by omega)
    clear c2
    replace H := Option.bind_eq_some_iff.mp H
    obtain ⟨t404, A30, H⟩ := H
    replace H : (if t404 = true then (some true) else (some false)) = some true := H
    have A3 := Aside0.mk A30
    clear A30
    by_cases c4 : t404 = true
    · subst c4
      have H1 : (some true) = some true := by first | (rw [if_pos rfl] at H; exact H) | rfl
      clear H
      have H := H1
      clear H1
      clear H
      go_enter Try.func4, Try.ntmps4
      go_wp2_with (first | ((with_reducible refine gate_dst (N := 1) rfl ?_); (try (refine gate_guard (by rfl) ?_; dsimp only)); refine box_event ?hg (N := 1) ?hd (cs := #[.int .i64 a0_0, .slice A0_1 l0_1.length c0_1]) (t := 25) ?hr ?_; (case hd => rfl); (case hg => rfl); (case hr => first | (go_simp; done) | (go_simp; rfl)); intro gb403 hg w5 hbox hb; have n0_ := Aside0.mk (below_step (by repeat (first | (with_reducible first | exact HB.out | apply below_alloc | apply pw_below_drewN | apply below_drew1) | exact HB.out)) hb); have n1_ := Aside0.mk (hbox); have n2_ := Aside0.mk ((by rw [hg]; exact (below_size (by repeat (first | (with_reducible first | exact HB.out | apply below_alloc | apply pw_below_drewN | apply below_drew1) | exact HB.out))) : w.heap.size ≤ gb403)); have n3_ := Aside0.mk ((by rw [hg]; exact (below_size (by repeat (first | (with_reducible first | exact HB.out | apply below_alloc | apply pw_below_drewN | apply below_drew1) | exact HB.out))) : w.heap.size ≤ gb403)); clear HB; have HB := n0_; have BK403 := n1_; have GW403 := n2_; have GE403 := n3_; clear n0_ n1_ n2_ n3_; clear hb hbox hg; have hcz6_0 : w5.cell? ⟨gb403, 0, none⟩ = some (.int .i64 a0_0) := (blk_cell BK403.out 0).trans rfl; have hcz6_1 : w5.cell? ⟨gb403, 1, none⟩ = some (.slice A0_1 l0_1.length c0_1) := (blk_cell BK403.out 1).trans rfl; have hfz6_0 := blk_frozen BK403.out 0; have hfz6_1 := blk_frozen BK403.out 1) | ((with_reducible refine gate_callee (f := 24) rfl ?_); refine goesL_ (some 13) rfl rfl Try.func24 (by kernel_rfl) rfl #[] rfl (by (try simp only [List.map_toArray, List.map_cons, List.map_nil]); first | done | rfl | (simp only [List.length_drop, List.length_take]; rfl)) ?_; (with_reducible refine (backhaullaw31_awake.calls  true _ A3.out).mono ?_); rintro e w7 ⟨rfl, hb⟩; refine ⟨_, rfl, ?_⟩; have n0_ := Aside0.mk (blk_below (g := gb403) (o := .cells #[.int .i64 a0_0, .slice A0_1 l0_1.length c0_1] 25 (0, 0)) (by (with_reducible repeat (first | refine blk_drewN ?_ _ | refine blk_drew ?_ | refine blk_alloc ?_ _)); exact BK403.out) hb); have n1_ := Aside0.mk (below_step (by repeat (first | (with_reducible first | exact HB.out | apply below_alloc | apply pw_below_drewN | apply below_drew1 | refine below_set ?_ GE403.out) | exact HB.out)) hb); clear BK403; clear HB; have BK403 := n0_; have HB := n1_; clear n0_ n1_; (try clear hb); (try clear hb2); (try clear hk); (try clear hi)))
      go_ret
      exact ⟨by first | rfl | (simp [errW_none, errW_some] <;> rfl) | (simp [*, errW_none, errW_some] <;> rfl), by repeat (first | (with_reducible first | exact HB.out | apply below_alloc | apply pw_below_drewN | apply below_drew1 | refine below_set ?_ GE403.out) | exact HB.out)⟩
    · replace c4 := Bool.eq_false_iff.mpr c4
      subst c4
      have H1 : (some false) = some true := by first | (rw [if_neg (show ¬ (false = true) by decide)] at H; exact H) | rfl
      clear H
      have H := H1
      clear H1
      exact absurd H (by simp)
  · rw [if_neg c2] at H
    have c2b0 : decide (300 < (l0_1.length : Int)) = false := decide_eq_false c2
    have c2b1 : decide (300 < l0_1.length) = false := decide_eq_false (by omega)
    clear c2
    replace H := Option.bind_eq_some_iff.mp H
    obtain ⟨⟨t405, t406⟩, A80, H⟩ := H
    replace H : ((reply_Wrong.f a0_0).bind fun bt409 => (if t405 = 0 then ((backhaulref31_Same.f k a0_0 t406 a0_0 l0_1).bind fun t415 => (if t415 = true then (if bt409.1 = a0_0 then (backhaullaw31_ReplyBack.j0 k ((bt409.2.length : Int) != 0) a0_0 l0_1) else (backhaullaw31_ReplyBack.j0 k true a0_0 l0_1)) else (backhaullaw31_ReplyBack.j0 k true a0_0 l0_1))) else (backhaullaw31_ReplyBack.j0 k true a0_0 l0_1))) = some true := H
    have A8 := Aside0.mk A80
    clear A80
    replace H := Option.bind_eq_some_iff.mp H
    obtain ⟨⟨t409, t410⟩, A90, H⟩ := H
    replace H : (if t405 = 0 then ((backhaulref31_Same.f k a0_0 t406 a0_0 l0_1).bind fun t415 => (if t415 = true then (if t409 = a0_0 then (backhaullaw31_ReplyBack.j0 k ((t410.length : Int) != 0) a0_0 l0_1) else (backhaullaw31_ReplyBack.j0 k true a0_0 l0_1)) else (backhaullaw31_ReplyBack.j0 k true a0_0 l0_1))) else (backhaullaw31_ReplyBack.j0 k true a0_0 l0_1)) = some true := H
    have A9 := Aside0.mk A90
    clear A90
    have HC10 := Aside0.mk H
    clear H
    go_enter Try.func4, Try.ntmps4
    try go_wp2_with (first | ((with_reducible refine gate_dst (N := 1) rfl ?_); (try (refine gate_guard (by rfl) ?_; dsimp only)); refine box_event ?hg (N := 1) ?hd (cs := #[.int .i64 a0_0, .slice A0_1 l0_1.length c0_1]) (t := 25) ?hr ?_; (case hd => rfl); (case hg => rfl); (case hr => first | (go_simp; done) | (go_simp; rfl)); intro gb403 hg w11 hbox hb; have n0_ := Aside0.mk (below_step (by repeat (first | (with_reducible first | exact HB.out | apply below_alloc | apply pw_below_drewN | apply below_drew1) | exact HB.out)) hb); have n1_ := Aside0.mk (hbox); have n2_ := Aside0.mk ((by rw [hg]; exact (below_size (by repeat (first | (with_reducible first | exact HB.out | apply below_alloc | apply pw_below_drewN | apply below_drew1) | exact HB.out))) : w.heap.size ≤ gb403)); have n3_ := Aside0.mk ((by rw [hg]; exact (below_size (by repeat (first | (with_reducible first | exact HB.out | apply below_alloc | apply pw_below_drewN | apply below_drew1) | exact HB.out))) : w.heap.size ≤ gb403)); clear HB; have HB := n0_; have BK403 := n1_; have GW403 := n2_; have GE403 := n3_; clear n0_ n1_ n2_ n3_; clear hb hbox hg; have hcz12_0 : w11.cell? ⟨gb403, 0, none⟩ = some (.int .i64 a0_0) := (blk_cell BK403.out 0).trans rfl; have hcz12_1 : w11.cell? ⟨gb403, 1, none⟩ = some (.slice A0_1 l0_1.length c0_1) := (blk_cell BK403.out 1).trans rfl; have hfz12_0 := blk_frozen BK403.out 0; have hfz12_1 := blk_frozen BK403.out 1))
    have n0_ := Aside0.mk (blk_drew BK403.out)
    have n1_ := Aside0.mk (below_drew1 HB.out)
    clear BK403
    clear HB
    have BK403 := n0_
    have HB := n1_
    clear n0_ n1_
    refine start_ (n := 10) (S := fun w' => w'.cell? ⟨gb403, 0, none⟩ = some (.int .i64 a0_0) ∧ w'.cell? ⟨gb403, 1, none⟩ = some (.slice A0_1 l0_1.length c0_1)) (ds := []) #[false, false, false, false, false, false, false, false, false, false] (by kernel_rfl) rfl rfl ⟨(blk_cell BK403.out 0).trans rfl, (blk_cell BK403.out 1).trans rfl⟩ (fun hHeld => ?_); refine with_tabW backhaullaw31_ReplyBack.tab3 backhaullaw31_ReplyBack.bits3 (fun HT_ HW_ => ?_)
    generalize w11.drew = w13 at BK403 HB hHeld ⊢
    refine pure_ (i := 0) (N := some 14) (v := ?_) (a' := ?_) #[true, false, false, false, false, false, false, false, false, false] rfl rfl (any_of HT_.out (by kernel_rfl)) (fun _ _ _ h => h) (Or.inl ⟨by rfl, ?_⟩) ?_ ?_
    rotate_left
    · intro w'
      go_simp
      with_reducible rfl
    rotate_left
    · simp only [Act.put, List.setIfInBounds_toArray, List.set_cons_zero, List.set_cons_succ, i64_w, i32_w]
      rfl
    refine pure_ (i := 3) (N := some 17) (v := ?_) (a' := ?_) #[true, false, false, true, false, false, false, false, false, false] rfl rfl (any_of HT_.out (by kernel_rfl)) (fun _ _ _ h => h) (Or.inl ⟨by rfl, ?_⟩) ?_ ?_
    rotate_left
    · intro w'
      go_simp
      with_reducible rfl
    rotate_left
    · simp only [Act.put, List.setIfInBounds_toArray, List.set_cons_zero, List.set_cons_succ, i64_w, i32_w]
      rfl
    refine take_ (i := 1) (N := some 15) (v := ?_) (a' := ?_) #[true, true, false, true, false, false, false, false, false, false] rfl rfl (take_ofW HT_.out HW_.out (by kernel_rfl)) (fun _ _ _ h => h) (Or.inl ⟨by rfl, ?_⟩) hHeld ?_ ?_
    rotate_left
    · rintro w' ⟨s0, s1⟩
      go_simp
      with_reducible rfl
    rotate_left
    · simp only [Act.put, List.setIfInBounds_toArray, List.set_cons_zero, List.set_cons_succ, i64_w, i32_w]
      rfl
    refine take_ (i := 4) (N := some 18) (v := ?_) (a' := ?_) #[true, true, false, true, true, false, false, false, false, false] rfl rfl (take_ofW HT_.out HW_.out (by kernel_rfl)) (fun _ _ _ h => h) (Or.inl ⟨by rfl, ?_⟩) hHeld ?_ ?_
    rotate_left
    · rintro w' ⟨s0, s1⟩
      go_simp
      with_reducible rfl
    rotate_left
    · simp only [Act.put, List.setIfInBounds_toArray, List.set_cons_zero, List.set_cons_succ, i64_w, i32_w]
      rfl
    refine join_ (σ := Value × Value × Nat × Nat) 2 #[true, true, true, true, true, true, true, true, false, false] (fun s_ => [(16, .agg #[.int .i64 t405, s_.1]), (19, .agg #[.int .i64 t409, s_.2.1]), (3, .pointer (some ⟨s_.2.2.1, 0, none⟩)), (4, .pointer (some ⟨s_.2.2.2, 0, none⟩))]) (fun s_ w' => (w'.cell? ⟨gb403, 0, none⟩ = some (.int .i64 a0_0) ∧ w'.cell? ⟨gb403, 1, none⟩ = some (.slice A0_1 l0_1.length c0_1)) ∧ (Kd.R (Kd.int .i64) 3 w' w.heap.size (fun k_ => some k_ ≠ (s_.2.1 : Value).ownBlock) s_.1 t406) ∧ (Kd.R (Kd.int .i64) 3 w' w.heap.size (fun k_ => some k_ ≠ (s_.1 : Value).ownBlock) s_.2.1 t410) ∧ (w'.heap[gb403]? = some (.cells #[.int .i64 a0_0, .slice A0_1 l0_1.length c0_1] 25 (0, 0))) ∧ (w'.heap[s_.2.2.1]? = some (.cells #[.int .i64 0, .slice none 0 0] 25 (0, 0))) ∧ (w'.heap[s_.2.2.2]? = some (.cells #[.int .i64 0, .slice none 0 0] 25 (0, 0))) ∧ (w.heap.size ≤ s_.2.2.1) ∧ (w.heap.size ≤ s_.2.2.1) ∧ (gb403 ≠ s_.2.2.1) ∧ (s_.2.2.1 ≠ gb403) ∧ (s_.2.2.2 ≠ s_.2.2.1) ∧ (s_.2.2.1 ≠ s_.2.2.2) ∧ (w.heap.size ≤ s_.2.2.2) ∧ (w.heap.size ≤ s_.2.2.2) ∧ (gb403 ≠ s_.2.2.2) ∧ (s_.2.2.2 ≠ gb403) ∧ (Below w.heap.size w w')) ?_ ?_
    rotate_left
    · intro hJ2_5_6_7
      refine join_ (σ := Value × Value × Nat) 3 #[true, true, true, true, true, true, true, false, false, false] (fun s_ => [(16, .agg #[.int .i64 t405, s_.1]), (19, .agg #[.int .i64 t409, s_.2.1]), (3, .pointer (some ⟨s_.2.2, 0, none⟩))]) (fun s_ w' => (w'.cell? ⟨gb403, 0, none⟩ = some (.int .i64 a0_0) ∧ w'.cell? ⟨gb403, 1, none⟩ = some (.slice A0_1 l0_1.length c0_1)) ∧ (Kd.R (Kd.int .i64) 3 w' w.heap.size (fun k_ => some k_ ≠ (s_.2.1 : Value).ownBlock) s_.1 t406) ∧ (Kd.R (Kd.int .i64) 3 w' w.heap.size (fun k_ => some k_ ≠ (s_.1 : Value).ownBlock) s_.2.1 t410) ∧ (w'.heap[gb403]? = some (.cells #[.int .i64 a0_0, .slice A0_1 l0_1.length c0_1] 25 (0, 0))) ∧ (w'.heap[s_.2.2]? = some (.cells #[.int .i64 0, .slice none 0 0] 25 (0, 0))) ∧ (w.heap.size ≤ s_.2.2) ∧ (w.heap.size ≤ s_.2.2) ∧ (gb403 ≠ s_.2.2) ∧ (s_.2.2 ≠ gb403) ∧ (Below w.heap.size w w')) ?_ ?_
      rotate_left
      · intro hJ2_5_6
        refine join_ (σ := Value × Value × Nat) 3 #[true, true, true, true, true, true, false, true, false, false] (fun s_ => [(16, .agg #[.int .i64 t405, s_.1]), (19, .agg #[.int .i64 t409, s_.2.1]), (4, .pointer (some ⟨s_.2.2, 0, none⟩))]) (fun s_ w' => (w'.cell? ⟨gb403, 0, none⟩ = some (.int .i64 a0_0) ∧ w'.cell? ⟨gb403, 1, none⟩ = some (.slice A0_1 l0_1.length c0_1)) ∧ (Kd.R (Kd.int .i64) 3 w' w.heap.size (fun k_ => some k_ ≠ (s_.2.1 : Value).ownBlock) s_.1 t406) ∧ (Kd.R (Kd.int .i64) 3 w' w.heap.size (fun k_ => some k_ ≠ (s_.1 : Value).ownBlock) s_.2.1 t410) ∧ (w'.heap[gb403]? = some (.cells #[.int .i64 a0_0, .slice A0_1 l0_1.length c0_1] 25 (0, 0))) ∧ (w'.heap[s_.2.2]? = some (.cells #[.int .i64 0, .slice none 0 0] 25 (0, 0))) ∧ (w.heap.size ≤ s_.2.2) ∧ (w.heap.size ≤ s_.2.2) ∧ (gb403 ≠ s_.2.2) ∧ (s_.2.2 ≠ gb403) ∧ (Below w.heap.size w w')) ?_ ?_
        rotate_left
        · intro hJ2_5_7
          refine join_ (σ := Value × Nat × Nat) 3 #[true, true, true, true, true, false, true, true, false, false] (fun s_ => [(16, .agg #[.int .i64 t405, s_.1]), (3, .pointer (some ⟨s_.2.1, 0, none⟩)), (4, .pointer (some ⟨s_.2.2, 0, none⟩))]) (fun s_ w' => (w'.cell? ⟨gb403, 0, none⟩ = some (.int .i64 a0_0) ∧ w'.cell? ⟨gb403, 1, none⟩ = some (.slice A0_1 l0_1.length c0_1)) ∧ (Kd.R (Kd.int .i64) 3 w' w.heap.size (fun _ => True) s_.1 t406) ∧ (w'.heap[gb403]? = some (.cells #[.int .i64 a0_0, .slice A0_1 l0_1.length c0_1] 25 (0, 0))) ∧ (w'.heap[s_.2.1]? = some (.cells #[.int .i64 0, .slice none 0 0] 25 (0, 0))) ∧ (w'.heap[s_.2.2]? = some (.cells #[.int .i64 0, .slice none 0 0] 25 (0, 0))) ∧ (w.heap.size ≤ s_.2.1) ∧ (w.heap.size ≤ s_.2.1) ∧ (gb403 ≠ s_.2.1) ∧ (s_.2.1 ≠ gb403) ∧ (s_.2.2 ≠ s_.2.1) ∧ (s_.2.1 ≠ s_.2.2) ∧ (w.heap.size ≤ s_.2.2) ∧ (w.heap.size ≤ s_.2.2) ∧ (gb403 ≠ s_.2.2) ∧ (s_.2.2 ≠ gb403) ∧ (Below w.heap.size w w')) ?_ ?_
          rotate_left
          · intro hJ2_6_7
            refine join_ (σ := Value × Value) 4 #[true, true, true, true, true, true, false, false, false, false] (fun s_ => [(16, .agg #[.int .i64 t405, s_.1]), (19, .agg #[.int .i64 t409, s_.2])]) (fun s_ w' => (w'.cell? ⟨gb403, 0, none⟩ = some (.int .i64 a0_0) ∧ w'.cell? ⟨gb403, 1, none⟩ = some (.slice A0_1 l0_1.length c0_1)) ∧ (Kd.R (Kd.int .i64) 3 w' w.heap.size (fun k_ => some k_ ≠ (s_.2 : Value).ownBlock) s_.1 t406) ∧ (Kd.R (Kd.int .i64) 3 w' w.heap.size (fun k_ => some k_ ≠ (s_.1 : Value).ownBlock) s_.2 t410) ∧ (w'.heap[gb403]? = some (.cells #[.int .i64 a0_0, .slice A0_1 l0_1.length c0_1] 25 (0, 0))) ∧ (Below w.heap.size w w')) ?_ ?_
            rotate_left
            · intro hJ2_5
              refine join_ (σ := Value × Nat) 4 #[true, true, true, true, true, false, true, false, false, false] (fun s_ => [(16, .agg #[.int .i64 t405, s_.1]), (3, .pointer (some ⟨s_.2, 0, none⟩))]) (fun s_ w' => (w'.cell? ⟨gb403, 0, none⟩ = some (.int .i64 a0_0) ∧ w'.cell? ⟨gb403, 1, none⟩ = some (.slice A0_1 l0_1.length c0_1)) ∧ (Kd.R (Kd.int .i64) 3 w' w.heap.size (fun _ => True) s_.1 t406) ∧ (w'.heap[gb403]? = some (.cells #[.int .i64 a0_0, .slice A0_1 l0_1.length c0_1] 25 (0, 0))) ∧ (w'.heap[s_.2]? = some (.cells #[.int .i64 0, .slice none 0 0] 25 (0, 0))) ∧ (w.heap.size ≤ s_.2) ∧ (w.heap.size ≤ s_.2) ∧ (gb403 ≠ s_.2) ∧ (s_.2 ≠ gb403) ∧ (Below w.heap.size w w')) ?_ ?_
              rotate_left
              · intro hJ2_6
                refine join_ (σ := Value × Nat) 4 #[true, true, true, true, true, false, false, true, false, false] (fun s_ => [(16, .agg #[.int .i64 t405, s_.1]), (4, .pointer (some ⟨s_.2, 0, none⟩))]) (fun s_ w' => (w'.cell? ⟨gb403, 0, none⟩ = some (.int .i64 a0_0) ∧ w'.cell? ⟨gb403, 1, none⟩ = some (.slice A0_1 l0_1.length c0_1)) ∧ (Kd.R (Kd.int .i64) 3 w' w.heap.size (fun _ => True) s_.1 t406) ∧ (w'.heap[gb403]? = some (.cells #[.int .i64 a0_0, .slice A0_1 l0_1.length c0_1] 25 (0, 0))) ∧ (w'.heap[s_.2]? = some (.cells #[.int .i64 0, .slice none 0 0] 25 (0, 0))) ∧ (w.heap.size ≤ s_.2) ∧ (w.heap.size ≤ s_.2) ∧ (gb403 ≠ s_.2) ∧ (s_.2 ≠ gb403) ∧ (Below w.heap.size w w')) ?_ ?_
                rotate_left
                · intro hJ2_7
                  refine join_ (σ := Nat × Nat) 4 #[true, true, false, true, true, false, true, true, false, false] (fun s_ => [(3, .pointer (some ⟨s_.1, 0, none⟩)), (4, .pointer (some ⟨s_.2, 0, none⟩))]) (fun s_ w' => (w'.cell? ⟨gb403, 0, none⟩ = some (.int .i64 a0_0) ∧ w'.cell? ⟨gb403, 1, none⟩ = some (.slice A0_1 l0_1.length c0_1)) ∧ (w'.heap[gb403]? = some (.cells #[.int .i64 a0_0, .slice A0_1 l0_1.length c0_1] 25 (0, 0))) ∧ (w'.heap[s_.1]? = some (.cells #[.int .i64 0, .slice none 0 0] 25 (0, 0))) ∧ (w'.heap[s_.2]? = some (.cells #[.int .i64 0, .slice none 0 0] 25 (0, 0))) ∧ (w.heap.size ≤ s_.1) ∧ (w.heap.size ≤ s_.1) ∧ (gb403 ≠ s_.1) ∧ (s_.1 ≠ gb403) ∧ (s_.2 ≠ s_.1) ∧ (s_.1 ≠ s_.2) ∧ (w.heap.size ≤ s_.2) ∧ (w.heap.size ≤ s_.2) ∧ (gb403 ≠ s_.2) ∧ (s_.2 ≠ gb403) ∧ (Below w.heap.size w w')) ?_ ?_
                  rotate_left
                  · intro hJ6_7
                    refine join_ (σ := Value) 5 #[true, true, true, true, true, false, false, false, false, false] (fun s_ => [(16, .agg #[.int .i64 t405, s_])]) (fun s_ w' => (w'.cell? ⟨gb403, 0, none⟩ = some (.int .i64 a0_0) ∧ w'.cell? ⟨gb403, 1, none⟩ = some (.slice A0_1 l0_1.length c0_1)) ∧ (Kd.R (Kd.int .i64) 3 w' w.heap.size (fun _ => True) s_ t406) ∧ (w'.heap[gb403]? = some (.cells #[.int .i64 a0_0, .slice A0_1 l0_1.length c0_1] 25 (0, 0))) ∧ (Below w.heap.size w w')) ?_ ?_
                    rotate_left
                    · intro hJ2
                      refine join_ (σ := Nat) 5 #[true, true, false, true, true, false, true, false, false, false] (fun s_ => [(3, .pointer (some ⟨s_, 0, none⟩))]) (fun s_ w' => (w'.cell? ⟨gb403, 0, none⟩ = some (.int .i64 a0_0) ∧ w'.cell? ⟨gb403, 1, none⟩ = some (.slice A0_1 l0_1.length c0_1)) ∧ (w'.heap[gb403]? = some (.cells #[.int .i64 a0_0, .slice A0_1 l0_1.length c0_1] 25 (0, 0))) ∧ (w'.heap[s_]? = some (.cells #[.int .i64 0, .slice none 0 0] 25 (0, 0))) ∧ (w.heap.size ≤ s_) ∧ (w.heap.size ≤ s_) ∧ (gb403 ≠ s_) ∧ (s_ ≠ gb403) ∧ (Below w.heap.size w w')) ?_ ?_
                      rotate_left
                      · intro hJ6
                        refine join_ (σ := Nat) 5 #[true, true, false, true, true, false, false, true, false, false] (fun s_ => [(4, .pointer (some ⟨s_, 0, none⟩))]) (fun s_ w' => (w'.cell? ⟨gb403, 0, none⟩ = some (.int .i64 a0_0) ∧ w'.cell? ⟨gb403, 1, none⟩ = some (.slice A0_1 l0_1.length c0_1)) ∧ (w'.heap[gb403]? = some (.cells #[.int .i64 a0_0, .slice A0_1 l0_1.length c0_1] 25 (0, 0))) ∧ (w'.heap[s_]? = some (.cells #[.int .i64 0, .slice none 0 0] 25 (0, 0))) ∧ (w.heap.size ≤ s_) ∧ (w.heap.size ≤ s_) ∧ (gb403 ≠ s_) ∧ (s_ ≠ gb403) ∧ (Below w.heap.size w w')) ?_ ?_
                        rotate_left
                        · intro hJ7
                          refine three_ (i := 2) (j := 6) (k := 7) (Ni := some 16) (Nj := some 3) (Nk := some 4) #[true, true, true, true, true, false, false, false, false, false] #[true, true, false, true, true, false, true, false, false, false] #[true, true, false, true, true, false, false, true, false, false] rfl rfl rfl rfl rfl rfl (three_of HT_.out (by kernel_rfl)) (by decide) (by decide) (by decide) (fun K hK => ?_) (fun K hK => ?_) (fun K hK => ?_)
                          · skip
                            refine goes_ Try.func33 (by kernel_rfl) rfl #[.slice A0_1 l0_1.length c0_1] (by rfl) rfl rfl (by (try simp only [List.map_toArray, List.map_cons, List.map_nil]); first | done | rfl | (simp only [List.length_drop, List.length_take]; rfl)) ?_
                            with_reducible refine (reply_OK.calls _ _ l0_1 t405 t406 _ ?side1 ?side2 A8.out).mono ?_
                            (case side1 => repeat (first | exact (Kd.C_below HR0_1.out HB.out) | (with_reducible refine Kd.C_alloc ?_ _) | (with_reducible refine Kd.C_drewN ?_ _) | (with_reducible refine Kd.C_drew ?_)))
                            (case side2 => exact HC0_1.out)
                            rintro e w14 ⟨v407, rfl, ho0, hb⟩
                            refine ⟨_, rfl, ?_⟩
                            have n0_ := Aside0.mk (Kd.R_lower ho0 (below_size (by repeat (first | (with_reducible first | exact HB.out | apply below_alloc | apply pw_below_drewN | apply below_drew1 | refine below_set ?_ GE403.out) | exact HB.out))))
                            have n1_ := Aside0.mk (blk_below (g := gb403) (o := .cells #[.int .i64 a0_0, .slice A0_1 l0_1.length c0_1] 25 (0, 0)) (by (with_reducible repeat (first | refine blk_drewN ?_ _ | refine blk_drew ?_ | refine blk_alloc ?_ _)); exact BK403.out) hb)
                            have n2_ := Aside0.mk (below_step (by repeat (first | (with_reducible first | exact HB.out | apply below_alloc | apply pw_below_drewN | apply below_drew1 | refine below_set ?_ GE403.out) | exact HB.out)) hb)
                            clear BK403
                            clear HB
                            have HO408 := n0_
                            have BK403 := n1_
                            have HB := n2_
                            clear n0_ n1_ n2_
                            (try clear hb)
                            (try clear hb2)
                            (try clear hk)
                            (try clear hi)
                            (try clear ho0)
                            refine hK.out _ _ ⟨(blk_cell BK403.out 0).trans rfl, (blk_cell BK403.out 1).trans rfl⟩ (fun hHeld => ?_)
                            clear hK K
                            refine norm_ (a' := ?_) ?_ ?_
                            rotate_left
                            · show Act.put _ (some 16) _ = _
                              simp only [Act.put, List.setIfInBounds_toArray, List.set_cons_zero, List.set_cons_succ, i64_w, i32_w]
                              rfl
                            exact norm_ (by first | (simp only [putAll, Act.put, List.setIfInBounds_toArray, List.set_cons_zero, List.set_cons_succ]; done) | (simp only [putAll, Act.put, List.setIfInBounds_toArray, List.set_cons_zero, List.set_cons_succ]; rfl)) (hJ2 (v407) _ ⟨hHeld, (by (with_reducible repeat (first | apply Kd.R_alloc | apply Kd.R_drewN | apply Kd.R_drew)); exact HO408.out), (by (with_reducible repeat (first | refine blk_drewN ?_ _ | refine blk_drew ?_ | refine blk_alloc ?_ _)); exact BK403.out), (by repeat (first | (with_reducible first | exact HB.out | apply below_alloc | apply pw_below_drewN | apply below_drew1 | refine below_set ?_ GE403.out) | exact HB.out))⟩)
                          · skip
                            refine box_step ?hg (N := 3) ?hd (cs := #[.int .i64 0, .slice none 0 0]) (t := 25) ?hr ?_; (case hd => rfl); (case hg => rfl); (case hr => first | (go_simp; done) | (go_simp; rfl))
                            intro gb413 hg w14 hbox hb
                            have n0_ := Aside0.mk (blk_below (g := gb403) (o := .cells #[.int .i64 a0_0, .slice A0_1 l0_1.length c0_1] 25 (0, 0)) (by (with_reducible repeat (first | refine blk_drewN ?_ _ | refine blk_drew ?_ | refine blk_alloc ?_ _)); exact BK403.out) hb)
                            have n1_ := Aside0.mk (below_step (by repeat (first | (with_reducible first | exact HB.out | apply below_alloc | apply pw_below_drewN | apply below_drew1 | refine below_set ?_ GE403.out) | exact HB.out)) hb)
                            have n2_ := Aside0.mk (hbox)
                            have n3_ := Aside0.mk ((by rw [hg]; exact (below_size (by repeat (first | (with_reducible first | exact HB.out | apply below_alloc | apply pw_below_drewN | apply below_drew1 | refine below_set ?_ GE403.out) | exact HB.out))) : w.heap.size ≤ gb413))
                            have n4_ := Aside0.mk ((by rw [hg]; exact (below_size (by repeat (first | (with_reducible first | exact HB.out | apply below_alloc | apply pw_below_drewN | apply below_drew1 | refine below_set ?_ GE403.out) | exact HB.out))) : w.heap.size ≤ gb413))
                            have n5_ := Aside0.mk ((by rw [hg]; exact Nat.ne_of_lt (blk_lt (g := gb403) (o := .cells #[.int .i64 a0_0, .slice A0_1 l0_1.length c0_1] 25 (0, 0)) (by (with_reducible repeat (first | refine blk_drewN ?_ _ | refine blk_drew ?_ | refine blk_alloc ?_ _)); exact BK403.out)) : gb403 ≠ gb413))
                            have n6_ := Aside0.mk ((by rw [hg]; exact Nat.ne_of_gt (blk_lt (g := gb403) (o := .cells #[.int .i64 a0_0, .slice A0_1 l0_1.length c0_1] 25 (0, 0)) (by (with_reducible repeat (first | refine blk_drewN ?_ _ | refine blk_drew ?_ | refine blk_alloc ?_ _)); exact BK403.out)) : gb413 ≠ gb403))
                            clear BK403
                            clear HB
                            have BK403 := n0_
                            have HB := n1_
                            have BK413 := n2_
                            have GW413 := n3_
                            have GE413 := n4_
                            have NB403_413 := n5_
                            have NB413_403 := n6_
                            clear n0_ n1_ n2_ n3_ n4_ n5_ n6_
                            clear hb hbox hg
                            refine hK.out _ _ ⟨(blk_cell BK403.out 0).trans rfl, (blk_cell BK403.out 1).trans rfl⟩ (fun hHeld => ?_)
                            clear hK K
                            refine norm_ (a' := ?_) ?_ ?_
                            rotate_left
                            · show Act.put _ (some 3) _ = _
                              simp only [Act.put, List.setIfInBounds_toArray, List.set_cons_zero, List.set_cons_succ, i64_w, i32_w]
                              rfl
                            exact norm_ (by first | (simp only [putAll, Act.put, List.setIfInBounds_toArray, List.set_cons_zero, List.set_cons_succ]; done) | (simp only [putAll, Act.put, List.setIfInBounds_toArray, List.set_cons_zero, List.set_cons_succ]; rfl)) (hJ6 (gb413) _ ⟨hHeld, (by (with_reducible repeat (first | refine blk_drewN ?_ _ | refine blk_drew ?_ | refine blk_alloc ?_ _)); exact BK403.out), (by (with_reducible repeat (first | refine blk_drewN ?_ _ | refine blk_drew ?_ | refine blk_alloc ?_ _)); exact BK413.out), GW413.out, GE413.out, NB403_413.out, NB413_403.out, (by repeat (first | (with_reducible first | exact HB.out | apply below_alloc | apply pw_below_drewN | apply below_drew1 | refine below_set ?_ GE403.out | refine below_set ?_ GE413.out) | exact HB.out))⟩)
                          · skip
                            refine box_step ?hg (N := 4) ?hd (cs := #[.int .i64 0, .slice none 0 0]) (t := 25) ?hr ?_; (case hd => rfl); (case hg => rfl); (case hr => first | (go_simp; done) | (go_simp; rfl))
                            intro gb414 hg w14 hbox hb
                            have n0_ := Aside0.mk (blk_below (g := gb403) (o := .cells #[.int .i64 a0_0, .slice A0_1 l0_1.length c0_1] 25 (0, 0)) (by (with_reducible repeat (first | refine blk_drewN ?_ _ | refine blk_drew ?_ | refine blk_alloc ?_ _)); exact BK403.out) hb)
                            have n1_ := Aside0.mk (below_step (by repeat (first | (with_reducible first | exact HB.out | apply below_alloc | apply pw_below_drewN | apply below_drew1 | refine below_set ?_ GE403.out) | exact HB.out)) hb)
                            have n2_ := Aside0.mk (hbox)
                            have n3_ := Aside0.mk ((by rw [hg]; exact (below_size (by repeat (first | (with_reducible first | exact HB.out | apply below_alloc | apply pw_below_drewN | apply below_drew1 | refine below_set ?_ GE403.out) | exact HB.out))) : w.heap.size ≤ gb414))
                            have n4_ := Aside0.mk ((by rw [hg]; exact (below_size (by repeat (first | (with_reducible first | exact HB.out | apply below_alloc | apply pw_below_drewN | apply below_drew1 | refine below_set ?_ GE403.out) | exact HB.out))) : w.heap.size ≤ gb414))
                            have n5_ := Aside0.mk ((by rw [hg]; exact Nat.ne_of_lt (blk_lt (g := gb403) (o := .cells #[.int .i64 a0_0, .slice A0_1 l0_1.length c0_1] 25 (0, 0)) (by (with_reducible repeat (first | refine blk_drewN ?_ _ | refine blk_drew ?_ | refine blk_alloc ?_ _)); exact BK403.out)) : gb403 ≠ gb414))
                            have n6_ := Aside0.mk ((by rw [hg]; exact Nat.ne_of_gt (blk_lt (g := gb403) (o := .cells #[.int .i64 a0_0, .slice A0_1 l0_1.length c0_1] 25 (0, 0)) (by (with_reducible repeat (first | refine blk_drewN ?_ _ | refine blk_drew ?_ | refine blk_alloc ?_ _)); exact BK403.out)) : gb414 ≠ gb403))
                            clear BK403
                            clear HB
                            have BK403 := n0_
                            have HB := n1_
                            have BK414 := n2_
                            have GW414 := n3_
                            have GE414 := n4_
                            have NB403_414 := n5_
                            have NB414_403 := n6_
                            clear n0_ n1_ n2_ n3_ n4_ n5_ n6_
                            clear hb hbox hg
                            refine hK.out _ _ ⟨(blk_cell BK403.out 0).trans rfl, (blk_cell BK403.out 1).trans rfl⟩ (fun hHeld => ?_)
                            clear hK K
                            refine norm_ (a' := ?_) ?_ ?_
                            rotate_left
                            · show Act.put _ (some 4) _ = _
                              simp only [Act.put, List.setIfInBounds_toArray, List.set_cons_zero, List.set_cons_succ, i64_w, i32_w]
                              rfl
                            exact norm_ (by first | (simp only [putAll, Act.put, List.setIfInBounds_toArray, List.set_cons_zero, List.set_cons_succ]; done) | (simp only [putAll, Act.put, List.setIfInBounds_toArray, List.set_cons_zero, List.set_cons_succ]; rfl)) (hJ7 (gb414) _ ⟨hHeld, (by (with_reducible repeat (first | refine blk_drewN ?_ _ | refine blk_drew ?_ | refine blk_alloc ?_ _)); exact BK403.out), (by (with_reducible repeat (first | refine blk_drewN ?_ _ | refine blk_drew ?_ | refine blk_alloc ?_ _)); exact BK414.out), GW414.out, GE414.out, NB403_414.out, NB414_403.out, (by repeat (first | (with_reducible first | exact HB.out | apply below_alloc | apply pw_below_drewN | apply below_drew1 | refine below_set ?_ GE403.out | refine below_set ?_ GE414.out) | exact HB.out))⟩)
                        · skip
                          rintro gb414 w15 ⟨hS_, h0_, h1_, h2_, h3_, h4_, h5_, h6_⟩
                          have n0_ : Aside0 (w15.heap[gb403]? = some (.cells #[.int .i64 a0_0, .slice A0_1 l0_1.length c0_1] 25 (0, 0))) := ⟨h0_⟩
                          have n1_ : Aside0 (w15.heap[gb414]? = some (.cells #[.int .i64 0, .slice none 0 0] 25 (0, 0))) := ⟨h1_⟩
                          have n2_ : Aside0 (w.heap.size ≤ gb414) := ⟨h2_⟩
                          have n3_ : Aside0 (w.heap.size ≤ gb414) := ⟨h3_⟩
                          have n4_ : Aside0 (gb403 ≠ gb414) := ⟨h4_⟩
                          have n5_ : Aside0 (gb414 ≠ gb403) := ⟨h5_⟩
                          have n6_ : Aside0 (Below w.heap.size w w15) := ⟨h6_⟩
                          clear BK403
                          clear HB
                          clear h0_ h1_ h2_ h3_ h4_ h5_ h6_
                          have BK403 := n0_
                          have BK414 := n1_
                          have GW414 := n2_
                          have GE414 := n3_
                          have NB403_414 := n4_
                          have NB414_403 := n5_
                          have HB := n6_
                          clear n0_ n1_ n2_ n3_ n4_ n5_ n6_
                          have hHeld : w15.cell? ⟨gb403, 0, none⟩ = some (.int .i64 a0_0) ∧ w15.cell? ⟨gb403, 1, none⟩ = some (.slice A0_1 l0_1.length c0_1) := hS_
                          refine norm_ (a' := ?_) ?_ ?_
                          rotate_left
                          · simp only [putAll, Act.put, List.setIfInBounds_toArray, List.set_cons_zero, List.set_cons_succ]
                            rfl
                          refine two_ (i := 2) (j := 6) (Ni := some 16) (Nj := some 3) #[true, true, true, true, true, false, false, true, false, false] #[true, true, false, true, true, false, true, true, false, false] rfl rfl rfl rfl (two_of HT_.out (by kernel_rfl)) (by decide) (by decide) (fun K hK => ?_) (fun K hK => ?_)
                          · skip
                            refine goes_ Try.func33 (by kernel_rfl) rfl #[.slice A0_1 l0_1.length c0_1] (by rfl) rfl rfl (by (try simp only [List.map_toArray, List.map_cons, List.map_nil]); first | done | rfl | (simp only [List.length_drop, List.length_take]; rfl)) ?_
                            with_reducible refine (reply_OK.calls _ _ l0_1 t405 t406 _ ?side1 ?side2 A8.out).mono ?_
                            (case side1 => repeat (first | exact (Kd.C_below HR0_1.out HB.out) | (with_reducible refine Kd.C_alloc ?_ _) | (with_reducible refine Kd.C_drewN ?_ _) | (with_reducible refine Kd.C_drew ?_)))
                            (case side2 => exact HC0_1.out)
                            rintro e w16 ⟨v407, rfl, ho0, hb⟩
                            refine ⟨_, rfl, ?_⟩
                            have n0_ := Aside0.mk (Kd.R_lower ho0 (below_size (by repeat (first | (with_reducible first | exact HB.out | apply below_alloc | apply pw_below_drewN | apply below_drew1 | refine below_set ?_ GE403.out | refine below_set ?_ GE414.out) | exact HB.out))))
                            have n1_ := Aside0.mk (blk_below (g := gb403) (o := .cells #[.int .i64 a0_0, .slice A0_1 l0_1.length c0_1] 25 (0, 0)) (by (with_reducible repeat (first | refine blk_drewN ?_ _ | refine blk_drew ?_ | refine blk_alloc ?_ _)); exact BK403.out) hb)
                            have n2_ := Aside0.mk (blk_below (g := gb414) (o := .cells #[.int .i64 0, .slice none 0 0] 25 (0, 0)) (by (with_reducible repeat (first | refine blk_drewN ?_ _ | refine blk_drew ?_ | refine blk_alloc ?_ _)); exact BK414.out) hb)
                            have n3_ := Aside0.mk (below_step (by repeat (first | (with_reducible first | exact HB.out | apply below_alloc | apply pw_below_drewN | apply below_drew1 | refine below_set ?_ GE403.out | refine below_set ?_ GE414.out) | exact HB.out)) hb)
                            clear BK403
                            clear BK414
                            clear HB
                            have HO408 := n0_
                            have BK403 := n1_
                            have BK414 := n2_
                            have HB := n3_
                            clear n0_ n1_ n2_ n3_
                            (try clear hb)
                            (try clear hb2)
                            (try clear hk)
                            (try clear hi)
                            (try clear ho0)
                            refine hK.out _ _ ⟨(blk_cell BK403.out 0).trans rfl, (blk_cell BK403.out 1).trans rfl⟩ (fun hHeld => ?_)
                            clear hK K
                            refine norm_ (a' := ?_) ?_ ?_
                            rotate_left
                            · show Act.put _ (some 16) _ = _
                              simp only [Act.put, List.setIfInBounds_toArray, List.set_cons_zero, List.set_cons_succ, i64_w, i32_w]
                              rfl
                            exact norm_ (by first | (simp only [putAll, Act.put, List.setIfInBounds_toArray, List.set_cons_zero, List.set_cons_succ]; done) | (simp only [putAll, Act.put, List.setIfInBounds_toArray, List.set_cons_zero, List.set_cons_succ]; rfl)) (hJ2_7 (v407, gb414) _ ⟨hHeld, (by (with_reducible repeat (first | apply Kd.R_alloc | apply Kd.R_drewN | apply Kd.R_drew)); exact HO408.out), (by (with_reducible repeat (first | refine blk_drewN ?_ _ | refine blk_drew ?_ | refine blk_alloc ?_ _)); exact BK403.out), (by (with_reducible repeat (first | refine blk_drewN ?_ _ | refine blk_drew ?_ | refine blk_alloc ?_ _)); exact BK414.out), GW414.out, GE414.out, NB403_414.out, NB414_403.out, (by repeat (first | (with_reducible first | exact HB.out | apply below_alloc | apply pw_below_drewN | apply below_drew1 | refine below_set ?_ GE403.out | refine below_set ?_ GE414.out) | exact HB.out))⟩)
                          · skip
                            refine box_step ?hg (N := 3) ?hd (cs := #[.int .i64 0, .slice none 0 0]) (t := 25) ?hr ?_; (case hd => rfl); (case hg => rfl); (case hr => first | (go_simp; done) | (go_simp; rfl))
                            intro gb413 hg w16 hbox hb
                            have n0_ := Aside0.mk (blk_below (g := gb403) (o := .cells #[.int .i64 a0_0, .slice A0_1 l0_1.length c0_1] 25 (0, 0)) (by (with_reducible repeat (first | refine blk_drewN ?_ _ | refine blk_drew ?_ | refine blk_alloc ?_ _)); exact BK403.out) hb)
                            have n1_ := Aside0.mk (blk_below (g := gb414) (o := .cells #[.int .i64 0, .slice none 0 0] 25 (0, 0)) (by (with_reducible repeat (first | refine blk_drewN ?_ _ | refine blk_drew ?_ | refine blk_alloc ?_ _)); exact BK414.out) hb)
                            have n2_ := Aside0.mk (below_step (by repeat (first | (with_reducible first | exact HB.out | apply below_alloc | apply pw_below_drewN | apply below_drew1 | refine below_set ?_ GE403.out | refine below_set ?_ GE414.out) | exact HB.out)) hb)
                            have n3_ := Aside0.mk (hbox)
                            have n4_ := Aside0.mk ((by rw [hg]; exact (below_size (by repeat (first | (with_reducible first | exact HB.out | apply below_alloc | apply pw_below_drewN | apply below_drew1 | refine below_set ?_ GE403.out | refine below_set ?_ GE414.out) | exact HB.out))) : w.heap.size ≤ gb413))
                            have n5_ := Aside0.mk ((by rw [hg]; exact (below_size (by repeat (first | (with_reducible first | exact HB.out | apply below_alloc | apply pw_below_drewN | apply below_drew1 | refine below_set ?_ GE403.out | refine below_set ?_ GE414.out) | exact HB.out))) : w.heap.size ≤ gb413))
                            have n6_ := Aside0.mk ((by rw [hg]; exact Nat.ne_of_lt (blk_lt (g := gb403) (o := .cells #[.int .i64 a0_0, .slice A0_1 l0_1.length c0_1] 25 (0, 0)) (by (with_reducible repeat (first | refine blk_drewN ?_ _ | refine blk_drew ?_ | refine blk_alloc ?_ _)); exact BK403.out)) : gb403 ≠ gb413))
                            have n7_ := Aside0.mk ((by rw [hg]; exact Nat.ne_of_gt (blk_lt (g := gb403) (o := .cells #[.int .i64 a0_0, .slice A0_1 l0_1.length c0_1] 25 (0, 0)) (by (with_reducible repeat (first | refine blk_drewN ?_ _ | refine blk_drew ?_ | refine blk_alloc ?_ _)); exact BK403.out)) : gb413 ≠ gb403))
                            have n8_ := Aside0.mk ((by rw [hg]; exact Nat.ne_of_lt (blk_lt (g := gb414) (o := .cells #[.int .i64 0, .slice none 0 0] 25 (0, 0)) (by (with_reducible repeat (first | refine blk_drewN ?_ _ | refine blk_drew ?_ | refine blk_alloc ?_ _)); exact BK414.out)) : gb414 ≠ gb413))
                            have n9_ := Aside0.mk ((by rw [hg]; exact Nat.ne_of_gt (blk_lt (g := gb414) (o := .cells #[.int .i64 0, .slice none 0 0] 25 (0, 0)) (by (with_reducible repeat (first | refine blk_drewN ?_ _ | refine blk_drew ?_ | refine blk_alloc ?_ _)); exact BK414.out)) : gb413 ≠ gb414))
                            clear BK403
                            clear BK414
                            clear HB
                            have BK403 := n0_
                            have BK414 := n1_
                            have HB := n2_
                            have BK413 := n3_
                            have GW413 := n4_
                            have GE413 := n5_
                            have NB403_413 := n6_
                            have NB413_403 := n7_
                            have NB414_413 := n8_
                            have NB413_414 := n9_
                            clear n0_ n1_ n2_ n3_ n4_ n5_ n6_ n7_ n8_ n9_
                            clear hb hbox hg
                            refine hK.out _ _ ⟨(blk_cell BK403.out 0).trans rfl, (blk_cell BK403.out 1).trans rfl⟩ (fun hHeld => ?_)
                            clear hK K
                            refine norm_ (a' := ?_) ?_ ?_
                            rotate_left
                            · show Act.put _ (some 3) _ = _
                              simp only [Act.put, List.setIfInBounds_toArray, List.set_cons_zero, List.set_cons_succ, i64_w, i32_w]
                              rfl
                            exact norm_ (by first | (simp only [putAll, Act.put, List.setIfInBounds_toArray, List.set_cons_zero, List.set_cons_succ]; done) | (simp only [putAll, Act.put, List.setIfInBounds_toArray, List.set_cons_zero, List.set_cons_succ]; rfl)) (hJ6_7 (gb413, gb414) _ ⟨hHeld, (by (with_reducible repeat (first | refine blk_drewN ?_ _ | refine blk_drew ?_ | refine blk_alloc ?_ _)); exact BK403.out), (by (with_reducible repeat (first | refine blk_drewN ?_ _ | refine blk_drew ?_ | refine blk_alloc ?_ _)); exact BK413.out), (by (with_reducible repeat (first | refine blk_drewN ?_ _ | refine blk_drew ?_ | refine blk_alloc ?_ _)); exact BK414.out), GW413.out, GE413.out, NB403_413.out, NB413_403.out, NB414_413.out, NB413_414.out, GW414.out, GE414.out, NB403_414.out, NB414_403.out, (by repeat (first | (with_reducible first | exact HB.out | apply below_alloc | apply pw_below_drewN | apply below_drew1 | refine below_set ?_ GE403.out | refine below_set ?_ GE414.out | refine below_set ?_ GE413.out) | exact HB.out))⟩)
                      · skip
                        rintro gb413 w15 ⟨hS_, h0_, h1_, h2_, h3_, h4_, h5_, h6_⟩
                        have n0_ : Aside0 (w15.heap[gb403]? = some (.cells #[.int .i64 a0_0, .slice A0_1 l0_1.length c0_1] 25 (0, 0))) := ⟨h0_⟩
                        have n1_ : Aside0 (w15.heap[gb413]? = some (.cells #[.int .i64 0, .slice none 0 0] 25 (0, 0))) := ⟨h1_⟩
                        have n2_ : Aside0 (w.heap.size ≤ gb413) := ⟨h2_⟩
                        have n3_ : Aside0 (w.heap.size ≤ gb413) := ⟨h3_⟩
                        have n4_ : Aside0 (gb403 ≠ gb413) := ⟨h4_⟩
                        have n5_ : Aside0 (gb413 ≠ gb403) := ⟨h5_⟩
                        have n6_ : Aside0 (Below w.heap.size w w15) := ⟨h6_⟩
                        clear BK403
                        clear HB
                        clear h0_ h1_ h2_ h3_ h4_ h5_ h6_
                        have BK403 := n0_
                        have BK413 := n1_
                        have GW413 := n2_
                        have GE413 := n3_
                        have NB403_413 := n4_
                        have NB413_403 := n5_
                        have HB := n6_
                        clear n0_ n1_ n2_ n3_ n4_ n5_ n6_
                        have hHeld : w15.cell? ⟨gb403, 0, none⟩ = some (.int .i64 a0_0) ∧ w15.cell? ⟨gb403, 1, none⟩ = some (.slice A0_1 l0_1.length c0_1) := hS_
                        refine norm_ (a' := ?_) ?_ ?_
                        rotate_left
                        · simp only [putAll, Act.put, List.setIfInBounds_toArray, List.set_cons_zero, List.set_cons_succ]
                          rfl
                        refine two_ (i := 2) (j := 7) (Ni := some 16) (Nj := some 4) #[true, true, true, true, true, false, true, false, false, false] #[true, true, false, true, true, false, true, true, false, false] rfl rfl rfl rfl (two_of HT_.out (by kernel_rfl)) (by decide) (by decide) (fun K hK => ?_) (fun K hK => ?_)
                        · skip
                          refine goes_ Try.func33 (by kernel_rfl) rfl #[.slice A0_1 l0_1.length c0_1] (by rfl) rfl rfl (by (try simp only [List.map_toArray, List.map_cons, List.map_nil]); first | done | rfl | (simp only [List.length_drop, List.length_take]; rfl)) ?_
                          with_reducible refine (reply_OK.calls _ _ l0_1 t405 t406 _ ?side1 ?side2 A8.out).mono ?_
                          (case side1 => repeat (first | exact (Kd.C_below HR0_1.out HB.out) | (with_reducible refine Kd.C_alloc ?_ _) | (with_reducible refine Kd.C_drewN ?_ _) | (with_reducible refine Kd.C_drew ?_)))
                          (case side2 => exact HC0_1.out)
                          rintro e w16 ⟨v407, rfl, ho0, hb⟩
                          refine ⟨_, rfl, ?_⟩
                          have n0_ := Aside0.mk (Kd.R_lower ho0 (below_size (by repeat (first | (with_reducible first | exact HB.out | apply below_alloc | apply pw_below_drewN | apply below_drew1 | refine below_set ?_ GE403.out | refine below_set ?_ GE413.out) | exact HB.out))))
                          have n1_ := Aside0.mk (blk_below (g := gb403) (o := .cells #[.int .i64 a0_0, .slice A0_1 l0_1.length c0_1] 25 (0, 0)) (by (with_reducible repeat (first | refine blk_drewN ?_ _ | refine blk_drew ?_ | refine blk_alloc ?_ _)); exact BK403.out) hb)
                          have n2_ := Aside0.mk (blk_below (g := gb413) (o := .cells #[.int .i64 0, .slice none 0 0] 25 (0, 0)) (by (with_reducible repeat (first | refine blk_drewN ?_ _ | refine blk_drew ?_ | refine blk_alloc ?_ _)); exact BK413.out) hb)
                          have n3_ := Aside0.mk (below_step (by repeat (first | (with_reducible first | exact HB.out | apply below_alloc | apply pw_below_drewN | apply below_drew1 | refine below_set ?_ GE403.out | refine below_set ?_ GE413.out) | exact HB.out)) hb)
                          clear BK403
                          clear BK413
                          clear HB
                          have HO408 := n0_
                          have BK403 := n1_
                          have BK413 := n2_
                          have HB := n3_
                          clear n0_ n1_ n2_ n3_
                          (try clear hb)
                          (try clear hb2)
                          (try clear hk)
                          (try clear hi)
                          (try clear ho0)
                          refine hK.out _ _ ⟨(blk_cell BK403.out 0).trans rfl, (blk_cell BK403.out 1).trans rfl⟩ (fun hHeld => ?_)
                          clear hK K
                          refine norm_ (a' := ?_) ?_ ?_
                          rotate_left
                          · show Act.put _ (some 16) _ = _
                            simp only [Act.put, List.setIfInBounds_toArray, List.set_cons_zero, List.set_cons_succ, i64_w, i32_w]
                            rfl
                          exact norm_ (by first | (simp only [putAll, Act.put, List.setIfInBounds_toArray, List.set_cons_zero, List.set_cons_succ]; done) | (simp only [putAll, Act.put, List.setIfInBounds_toArray, List.set_cons_zero, List.set_cons_succ]; rfl)) (hJ2_6 (v407, gb413) _ ⟨hHeld, (by (with_reducible repeat (first | apply Kd.R_alloc | apply Kd.R_drewN | apply Kd.R_drew)); exact HO408.out), (by (with_reducible repeat (first | refine blk_drewN ?_ _ | refine blk_drew ?_ | refine blk_alloc ?_ _)); exact BK403.out), (by (with_reducible repeat (first | refine blk_drewN ?_ _ | refine blk_drew ?_ | refine blk_alloc ?_ _)); exact BK413.out), GW413.out, GE413.out, NB403_413.out, NB413_403.out, (by repeat (first | (with_reducible first | exact HB.out | apply below_alloc | apply pw_below_drewN | apply below_drew1 | refine below_set ?_ GE403.out | refine below_set ?_ GE413.out) | exact HB.out))⟩)
                        · skip
                          refine box_step ?hg (N := 4) ?hd (cs := #[.int .i64 0, .slice none 0 0]) (t := 25) ?hr ?_; (case hd => rfl); (case hg => rfl); (case hr => first | (go_simp; done) | (go_simp; rfl))
                          intro gb414 hg w16 hbox hb
                          have n0_ := Aside0.mk (blk_below (g := gb403) (o := .cells #[.int .i64 a0_0, .slice A0_1 l0_1.length c0_1] 25 (0, 0)) (by (with_reducible repeat (first | refine blk_drewN ?_ _ | refine blk_drew ?_ | refine blk_alloc ?_ _)); exact BK403.out) hb)
                          have n1_ := Aside0.mk (blk_below (g := gb413) (o := .cells #[.int .i64 0, .slice none 0 0] 25 (0, 0)) (by (with_reducible repeat (first | refine blk_drewN ?_ _ | refine blk_drew ?_ | refine blk_alloc ?_ _)); exact BK413.out) hb)
                          have n2_ := Aside0.mk (below_step (by repeat (first | (with_reducible first | exact HB.out | apply below_alloc | apply pw_below_drewN | apply below_drew1 | refine below_set ?_ GE403.out | refine below_set ?_ GE413.out) | exact HB.out)) hb)
                          have n3_ := Aside0.mk (hbox)
                          have n4_ := Aside0.mk ((by rw [hg]; exact (below_size (by repeat (first | (with_reducible first | exact HB.out | apply below_alloc | apply pw_below_drewN | apply below_drew1 | refine below_set ?_ GE403.out | refine below_set ?_ GE413.out) | exact HB.out))) : w.heap.size ≤ gb414))
                          have n5_ := Aside0.mk ((by rw [hg]; exact (below_size (by repeat (first | (with_reducible first | exact HB.out | apply below_alloc | apply pw_below_drewN | apply below_drew1 | refine below_set ?_ GE403.out | refine below_set ?_ GE413.out) | exact HB.out))) : w.heap.size ≤ gb414))
                          have n6_ := Aside0.mk ((by rw [hg]; exact Nat.ne_of_lt (blk_lt (g := gb403) (o := .cells #[.int .i64 a0_0, .slice A0_1 l0_1.length c0_1] 25 (0, 0)) (by (with_reducible repeat (first | refine blk_drewN ?_ _ | refine blk_drew ?_ | refine blk_alloc ?_ _)); exact BK403.out)) : gb403 ≠ gb414))
                          have n7_ := Aside0.mk ((by rw [hg]; exact Nat.ne_of_gt (blk_lt (g := gb403) (o := .cells #[.int .i64 a0_0, .slice A0_1 l0_1.length c0_1] 25 (0, 0)) (by (with_reducible repeat (first | refine blk_drewN ?_ _ | refine blk_drew ?_ | refine blk_alloc ?_ _)); exact BK403.out)) : gb414 ≠ gb403))
                          have n8_ := Aside0.mk ((by rw [hg]; exact Nat.ne_of_lt (blk_lt (g := gb413) (o := .cells #[.int .i64 0, .slice none 0 0] 25 (0, 0)) (by (with_reducible repeat (first | refine blk_drewN ?_ _ | refine blk_drew ?_ | refine blk_alloc ?_ _)); exact BK413.out)) : gb413 ≠ gb414))
                          have n9_ := Aside0.mk ((by rw [hg]; exact Nat.ne_of_gt (blk_lt (g := gb413) (o := .cells #[.int .i64 0, .slice none 0 0] 25 (0, 0)) (by (with_reducible repeat (first | refine blk_drewN ?_ _ | refine blk_drew ?_ | refine blk_alloc ?_ _)); exact BK413.out)) : gb414 ≠ gb413))
                          clear BK403
                          clear BK413
                          clear HB
                          have BK403 := n0_
                          have BK413 := n1_
                          have HB := n2_
                          have BK414 := n3_
                          have GW414 := n4_
                          have GE414 := n5_
                          have NB403_414 := n6_
                          have NB414_403 := n7_
                          have NB413_414 := n8_
                          have NB414_413 := n9_
                          clear n0_ n1_ n2_ n3_ n4_ n5_ n6_ n7_ n8_ n9_
                          clear hb hbox hg
                          refine hK.out _ _ ⟨(blk_cell BK403.out 0).trans rfl, (blk_cell BK403.out 1).trans rfl⟩ (fun hHeld => ?_)
                          clear hK K
                          refine norm_ (a' := ?_) ?_ ?_
                          rotate_left
                          · show Act.put _ (some 4) _ = _
                            simp only [Act.put, List.setIfInBounds_toArray, List.set_cons_zero, List.set_cons_succ, i64_w, i32_w]
                            rfl
                          exact norm_ (by first | (simp only [putAll, Act.put, List.setIfInBounds_toArray, List.set_cons_zero, List.set_cons_succ]; done) | (simp only [putAll, Act.put, List.setIfInBounds_toArray, List.set_cons_zero, List.set_cons_succ]; rfl)) (hJ6_7 (gb413, gb414) _ ⟨hHeld, (by (with_reducible repeat (first | refine blk_drewN ?_ _ | refine blk_drew ?_ | refine blk_alloc ?_ _)); exact BK403.out), (by (with_reducible repeat (first | refine blk_drewN ?_ _ | refine blk_drew ?_ | refine blk_alloc ?_ _)); exact BK413.out), (by (with_reducible repeat (first | refine blk_drewN ?_ _ | refine blk_drew ?_ | refine blk_alloc ?_ _)); exact BK414.out), GW413.out, GE413.out, NB403_413.out, NB413_403.out, NB414_413.out, NB413_414.out, GW414.out, GE414.out, NB403_414.out, NB414_403.out, (by repeat (first | (with_reducible first | exact HB.out | apply below_alloc | apply pw_below_drewN | apply below_drew1 | refine below_set ?_ GE403.out | refine below_set ?_ GE413.out | refine below_set ?_ GE414.out) | exact HB.out))⟩)
                    · skip
                      rintro v407 w15 ⟨hS_, h0_, h1_, h2_⟩
                      have n0_ : Aside0 (Kd.R (Kd.int .i64) 3 w15 w.heap.size (fun _ => True) v407 t406) := ⟨h0_⟩
                      have n1_ : Aside0 (w15.heap[gb403]? = some (.cells #[.int .i64 a0_0, .slice A0_1 l0_1.length c0_1] 25 (0, 0))) := ⟨h1_⟩
                      have n2_ : Aside0 (Below w.heap.size w w15) := ⟨h2_⟩
                      clear BK403
                      clear HB
                      clear h0_ h1_ h2_
                      have HO408 := n0_
                      have BK403 := n1_
                      have HB := n2_
                      clear n0_ n1_ n2_
                      have hHeld : w15.cell? ⟨gb403, 0, none⟩ = some (.int .i64 a0_0) ∧ w15.cell? ⟨gb403, 1, none⟩ = some (.slice A0_1 l0_1.length c0_1) := hS_
                      refine norm_ (a' := ?_) ?_ ?_
                      rotate_left
                      · simp only [putAll, Act.put, List.setIfInBounds_toArray, List.set_cons_zero, List.set_cons_succ]
                        rfl
                      refine three_ (i := 5) (j := 6) (k := 7) (Ni := some 19) (Nj := some 3) (Nk := some 4) #[true, true, true, true, true, true, false, false, false, false] #[true, true, true, true, true, false, true, false, false, false] #[true, true, true, true, true, false, false, true, false, false] rfl rfl rfl rfl rfl rfl (three_of HT_.out (by kernel_rfl)) (by decide) (by decide) (by decide) (fun K hK => ?_) (fun K hK => ?_) (fun K hK => ?_)
                      · skip
                        refine goes_ Try.func34 (by kernel_rfl) rfl #[.int .i64 a0_0] (by rfl) rfl rfl (by (try simp only [List.map_toArray, List.map_cons, List.map_nil]); first | done | rfl | (simp only [List.length_drop, List.length_take]; rfl)) ?_
                        with_reducible refine (reply_Wrong.calls a0_0 t409 t410 _ A9.out).mono ?_
                        rintro e w16 ⟨v411, rfl, ho0, hb⟩
                        refine ⟨_, rfl, ?_⟩
                        have n0_ := Aside0.mk (Kd.R_elder' (by (with_reducible repeat (first | apply Kd.R_alloc | apply Kd.R_drewN | apply Kd.R_drew)); exact HO408.out) (Kd.R_base ho0) hb)
                        have n1_ := Aside0.mk (Kd.R_lower (Kd.R_new' ho0 (Kd.R_lt (by (with_reducible repeat (first | apply Kd.R_alloc | apply Kd.R_drewN | apply Kd.R_drew)); exact HO408.out))) (below_size (by repeat (first | (with_reducible first | exact HB.out | apply below_alloc | apply pw_below_drewN | apply below_drew1 | refine below_set ?_ GE403.out) | exact HB.out))))
                        have n2_ := Aside0.mk (blk_below (g := gb403) (o := .cells #[.int .i64 a0_0, .slice A0_1 l0_1.length c0_1] 25 (0, 0)) (by (with_reducible repeat (first | refine blk_drewN ?_ _ | refine blk_drew ?_ | refine blk_alloc ?_ _)); exact BK403.out) hb)
                        have n3_ := Aside0.mk (below_step (by repeat (first | (with_reducible first | exact HB.out | apply below_alloc | apply pw_below_drewN | apply below_drew1 | refine below_set ?_ GE403.out) | exact HB.out)) hb)
                        clear HO408
                        clear BK403
                        clear HB
                        have HO408 := n0_
                        have HO412 := n1_
                        have BK403 := n2_
                        have HB := n3_
                        clear n0_ n1_ n2_ n3_
                        (try clear hb)
                        (try clear hb2)
                        (try clear hk)
                        (try clear hi)
                        (try clear ho0)
                        refine hK.out _ _ ⟨(blk_cell BK403.out 0).trans rfl, (blk_cell BK403.out 1).trans rfl⟩ (fun hHeld => ?_)
                        clear hK K
                        refine norm_ (a' := ?_) ?_ ?_
                        rotate_left
                        · show Act.put _ (some 19) _ = _
                          simp only [Act.put, List.setIfInBounds_toArray, List.set_cons_zero, List.set_cons_succ, i64_w, i32_w]
                          rfl
                        exact norm_ (by first | (simp only [putAll, Act.put, List.setIfInBounds_toArray, List.set_cons_zero, List.set_cons_succ]; done) | (simp only [putAll, Act.put, List.setIfInBounds_toArray, List.set_cons_zero, List.set_cons_succ]; rfl)) (hJ2_5 (v407, v411) _ ⟨hHeld, (by (with_reducible repeat (first | apply Kd.R_alloc | apply Kd.R_drewN | apply Kd.R_drew)); exact Kd.R_mono HO408.out (fun _ hk => hk.2)), (by (with_reducible repeat (first | apply Kd.R_alloc | apply Kd.R_drewN | apply Kd.R_drew)); exact Kd.R_mono HO412.out (fun _ hk => hk.2)), (by (with_reducible repeat (first | refine blk_drewN ?_ _ | refine blk_drew ?_ | refine blk_alloc ?_ _)); exact BK403.out), (by repeat (first | (with_reducible first | exact HB.out | apply below_alloc | apply pw_below_drewN | apply below_drew1 | refine below_set ?_ GE403.out) | exact HB.out))⟩)
                      · skip
                        refine box_step ?hg (N := 3) ?hd (cs := #[.int .i64 0, .slice none 0 0]) (t := 25) ?hr ?_; (case hd => rfl); (case hg => rfl); (case hr => first | (go_simp; done) | (go_simp; rfl))
                        intro gb413 hg w16 hbox hb
                        have n0_ := Aside0.mk (Kd.R_below (by (with_reducible repeat (first | apply Kd.R_alloc | apply Kd.R_drewN | apply Kd.R_drew)); exact HO408.out) hb)
                        have n1_ := Aside0.mk (blk_below (g := gb403) (o := .cells #[.int .i64 a0_0, .slice A0_1 l0_1.length c0_1] 25 (0, 0)) (by (with_reducible repeat (first | refine blk_drewN ?_ _ | refine blk_drew ?_ | refine blk_alloc ?_ _)); exact BK403.out) hb)
                        have n2_ := Aside0.mk (below_step (by repeat (first | (with_reducible first | exact HB.out | apply below_alloc | apply pw_below_drewN | apply below_drew1 | refine below_set ?_ GE403.out) | exact HB.out)) hb)
                        have n3_ := Aside0.mk (hbox)
                        have n4_ := Aside0.mk ((by rw [hg]; exact (below_size (by repeat (first | (with_reducible first | exact HB.out | apply below_alloc | apply pw_below_drewN | apply below_drew1 | refine below_set ?_ GE403.out) | exact HB.out))) : w.heap.size ≤ gb413))
                        have n5_ := Aside0.mk ((by rw [hg]; exact (below_size (by repeat (first | (with_reducible first | exact HB.out | apply below_alloc | apply pw_below_drewN | apply below_drew1 | refine below_set ?_ GE403.out) | exact HB.out))) : w.heap.size ≤ gb413))
                        have n6_ := Aside0.mk ((by rw [hg]; exact Nat.ne_of_lt (blk_lt (g := gb403) (o := .cells #[.int .i64 a0_0, .slice A0_1 l0_1.length c0_1] 25 (0, 0)) (by (with_reducible repeat (first | refine blk_drewN ?_ _ | refine blk_drew ?_ | refine blk_alloc ?_ _)); exact BK403.out)) : gb403 ≠ gb413))
                        have n7_ := Aside0.mk ((by rw [hg]; exact Nat.ne_of_gt (blk_lt (g := gb403) (o := .cells #[.int .i64 a0_0, .slice A0_1 l0_1.length c0_1] 25 (0, 0)) (by (with_reducible repeat (first | refine blk_drewN ?_ _ | refine blk_drew ?_ | refine blk_alloc ?_ _)); exact BK403.out)) : gb413 ≠ gb403))
                        clear HO408
                        clear BK403
                        clear HB
                        have HO408 := n0_
                        have BK403 := n1_
                        have HB := n2_
                        have BK413 := n3_
                        have GW413 := n4_
                        have GE413 := n5_
                        have NB403_413 := n6_
                        have NB413_403 := n7_
                        clear n0_ n1_ n2_ n3_ n4_ n5_ n6_ n7_
                        clear hb hbox hg
                        refine hK.out _ _ ⟨(blk_cell BK403.out 0).trans rfl, (blk_cell BK403.out 1).trans rfl⟩ (fun hHeld => ?_)
                        clear hK K
                        refine norm_ (a' := ?_) ?_ ?_
                        rotate_left
                        · show Act.put _ (some 3) _ = _
                          simp only [Act.put, List.setIfInBounds_toArray, List.set_cons_zero, List.set_cons_succ, i64_w, i32_w]
                          rfl
                        exact norm_ (by first | (simp only [putAll, Act.put, List.setIfInBounds_toArray, List.set_cons_zero, List.set_cons_succ]; done) | (simp only [putAll, Act.put, List.setIfInBounds_toArray, List.set_cons_zero, List.set_cons_succ]; rfl)) (hJ2_6 (v407, gb413) _ ⟨hHeld, (by (with_reducible repeat (first | apply Kd.R_alloc | apply Kd.R_drewN | apply Kd.R_drew)); exact HO408.out), (by (with_reducible repeat (first | refine blk_drewN ?_ _ | refine blk_drew ?_ | refine blk_alloc ?_ _)); exact BK403.out), (by (with_reducible repeat (first | refine blk_drewN ?_ _ | refine blk_drew ?_ | refine blk_alloc ?_ _)); exact BK413.out), GW413.out, GE413.out, NB403_413.out, NB413_403.out, (by repeat (first | (with_reducible first | exact HB.out | apply below_alloc | apply pw_below_drewN | apply below_drew1 | refine below_set ?_ GE403.out | refine below_set ?_ GE413.out) | exact HB.out))⟩)
                      · skip
                        refine box_step ?hg (N := 4) ?hd (cs := #[.int .i64 0, .slice none 0 0]) (t := 25) ?hr ?_; (case hd => rfl); (case hg => rfl); (case hr => first | (go_simp; done) | (go_simp; rfl))
                        intro gb414 hg w16 hbox hb
                        have n0_ := Aside0.mk (Kd.R_below (by (with_reducible repeat (first | apply Kd.R_alloc | apply Kd.R_drewN | apply Kd.R_drew)); exact HO408.out) hb)
                        have n1_ := Aside0.mk (blk_below (g := gb403) (o := .cells #[.int .i64 a0_0, .slice A0_1 l0_1.length c0_1] 25 (0, 0)) (by (with_reducible repeat (first | refine blk_drewN ?_ _ | refine blk_drew ?_ | refine blk_alloc ?_ _)); exact BK403.out) hb)
                        have n2_ := Aside0.mk (below_step (by repeat (first | (with_reducible first | exact HB.out | apply below_alloc | apply pw_below_drewN | apply below_drew1 | refine below_set ?_ GE403.out) | exact HB.out)) hb)
                        have n3_ := Aside0.mk (hbox)
                        have n4_ := Aside0.mk ((by rw [hg]; exact (below_size (by repeat (first | (with_reducible first | exact HB.out | apply below_alloc | apply pw_below_drewN | apply below_drew1 | refine below_set ?_ GE403.out) | exact HB.out))) : w.heap.size ≤ gb414))
                        have n5_ := Aside0.mk ((by rw [hg]; exact (below_size (by repeat (first | (with_reducible first | exact HB.out | apply below_alloc | apply pw_below_drewN | apply below_drew1 | refine below_set ?_ GE403.out) | exact HB.out))) : w.heap.size ≤ gb414))
                        have n6_ := Aside0.mk ((by rw [hg]; exact Nat.ne_of_lt (blk_lt (g := gb403) (o := .cells #[.int .i64 a0_0, .slice A0_1 l0_1.length c0_1] 25 (0, 0)) (by (with_reducible repeat (first | refine blk_drewN ?_ _ | refine blk_drew ?_ | refine blk_alloc ?_ _)); exact BK403.out)) : gb403 ≠ gb414))
                        have n7_ := Aside0.mk ((by rw [hg]; exact Nat.ne_of_gt (blk_lt (g := gb403) (o := .cells #[.int .i64 a0_0, .slice A0_1 l0_1.length c0_1] 25 (0, 0)) (by (with_reducible repeat (first | refine blk_drewN ?_ _ | refine blk_drew ?_ | refine blk_alloc ?_ _)); exact BK403.out)) : gb414 ≠ gb403))
                        clear HO408
                        clear BK403
                        clear HB
                        have HO408 := n0_
                        have BK403 := n1_
                        have HB := n2_
                        have BK414 := n3_
                        have GW414 := n4_
                        have GE414 := n5_
                        have NB403_414 := n6_
                        have NB414_403 := n7_
                        clear n0_ n1_ n2_ n3_ n4_ n5_ n6_ n7_
                        clear hb hbox hg
                        refine hK.out _ _ ⟨(blk_cell BK403.out 0).trans rfl, (blk_cell BK403.out 1).trans rfl⟩ (fun hHeld => ?_)
                        clear hK K
                        refine norm_ (a' := ?_) ?_ ?_
                        rotate_left
                        · show Act.put _ (some 4) _ = _
                          simp only [Act.put, List.setIfInBounds_toArray, List.set_cons_zero, List.set_cons_succ, i64_w, i32_w]
                          rfl
                        exact norm_ (by first | (simp only [putAll, Act.put, List.setIfInBounds_toArray, List.set_cons_zero, List.set_cons_succ]; done) | (simp only [putAll, Act.put, List.setIfInBounds_toArray, List.set_cons_zero, List.set_cons_succ]; rfl)) (hJ2_7 (v407, gb414) _ ⟨hHeld, (by (with_reducible repeat (first | apply Kd.R_alloc | apply Kd.R_drewN | apply Kd.R_drew)); exact HO408.out), (by (with_reducible repeat (first | refine blk_drewN ?_ _ | refine blk_drew ?_ | refine blk_alloc ?_ _)); exact BK403.out), (by (with_reducible repeat (first | refine blk_drewN ?_ _ | refine blk_drew ?_ | refine blk_alloc ?_ _)); exact BK414.out), GW414.out, GE414.out, NB403_414.out, NB414_403.out, (by repeat (first | (with_reducible first | exact HB.out | apply below_alloc | apply pw_below_drewN | apply below_drew1 | refine below_set ?_ GE403.out | refine below_set ?_ GE414.out) | exact HB.out))⟩)
                  · skip
                    rintro ⟨gb413, gb414⟩ w16 ⟨hS_, h0_, h1_, h2_, h3_, h4_, h5_, h6_, h7_, h8_, h9_, h10_, h11_, h12_, h13_⟩
                    have n0_ : Aside0 (w16.heap[gb403]? = some (.cells #[.int .i64 a0_0, .slice A0_1 l0_1.length c0_1] 25 (0, 0))) := ⟨h0_⟩
                    have n1_ : Aside0 (w16.heap[gb413]? = some (.cells #[.int .i64 0, .slice none 0 0] 25 (0, 0))) := ⟨h1_⟩
                    have n2_ : Aside0 (w16.heap[gb414]? = some (.cells #[.int .i64 0, .slice none 0 0] 25 (0, 0))) := ⟨h2_⟩
                    have n3_ : Aside0 (w.heap.size ≤ gb413) := ⟨h3_⟩
                    have n4_ : Aside0 (w.heap.size ≤ gb413) := ⟨h4_⟩
                    have n5_ : Aside0 (gb403 ≠ gb413) := ⟨h5_⟩
                    have n6_ : Aside0 (gb413 ≠ gb403) := ⟨h6_⟩
                    have n7_ : Aside0 (gb414 ≠ gb413) := ⟨h7_⟩
                    have n8_ : Aside0 (gb413 ≠ gb414) := ⟨h8_⟩
                    have n9_ : Aside0 (w.heap.size ≤ gb414) := ⟨h9_⟩
                    have n10_ : Aside0 (w.heap.size ≤ gb414) := ⟨h10_⟩
                    have n11_ : Aside0 (gb403 ≠ gb414) := ⟨h11_⟩
                    have n12_ : Aside0 (gb414 ≠ gb403) := ⟨h12_⟩
                    have n13_ : Aside0 (Below w.heap.size w w16) := ⟨h13_⟩
                    clear BK403
                    clear HB
                    clear h0_ h1_ h2_ h3_ h4_ h5_ h6_ h7_ h8_ h9_ h10_ h11_ h12_ h13_
                    have BK403 := n0_
                    have BK413 := n1_
                    have BK414 := n2_
                    have GW413 := n3_
                    have GE413 := n4_
                    have NB403_413 := n5_
                    have NB413_403 := n6_
                    have NB414_413 := n7_
                    have NB413_414 := n8_
                    have GW414 := n9_
                    have GE414 := n10_
                    have NB403_414 := n11_
                    have NB414_403 := n12_
                    have HB := n13_
                    clear n0_ n1_ n2_ n3_ n4_ n5_ n6_ n7_ n8_ n9_ n10_ n11_ n12_ n13_
                    have hHeld : w16.cell? ⟨gb403, 0, none⟩ = some (.int .i64 a0_0) ∧ w16.cell? ⟨gb403, 1, none⟩ = some (.slice A0_1 l0_1.length c0_1) := hS_
                    refine norm_ (a' := ?_) ?_ ?_
                    rotate_left
                    · simp only [putAll, Act.put, List.setIfInBounds_toArray, List.set_cons_zero, List.set_cons_succ]
                      rfl
                    refine one_ (i := 2) (N := some 16) #[true, true, true, true, true, false, true, true, false, false] rfl rfl (one_of HT_.out (by kernel_rfl)) (by decide) (fun K hK => ?_)
                    refine goes_ Try.func33 (by kernel_rfl) rfl #[.slice A0_1 l0_1.length c0_1] (by rfl) rfl rfl (by (try simp only [List.map_toArray, List.map_cons, List.map_nil]); first | done | rfl | (simp only [List.length_drop, List.length_take]; rfl)) ?_
                    with_reducible refine (reply_OK.calls _ _ l0_1 t405 t406 _ ?side1 ?side2 A8.out).mono ?_
                    (case side1 => repeat (first | exact (Kd.C_below HR0_1.out HB.out) | (with_reducible refine Kd.C_alloc ?_ _) | (with_reducible refine Kd.C_drewN ?_ _) | (with_reducible refine Kd.C_drew ?_)))
                    (case side2 => exact HC0_1.out)
                    rintro e w17 ⟨v407, rfl, ho0, hb⟩
                    refine ⟨_, rfl, ?_⟩
                    have n0_ := Aside0.mk (Kd.R_lower ho0 (below_size (by repeat (first | (with_reducible first | exact HB.out | apply below_alloc | apply pw_below_drewN | apply below_drew1 | refine below_set ?_ GE403.out | refine below_set ?_ GE413.out | refine below_set ?_ GE414.out) | exact HB.out))))
                    have n1_ := Aside0.mk (blk_below (g := gb403) (o := .cells #[.int .i64 a0_0, .slice A0_1 l0_1.length c0_1] 25 (0, 0)) (by (with_reducible repeat (first | refine blk_drewN ?_ _ | refine blk_drew ?_ | refine blk_alloc ?_ _)); exact BK403.out) hb)
                    have n2_ := Aside0.mk (blk_below (g := gb413) (o := .cells #[.int .i64 0, .slice none 0 0] 25 (0, 0)) (by (with_reducible repeat (first | refine blk_drewN ?_ _ | refine blk_drew ?_ | refine blk_alloc ?_ _)); exact BK413.out) hb)
                    have n3_ := Aside0.mk (blk_below (g := gb414) (o := .cells #[.int .i64 0, .slice none 0 0] 25 (0, 0)) (by (with_reducible repeat (first | refine blk_drewN ?_ _ | refine blk_drew ?_ | refine blk_alloc ?_ _)); exact BK414.out) hb)
                    have n4_ := Aside0.mk (below_step (by repeat (first | (with_reducible first | exact HB.out | apply below_alloc | apply pw_below_drewN | apply below_drew1 | refine below_set ?_ GE403.out | refine below_set ?_ GE413.out | refine below_set ?_ GE414.out) | exact HB.out)) hb)
                    clear BK403
                    clear BK413
                    clear BK414
                    clear HB
                    have HO408 := n0_
                    have BK403 := n1_
                    have BK413 := n2_
                    have BK414 := n3_
                    have HB := n4_
                    clear n0_ n1_ n2_ n3_ n4_
                    (try clear hb)
                    (try clear hb2)
                    (try clear hk)
                    (try clear hi)
                    (try clear ho0)
                    refine hK.out _ _ ⟨(blk_cell BK403.out 0).trans rfl, (blk_cell BK403.out 1).trans rfl⟩ (fun hHeld => ?_)
                    clear hK K
                    refine norm_ (a' := ?_) ?_ ?_
                    rotate_left
                    · show Act.put _ (some 16) _ = _
                      simp only [Act.put, List.setIfInBounds_toArray, List.set_cons_zero, List.set_cons_succ, i64_w, i32_w]
                      rfl
                    exact norm_ (by first | (simp only [putAll, Act.put, List.setIfInBounds_toArray, List.set_cons_zero, List.set_cons_succ]; done) | (simp only [putAll, Act.put, List.setIfInBounds_toArray, List.set_cons_zero, List.set_cons_succ]; rfl)) (hJ2_6_7 (v407, gb413, gb414) _ ⟨hHeld, (by (with_reducible repeat (first | apply Kd.R_alloc | apply Kd.R_drewN | apply Kd.R_drew)); exact HO408.out), (by (with_reducible repeat (first | refine blk_drewN ?_ _ | refine blk_drew ?_ | refine blk_alloc ?_ _)); exact BK403.out), (by (with_reducible repeat (first | refine blk_drewN ?_ _ | refine blk_drew ?_ | refine blk_alloc ?_ _)); exact BK413.out), (by (with_reducible repeat (first | refine blk_drewN ?_ _ | refine blk_drew ?_ | refine blk_alloc ?_ _)); exact BK414.out), GW413.out, GE413.out, NB403_413.out, NB413_403.out, NB414_413.out, NB413_414.out, GW414.out, GE414.out, NB403_414.out, NB414_403.out, (by repeat (first | (with_reducible first | exact HB.out | apply below_alloc | apply pw_below_drewN | apply below_drew1 | refine below_set ?_ GE403.out | refine below_set ?_ GE413.out | refine below_set ?_ GE414.out) | exact HB.out))⟩)
                · skip
                  rintro ⟨v407, gb414⟩ w16 ⟨hS_, h0_, h1_, h2_, h3_, h4_, h5_, h6_, h7_⟩
                  have n0_ : Aside0 (Kd.R (Kd.int .i64) 3 w16 w.heap.size (fun _ => True) v407 t406) := ⟨h0_⟩
                  have n1_ : Aside0 (w16.heap[gb403]? = some (.cells #[.int .i64 a0_0, .slice A0_1 l0_1.length c0_1] 25 (0, 0))) := ⟨h1_⟩
                  have n2_ : Aside0 (w16.heap[gb414]? = some (.cells #[.int .i64 0, .slice none 0 0] 25 (0, 0))) := ⟨h2_⟩
                  have n3_ : Aside0 (w.heap.size ≤ gb414) := ⟨h3_⟩
                  have n4_ : Aside0 (w.heap.size ≤ gb414) := ⟨h4_⟩
                  have n5_ : Aside0 (gb403 ≠ gb414) := ⟨h5_⟩
                  have n6_ : Aside0 (gb414 ≠ gb403) := ⟨h6_⟩
                  have n7_ : Aside0 (Below w.heap.size w w16) := ⟨h7_⟩
                  clear BK403
                  clear HB
                  clear h0_ h1_ h2_ h3_ h4_ h5_ h6_ h7_
                  have HO408 := n0_
                  have BK403 := n1_
                  have BK414 := n2_
                  have GW414 := n3_
                  have GE414 := n4_
                  have NB403_414 := n5_
                  have NB414_403 := n6_
                  have HB := n7_
                  clear n0_ n1_ n2_ n3_ n4_ n5_ n6_ n7_
                  have hHeld : w16.cell? ⟨gb403, 0, none⟩ = some (.int .i64 a0_0) ∧ w16.cell? ⟨gb403, 1, none⟩ = some (.slice A0_1 l0_1.length c0_1) := hS_
                  refine norm_ (a' := ?_) ?_ ?_
                  rotate_left
                  · simp only [putAll, Act.put, List.setIfInBounds_toArray, List.set_cons_zero, List.set_cons_succ]
                    rfl
                  refine two_ (i := 5) (j := 6) (Ni := some 19) (Nj := some 3) #[true, true, true, true, true, true, false, true, false, false] #[true, true, true, true, true, false, true, true, false, false] rfl rfl rfl rfl (two_of HT_.out (by kernel_rfl)) (by decide) (by decide) (fun K hK => ?_) (fun K hK => ?_)
                  · skip
                    refine goes_ Try.func34 (by kernel_rfl) rfl #[.int .i64 a0_0] (by rfl) rfl rfl (by (try simp only [List.map_toArray, List.map_cons, List.map_nil]); first | done | rfl | (simp only [List.length_drop, List.length_take]; rfl)) ?_
                    with_reducible refine (reply_Wrong.calls a0_0 t409 t410 _ A9.out).mono ?_
                    rintro e w17 ⟨v411, rfl, ho0, hb⟩
                    refine ⟨_, rfl, ?_⟩
                    have n0_ := Aside0.mk (Kd.R_elder' (by (with_reducible repeat (first | apply Kd.R_alloc | apply Kd.R_drewN | apply Kd.R_drew)); exact HO408.out) (Kd.R_base ho0) hb)
                    have n1_ := Aside0.mk (Kd.R_lower (Kd.R_new' ho0 (Kd.R_lt (by (with_reducible repeat (first | apply Kd.R_alloc | apply Kd.R_drewN | apply Kd.R_drew)); exact HO408.out))) (below_size (by repeat (first | (with_reducible first | exact HB.out | apply below_alloc | apply pw_below_drewN | apply below_drew1 | refine below_set ?_ GE403.out | refine below_set ?_ GE414.out) | exact HB.out))))
                    have n2_ := Aside0.mk (blk_below (g := gb403) (o := .cells #[.int .i64 a0_0, .slice A0_1 l0_1.length c0_1] 25 (0, 0)) (by (with_reducible repeat (first | refine blk_drewN ?_ _ | refine blk_drew ?_ | refine blk_alloc ?_ _)); exact BK403.out) hb)
                    have n3_ := Aside0.mk (blk_below (g := gb414) (o := .cells #[.int .i64 0, .slice none 0 0] 25 (0, 0)) (by (with_reducible repeat (first | refine blk_drewN ?_ _ | refine blk_drew ?_ | refine blk_alloc ?_ _)); exact BK414.out) hb)
                    have n4_ := Aside0.mk (below_step (by repeat (first | (with_reducible first | exact HB.out | apply below_alloc | apply pw_below_drewN | apply below_drew1 | refine below_set ?_ GE403.out | refine below_set ?_ GE414.out) | exact HB.out)) hb)
                    clear HO408
                    clear BK403
                    clear BK414
                    clear HB
                    have HO408 := n0_
                    have HO412 := n1_
                    have BK403 := n2_
                    have BK414 := n3_
                    have HB := n4_
                    clear n0_ n1_ n2_ n3_ n4_
                    (try clear hb)
                    (try clear hb2)
                    (try clear hk)
                    (try clear hi)
                    (try clear ho0)
                    refine hK.out _ _ ⟨(blk_cell BK403.out 0).trans rfl, (blk_cell BK403.out 1).trans rfl⟩ (fun hHeld => ?_)
                    clear hK K
                    refine norm_ (a' := ?_) ?_ ?_
                    rotate_left
                    · show Act.put _ (some 19) _ = _
                      simp only [Act.put, List.setIfInBounds_toArray, List.set_cons_zero, List.set_cons_succ, i64_w, i32_w]
                      rfl
                    exact norm_ (by first | (simp only [putAll, Act.put, List.setIfInBounds_toArray, List.set_cons_zero, List.set_cons_succ]; done) | (simp only [putAll, Act.put, List.setIfInBounds_toArray, List.set_cons_zero, List.set_cons_succ]; rfl)) (hJ2_5_7 (v407, v411, gb414) _ ⟨hHeld, (by (with_reducible repeat (first | apply Kd.R_alloc | apply Kd.R_drewN | apply Kd.R_drew)); exact Kd.R_mono HO408.out (fun _ hk => hk.2)), (by (with_reducible repeat (first | apply Kd.R_alloc | apply Kd.R_drewN | apply Kd.R_drew)); exact Kd.R_mono HO412.out (fun _ hk => hk.2)), (by (with_reducible repeat (first | refine blk_drewN ?_ _ | refine blk_drew ?_ | refine blk_alloc ?_ _)); exact BK403.out), (by (with_reducible repeat (first | refine blk_drewN ?_ _ | refine blk_drew ?_ | refine blk_alloc ?_ _)); exact BK414.out), GW414.out, GE414.out, NB403_414.out, NB414_403.out, (by repeat (first | (with_reducible first | exact HB.out | apply below_alloc | apply pw_below_drewN | apply below_drew1 | refine below_set ?_ GE403.out | refine below_set ?_ GE414.out) | exact HB.out))⟩)
                  · skip
                    refine box_step ?hg (N := 3) ?hd (cs := #[.int .i64 0, .slice none 0 0]) (t := 25) ?hr ?_; (case hd => rfl); (case hg => rfl); (case hr => first | (go_simp; done) | (go_simp; rfl))
                    intro gb413 hg w17 hbox hb
                    have n0_ := Aside0.mk (Kd.R_below (by (with_reducible repeat (first | apply Kd.R_alloc | apply Kd.R_drewN | apply Kd.R_drew)); exact HO408.out) hb)
                    have n1_ := Aside0.mk (blk_below (g := gb403) (o := .cells #[.int .i64 a0_0, .slice A0_1 l0_1.length c0_1] 25 (0, 0)) (by (with_reducible repeat (first | refine blk_drewN ?_ _ | refine blk_drew ?_ | refine blk_alloc ?_ _)); exact BK403.out) hb)
                    have n2_ := Aside0.mk (blk_below (g := gb414) (o := .cells #[.int .i64 0, .slice none 0 0] 25 (0, 0)) (by (with_reducible repeat (first | refine blk_drewN ?_ _ | refine blk_drew ?_ | refine blk_alloc ?_ _)); exact BK414.out) hb)
                    have n3_ := Aside0.mk (below_step (by repeat (first | (with_reducible first | exact HB.out | apply below_alloc | apply pw_below_drewN | apply below_drew1 | refine below_set ?_ GE403.out | refine below_set ?_ GE414.out) | exact HB.out)) hb)
                    have n4_ := Aside0.mk (hbox)
                    have n5_ := Aside0.mk ((by rw [hg]; exact (below_size (by repeat (first | (with_reducible first | exact HB.out | apply below_alloc | apply pw_below_drewN | apply below_drew1 | refine below_set ?_ GE403.out | refine below_set ?_ GE414.out) | exact HB.out))) : w.heap.size ≤ gb413))
                    have n6_ := Aside0.mk ((by rw [hg]; exact (below_size (by repeat (first | (with_reducible first | exact HB.out | apply below_alloc | apply pw_below_drewN | apply below_drew1 | refine below_set ?_ GE403.out | refine below_set ?_ GE414.out) | exact HB.out))) : w.heap.size ≤ gb413))
                    have n7_ := Aside0.mk ((by rw [hg]; exact Nat.ne_of_lt (blk_lt (g := gb403) (o := .cells #[.int .i64 a0_0, .slice A0_1 l0_1.length c0_1] 25 (0, 0)) (by (with_reducible repeat (first | refine blk_drewN ?_ _ | refine blk_drew ?_ | refine blk_alloc ?_ _)); exact BK403.out)) : gb403 ≠ gb413))
                    have n8_ := Aside0.mk ((by rw [hg]; exact Nat.ne_of_gt (blk_lt (g := gb403) (o := .cells #[.int .i64 a0_0, .slice A0_1 l0_1.length c0_1] 25 (0, 0)) (by (with_reducible repeat (first | refine blk_drewN ?_ _ | refine blk_drew ?_ | refine blk_alloc ?_ _)); exact BK403.out)) : gb413 ≠ gb403))
                    have n9_ := Aside0.mk ((by rw [hg]; exact Nat.ne_of_lt (blk_lt (g := gb414) (o := .cells #[.int .i64 0, .slice none 0 0] 25 (0, 0)) (by (with_reducible repeat (first | refine blk_drewN ?_ _ | refine blk_drew ?_ | refine blk_alloc ?_ _)); exact BK414.out)) : gb414 ≠ gb413))
                    have n10_ := Aside0.mk ((by rw [hg]; exact Nat.ne_of_gt (blk_lt (g := gb414) (o := .cells #[.int .i64 0, .slice none 0 0] 25 (0, 0)) (by (with_reducible repeat (first | refine blk_drewN ?_ _ | refine blk_drew ?_ | refine blk_alloc ?_ _)); exact BK414.out)) : gb413 ≠ gb414))
                    clear HO408
                    clear BK403
                    clear BK414
                    clear HB
                    have HO408 := n0_
                    have BK403 := n1_
                    have BK414 := n2_
                    have HB := n3_
                    have BK413 := n4_
                    have GW413 := n5_
                    have GE413 := n6_
                    have NB403_413 := n7_
                    have NB413_403 := n8_
                    have NB414_413 := n9_
                    have NB413_414 := n10_
                    clear n0_ n1_ n2_ n3_ n4_ n5_ n6_ n7_ n8_ n9_ n10_
                    clear hb hbox hg
                    refine hK.out _ _ ⟨(blk_cell BK403.out 0).trans rfl, (blk_cell BK403.out 1).trans rfl⟩ (fun hHeld => ?_)
                    clear hK K
                    refine norm_ (a' := ?_) ?_ ?_
                    rotate_left
                    · show Act.put _ (some 3) _ = _
                      simp only [Act.put, List.setIfInBounds_toArray, List.set_cons_zero, List.set_cons_succ, i64_w, i32_w]
                      rfl
                    exact norm_ (by first | (simp only [putAll, Act.put, List.setIfInBounds_toArray, List.set_cons_zero, List.set_cons_succ]; done) | (simp only [putAll, Act.put, List.setIfInBounds_toArray, List.set_cons_zero, List.set_cons_succ]; rfl)) (hJ2_6_7 (v407, gb413, gb414) _ ⟨hHeld, (by (with_reducible repeat (first | apply Kd.R_alloc | apply Kd.R_drewN | apply Kd.R_drew)); exact HO408.out), (by (with_reducible repeat (first | refine blk_drewN ?_ _ | refine blk_drew ?_ | refine blk_alloc ?_ _)); exact BK403.out), (by (with_reducible repeat (first | refine blk_drewN ?_ _ | refine blk_drew ?_ | refine blk_alloc ?_ _)); exact BK413.out), (by (with_reducible repeat (first | refine blk_drewN ?_ _ | refine blk_drew ?_ | refine blk_alloc ?_ _)); exact BK414.out), GW413.out, GE413.out, NB403_413.out, NB413_403.out, NB414_413.out, NB413_414.out, GW414.out, GE414.out, NB403_414.out, NB414_403.out, (by repeat (first | (with_reducible first | exact HB.out | apply below_alloc | apply pw_below_drewN | apply below_drew1 | refine below_set ?_ GE403.out | refine below_set ?_ GE414.out | refine below_set ?_ GE413.out) | exact HB.out))⟩)
              · skip
                rintro ⟨v407, gb413⟩ w16 ⟨hS_, h0_, h1_, h2_, h3_, h4_, h5_, h6_, h7_⟩
                have n0_ : Aside0 (Kd.R (Kd.int .i64) 3 w16 w.heap.size (fun _ => True) v407 t406) := ⟨h0_⟩
                have n1_ : Aside0 (w16.heap[gb403]? = some (.cells #[.int .i64 a0_0, .slice A0_1 l0_1.length c0_1] 25 (0, 0))) := ⟨h1_⟩
                have n2_ : Aside0 (w16.heap[gb413]? = some (.cells #[.int .i64 0, .slice none 0 0] 25 (0, 0))) := ⟨h2_⟩
                have n3_ : Aside0 (w.heap.size ≤ gb413) := ⟨h3_⟩
                have n4_ : Aside0 (w.heap.size ≤ gb413) := ⟨h4_⟩
                have n5_ : Aside0 (gb403 ≠ gb413) := ⟨h5_⟩
                have n6_ : Aside0 (gb413 ≠ gb403) := ⟨h6_⟩
                have n7_ : Aside0 (Below w.heap.size w w16) := ⟨h7_⟩
                clear BK403
                clear HB
                clear h0_ h1_ h2_ h3_ h4_ h5_ h6_ h7_
                have HO408 := n0_
                have BK403 := n1_
                have BK413 := n2_
                have GW413 := n3_
                have GE413 := n4_
                have NB403_413 := n5_
                have NB413_403 := n6_
                have HB := n7_
                clear n0_ n1_ n2_ n3_ n4_ n5_ n6_ n7_
                have hHeld : w16.cell? ⟨gb403, 0, none⟩ = some (.int .i64 a0_0) ∧ w16.cell? ⟨gb403, 1, none⟩ = some (.slice A0_1 l0_1.length c0_1) := hS_
                refine norm_ (a' := ?_) ?_ ?_
                rotate_left
                · simp only [putAll, Act.put, List.setIfInBounds_toArray, List.set_cons_zero, List.set_cons_succ]
                  rfl
                refine two_ (i := 5) (j := 7) (Ni := some 19) (Nj := some 4) #[true, true, true, true, true, true, true, false, false, false] #[true, true, true, true, true, false, true, true, false, false] rfl rfl rfl rfl (two_of HT_.out (by kernel_rfl)) (by decide) (by decide) (fun K hK => ?_) (fun K hK => ?_)
                · skip
                  refine goes_ Try.func34 (by kernel_rfl) rfl #[.int .i64 a0_0] (by rfl) rfl rfl (by (try simp only [List.map_toArray, List.map_cons, List.map_nil]); first | done | rfl | (simp only [List.length_drop, List.length_take]; rfl)) ?_
                  with_reducible refine (reply_Wrong.calls a0_0 t409 t410 _ A9.out).mono ?_
                  rintro e w17 ⟨v411, rfl, ho0, hb⟩
                  refine ⟨_, rfl, ?_⟩
                  have n0_ := Aside0.mk (Kd.R_elder' (by (with_reducible repeat (first | apply Kd.R_alloc | apply Kd.R_drewN | apply Kd.R_drew)); exact HO408.out) (Kd.R_base ho0) hb)
                  have n1_ := Aside0.mk (Kd.R_lower (Kd.R_new' ho0 (Kd.R_lt (by (with_reducible repeat (first | apply Kd.R_alloc | apply Kd.R_drewN | apply Kd.R_drew)); exact HO408.out))) (below_size (by repeat (first | (with_reducible first | exact HB.out | apply below_alloc | apply pw_below_drewN | apply below_drew1 | refine below_set ?_ GE403.out | refine below_set ?_ GE413.out) | exact HB.out))))
                  have n2_ := Aside0.mk (blk_below (g := gb403) (o := .cells #[.int .i64 a0_0, .slice A0_1 l0_1.length c0_1] 25 (0, 0)) (by (with_reducible repeat (first | refine blk_drewN ?_ _ | refine blk_drew ?_ | refine blk_alloc ?_ _)); exact BK403.out) hb)
                  have n3_ := Aside0.mk (blk_below (g := gb413) (o := .cells #[.int .i64 0, .slice none 0 0] 25 (0, 0)) (by (with_reducible repeat (first | refine blk_drewN ?_ _ | refine blk_drew ?_ | refine blk_alloc ?_ _)); exact BK413.out) hb)
                  have n4_ := Aside0.mk (below_step (by repeat (first | (with_reducible first | exact HB.out | apply below_alloc | apply pw_below_drewN | apply below_drew1 | refine below_set ?_ GE403.out | refine below_set ?_ GE413.out) | exact HB.out)) hb)
                  clear HO408
                  clear BK403
                  clear BK413
                  clear HB
                  have HO408 := n0_
                  have HO412 := n1_
                  have BK403 := n2_
                  have BK413 := n3_
                  have HB := n4_
                  clear n0_ n1_ n2_ n3_ n4_
                  (try clear hb)
                  (try clear hb2)
                  (try clear hk)
                  (try clear hi)
                  (try clear ho0)
                  refine hK.out _ _ ⟨(blk_cell BK403.out 0).trans rfl, (blk_cell BK403.out 1).trans rfl⟩ (fun hHeld => ?_)
                  clear hK K
                  refine norm_ (a' := ?_) ?_ ?_
                  rotate_left
                  · show Act.put _ (some 19) _ = _
                    simp only [Act.put, List.setIfInBounds_toArray, List.set_cons_zero, List.set_cons_succ, i64_w, i32_w]
                    rfl
                  exact norm_ (by first | (simp only [putAll, Act.put, List.setIfInBounds_toArray, List.set_cons_zero, List.set_cons_succ]; done) | (simp only [putAll, Act.put, List.setIfInBounds_toArray, List.set_cons_zero, List.set_cons_succ]; rfl)) (hJ2_5_6 (v407, v411, gb413) _ ⟨hHeld, (by (with_reducible repeat (first | apply Kd.R_alloc | apply Kd.R_drewN | apply Kd.R_drew)); exact Kd.R_mono HO408.out (fun _ hk => hk.2)), (by (with_reducible repeat (first | apply Kd.R_alloc | apply Kd.R_drewN | apply Kd.R_drew)); exact Kd.R_mono HO412.out (fun _ hk => hk.2)), (by (with_reducible repeat (first | refine blk_drewN ?_ _ | refine blk_drew ?_ | refine blk_alloc ?_ _)); exact BK403.out), (by (with_reducible repeat (first | refine blk_drewN ?_ _ | refine blk_drew ?_ | refine blk_alloc ?_ _)); exact BK413.out), GW413.out, GE413.out, NB403_413.out, NB413_403.out, (by repeat (first | (with_reducible first | exact HB.out | apply below_alloc | apply pw_below_drewN | apply below_drew1 | refine below_set ?_ GE403.out | refine below_set ?_ GE413.out) | exact HB.out))⟩)
                · skip
                  refine box_step ?hg (N := 4) ?hd (cs := #[.int .i64 0, .slice none 0 0]) (t := 25) ?hr ?_; (case hd => rfl); (case hg => rfl); (case hr => first | (go_simp; done) | (go_simp; rfl))
                  intro gb414 hg w17 hbox hb
                  have n0_ := Aside0.mk (Kd.R_below (by (with_reducible repeat (first | apply Kd.R_alloc | apply Kd.R_drewN | apply Kd.R_drew)); exact HO408.out) hb)
                  have n1_ := Aside0.mk (blk_below (g := gb403) (o := .cells #[.int .i64 a0_0, .slice A0_1 l0_1.length c0_1] 25 (0, 0)) (by (with_reducible repeat (first | refine blk_drewN ?_ _ | refine blk_drew ?_ | refine blk_alloc ?_ _)); exact BK403.out) hb)
                  have n2_ := Aside0.mk (blk_below (g := gb413) (o := .cells #[.int .i64 0, .slice none 0 0] 25 (0, 0)) (by (with_reducible repeat (first | refine blk_drewN ?_ _ | refine blk_drew ?_ | refine blk_alloc ?_ _)); exact BK413.out) hb)
                  have n3_ := Aside0.mk (below_step (by repeat (first | (with_reducible first | exact HB.out | apply below_alloc | apply pw_below_drewN | apply below_drew1 | refine below_set ?_ GE403.out | refine below_set ?_ GE413.out) | exact HB.out)) hb)
                  have n4_ := Aside0.mk (hbox)
                  have n5_ := Aside0.mk ((by rw [hg]; exact (below_size (by repeat (first | (with_reducible first | exact HB.out | apply below_alloc | apply pw_below_drewN | apply below_drew1 | refine below_set ?_ GE403.out | refine below_set ?_ GE413.out) | exact HB.out))) : w.heap.size ≤ gb414))
                  have n6_ := Aside0.mk ((by rw [hg]; exact (below_size (by repeat (first | (with_reducible first | exact HB.out | apply below_alloc | apply pw_below_drewN | apply below_drew1 | refine below_set ?_ GE403.out | refine below_set ?_ GE413.out) | exact HB.out))) : w.heap.size ≤ gb414))
                  have n7_ := Aside0.mk ((by rw [hg]; exact Nat.ne_of_lt (blk_lt (g := gb403) (o := .cells #[.int .i64 a0_0, .slice A0_1 l0_1.length c0_1] 25 (0, 0)) (by (with_reducible repeat (first | refine blk_drewN ?_ _ | refine blk_drew ?_ | refine blk_alloc ?_ _)); exact BK403.out)) : gb403 ≠ gb414))
                  have n8_ := Aside0.mk ((by rw [hg]; exact Nat.ne_of_gt (blk_lt (g := gb403) (o := .cells #[.int .i64 a0_0, .slice A0_1 l0_1.length c0_1] 25 (0, 0)) (by (with_reducible repeat (first | refine blk_drewN ?_ _ | refine blk_drew ?_ | refine blk_alloc ?_ _)); exact BK403.out)) : gb414 ≠ gb403))
                  have n9_ := Aside0.mk ((by rw [hg]; exact Nat.ne_of_lt (blk_lt (g := gb413) (o := .cells #[.int .i64 0, .slice none 0 0] 25 (0, 0)) (by (with_reducible repeat (first | refine blk_drewN ?_ _ | refine blk_drew ?_ | refine blk_alloc ?_ _)); exact BK413.out)) : gb413 ≠ gb414))
                  have n10_ := Aside0.mk ((by rw [hg]; exact Nat.ne_of_gt (blk_lt (g := gb413) (o := .cells #[.int .i64 0, .slice none 0 0] 25 (0, 0)) (by (with_reducible repeat (first | refine blk_drewN ?_ _ | refine blk_drew ?_ | refine blk_alloc ?_ _)); exact BK413.out)) : gb414 ≠ gb413))
                  clear HO408
                  clear BK403
                  clear BK413
                  clear HB
                  have HO408 := n0_
                  have BK403 := n1_
                  have BK413 := n2_
                  have HB := n3_
                  have BK414 := n4_
                  have GW414 := n5_
                  have GE414 := n6_
                  have NB403_414 := n7_
                  have NB414_403 := n8_
                  have NB413_414 := n9_
                  have NB414_413 := n10_
                  clear n0_ n1_ n2_ n3_ n4_ n5_ n6_ n7_ n8_ n9_ n10_
                  clear hb hbox hg
                  refine hK.out _ _ ⟨(blk_cell BK403.out 0).trans rfl, (blk_cell BK403.out 1).trans rfl⟩ (fun hHeld => ?_)
                  clear hK K
                  refine norm_ (a' := ?_) ?_ ?_
                  rotate_left
                  · show Act.put _ (some 4) _ = _
                    simp only [Act.put, List.setIfInBounds_toArray, List.set_cons_zero, List.set_cons_succ, i64_w, i32_w]
                    rfl
                  exact norm_ (by first | (simp only [putAll, Act.put, List.setIfInBounds_toArray, List.set_cons_zero, List.set_cons_succ]; done) | (simp only [putAll, Act.put, List.setIfInBounds_toArray, List.set_cons_zero, List.set_cons_succ]; rfl)) (hJ2_6_7 (v407, gb413, gb414) _ ⟨hHeld, (by (with_reducible repeat (first | apply Kd.R_alloc | apply Kd.R_drewN | apply Kd.R_drew)); exact HO408.out), (by (with_reducible repeat (first | refine blk_drewN ?_ _ | refine blk_drew ?_ | refine blk_alloc ?_ _)); exact BK403.out), (by (with_reducible repeat (first | refine blk_drewN ?_ _ | refine blk_drew ?_ | refine blk_alloc ?_ _)); exact BK413.out), (by (with_reducible repeat (first | refine blk_drewN ?_ _ | refine blk_drew ?_ | refine blk_alloc ?_ _)); exact BK414.out), GW413.out, GE413.out, NB403_413.out, NB413_403.out, NB414_413.out, NB413_414.out, GW414.out, GE414.out, NB403_414.out, NB414_403.out, (by repeat (first | (with_reducible first | exact HB.out | apply below_alloc | apply pw_below_drewN | apply below_drew1 | refine below_set ?_ GE403.out | refine below_set ?_ GE413.out | refine below_set ?_ GE414.out) | exact HB.out))⟩)
            · skip
              rintro ⟨v407, v411⟩ w16 ⟨hS_, h0_, h1_, h2_, h3_⟩
              have n0_ : Aside0 (Kd.R (Kd.int .i64) 3 w16 w.heap.size (fun k_ => some k_ ≠ (v411 : Value).ownBlock) v407 t406) := ⟨h0_⟩
              have n1_ : Aside0 (Kd.R (Kd.int .i64) 3 w16 w.heap.size (fun k_ => some k_ ≠ (v407 : Value).ownBlock) v411 t410) := ⟨h1_⟩
              have n2_ : Aside0 (w16.heap[gb403]? = some (.cells #[.int .i64 a0_0, .slice A0_1 l0_1.length c0_1] 25 (0, 0))) := ⟨h2_⟩
              have n3_ : Aside0 (Below w.heap.size w w16) := ⟨h3_⟩
              clear BK403
              clear HB
              clear h0_ h1_ h2_ h3_
              have HO408 := n0_
              have HO412 := n1_
              have BK403 := n2_
              have HB := n3_
              clear n0_ n1_ n2_ n3_
              have hHeld : w16.cell? ⟨gb403, 0, none⟩ = some (.int .i64 a0_0) ∧ w16.cell? ⟨gb403, 1, none⟩ = some (.slice A0_1 l0_1.length c0_1) := hS_
              refine norm_ (a' := ?_) ?_ ?_
              rotate_left
              · simp only [putAll, Act.put, List.setIfInBounds_toArray, List.set_cons_zero, List.set_cons_succ]
                rfl
              refine two_ (i := 6) (j := 7) (Ni := some 3) (Nj := some 4) #[true, true, true, true, true, true, true, false, false, false] #[true, true, true, true, true, true, false, true, false, false] rfl rfl rfl rfl (two_of HT_.out (by kernel_rfl)) (by decide) (by decide) (fun K hK => ?_) (fun K hK => ?_)
              · skip
                refine box_step ?hg (N := 3) ?hd (cs := #[.int .i64 0, .slice none 0 0]) (t := 25) ?hr ?_; (case hd => rfl); (case hg => rfl); (case hr => first | (go_simp; done) | (go_simp; rfl))
                intro gb413 hg w17 hbox hb
                have n0_ := Aside0.mk (Kd.R_below (by (with_reducible repeat (first | apply Kd.R_alloc | apply Kd.R_drewN | apply Kd.R_drew)); exact HO408.out) hb)
                have n1_ := Aside0.mk (Kd.R_below (by (with_reducible repeat (first | apply Kd.R_alloc | apply Kd.R_drewN | apply Kd.R_drew)); exact HO412.out) hb)
                have n2_ := Aside0.mk (blk_below (g := gb403) (o := .cells #[.int .i64 a0_0, .slice A0_1 l0_1.length c0_1] 25 (0, 0)) (by (with_reducible repeat (first | refine blk_drewN ?_ _ | refine blk_drew ?_ | refine blk_alloc ?_ _)); exact BK403.out) hb)
                have n3_ := Aside0.mk (below_step (by repeat (first | (with_reducible first | exact HB.out | apply below_alloc | apply pw_below_drewN | apply below_drew1 | refine below_set ?_ GE403.out) | exact HB.out)) hb)
                have n4_ := Aside0.mk (hbox)
                have n5_ := Aside0.mk ((by rw [hg]; exact (below_size (by repeat (first | (with_reducible first | exact HB.out | apply below_alloc | apply pw_below_drewN | apply below_drew1 | refine below_set ?_ GE403.out) | exact HB.out))) : w.heap.size ≤ gb413))
                have n6_ := Aside0.mk ((by rw [hg]; exact (below_size (by repeat (first | (with_reducible first | exact HB.out | apply below_alloc | apply pw_below_drewN | apply below_drew1 | refine below_set ?_ GE403.out) | exact HB.out))) : w.heap.size ≤ gb413))
                have n7_ := Aside0.mk ((by rw [hg]; exact Nat.ne_of_lt (blk_lt (g := gb403) (o := .cells #[.int .i64 a0_0, .slice A0_1 l0_1.length c0_1] 25 (0, 0)) (by (with_reducible repeat (first | refine blk_drewN ?_ _ | refine blk_drew ?_ | refine blk_alloc ?_ _)); exact BK403.out)) : gb403 ≠ gb413))
                have n8_ := Aside0.mk ((by rw [hg]; exact Nat.ne_of_gt (blk_lt (g := gb403) (o := .cells #[.int .i64 a0_0, .slice A0_1 l0_1.length c0_1] 25 (0, 0)) (by (with_reducible repeat (first | refine blk_drewN ?_ _ | refine blk_drew ?_ | refine blk_alloc ?_ _)); exact BK403.out)) : gb413 ≠ gb403))
                clear HO408
                clear HO412
                clear BK403
                clear HB
                have HO408 := n0_
                have HO412 := n1_
                have BK403 := n2_
                have HB := n3_
                have BK413 := n4_
                have GW413 := n5_
                have GE413 := n6_
                have NB403_413 := n7_
                have NB413_403 := n8_
                clear n0_ n1_ n2_ n3_ n4_ n5_ n6_ n7_ n8_
                clear hb hbox hg
                refine hK.out _ _ ⟨(blk_cell BK403.out 0).trans rfl, (blk_cell BK403.out 1).trans rfl⟩ (fun hHeld => ?_)
                clear hK K
                refine norm_ (a' := ?_) ?_ ?_
                rotate_left
                · show Act.put _ (some 3) _ = _
                  simp only [Act.put, List.setIfInBounds_toArray, List.set_cons_zero, List.set_cons_succ, i64_w, i32_w]
                  rfl
                exact norm_ (by first | (simp only [putAll, Act.put, List.setIfInBounds_toArray, List.set_cons_zero, List.set_cons_succ]; done) | (simp only [putAll, Act.put, List.setIfInBounds_toArray, List.set_cons_zero, List.set_cons_succ]; rfl)) (hJ2_5_6 (v407, v411, gb413) _ ⟨hHeld, (by (with_reducible repeat (first | apply Kd.R_alloc | apply Kd.R_drewN | apply Kd.R_drew)); exact HO408.out), (by (with_reducible repeat (first | apply Kd.R_alloc | apply Kd.R_drewN | apply Kd.R_drew)); exact HO412.out), (by (with_reducible repeat (first | refine blk_drewN ?_ _ | refine blk_drew ?_ | refine blk_alloc ?_ _)); exact BK403.out), (by (with_reducible repeat (first | refine blk_drewN ?_ _ | refine blk_drew ?_ | refine blk_alloc ?_ _)); exact BK413.out), GW413.out, GE413.out, NB403_413.out, NB413_403.out, (by repeat (first | (with_reducible first | exact HB.out | apply below_alloc | apply pw_below_drewN | apply below_drew1 | refine below_set ?_ GE403.out | refine below_set ?_ GE413.out) | exact HB.out))⟩)
              · skip
                refine box_step ?hg (N := 4) ?hd (cs := #[.int .i64 0, .slice none 0 0]) (t := 25) ?hr ?_; (case hd => rfl); (case hg => rfl); (case hr => first | (go_simp; done) | (go_simp; rfl))
                intro gb414 hg w17 hbox hb
                have n0_ := Aside0.mk (Kd.R_below (by (with_reducible repeat (first | apply Kd.R_alloc | apply Kd.R_drewN | apply Kd.R_drew)); exact HO408.out) hb)
                have n1_ := Aside0.mk (Kd.R_below (by (with_reducible repeat (first | apply Kd.R_alloc | apply Kd.R_drewN | apply Kd.R_drew)); exact HO412.out) hb)
                have n2_ := Aside0.mk (blk_below (g := gb403) (o := .cells #[.int .i64 a0_0, .slice A0_1 l0_1.length c0_1] 25 (0, 0)) (by (with_reducible repeat (first | refine blk_drewN ?_ _ | refine blk_drew ?_ | refine blk_alloc ?_ _)); exact BK403.out) hb)
                have n3_ := Aside0.mk (below_step (by repeat (first | (with_reducible first | exact HB.out | apply below_alloc | apply pw_below_drewN | apply below_drew1 | refine below_set ?_ GE403.out) | exact HB.out)) hb)
                have n4_ := Aside0.mk (hbox)
                have n5_ := Aside0.mk ((by rw [hg]; exact (below_size (by repeat (first | (with_reducible first | exact HB.out | apply below_alloc | apply pw_below_drewN | apply below_drew1 | refine below_set ?_ GE403.out) | exact HB.out))) : w.heap.size ≤ gb414))
                have n6_ := Aside0.mk ((by rw [hg]; exact (below_size (by repeat (first | (with_reducible first | exact HB.out | apply below_alloc | apply pw_below_drewN | apply below_drew1 | refine below_set ?_ GE403.out) | exact HB.out))) : w.heap.size ≤ gb414))
                have n7_ := Aside0.mk ((by rw [hg]; exact Nat.ne_of_lt (blk_lt (g := gb403) (o := .cells #[.int .i64 a0_0, .slice A0_1 l0_1.length c0_1] 25 (0, 0)) (by (with_reducible repeat (first | refine blk_drewN ?_ _ | refine blk_drew ?_ | refine blk_alloc ?_ _)); exact BK403.out)) : gb403 ≠ gb414))
                have n8_ := Aside0.mk ((by rw [hg]; exact Nat.ne_of_gt (blk_lt (g := gb403) (o := .cells #[.int .i64 a0_0, .slice A0_1 l0_1.length c0_1] 25 (0, 0)) (by (with_reducible repeat (first | refine blk_drewN ?_ _ | refine blk_drew ?_ | refine blk_alloc ?_ _)); exact BK403.out)) : gb414 ≠ gb403))
                clear HO408
                clear HO412
                clear BK403
                clear HB
                have HO408 := n0_
                have HO412 := n1_
                have BK403 := n2_
                have HB := n3_
                have BK414 := n4_
                have GW414 := n5_
                have GE414 := n6_
                have NB403_414 := n7_
                have NB414_403 := n8_
                clear n0_ n1_ n2_ n3_ n4_ n5_ n6_ n7_ n8_
                clear hb hbox hg
                refine hK.out _ _ ⟨(blk_cell BK403.out 0).trans rfl, (blk_cell BK403.out 1).trans rfl⟩ (fun hHeld => ?_)
                clear hK K
                refine norm_ (a' := ?_) ?_ ?_
                rotate_left
                · show Act.put _ (some 4) _ = _
                  simp only [Act.put, List.setIfInBounds_toArray, List.set_cons_zero, List.set_cons_succ, i64_w, i32_w]
                  rfl
                exact norm_ (by first | (simp only [putAll, Act.put, List.setIfInBounds_toArray, List.set_cons_zero, List.set_cons_succ]; done) | (simp only [putAll, Act.put, List.setIfInBounds_toArray, List.set_cons_zero, List.set_cons_succ]; rfl)) (hJ2_5_7 (v407, v411, gb414) _ ⟨hHeld, (by (with_reducible repeat (first | apply Kd.R_alloc | apply Kd.R_drewN | apply Kd.R_drew)); exact HO408.out), (by (with_reducible repeat (first | apply Kd.R_alloc | apply Kd.R_drewN | apply Kd.R_drew)); exact HO412.out), (by (with_reducible repeat (first | refine blk_drewN ?_ _ | refine blk_drew ?_ | refine blk_alloc ?_ _)); exact BK403.out), (by (with_reducible repeat (first | refine blk_drewN ?_ _ | refine blk_drew ?_ | refine blk_alloc ?_ _)); exact BK414.out), GW414.out, GE414.out, NB403_414.out, NB414_403.out, (by repeat (first | (with_reducible first | exact HB.out | apply below_alloc | apply pw_below_drewN | apply below_drew1 | refine below_set ?_ GE403.out | refine below_set ?_ GE414.out) | exact HB.out))⟩)
          · skip
            rintro ⟨v407, gb413, gb414⟩ w17 ⟨hS_, h0_, h1_, h2_, h3_, h4_, h5_, h6_, h7_, h8_, h9_, h10_, h11_, h12_, h13_, h14_⟩
            have n0_ : Aside0 (Kd.R (Kd.int .i64) 3 w17 w.heap.size (fun _ => True) v407 t406) := ⟨h0_⟩
            have n1_ : Aside0 (w17.heap[gb403]? = some (.cells #[.int .i64 a0_0, .slice A0_1 l0_1.length c0_1] 25 (0, 0))) := ⟨h1_⟩
            have n2_ : Aside0 (w17.heap[gb413]? = some (.cells #[.int .i64 0, .slice none 0 0] 25 (0, 0))) := ⟨h2_⟩
            have n3_ : Aside0 (w17.heap[gb414]? = some (.cells #[.int .i64 0, .slice none 0 0] 25 (0, 0))) := ⟨h3_⟩
            have n4_ : Aside0 (w.heap.size ≤ gb413) := ⟨h4_⟩
            have n5_ : Aside0 (w.heap.size ≤ gb413) := ⟨h5_⟩
            have n6_ : Aside0 (gb403 ≠ gb413) := ⟨h6_⟩
            have n7_ : Aside0 (gb413 ≠ gb403) := ⟨h7_⟩
            have n8_ : Aside0 (gb414 ≠ gb413) := ⟨h8_⟩
            have n9_ : Aside0 (gb413 ≠ gb414) := ⟨h9_⟩
            have n10_ : Aside0 (w.heap.size ≤ gb414) := ⟨h10_⟩
            have n11_ : Aside0 (w.heap.size ≤ gb414) := ⟨h11_⟩
            have n12_ : Aside0 (gb403 ≠ gb414) := ⟨h12_⟩
            have n13_ : Aside0 (gb414 ≠ gb403) := ⟨h13_⟩
            have n14_ : Aside0 (Below w.heap.size w w17) := ⟨h14_⟩
            clear BK403
            clear HB
            clear h0_ h1_ h2_ h3_ h4_ h5_ h6_ h7_ h8_ h9_ h10_ h11_ h12_ h13_ h14_
            have HO408 := n0_
            have BK403 := n1_
            have BK413 := n2_
            have BK414 := n3_
            have GW413 := n4_
            have GE413 := n5_
            have NB403_413 := n6_
            have NB413_403 := n7_
            have NB414_413 := n8_
            have NB413_414 := n9_
            have GW414 := n10_
            have GE414 := n11_
            have NB403_414 := n12_
            have NB414_403 := n13_
            have HB := n14_
            clear n0_ n1_ n2_ n3_ n4_ n5_ n6_ n7_ n8_ n9_ n10_ n11_ n12_ n13_ n14_
            have hHeld : w17.cell? ⟨gb403, 0, none⟩ = some (.int .i64 a0_0) ∧ w17.cell? ⟨gb403, 1, none⟩ = some (.slice A0_1 l0_1.length c0_1) := hS_
            refine norm_ (a' := ?_) ?_ ?_
            rotate_left
            · simp only [putAll, Act.put, List.setIfInBounds_toArray, List.set_cons_zero, List.set_cons_succ]
              rfl
            refine one_ (i := 5) (N := some 19) #[true, true, true, true, true, true, true, true, false, false] rfl rfl (one_of HT_.out (by kernel_rfl)) (by decide) (fun K hK => ?_)
            refine goes_ Try.func34 (by kernel_rfl) rfl #[.int .i64 a0_0] (by rfl) rfl rfl (by (try simp only [List.map_toArray, List.map_cons, List.map_nil]); first | done | rfl | (simp only [List.length_drop, List.length_take]; rfl)) ?_
            with_reducible refine (reply_Wrong.calls a0_0 t409 t410 _ A9.out).mono ?_
            rintro e w18 ⟨v411, rfl, ho0, hb⟩
            refine ⟨_, rfl, ?_⟩
            have n0_ := Aside0.mk (Kd.R_elder' (by (with_reducible repeat (first | apply Kd.R_alloc | apply Kd.R_drewN | apply Kd.R_drew)); exact HO408.out) (Kd.R_base ho0) hb)
            have n1_ := Aside0.mk (Kd.R_lower (Kd.R_new' ho0 (Kd.R_lt (by (with_reducible repeat (first | apply Kd.R_alloc | apply Kd.R_drewN | apply Kd.R_drew)); exact HO408.out))) (below_size (by repeat (first | (with_reducible first | exact HB.out | apply below_alloc | apply pw_below_drewN | apply below_drew1 | refine below_set ?_ GE403.out | refine below_set ?_ GE413.out | refine below_set ?_ GE414.out) | exact HB.out))))
            have n2_ := Aside0.mk (blk_below (g := gb403) (o := .cells #[.int .i64 a0_0, .slice A0_1 l0_1.length c0_1] 25 (0, 0)) (by (with_reducible repeat (first | refine blk_drewN ?_ _ | refine blk_drew ?_ | refine blk_alloc ?_ _)); exact BK403.out) hb)
            have n3_ := Aside0.mk (blk_below (g := gb413) (o := .cells #[.int .i64 0, .slice none 0 0] 25 (0, 0)) (by (with_reducible repeat (first | refine blk_drewN ?_ _ | refine blk_drew ?_ | refine blk_alloc ?_ _)); exact BK413.out) hb)
            have n4_ := Aside0.mk (blk_below (g := gb414) (o := .cells #[.int .i64 0, .slice none 0 0] 25 (0, 0)) (by (with_reducible repeat (first | refine blk_drewN ?_ _ | refine blk_drew ?_ | refine blk_alloc ?_ _)); exact BK414.out) hb)
            have n5_ := Aside0.mk (below_step (by repeat (first | (with_reducible first | exact HB.out | apply below_alloc | apply pw_below_drewN | apply below_drew1 | refine below_set ?_ GE403.out | refine below_set ?_ GE413.out | refine below_set ?_ GE414.out) | exact HB.out)) hb)
            clear HO408
            clear BK403
            clear BK413
            clear BK414
            clear HB
            have HO408 := n0_
            have HO412 := n1_
            have BK403 := n2_
            have BK413 := n3_
            have BK414 := n4_
            have HB := n5_
            clear n0_ n1_ n2_ n3_ n4_ n5_
            (try clear hb)
            (try clear hb2)
            (try clear hk)
            (try clear hi)
            (try clear ho0)
            refine hK.out _ _ ⟨(blk_cell BK403.out 0).trans rfl, (blk_cell BK403.out 1).trans rfl⟩ (fun hHeld => ?_)
            clear hK K
            refine norm_ (a' := ?_) ?_ ?_
            rotate_left
            · show Act.put _ (some 19) _ = _
              simp only [Act.put, List.setIfInBounds_toArray, List.set_cons_zero, List.set_cons_succ, i64_w, i32_w]
              rfl
            exact norm_ (by first | (simp only [putAll, Act.put, List.setIfInBounds_toArray, List.set_cons_zero, List.set_cons_succ]; done) | (simp only [putAll, Act.put, List.setIfInBounds_toArray, List.set_cons_zero, List.set_cons_succ]; rfl)) (hJ2_5_6_7 (v407, v411, gb413, gb414) _ ⟨hHeld, (by (with_reducible repeat (first | apply Kd.R_alloc | apply Kd.R_drewN | apply Kd.R_drew)); exact Kd.R_mono HO408.out (fun _ hk => hk.2)), (by (with_reducible repeat (first | apply Kd.R_alloc | apply Kd.R_drewN | apply Kd.R_drew)); exact Kd.R_mono HO412.out (fun _ hk => hk.2)), (by (with_reducible repeat (first | refine blk_drewN ?_ _ | refine blk_drew ?_ | refine blk_alloc ?_ _)); exact BK403.out), (by (with_reducible repeat (first | refine blk_drewN ?_ _ | refine blk_drew ?_ | refine blk_alloc ?_ _)); exact BK413.out), (by (with_reducible repeat (first | refine blk_drewN ?_ _ | refine blk_drew ?_ | refine blk_alloc ?_ _)); exact BK414.out), GW413.out, GE413.out, NB403_413.out, NB413_403.out, NB414_413.out, NB413_414.out, GW414.out, GE414.out, NB403_414.out, NB414_403.out, (by repeat (first | (with_reducible first | exact HB.out | apply below_alloc | apply pw_below_drewN | apply below_drew1 | refine below_set ?_ GE403.out | refine below_set ?_ GE413.out | refine below_set ?_ GE414.out) | exact HB.out))⟩)
        · skip
          rintro ⟨v407, v411, gb414⟩ w17 ⟨hS_, h0_, h1_, h2_, h3_, h4_, h5_, h6_, h7_, h8_⟩
          have n0_ : Aside0 (Kd.R (Kd.int .i64) 3 w17 w.heap.size (fun k_ => some k_ ≠ (v411 : Value).ownBlock) v407 t406) := ⟨h0_⟩
          have n1_ : Aside0 (Kd.R (Kd.int .i64) 3 w17 w.heap.size (fun k_ => some k_ ≠ (v407 : Value).ownBlock) v411 t410) := ⟨h1_⟩
          have n2_ : Aside0 (w17.heap[gb403]? = some (.cells #[.int .i64 a0_0, .slice A0_1 l0_1.length c0_1] 25 (0, 0))) := ⟨h2_⟩
          have n3_ : Aside0 (w17.heap[gb414]? = some (.cells #[.int .i64 0, .slice none 0 0] 25 (0, 0))) := ⟨h3_⟩
          have n4_ : Aside0 (w.heap.size ≤ gb414) := ⟨h4_⟩
          have n5_ : Aside0 (w.heap.size ≤ gb414) := ⟨h5_⟩
          have n6_ : Aside0 (gb403 ≠ gb414) := ⟨h6_⟩
          have n7_ : Aside0 (gb414 ≠ gb403) := ⟨h7_⟩
          have n8_ : Aside0 (Below w.heap.size w w17) := ⟨h8_⟩
          clear BK403
          clear HB
          clear h0_ h1_ h2_ h3_ h4_ h5_ h6_ h7_ h8_
          have HO408 := n0_
          have HO412 := n1_
          have BK403 := n2_
          have BK414 := n3_
          have GW414 := n4_
          have GE414 := n5_
          have NB403_414 := n6_
          have NB414_403 := n7_
          have HB := n8_
          clear n0_ n1_ n2_ n3_ n4_ n5_ n6_ n7_ n8_
          have hHeld : w17.cell? ⟨gb403, 0, none⟩ = some (.int .i64 a0_0) ∧ w17.cell? ⟨gb403, 1, none⟩ = some (.slice A0_1 l0_1.length c0_1) := hS_
          refine norm_ (a' := ?_) ?_ ?_
          rotate_left
          · simp only [putAll, Act.put, List.setIfInBounds_toArray, List.set_cons_zero, List.set_cons_succ]
            rfl
          refine one_ (i := 6) (N := some 3) #[true, true, true, true, true, true, true, true, false, false] rfl rfl (one_of HT_.out (by kernel_rfl)) (by decide) (fun K hK => ?_)
          refine box_step ?hg (N := 3) ?hd (cs := #[.int .i64 0, .slice none 0 0]) (t := 25) ?hr ?_; (case hd => rfl); (case hg => rfl); (case hr => first | (go_simp; done) | (go_simp; rfl))
          intro gb413 hg w18 hbox hb
          have n0_ := Aside0.mk (Kd.R_below (by (with_reducible repeat (first | apply Kd.R_alloc | apply Kd.R_drewN | apply Kd.R_drew)); exact HO408.out) hb)
          have n1_ := Aside0.mk (Kd.R_below (by (with_reducible repeat (first | apply Kd.R_alloc | apply Kd.R_drewN | apply Kd.R_drew)); exact HO412.out) hb)
          have n2_ := Aside0.mk (blk_below (g := gb403) (o := .cells #[.int .i64 a0_0, .slice A0_1 l0_1.length c0_1] 25 (0, 0)) (by (with_reducible repeat (first | refine blk_drewN ?_ _ | refine blk_drew ?_ | refine blk_alloc ?_ _)); exact BK403.out) hb)
          have n3_ := Aside0.mk (blk_below (g := gb414) (o := .cells #[.int .i64 0, .slice none 0 0] 25 (0, 0)) (by (with_reducible repeat (first | refine blk_drewN ?_ _ | refine blk_drew ?_ | refine blk_alloc ?_ _)); exact BK414.out) hb)
          have n4_ := Aside0.mk (below_step (by repeat (first | (with_reducible first | exact HB.out | apply below_alloc | apply pw_below_drewN | apply below_drew1 | refine below_set ?_ GE403.out | refine below_set ?_ GE414.out) | exact HB.out)) hb)
          have n5_ := Aside0.mk (hbox)
          have n6_ := Aside0.mk ((by rw [hg]; exact (below_size (by repeat (first | (with_reducible first | exact HB.out | apply below_alloc | apply pw_below_drewN | apply below_drew1 | refine below_set ?_ GE403.out | refine below_set ?_ GE414.out) | exact HB.out))) : w.heap.size ≤ gb413))
          have n7_ := Aside0.mk ((by rw [hg]; exact (below_size (by repeat (first | (with_reducible first | exact HB.out | apply below_alloc | apply pw_below_drewN | apply below_drew1 | refine below_set ?_ GE403.out | refine below_set ?_ GE414.out) | exact HB.out))) : w.heap.size ≤ gb413))
          have n8_ := Aside0.mk ((by rw [hg]; exact Nat.ne_of_lt (blk_lt (g := gb403) (o := .cells #[.int .i64 a0_0, .slice A0_1 l0_1.length c0_1] 25 (0, 0)) (by (with_reducible repeat (first | refine blk_drewN ?_ _ | refine blk_drew ?_ | refine blk_alloc ?_ _)); exact BK403.out)) : gb403 ≠ gb413))
          have n9_ := Aside0.mk ((by rw [hg]; exact Nat.ne_of_gt (blk_lt (g := gb403) (o := .cells #[.int .i64 a0_0, .slice A0_1 l0_1.length c0_1] 25 (0, 0)) (by (with_reducible repeat (first | refine blk_drewN ?_ _ | refine blk_drew ?_ | refine blk_alloc ?_ _)); exact BK403.out)) : gb413 ≠ gb403))
          have n10_ := Aside0.mk ((by rw [hg]; exact Nat.ne_of_lt (blk_lt (g := gb414) (o := .cells #[.int .i64 0, .slice none 0 0] 25 (0, 0)) (by (with_reducible repeat (first | refine blk_drewN ?_ _ | refine blk_drew ?_ | refine blk_alloc ?_ _)); exact BK414.out)) : gb414 ≠ gb413))
          have n11_ := Aside0.mk ((by rw [hg]; exact Nat.ne_of_gt (blk_lt (g := gb414) (o := .cells #[.int .i64 0, .slice none 0 0] 25 (0, 0)) (by (with_reducible repeat (first | refine blk_drewN ?_ _ | refine blk_drew ?_ | refine blk_alloc ?_ _)); exact BK414.out)) : gb413 ≠ gb414))
          clear HO408
          clear HO412
          clear BK403
          clear BK414
          clear HB
          have HO408 := n0_
          have HO412 := n1_
          have BK403 := n2_
          have BK414 := n3_
          have HB := n4_
          have BK413 := n5_
          have GW413 := n6_
          have GE413 := n7_
          have NB403_413 := n8_
          have NB413_403 := n9_
          have NB414_413 := n10_
          have NB413_414 := n11_
          clear n0_ n1_ n2_ n3_ n4_ n5_ n6_ n7_ n8_ n9_ n10_ n11_
          clear hb hbox hg
          refine hK.out _ _ ⟨(blk_cell BK403.out 0).trans rfl, (blk_cell BK403.out 1).trans rfl⟩ (fun hHeld => ?_)
          clear hK K
          refine norm_ (a' := ?_) ?_ ?_
          rotate_left
          · show Act.put _ (some 3) _ = _
            simp only [Act.put, List.setIfInBounds_toArray, List.set_cons_zero, List.set_cons_succ, i64_w, i32_w]
            rfl
          exact norm_ (by first | (simp only [putAll, Act.put, List.setIfInBounds_toArray, List.set_cons_zero, List.set_cons_succ]; done) | (simp only [putAll, Act.put, List.setIfInBounds_toArray, List.set_cons_zero, List.set_cons_succ]; rfl)) (hJ2_5_6_7 (v407, v411, gb413, gb414) _ ⟨hHeld, (by (with_reducible repeat (first | apply Kd.R_alloc | apply Kd.R_drewN | apply Kd.R_drew)); exact HO408.out), (by (with_reducible repeat (first | apply Kd.R_alloc | apply Kd.R_drewN | apply Kd.R_drew)); exact HO412.out), (by (with_reducible repeat (first | refine blk_drewN ?_ _ | refine blk_drew ?_ | refine blk_alloc ?_ _)); exact BK403.out), (by (with_reducible repeat (first | refine blk_drewN ?_ _ | refine blk_drew ?_ | refine blk_alloc ?_ _)); exact BK413.out), (by (with_reducible repeat (first | refine blk_drewN ?_ _ | refine blk_drew ?_ | refine blk_alloc ?_ _)); exact BK414.out), GW413.out, GE413.out, NB403_413.out, NB413_403.out, NB414_413.out, NB413_414.out, GW414.out, GE414.out, NB403_414.out, NB414_403.out, (by repeat (first | (with_reducible first | exact HB.out | apply below_alloc | apply pw_below_drewN | apply below_drew1 | refine below_set ?_ GE403.out | refine below_set ?_ GE414.out | refine below_set ?_ GE413.out) | exact HB.out))⟩)
      · skip
        rintro ⟨v407, v411, gb413⟩ w17 ⟨hS_, h0_, h1_, h2_, h3_, h4_, h5_, h6_, h7_, h8_⟩
        have n0_ : Aside0 (Kd.R (Kd.int .i64) 3 w17 w.heap.size (fun k_ => some k_ ≠ (v411 : Value).ownBlock) v407 t406) := ⟨h0_⟩
        have n1_ : Aside0 (Kd.R (Kd.int .i64) 3 w17 w.heap.size (fun k_ => some k_ ≠ (v407 : Value).ownBlock) v411 t410) := ⟨h1_⟩
        have n2_ : Aside0 (w17.heap[gb403]? = some (.cells #[.int .i64 a0_0, .slice A0_1 l0_1.length c0_1] 25 (0, 0))) := ⟨h2_⟩
        have n3_ : Aside0 (w17.heap[gb413]? = some (.cells #[.int .i64 0, .slice none 0 0] 25 (0, 0))) := ⟨h3_⟩
        have n4_ : Aside0 (w.heap.size ≤ gb413) := ⟨h4_⟩
        have n5_ : Aside0 (w.heap.size ≤ gb413) := ⟨h5_⟩
        have n6_ : Aside0 (gb403 ≠ gb413) := ⟨h6_⟩
        have n7_ : Aside0 (gb413 ≠ gb403) := ⟨h7_⟩
        have n8_ : Aside0 (Below w.heap.size w w17) := ⟨h8_⟩
        clear BK403
        clear HB
        clear h0_ h1_ h2_ h3_ h4_ h5_ h6_ h7_ h8_
        have HO408 := n0_
        have HO412 := n1_
        have BK403 := n2_
        have BK413 := n3_
        have GW413 := n4_
        have GE413 := n5_
        have NB403_413 := n6_
        have NB413_403 := n7_
        have HB := n8_
        clear n0_ n1_ n2_ n3_ n4_ n5_ n6_ n7_ n8_
        have hHeld : w17.cell? ⟨gb403, 0, none⟩ = some (.int .i64 a0_0) ∧ w17.cell? ⟨gb403, 1, none⟩ = some (.slice A0_1 l0_1.length c0_1) := hS_
        refine norm_ (a' := ?_) ?_ ?_
        rotate_left
        · simp only [putAll, Act.put, List.setIfInBounds_toArray, List.set_cons_zero, List.set_cons_succ]
          rfl
        refine one_ (i := 7) (N := some 4) #[true, true, true, true, true, true, true, true, false, false] rfl rfl (one_of HT_.out (by kernel_rfl)) (by decide) (fun K hK => ?_)
        refine box_step ?hg (N := 4) ?hd (cs := #[.int .i64 0, .slice none 0 0]) (t := 25) ?hr ?_; (case hd => rfl); (case hg => rfl); (case hr => first | (go_simp; done) | (go_simp; rfl))
        intro gb414 hg w18 hbox hb
        have n0_ := Aside0.mk (Kd.R_below (by (with_reducible repeat (first | apply Kd.R_alloc | apply Kd.R_drewN | apply Kd.R_drew)); exact HO408.out) hb)
        have n1_ := Aside0.mk (Kd.R_below (by (with_reducible repeat (first | apply Kd.R_alloc | apply Kd.R_drewN | apply Kd.R_drew)); exact HO412.out) hb)
        have n2_ := Aside0.mk (blk_below (g := gb403) (o := .cells #[.int .i64 a0_0, .slice A0_1 l0_1.length c0_1] 25 (0, 0)) (by (with_reducible repeat (first | refine blk_drewN ?_ _ | refine blk_drew ?_ | refine blk_alloc ?_ _)); exact BK403.out) hb)
        have n3_ := Aside0.mk (blk_below (g := gb413) (o := .cells #[.int .i64 0, .slice none 0 0] 25 (0, 0)) (by (with_reducible repeat (first | refine blk_drewN ?_ _ | refine blk_drew ?_ | refine blk_alloc ?_ _)); exact BK413.out) hb)
        have n4_ := Aside0.mk (below_step (by repeat (first | (with_reducible first | exact HB.out | apply below_alloc | apply pw_below_drewN | apply below_drew1 | refine below_set ?_ GE403.out | refine below_set ?_ GE413.out) | exact HB.out)) hb)
        have n5_ := Aside0.mk (hbox)
        have n6_ := Aside0.mk ((by rw [hg]; exact (below_size (by repeat (first | (with_reducible first | exact HB.out | apply below_alloc | apply pw_below_drewN | apply below_drew1 | refine below_set ?_ GE403.out | refine below_set ?_ GE413.out) | exact HB.out))) : w.heap.size ≤ gb414))
        have n7_ := Aside0.mk ((by rw [hg]; exact (below_size (by repeat (first | (with_reducible first | exact HB.out | apply below_alloc | apply pw_below_drewN | apply below_drew1 | refine below_set ?_ GE403.out | refine below_set ?_ GE413.out) | exact HB.out))) : w.heap.size ≤ gb414))
        have n8_ := Aside0.mk ((by rw [hg]; exact Nat.ne_of_lt (blk_lt (g := gb403) (o := .cells #[.int .i64 a0_0, .slice A0_1 l0_1.length c0_1] 25 (0, 0)) (by (with_reducible repeat (first | refine blk_drewN ?_ _ | refine blk_drew ?_ | refine blk_alloc ?_ _)); exact BK403.out)) : gb403 ≠ gb414))
        have n9_ := Aside0.mk ((by rw [hg]; exact Nat.ne_of_gt (blk_lt (g := gb403) (o := .cells #[.int .i64 a0_0, .slice A0_1 l0_1.length c0_1] 25 (0, 0)) (by (with_reducible repeat (first | refine blk_drewN ?_ _ | refine blk_drew ?_ | refine blk_alloc ?_ _)); exact BK403.out)) : gb414 ≠ gb403))
        have n10_ := Aside0.mk ((by rw [hg]; exact Nat.ne_of_lt (blk_lt (g := gb413) (o := .cells #[.int .i64 0, .slice none 0 0] 25 (0, 0)) (by (with_reducible repeat (first | refine blk_drewN ?_ _ | refine blk_drew ?_ | refine blk_alloc ?_ _)); exact BK413.out)) : gb413 ≠ gb414))
        have n11_ := Aside0.mk ((by rw [hg]; exact Nat.ne_of_gt (blk_lt (g := gb413) (o := .cells #[.int .i64 0, .slice none 0 0] 25 (0, 0)) (by (with_reducible repeat (first | refine blk_drewN ?_ _ | refine blk_drew ?_ | refine blk_alloc ?_ _)); exact BK413.out)) : gb414 ≠ gb413))
        clear HO408
        clear HO412
        clear BK403
        clear BK413
        clear HB
        have HO408 := n0_
        have HO412 := n1_
        have BK403 := n2_
        have BK413 := n3_
        have HB := n4_
        have BK414 := n5_
        have GW414 := n6_
        have GE414 := n7_
        have NB403_414 := n8_
        have NB414_403 := n9_
        have NB413_414 := n10_
        have NB414_413 := n11_
        clear n0_ n1_ n2_ n3_ n4_ n5_ n6_ n7_ n8_ n9_ n10_ n11_
        clear hb hbox hg
        refine hK.out _ _ ⟨(blk_cell BK403.out 0).trans rfl, (blk_cell BK403.out 1).trans rfl⟩ (fun hHeld => ?_)
        clear hK K
        refine norm_ (a' := ?_) ?_ ?_
        rotate_left
        · show Act.put _ (some 4) _ = _
          simp only [Act.put, List.setIfInBounds_toArray, List.set_cons_zero, List.set_cons_succ, i64_w, i32_w]
          rfl
        exact norm_ (by first | (simp only [putAll, Act.put, List.setIfInBounds_toArray, List.set_cons_zero, List.set_cons_succ]; done) | (simp only [putAll, Act.put, List.setIfInBounds_toArray, List.set_cons_zero, List.set_cons_succ]; rfl)) (hJ2_5_6_7 (v407, v411, gb413, gb414) _ ⟨hHeld, (by (with_reducible repeat (first | apply Kd.R_alloc | apply Kd.R_drewN | apply Kd.R_drew)); exact HO408.out), (by (with_reducible repeat (first | apply Kd.R_alloc | apply Kd.R_drewN | apply Kd.R_drew)); exact HO412.out), (by (with_reducible repeat (first | refine blk_drewN ?_ _ | refine blk_drew ?_ | refine blk_alloc ?_ _)); exact BK403.out), (by (with_reducible repeat (first | refine blk_drewN ?_ _ | refine blk_drew ?_ | refine blk_alloc ?_ _)); exact BK413.out), (by (with_reducible repeat (first | refine blk_drewN ?_ _ | refine blk_drew ?_ | refine blk_alloc ?_ _)); exact BK414.out), GW413.out, GE413.out, NB403_413.out, NB413_403.out, NB414_413.out, NB413_414.out, GW414.out, GE414.out, NB403_414.out, NB414_403.out, (by repeat (first | (with_reducible first | exact HB.out | apply below_alloc | apply pw_below_drewN | apply below_drew1 | refine below_set ?_ GE403.out | refine below_set ?_ GE413.out | refine below_set ?_ GE414.out) | exact HB.out))⟩)
    rintro ⟨v407, v411, gb413, gb414⟩ w18 ⟨hS_, h0_, h1_, h2_, h3_, h4_, h5_, h6_, h7_, h8_, h9_, h10_, h11_, h12_, h13_, h14_, h15_⟩
    have n0_ : Aside0 (Kd.R (Kd.int .i64) 3 w18 w.heap.size (fun k_ => some k_ ≠ (v411 : Value).ownBlock) v407 t406) := ⟨h0_⟩
    have n1_ : Aside0 (Kd.R (Kd.int .i64) 3 w18 w.heap.size (fun k_ => some k_ ≠ (v407 : Value).ownBlock) v411 t410) := ⟨h1_⟩
    have n2_ : Aside0 (w18.heap[gb403]? = some (.cells #[.int .i64 a0_0, .slice A0_1 l0_1.length c0_1] 25 (0, 0))) := ⟨h2_⟩
    have n3_ : Aside0 (w18.heap[gb413]? = some (.cells #[.int .i64 0, .slice none 0 0] 25 (0, 0))) := ⟨h3_⟩
    have n4_ : Aside0 (w18.heap[gb414]? = some (.cells #[.int .i64 0, .slice none 0 0] 25 (0, 0))) := ⟨h4_⟩
    have n5_ : Aside0 (w.heap.size ≤ gb413) := ⟨h5_⟩
    have n6_ : Aside0 (w.heap.size ≤ gb413) := ⟨h6_⟩
    have n7_ : Aside0 (gb403 ≠ gb413) := ⟨h7_⟩
    have n8_ : Aside0 (gb413 ≠ gb403) := ⟨h8_⟩
    have n9_ : Aside0 (gb414 ≠ gb413) := ⟨h9_⟩
    have n10_ : Aside0 (gb413 ≠ gb414) := ⟨h10_⟩
    have n11_ : Aside0 (w.heap.size ≤ gb414) := ⟨h11_⟩
    have n12_ : Aside0 (w.heap.size ≤ gb414) := ⟨h12_⟩
    have n13_ : Aside0 (gb403 ≠ gb414) := ⟨h13_⟩
    have n14_ : Aside0 (gb414 ≠ gb403) := ⟨h14_⟩
    have n15_ : Aside0 (Below w.heap.size w w18) := ⟨h15_⟩
    clear BK403
    clear HB
    clear h0_ h1_ h2_ h3_ h4_ h5_ h6_ h7_ h8_ h9_ h10_ h11_ h12_ h13_ h14_ h15_
    have HO408 := n0_
    have HO412 := n1_
    have BK403 := n2_
    have BK413 := n3_
    have BK414 := n4_
    have GW413 := n5_
    have GE413 := n6_
    have NB403_413 := n7_
    have NB413_403 := n8_
    have NB414_413 := n9_
    have NB413_414 := n10_
    have GW414 := n11_
    have GE414 := n12_
    have NB403_414 := n13_
    have NB414_403 := n14_
    have HB := n15_
    clear n0_ n1_ n2_ n3_ n4_ n5_ n6_ n7_ n8_ n9_ n10_ n11_ n12_ n13_ n14_ n15_
    have hHeld : w18.cell? ⟨gb403, 0, none⟩ = some (.int .i64 a0_0) ∧ w18.cell? ⟨gb403, 1, none⟩ = some (.slice A0_1 l0_1.length c0_1) := hS_
    obtain ⟨Ao20, co20, eo20⟩ := Kd.R_slice HO408.out
    (first | subst eo20 | (injection eo20 with f1_ f2_ f3_; have f4_ := f1_.symm; have f5_ := f3_.symm; clear f1_ f2_ f3_; subst f4_; subst f5_))
    obtain ⟨Ao23, co23, eo23⟩ := Kd.R_slice HO412.out
    (first | subst eo23 | (injection eo23 with f1_ f2_ f3_; have f4_ := f1_.symm; have f5_ := f3_.symm; clear f1_ f2_ f3_; subst f4_; subst f5_))
    refine norm_ (a' := ?_) ?_ ?_
    rotate_left
    · simp only [putAll, Act.put, List.setIfInBounds_toArray, List.set_cons_zero, List.set_cons_succ]
      rfl
    refine one_ (i := 8) (N := none) #[true, true, true, true, true, true, true, true, true, false] rfl rfl (one_of HT_.out (by kernel_rfl)) (by decide) (fun K hK => ?_)
    have hs19 : w18.cell? ⟨gb413, 0, none⟩ = some (.int .i64 0) := (blk_cell BK413.out 0).trans rfl
    have hfs19 := blk_frozen BK413.out 0
    have hns19_0 := NB403_413.out
    have hns19_2 := NB414_413.out
    have hms19_0 := NB413_403.out
    have hms19_2 := NB413_414.out
    have hs21 : w18.cell? ⟨gb413, 1, none⟩ = some (.slice none 0 0) := (blk_cell BK413.out 1).trans rfl
    have hfs21 := blk_frozen BK413.out 1
    have hns21_0 := NB403_413.out
    have hns21_2 := NB414_413.out
    have hms21_0 := NB413_403.out
    have hms21_2 := NB413_414.out
    refine skip_ (w1 := ?_) (by rfl) rfl ?_ ?_
    rotate_left
    · go_simp
      rfl
    refine hK.out _ _ ⟨((cell_far (p := ⟨gb413, _, none⟩) NB403_413.out _).trans (((cell_far (p := ⟨gb413, _, none⟩) NB403_413.out _).trans (hHeld.1)))), ((cell_far (p := ⟨gb413, _, none⟩) NB403_413.out _).trans (((cell_far (p := ⟨gb413, _, none⟩) NB403_413.out _).trans (hHeld.2))))⟩ (fun hHeld => ?_)
    clear hK K
    refine one_ (i := 9) (N := none) #[true, true, true, true, true, true, true, true, true, true] rfl rfl (one_of HT_.out (by kernel_rfl)) (by decide) (fun K hK => ?_)
    have hs22 : w18.cell? ⟨gb414, 0, none⟩ = some (.int .i64 0) := (blk_cell BK414.out 0).trans rfl
    have hfs22 := blk_frozen BK414.out 0
    have hns22_0 := NB403_414.out
    have hns22_1 := NB413_414.out
    have hms22_0 := NB414_403.out
    have hms22_1 := NB414_413.out
    have hs24 : w18.cell? ⟨gb414, 1, none⟩ = some (.slice none 0 0) := (blk_cell BK414.out 1).trans rfl
    have hfs24 := blk_frozen BK414.out 1
    have hns24_0 := NB403_414.out
    have hns24_1 := NB413_414.out
    have hms24_0 := NB414_403.out
    have hms24_1 := NB414_413.out
    refine skip_ (w1 := ?_) (by rfl) rfl ?_ ?_
    rotate_left
    · go_simp
      rfl
    refine hK.out _ _ ⟨((cell_far (p := ⟨gb414, _, none⟩) NB403_414.out _).trans (((cell_far (p := ⟨gb414, _, none⟩) NB403_414.out _).trans (hHeld.1)))), ((cell_far (p := ⟨gb414, _, none⟩) NB403_414.out _).trans (((cell_far (p := ⟨gb414, _, none⟩) NB403_414.out _).trans (hHeld.2))))⟩ (fun hHeld => ?_)
    clear hK K
    refine done_ (done_of HT_.out (by kernel_rfl)) ?_
    go_upto_region 4 with (fail)
    go_cut [45] (fun v45 wc => ∃ (kq : Nat) (x45_9 : Bool), v45 = .bool x45_9 ∧ Aside0 (backhaullaw31_ReplyBack.j0 kq x45_9 a0_0 l0_1 = some true) ∧ Aside0 (kq ≤ k) ∧ Aside0 (Kd.R (Kd.int .i64) 3 wc w.heap.size (fun k_ => some k_ ≠ ((.slice Ao23 t410.length co23) : Value).ownBlock) (.slice Ao20 t406.length co20) t406) ∧ Aside0 (Kd.R (Kd.int .i64) 3 wc w.heap.size (fun k_ => some k_ ≠ ((.slice Ao20 t406.length co20) : Value).ownBlock) (.slice Ao23 t410.length co23) t410) ∧ Aside0 (wc.heap[gb403]? = some (.cells #[.int .i64 a0_0, (.slice A0_1 l0_1.length c0_1)] 25 (0, 0))) ∧ Aside0 (wc.heap[gb413]? = some (.cells #[.int .i64 t405, (.slice Ao20 t406.length co20)] 25 (0, 0))) ∧ Aside0 (wc.heap[gb414]? = some (.cells #[.int .i64 t409, (.slice Ao23 t410.length co23)] 25 (0, 0))) ∧ Aside0 (Below w.heap.size w wc))
    case first =>
      have H := HC10.out
      clear HC10
      by_cases c25 : t405 = 0
      · rw [if_pos c25] at H
        have c25b0 : (t405 == 0) = true := beq_iff_eq.mpr c25
        have c25b1 : (t405 != 0) = false := bne_eq_false_iff_eq.mpr c25
        clear c25
        (first | rw [c25b0] | (simp only [i64_w, i32_w]; rw [c25b0]) | skip)
        replace H := Option.bind_eq_some_iff.mp H
        obtain ⟨t415, A260, H⟩ := H
        replace H : (if t415 = true then (if t409 = a0_0 then (backhaullaw31_ReplyBack.j0 k ((t410.length : Int) != 0) a0_0 l0_1) else (backhaullaw31_ReplyBack.j0 k true a0_0 l0_1)) else (backhaullaw31_ReplyBack.j0 k true a0_0 l0_1)) = some true := H
        have A26 := Aside0.mk A260
        clear A260
        by_cases c27 : t415 = true
        · subst c27
          have H1 : (if t409 = a0_0 then (backhaullaw31_ReplyBack.j0 k ((t410.length : Int) != 0) a0_0 l0_1) else (backhaullaw31_ReplyBack.j0 k true a0_0 l0_1)) = some true := by first | (rw [if_pos rfl] at H; exact H) | rfl
          clear H
          have H := H1
          clear H1
          by_cases c28 : t409 = a0_0
          · rw [if_pos c28] at H
            have c28b0 : (t409 == a0_0) = true := beq_iff_eq.mpr c28
            have c28b1 : (t409 != a0_0) = false := bne_eq_false_iff_eq.mpr c28
            clear c28
            have H' := Aside0.mk H
            clear H
            have hnb29 := NB413_403.out
            have hnc29 := NB403_413.out
            have hnb30 := NB413_414.out
            have hnc30 := NB414_413.out
            have hcz31_0 : w18.cell? ⟨gb413, 0, none⟩ = some (.int .i64 0) := (blk_cell BK413.out 0).trans rfl
            have hcz31_1 : w18.cell? ⟨gb413, 1, none⟩ = some (.slice none 0 0) := (blk_cell BK413.out 1).trans rfl
            have hfz31_0 := blk_frozen BK413.out 0
            have hfz31_1 := blk_frozen BK413.out 1
            have hnb32 := NB403_414.out
            have hnc32 := NB414_403.out
            have hcz33_0 : w18.cell? ⟨gb403, 0, none⟩ = some (.int .i64 a0_0) := (blk_cell BK403.out 0).trans rfl
            have hcz33_1 : w18.cell? ⟨gb403, 1, none⟩ = some (.slice A0_1 l0_1.length c0_1) := (blk_cell BK403.out 1).trans rfl
            have hfz33_0 := blk_frozen BK403.out 0
            have hfz33_1 := blk_frozen BK403.out 1
            go_wp2_with (first | (go_at_call 31; (with_reducible refine (backhaulref31_Same.calls k a0_0 _ _ t406 a0_0 _ _ l0_1 true _ ?side1 ?side2 ?side3 ?side4 A26.out).mono ?_); (case side1 => refine (Kd.R_reads' (e := 3) (base := w.heap.size) (ok := fun k_ => some k_ ≠ (.slice Ao23 t410.length co23 : Value).ownBlock) (n := t406.length) (c := co20) ?_).2.2; exact (by (with_reducible repeat (first | apply Kd.R_alloc | apply Kd.R_drewN | apply Kd.R_drew)); exact (Kd.R_mono (Kd.R_mono (Kd.R_far (p := ⟨gb414, 1, none⟩) (Kd.R_far (p := ⟨gb414, 0, none⟩) (Kd.R_far (p := ⟨gb413, 1, none⟩) (Kd.R_far (p := ⟨gb413, 0, none⟩) (Kd.R_types (Kd.R_types HO408.out BK413.out (by decide)) BK414.out (by decide)) (fun _ hk => hk.1.2) (.int .i64 t405)) (fun _ hk => hk.1.2) (.slice Ao20 t406.length co20)) (fun _ hk => hk.2) (.int .i64 t409)) (fun _ hk => hk.2) (.slice Ao23 t410.length co23)) (fun _ h_ => h_.1)) (fun _ h_ => h_.1)))); (case side2 => exact (Kd.R_reads' HO408.out).2.1); (case side3 => exact Kd.C_below HR0_1.out (by repeat (first | (with_reducible first | exact HB.out | apply below_alloc | apply pw_below_drewN | apply below_drew1 | refine below_set ?_ GE403.out | refine below_set ?_ GE413.out | refine below_set ?_ GE414.out) | exact HB.out))); (case side4 => exact HC0_1.out); rintro e w34 ⟨rfl, hb⟩; have n0_ := Aside0.mk (Kd.R_below (by (with_reducible repeat (first | apply Kd.R_alloc | apply Kd.R_drewN | apply Kd.R_drew)); exact (Kd.R_mono (Kd.R_mono (Kd.R_far (p := ⟨gb414, 1, none⟩) (Kd.R_far (p := ⟨gb414, 0, none⟩) (Kd.R_far (p := ⟨gb413, 1, none⟩) (Kd.R_far (p := ⟨gb413, 0, none⟩) (Kd.R_types (Kd.R_types HO408.out BK413.out (by decide)) BK414.out (by decide)) (fun _ hk => hk.1.2) (.int .i64 t405)) (fun _ hk => hk.1.2) (.slice Ao20 t406.length co20)) (fun _ hk => hk.2) (.int .i64 t409)) (fun _ hk => hk.2) (.slice Ao23 t410.length co23)) (fun _ h_ => h_.1)) (fun _ h_ => h_.1))) hb); have n1_ := Aside0.mk (Kd.R_below (by (with_reducible repeat (first | apply Kd.R_alloc | apply Kd.R_drewN | apply Kd.R_drew)); exact (Kd.R_mono (Kd.R_mono (Kd.R_far (p := ⟨gb414, 1, none⟩) (Kd.R_far (p := ⟨gb414, 0, none⟩) (Kd.R_far (p := ⟨gb413, 1, none⟩) (Kd.R_far (p := ⟨gb413, 0, none⟩) (Kd.R_types (Kd.R_types HO412.out BK413.out (by decide)) BK414.out (by decide)) (fun _ hk => hk.1.2) (.int .i64 t405)) (fun _ hk => hk.1.2) (.slice Ao20 t406.length co20)) (fun _ hk => hk.2) (.int .i64 t409)) (fun _ hk => hk.2) (.slice Ao23 t410.length co23)) (fun _ h_ => h_.1)) (fun _ h_ => h_.1))) hb); have n2_ := Aside0.mk (blk_below (g := gb403) (o := .cells #[.int .i64 a0_0, .slice A0_1 l0_1.length c0_1] 25 (0, 0)) (by (with_reducible repeat (first | refine blk_drewN ?_ _ | refine blk_drew ?_ | refine blk_alloc ?_ _)); refine blk_far ?_ NB403_414.out _; (with_reducible repeat (first | refine blk_drewN ?_ _ | refine blk_drew ?_ | refine blk_alloc ?_ _)); refine blk_far ?_ NB403_414.out _; (with_reducible repeat (first | refine blk_drewN ?_ _ | refine blk_drew ?_ | refine blk_alloc ?_ _)); refine blk_far ?_ NB403_413.out _; (with_reducible repeat (first | refine blk_drewN ?_ _ | refine blk_drew ?_ | refine blk_alloc ?_ _)); refine blk_far ?_ NB403_413.out _; (with_reducible repeat (first | refine blk_drewN ?_ _ | refine blk_drew ?_ | refine blk_alloc ?_ _)); exact BK403.out) hb); have n3_ := Aside0.mk (blk_below (g := gb413) (o := .cells #[.int .i64 t405, .slice Ao20 t406.length co20] 25 (0, 0)) (by (with_reducible repeat (first | refine blk_drewN ?_ _ | refine blk_drew ?_ | refine blk_alloc ?_ _)); refine blk_far ?_ NB413_414.out _; (with_reducible repeat (first | refine blk_drewN ?_ _ | refine blk_drew ?_ | refine blk_alloc ?_ _)); refine blk_far ?_ NB413_414.out _; (with_reducible repeat (first | refine blk_drewN ?_ _ | refine blk_drew ?_ | refine blk_alloc ?_ _)); refine blk_put (cs := #[.int .i64 t405, .slice none 0 0]) ?_ 1 _ rfl; (with_reducible repeat (first | refine blk_drewN ?_ _ | refine blk_drew ?_ | refine blk_alloc ?_ _)); refine blk_put (cs := #[.int .i64 0, .slice none 0 0]) ?_ 0 _ rfl; (with_reducible repeat (first | refine blk_drewN ?_ _ | refine blk_drew ?_ | refine blk_alloc ?_ _)); exact BK413.out) hb); have n4_ := Aside0.mk (blk_below (g := gb414) (o := .cells #[.int .i64 t409, .slice Ao23 t410.length co23] 25 (0, 0)) (by (with_reducible repeat (first | refine blk_drewN ?_ _ | refine blk_drew ?_ | refine blk_alloc ?_ _)); refine blk_put (cs := #[.int .i64 t409, .slice none 0 0]) ?_ 1 _ rfl; (with_reducible repeat (first | refine blk_drewN ?_ _ | refine blk_drew ?_ | refine blk_alloc ?_ _)); refine blk_put (cs := #[.int .i64 0, .slice none 0 0]) ?_ 0 _ rfl; (with_reducible repeat (first | refine blk_drewN ?_ _ | refine blk_drew ?_ | refine blk_alloc ?_ _)); refine blk_far ?_ NB414_413.out _; (with_reducible repeat (first | refine blk_drewN ?_ _ | refine blk_drew ?_ | refine blk_alloc ?_ _)); refine blk_far ?_ NB414_413.out _; (with_reducible repeat (first | refine blk_drewN ?_ _ | refine blk_drew ?_ | refine blk_alloc ?_ _)); exact BK414.out) hb); have n5_ := Aside0.mk (below_step (by repeat (first | (with_reducible first | exact HB.out | apply below_alloc | apply pw_below_drewN | apply below_drew1 | refine below_set ?_ GE403.out | refine below_set ?_ GE413.out | refine below_set ?_ GE414.out) | exact HB.out)) hb); clear HO408; clear HO412; clear BK403; clear BK413; clear BK414; clear HB; have HO408 := n0_; have HO412 := n1_; have BK403 := n2_; have BK413 := n3_; have BK414 := n4_; have HB := n5_; clear n0_ n1_ n2_ n3_ n4_ n5_; (try clear hb); (try clear hb2); (try clear hk); (try clear hi); have hcz35_0 : w34.cell? ⟨gb414, 0, none⟩ = some (.int .i64 t409) := (blk_cell BK414.out 0).trans rfl; have hcz35_1 : w34.cell? ⟨gb414, 1, none⟩ = some (.slice Ao23 t410.length co23) := (blk_cell BK414.out 1).trans rfl; have hfz35_0 := blk_frozen BK414.out 0; have hfz35_1 := blk_frozen BK414.out 1; have hcz36_0 : w34.cell? ⟨gb403, 0, none⟩ = some (.int .i64 a0_0) := (blk_cell BK403.out 0).trans rfl; have hcz36_1 : w34.cell? ⟨gb403, 1, none⟩ = some (.slice A0_1 l0_1.length c0_1) := (blk_cell BK403.out 1).trans rfl; have hfz36_0 := blk_frozen BK403.out 0; have hfz36_1 := blk_frozen BK403.out 1))
            go_meet
            case rel => exact ⟨_, (((t410.length : Int) != 0)), (by first | rfl | (simp; done) | (simp [*]; done)), H', ⟨by first | omega | exact Nat.le_refl _⟩, ⟨by (with_reducible repeat (first | apply Kd.R_alloc | apply Kd.R_drewN | apply Kd.R_drew)); exact HO408.out⟩, ⟨by (with_reducible repeat (first | apply Kd.R_alloc | apply Kd.R_drewN | apply Kd.R_drew)); exact HO412.out⟩, ⟨by (with_reducible repeat (first | refine blk_drewN ?_ _ | refine blk_drew ?_ | refine blk_alloc ?_ _)); exact BK403.out⟩, ⟨by (with_reducible repeat (first | refine blk_drewN ?_ _ | refine blk_drew ?_ | refine blk_alloc ?_ _)); exact BK413.out⟩, ⟨by (with_reducible repeat (first | refine blk_drewN ?_ _ | refine blk_drew ?_ | refine blk_alloc ?_ _)); exact BK414.out⟩, ⟨by repeat (first | (with_reducible first | exact HB.out | apply below_alloc | apply pw_below_drewN | apply below_drew1 | refine below_set ?_ GE403.out | refine below_set ?_ GE413.out | refine below_set ?_ GE414.out) | exact HB.out)⟩⟩
          · rw [if_neg c28] at H
            have c28b0 : (t409 == a0_0) = false := beq_eq_false_iff_ne.mpr c28
            have c28b1 : (t409 != a0_0) = true := bne_iff_ne.mpr c28
            have H' := Aside0.mk H
            clear H
            have hnb37 := NB413_403.out
            have hnc37 := NB403_413.out
            have hnb38 := NB413_414.out
            have hnc38 := NB414_413.out
            have hcz39_0 : w18.cell? ⟨gb413, 0, none⟩ = some (.int .i64 0) := (blk_cell BK413.out 0).trans rfl
            have hcz39_1 : w18.cell? ⟨gb413, 1, none⟩ = some (.slice none 0 0) := (blk_cell BK413.out 1).trans rfl
            have hfz39_0 := blk_frozen BK413.out 0
            have hfz39_1 := blk_frozen BK413.out 1
            have hnb40 := NB403_414.out
            have hnc40 := NB414_403.out
            have hcz41_0 : w18.cell? ⟨gb403, 0, none⟩ = some (.int .i64 a0_0) := (blk_cell BK403.out 0).trans rfl
            have hcz41_1 : w18.cell? ⟨gb403, 1, none⟩ = some (.slice A0_1 l0_1.length c0_1) := (blk_cell BK403.out 1).trans rfl
            have hfz41_0 := blk_frozen BK403.out 0
            have hfz41_1 := blk_frozen BK403.out 1
            go_wp2_with (first | (go_at_call 31; (with_reducible refine (backhaulref31_Same.calls k a0_0 _ _ t406 a0_0 _ _ l0_1 true _ ?side1 ?side2 ?side3 ?side4 A26.out).mono ?_); (case side1 => refine (Kd.R_reads' (e := 3) (base := w.heap.size) (ok := fun k_ => some k_ ≠ (.slice Ao23 t410.length co23 : Value).ownBlock) (n := t406.length) (c := co20) ?_).2.2; exact (by (with_reducible repeat (first | apply Kd.R_alloc | apply Kd.R_drewN | apply Kd.R_drew)); exact (Kd.R_mono (Kd.R_mono (Kd.R_far (p := ⟨gb414, 1, none⟩) (Kd.R_far (p := ⟨gb414, 0, none⟩) (Kd.R_far (p := ⟨gb413, 1, none⟩) (Kd.R_far (p := ⟨gb413, 0, none⟩) (Kd.R_types (Kd.R_types HO408.out BK413.out (by decide)) BK414.out (by decide)) (fun _ hk => hk.1.2) (.int .i64 t405)) (fun _ hk => hk.1.2) (.slice Ao20 t406.length co20)) (fun _ hk => hk.2) (.int .i64 t409)) (fun _ hk => hk.2) (.slice Ao23 t410.length co23)) (fun _ h_ => h_.1)) (fun _ h_ => h_.1)))); (case side2 => exact (Kd.R_reads' HO408.out).2.1); (case side3 => exact Kd.C_below HR0_1.out (by repeat (first | (with_reducible first | exact HB.out | apply below_alloc | apply pw_below_drewN | apply below_drew1 | refine below_set ?_ GE403.out | refine below_set ?_ GE413.out | refine below_set ?_ GE414.out) | exact HB.out))); (case side4 => exact HC0_1.out); rintro e w42 ⟨rfl, hb⟩; have n0_ := Aside0.mk (Kd.R_below (by (with_reducible repeat (first | apply Kd.R_alloc | apply Kd.R_drewN | apply Kd.R_drew)); exact (Kd.R_mono (Kd.R_mono (Kd.R_far (p := ⟨gb414, 1, none⟩) (Kd.R_far (p := ⟨gb414, 0, none⟩) (Kd.R_far (p := ⟨gb413, 1, none⟩) (Kd.R_far (p := ⟨gb413, 0, none⟩) (Kd.R_types (Kd.R_types HO408.out BK413.out (by decide)) BK414.out (by decide)) (fun _ hk => hk.1.2) (.int .i64 t405)) (fun _ hk => hk.1.2) (.slice Ao20 t406.length co20)) (fun _ hk => hk.2) (.int .i64 t409)) (fun _ hk => hk.2) (.slice Ao23 t410.length co23)) (fun _ h_ => h_.1)) (fun _ h_ => h_.1))) hb); have n1_ := Aside0.mk (Kd.R_below (by (with_reducible repeat (first | apply Kd.R_alloc | apply Kd.R_drewN | apply Kd.R_drew)); exact (Kd.R_mono (Kd.R_mono (Kd.R_far (p := ⟨gb414, 1, none⟩) (Kd.R_far (p := ⟨gb414, 0, none⟩) (Kd.R_far (p := ⟨gb413, 1, none⟩) (Kd.R_far (p := ⟨gb413, 0, none⟩) (Kd.R_types (Kd.R_types HO412.out BK413.out (by decide)) BK414.out (by decide)) (fun _ hk => hk.1.2) (.int .i64 t405)) (fun _ hk => hk.1.2) (.slice Ao20 t406.length co20)) (fun _ hk => hk.2) (.int .i64 t409)) (fun _ hk => hk.2) (.slice Ao23 t410.length co23)) (fun _ h_ => h_.1)) (fun _ h_ => h_.1))) hb); have n2_ := Aside0.mk (blk_below (g := gb403) (o := .cells #[.int .i64 a0_0, .slice A0_1 l0_1.length c0_1] 25 (0, 0)) (by (with_reducible repeat (first | refine blk_drewN ?_ _ | refine blk_drew ?_ | refine blk_alloc ?_ _)); refine blk_far ?_ NB403_414.out _; (with_reducible repeat (first | refine blk_drewN ?_ _ | refine blk_drew ?_ | refine blk_alloc ?_ _)); refine blk_far ?_ NB403_414.out _; (with_reducible repeat (first | refine blk_drewN ?_ _ | refine blk_drew ?_ | refine blk_alloc ?_ _)); refine blk_far ?_ NB403_413.out _; (with_reducible repeat (first | refine blk_drewN ?_ _ | refine blk_drew ?_ | refine blk_alloc ?_ _)); refine blk_far ?_ NB403_413.out _; (with_reducible repeat (first | refine blk_drewN ?_ _ | refine blk_drew ?_ | refine blk_alloc ?_ _)); exact BK403.out) hb); have n3_ := Aside0.mk (blk_below (g := gb413) (o := .cells #[.int .i64 t405, .slice Ao20 t406.length co20] 25 (0, 0)) (by (with_reducible repeat (first | refine blk_drewN ?_ _ | refine blk_drew ?_ | refine blk_alloc ?_ _)); refine blk_far ?_ NB413_414.out _; (with_reducible repeat (first | refine blk_drewN ?_ _ | refine blk_drew ?_ | refine blk_alloc ?_ _)); refine blk_far ?_ NB413_414.out _; (with_reducible repeat (first | refine blk_drewN ?_ _ | refine blk_drew ?_ | refine blk_alloc ?_ _)); refine blk_put (cs := #[.int .i64 t405, .slice none 0 0]) ?_ 1 _ rfl; (with_reducible repeat (first | refine blk_drewN ?_ _ | refine blk_drew ?_ | refine blk_alloc ?_ _)); refine blk_put (cs := #[.int .i64 0, .slice none 0 0]) ?_ 0 _ rfl; (with_reducible repeat (first | refine blk_drewN ?_ _ | refine blk_drew ?_ | refine blk_alloc ?_ _)); exact BK413.out) hb); have n4_ := Aside0.mk (blk_below (g := gb414) (o := .cells #[.int .i64 t409, .slice Ao23 t410.length co23] 25 (0, 0)) (by (with_reducible repeat (first | refine blk_drewN ?_ _ | refine blk_drew ?_ | refine blk_alloc ?_ _)); refine blk_put (cs := #[.int .i64 t409, .slice none 0 0]) ?_ 1 _ rfl; (with_reducible repeat (first | refine blk_drewN ?_ _ | refine blk_drew ?_ | refine blk_alloc ?_ _)); refine blk_put (cs := #[.int .i64 0, .slice none 0 0]) ?_ 0 _ rfl; (with_reducible repeat (first | refine blk_drewN ?_ _ | refine blk_drew ?_ | refine blk_alloc ?_ _)); refine blk_far ?_ NB414_413.out _; (with_reducible repeat (first | refine blk_drewN ?_ _ | refine blk_drew ?_ | refine blk_alloc ?_ _)); refine blk_far ?_ NB414_413.out _; (with_reducible repeat (first | refine blk_drewN ?_ _ | refine blk_drew ?_ | refine blk_alloc ?_ _)); exact BK414.out) hb); have n5_ := Aside0.mk (below_step (by repeat (first | (with_reducible first | exact HB.out | apply below_alloc | apply pw_below_drewN | apply below_drew1 | refine below_set ?_ GE403.out | refine below_set ?_ GE413.out | refine below_set ?_ GE414.out) | exact HB.out)) hb); clear HO408; clear HO412; clear BK403; clear BK413; clear BK414; clear HB; have HO408 := n0_; have HO412 := n1_; have BK403 := n2_; have BK413 := n3_; have BK414 := n4_; have HB := n5_; clear n0_ n1_ n2_ n3_ n4_ n5_; (try clear hb); (try clear hb2); (try clear hk); (try clear hi); have hcz43_0 : w42.cell? ⟨gb414, 0, none⟩ = some (.int .i64 t409) := (blk_cell BK414.out 0).trans rfl; have hcz43_1 : w42.cell? ⟨gb414, 1, none⟩ = some (.slice Ao23 t410.length co23) := (blk_cell BK414.out 1).trans rfl; have hfz43_0 := blk_frozen BK414.out 0; have hfz43_1 := blk_frozen BK414.out 1; have hcz44_0 : w42.cell? ⟨gb403, 0, none⟩ = some (.int .i64 a0_0) := (blk_cell BK403.out 0).trans rfl; have hcz44_1 : w42.cell? ⟨gb403, 1, none⟩ = some (.slice A0_1 l0_1.length c0_1) := (blk_cell BK403.out 1).trans rfl; have hfz44_0 := blk_frozen BK403.out 0; have hfz44_1 := blk_frozen BK403.out 1))
            go_meet
            case rel => exact ⟨_, (true), (by first | rfl | (simp; done) | (simp [*]; done)), H', ⟨by first | omega | exact Nat.le_refl _⟩, ⟨by (with_reducible repeat (first | apply Kd.R_alloc | apply Kd.R_drewN | apply Kd.R_drew)); exact HO408.out⟩, ⟨by (with_reducible repeat (first | apply Kd.R_alloc | apply Kd.R_drewN | apply Kd.R_drew)); exact HO412.out⟩, ⟨by (with_reducible repeat (first | refine blk_drewN ?_ _ | refine blk_drew ?_ | refine blk_alloc ?_ _)); exact BK403.out⟩, ⟨by (with_reducible repeat (first | refine blk_drewN ?_ _ | refine blk_drew ?_ | refine blk_alloc ?_ _)); exact BK413.out⟩, ⟨by (with_reducible repeat (first | refine blk_drewN ?_ _ | refine blk_drew ?_ | refine blk_alloc ?_ _)); exact BK414.out⟩, ⟨by repeat (first | (with_reducible first | exact HB.out | apply below_alloc | apply pw_below_drewN | apply below_drew1 | refine below_set ?_ GE403.out | refine below_set ?_ GE413.out | refine below_set ?_ GE414.out) | exact HB.out)⟩⟩
        · replace c27 := Bool.eq_false_iff.mpr c27
          subst c27
          have H1 : (backhaullaw31_ReplyBack.j0 k true a0_0 l0_1) = some true := by first | (rw [if_neg (show ¬ (false = true) by decide)] at H; exact H) | rfl
          clear H
          have H := H1
          clear H1
          have H' := Aside0.mk H
          clear H
          have hnb45 := NB413_403.out
          have hnc45 := NB403_413.out
          have hnb46 := NB413_414.out
          have hnc46 := NB414_413.out
          have hcz47_0 : w18.cell? ⟨gb413, 0, none⟩ = some (.int .i64 0) := (blk_cell BK413.out 0).trans rfl
          have hcz47_1 : w18.cell? ⟨gb413, 1, none⟩ = some (.slice none 0 0) := (blk_cell BK413.out 1).trans rfl
          have hfz47_0 := blk_frozen BK413.out 0
          have hfz47_1 := blk_frozen BK413.out 1
          have hnb48 := NB403_414.out
          have hnc48 := NB414_403.out
          have hcz49_0 : w18.cell? ⟨gb403, 0, none⟩ = some (.int .i64 a0_0) := (blk_cell BK403.out 0).trans rfl
          have hcz49_1 : w18.cell? ⟨gb403, 1, none⟩ = some (.slice A0_1 l0_1.length c0_1) := (blk_cell BK403.out 1).trans rfl
          have hfz49_0 := blk_frozen BK403.out 0
          have hfz49_1 := blk_frozen BK403.out 1
          go_wp2_with (first | (go_at_call 31; (with_reducible refine (backhaulref31_Same.calls k a0_0 _ _ t406 a0_0 _ _ l0_1 false _ ?side1 ?side2 ?side3 ?side4 A26.out).mono ?_); (case side1 => refine (Kd.R_reads' (e := 3) (base := w.heap.size) (ok := fun k_ => some k_ ≠ (.slice Ao23 t410.length co23 : Value).ownBlock) (n := t406.length) (c := co20) ?_).2.2; exact (by (with_reducible repeat (first | apply Kd.R_alloc | apply Kd.R_drewN | apply Kd.R_drew)); exact (Kd.R_mono (Kd.R_mono (Kd.R_far (p := ⟨gb414, 1, none⟩) (Kd.R_far (p := ⟨gb414, 0, none⟩) (Kd.R_far (p := ⟨gb413, 1, none⟩) (Kd.R_far (p := ⟨gb413, 0, none⟩) (Kd.R_types (Kd.R_types HO408.out BK413.out (by decide)) BK414.out (by decide)) (fun _ hk => hk.1.2) (.int .i64 t405)) (fun _ hk => hk.1.2) (.slice Ao20 t406.length co20)) (fun _ hk => hk.2) (.int .i64 t409)) (fun _ hk => hk.2) (.slice Ao23 t410.length co23)) (fun _ h_ => h_.1)) (fun _ h_ => h_.1)))); (case side2 => exact (Kd.R_reads' HO408.out).2.1); (case side3 => exact Kd.C_below HR0_1.out (by repeat (first | (with_reducible first | exact HB.out | apply below_alloc | apply pw_below_drewN | apply below_drew1 | refine below_set ?_ GE403.out | refine below_set ?_ GE413.out | refine below_set ?_ GE414.out) | exact HB.out))); (case side4 => exact HC0_1.out); rintro e w50 ⟨rfl, hb⟩; have n0_ := Aside0.mk (Kd.R_below (by (with_reducible repeat (first | apply Kd.R_alloc | apply Kd.R_drewN | apply Kd.R_drew)); exact (Kd.R_mono (Kd.R_mono (Kd.R_far (p := ⟨gb414, 1, none⟩) (Kd.R_far (p := ⟨gb414, 0, none⟩) (Kd.R_far (p := ⟨gb413, 1, none⟩) (Kd.R_far (p := ⟨gb413, 0, none⟩) (Kd.R_types (Kd.R_types HO408.out BK413.out (by decide)) BK414.out (by decide)) (fun _ hk => hk.1.2) (.int .i64 t405)) (fun _ hk => hk.1.2) (.slice Ao20 t406.length co20)) (fun _ hk => hk.2) (.int .i64 t409)) (fun _ hk => hk.2) (.slice Ao23 t410.length co23)) (fun _ h_ => h_.1)) (fun _ h_ => h_.1))) hb); have n1_ := Aside0.mk (Kd.R_below (by (with_reducible repeat (first | apply Kd.R_alloc | apply Kd.R_drewN | apply Kd.R_drew)); exact (Kd.R_mono (Kd.R_mono (Kd.R_far (p := ⟨gb414, 1, none⟩) (Kd.R_far (p := ⟨gb414, 0, none⟩) (Kd.R_far (p := ⟨gb413, 1, none⟩) (Kd.R_far (p := ⟨gb413, 0, none⟩) (Kd.R_types (Kd.R_types HO412.out BK413.out (by decide)) BK414.out (by decide)) (fun _ hk => hk.1.2) (.int .i64 t405)) (fun _ hk => hk.1.2) (.slice Ao20 t406.length co20)) (fun _ hk => hk.2) (.int .i64 t409)) (fun _ hk => hk.2) (.slice Ao23 t410.length co23)) (fun _ h_ => h_.1)) (fun _ h_ => h_.1))) hb); have n2_ := Aside0.mk (blk_below (g := gb403) (o := .cells #[.int .i64 a0_0, .slice A0_1 l0_1.length c0_1] 25 (0, 0)) (by (with_reducible repeat (first | refine blk_drewN ?_ _ | refine blk_drew ?_ | refine blk_alloc ?_ _)); refine blk_far ?_ NB403_414.out _; (with_reducible repeat (first | refine blk_drewN ?_ _ | refine blk_drew ?_ | refine blk_alloc ?_ _)); refine blk_far ?_ NB403_414.out _; (with_reducible repeat (first | refine blk_drewN ?_ _ | refine blk_drew ?_ | refine blk_alloc ?_ _)); refine blk_far ?_ NB403_413.out _; (with_reducible repeat (first | refine blk_drewN ?_ _ | refine blk_drew ?_ | refine blk_alloc ?_ _)); refine blk_far ?_ NB403_413.out _; (with_reducible repeat (first | refine blk_drewN ?_ _ | refine blk_drew ?_ | refine blk_alloc ?_ _)); exact BK403.out) hb); have n3_ := Aside0.mk (blk_below (g := gb413) (o := .cells #[.int .i64 t405, .slice Ao20 t406.length co20] 25 (0, 0)) (by (with_reducible repeat (first | refine blk_drewN ?_ _ | refine blk_drew ?_ | refine blk_alloc ?_ _)); refine blk_far ?_ NB413_414.out _; (with_reducible repeat (first | refine blk_drewN ?_ _ | refine blk_drew ?_ | refine blk_alloc ?_ _)); refine blk_far ?_ NB413_414.out _; (with_reducible repeat (first | refine blk_drewN ?_ _ | refine blk_drew ?_ | refine blk_alloc ?_ _)); refine blk_put (cs := #[.int .i64 t405, .slice none 0 0]) ?_ 1 _ rfl; (with_reducible repeat (first | refine blk_drewN ?_ _ | refine blk_drew ?_ | refine blk_alloc ?_ _)); refine blk_put (cs := #[.int .i64 0, .slice none 0 0]) ?_ 0 _ rfl; (with_reducible repeat (first | refine blk_drewN ?_ _ | refine blk_drew ?_ | refine blk_alloc ?_ _)); exact BK413.out) hb); have n4_ := Aside0.mk (blk_below (g := gb414) (o := .cells #[.int .i64 t409, .slice Ao23 t410.length co23] 25 (0, 0)) (by (with_reducible repeat (first | refine blk_drewN ?_ _ | refine blk_drew ?_ | refine blk_alloc ?_ _)); refine blk_put (cs := #[.int .i64 t409, .slice none 0 0]) ?_ 1 _ rfl; (with_reducible repeat (first | refine blk_drewN ?_ _ | refine blk_drew ?_ | refine blk_alloc ?_ _)); refine blk_put (cs := #[.int .i64 0, .slice none 0 0]) ?_ 0 _ rfl; (with_reducible repeat (first | refine blk_drewN ?_ _ | refine blk_drew ?_ | refine blk_alloc ?_ _)); refine blk_far ?_ NB414_413.out _; (with_reducible repeat (first | refine blk_drewN ?_ _ | refine blk_drew ?_ | refine blk_alloc ?_ _)); refine blk_far ?_ NB414_413.out _; (with_reducible repeat (first | refine blk_drewN ?_ _ | refine blk_drew ?_ | refine blk_alloc ?_ _)); exact BK414.out) hb); have n5_ := Aside0.mk (below_step (by repeat (first | (with_reducible first | exact HB.out | apply below_alloc | apply pw_below_drewN | apply below_drew1 | refine below_set ?_ GE403.out | refine below_set ?_ GE413.out | refine below_set ?_ GE414.out) | exact HB.out)) hb); clear HO408; clear HO412; clear BK403; clear BK413; clear BK414; clear HB; have HO408 := n0_; have HO412 := n1_; have BK403 := n2_; have BK413 := n3_; have BK414 := n4_; have HB := n5_; clear n0_ n1_ n2_ n3_ n4_ n5_; (try clear hb); (try clear hb2); (try clear hk); (try clear hi)))
          go_meet
          case rel => exact ⟨_, (true), (by first | rfl | (simp; done) | (simp [*]; done)), H', ⟨by first | omega | exact Nat.le_refl _⟩, ⟨by (with_reducible repeat (first | apply Kd.R_alloc | apply Kd.R_drewN | apply Kd.R_drew)); exact HO408.out⟩, ⟨by (with_reducible repeat (first | apply Kd.R_alloc | apply Kd.R_drewN | apply Kd.R_drew)); exact HO412.out⟩, ⟨by (with_reducible repeat (first | refine blk_drewN ?_ _ | refine blk_drew ?_ | refine blk_alloc ?_ _)); exact BK403.out⟩, ⟨by (with_reducible repeat (first | refine blk_drewN ?_ _ | refine blk_drew ?_ | refine blk_alloc ?_ _)); exact BK413.out⟩, ⟨by (with_reducible repeat (first | refine blk_drewN ?_ _ | refine blk_drew ?_ | refine blk_alloc ?_ _)); exact BK414.out⟩, ⟨by repeat (first | (with_reducible first | exact HB.out | apply below_alloc | apply pw_below_drewN | apply below_drew1 | refine below_set ?_ GE403.out | refine below_set ?_ GE413.out | refine below_set ?_ GE414.out) | exact HB.out)⟩⟩
      · rw [if_neg c25] at H
        have c25b0 : (t405 == 0) = false := beq_eq_false_iff_ne.mpr c25
        have c25b1 : (t405 != 0) = true := bne_iff_ne.mpr c25
        (first | rw [c25b0] | (simp only [i64_w, i32_w]; rw [c25b0]) | skip)
        have H' := Aside0.mk H
        clear H
        have hnb51 := NB413_403.out
        have hnc51 := NB403_413.out
        have hnb52 := NB413_414.out
        have hnc52 := NB414_413.out
        have hcz53_0 : w18.cell? ⟨gb413, 0, none⟩ = some (.int .i64 0) := (blk_cell BK413.out 0).trans rfl
        have hcz53_1 : w18.cell? ⟨gb413, 1, none⟩ = some (.slice none 0 0) := (blk_cell BK413.out 1).trans rfl
        have hfz53_0 := blk_frozen BK413.out 0
        have hfz53_1 := blk_frozen BK413.out 1
        go_wp2
        go_meet
        case rel => exact ⟨_, (true), (by first | rfl | (simp; done) | (simp [*]; done)), H', ⟨by first | omega | exact Nat.le_refl _⟩, ⟨by (with_reducible repeat (first | apply Kd.R_alloc | apply Kd.R_drewN | apply Kd.R_drew)); exact Kd.R_mono (Kd.R_far (p := ⟨gb414, 1, none⟩) (Kd.R_far (p := ⟨gb414, 0, none⟩) (Kd.R_far (p := ⟨gb413, 1, none⟩) (Kd.R_far (p := ⟨gb413, 0, none⟩) (Kd.R_types (Kd.R_types HO408.out BK413.out (by decide)) BK414.out (by decide)) (fun _ hk => hk.1.2) (.int .i64 t405)) (fun _ hk => hk.1.2) (.slice Ao20 t406.length co20)) (fun _ hk => hk.2) (.int .i64 t409)) (fun _ hk => hk.2) (.slice Ao23 t410.length co23)) (fun _ hk => hk.1.1)⟩, ⟨by (with_reducible repeat (first | apply Kd.R_alloc | apply Kd.R_drewN | apply Kd.R_drew)); exact Kd.R_mono (Kd.R_far (p := ⟨gb414, 1, none⟩) (Kd.R_far (p := ⟨gb414, 0, none⟩) (Kd.R_far (p := ⟨gb413, 1, none⟩) (Kd.R_far (p := ⟨gb413, 0, none⟩) (Kd.R_types (Kd.R_types HO412.out BK413.out (by decide)) BK414.out (by decide)) (fun _ hk => hk.1.2) (.int .i64 t405)) (fun _ hk => hk.1.2) (.slice Ao20 t406.length co20)) (fun _ hk => hk.2) (.int .i64 t409)) (fun _ hk => hk.2) (.slice Ao23 t410.length co23)) (fun _ hk => hk.1.1)⟩, ⟨by (with_reducible repeat (first | refine blk_drewN ?_ _ | refine blk_drew ?_ | refine blk_alloc ?_ _)); refine blk_far ?_ NB403_414.out _; (with_reducible repeat (first | refine blk_drewN ?_ _ | refine blk_drew ?_ | refine blk_alloc ?_ _)); refine blk_far ?_ NB403_414.out _; (with_reducible repeat (first | refine blk_drewN ?_ _ | refine blk_drew ?_ | refine blk_alloc ?_ _)); refine blk_far ?_ NB403_413.out _; (with_reducible repeat (first | refine blk_drewN ?_ _ | refine blk_drew ?_ | refine blk_alloc ?_ _)); refine blk_far ?_ NB403_413.out _; (with_reducible repeat (first | refine blk_drewN ?_ _ | refine blk_drew ?_ | refine blk_alloc ?_ _)); exact BK403.out⟩, ⟨by (with_reducible repeat (first | refine blk_drewN ?_ _ | refine blk_drew ?_ | refine blk_alloc ?_ _)); refine blk_far ?_ NB413_414.out _; (with_reducible repeat (first | refine blk_drewN ?_ _ | refine blk_drew ?_ | refine blk_alloc ?_ _)); refine blk_far ?_ NB413_414.out _; (with_reducible repeat (first | refine blk_drewN ?_ _ | refine blk_drew ?_ | refine blk_alloc ?_ _)); refine blk_put (cs := #[.int .i64 t405, .slice none 0 0]) ?_ 1 _ rfl; (with_reducible repeat (first | refine blk_drewN ?_ _ | refine blk_drew ?_ | refine blk_alloc ?_ _)); refine blk_put (cs := #[.int .i64 0, .slice none 0 0]) ?_ 0 _ rfl; (with_reducible repeat (first | refine blk_drewN ?_ _ | refine blk_drew ?_ | refine blk_alloc ?_ _)); exact BK413.out⟩, ⟨by (with_reducible repeat (first | refine blk_drewN ?_ _ | refine blk_drew ?_ | refine blk_alloc ?_ _)); refine blk_put (cs := #[.int .i64 t409, .slice none 0 0]) ?_ 1 _ rfl; (with_reducible repeat (first | refine blk_drewN ?_ _ | refine blk_drew ?_ | refine blk_alloc ?_ _)); refine blk_put (cs := #[.int .i64 0, .slice none 0 0]) ?_ 0 _ rfl; (with_reducible repeat (first | refine blk_drewN ?_ _ | refine blk_drew ?_ | refine blk_alloc ?_ _)); refine blk_far ?_ NB414_413.out _; (with_reducible repeat (first | refine blk_drewN ?_ _ | refine blk_drew ?_ | refine blk_alloc ?_ _)); refine blk_far ?_ NB414_413.out _; (with_reducible repeat (first | refine blk_drewN ?_ _ | refine blk_drew ?_ | refine blk_alloc ?_ _)); exact BK414.out⟩, ⟨by repeat (first | (with_reducible first | exact HB.out | apply below_alloc | apply pw_below_drewN | apply below_drew1 | refine below_set ?_ GE403.out | refine below_set ?_ GE413.out | refine below_set ?_ GE414.out) | exact HB.out)⟩⟩
    case rest =>
      clear HC10
      try clear c2
      try clear p2
      try clear c3
      try clear c4
      try clear c5
      try clear c25
      try clear c25b0
      try clear c25b1
      try clear c27
      try clear c28
      try clear c28b0
      try clear c28b1
      try clear c29
      try clear c30
      try clear c32
      try clear c34
      try clear c37
      try clear c38
      try clear c40
      try clear c45
      try clear c46
      try clear c48
      try clear c51
      try clear c52
      try clear hcz31_0
      try clear hcz31_1
      try clear hcz33_0
      try clear hcz33_1
      try clear hcz35_0
      try clear hcz35_1
      try clear hcz36_0
      try clear hcz36_1
      try clear hcz39_0
      try clear hcz39_1
      try clear hcz41_0
      try clear hcz41_1
      try clear hcz43_0
      try clear hcz43_1
      try clear hcz44_0
      try clear hcz44_1
      try clear hcz47_0
      try clear hcz47_1
      try clear hcz49_0
      try clear hcz49_1
      try clear hcz53_0
      try clear hcz53_1
      try clear hfz31_0
      try clear hfz31_1
      try clear hfz33_0
      try clear hfz33_1
      try clear hfz35_0
      try clear hfz35_1
      try clear hfz36_0
      try clear hfz36_1
      try clear hfz39_0
      try clear hfz39_1
      try clear hfz41_0
      try clear hfz41_1
      try clear hfz43_0
      try clear hfz43_1
      try clear hfz44_0
      try clear hfz44_1
      try clear hfz47_0
      try clear hfz47_1
      try clear hfz49_0
      try clear hfz49_1
      try clear hfz53_0
      try clear hfz53_1
      obtain ⟨kq, x45_9, rfl, HA, HJ9, HO_414001, HO_415001, BK403, BK413, BK414, HB⟩ := hcut
      cases kq with
      | zero => exact absurd HA.out (by simp [backhaullaw31_ReplyBack.j0])
      | succ kj9 =>
        have H := HA.out
        clear HA
        simp only [backhaullaw31_ReplyBack.j0] at H
        by_cases c54 : x45_9 = true
        · subst c54
          have H1 : (some false) = some true := by first | (rw [if_pos rfl] at H; exact H) | rfl
          clear H
          have H := H1
          clear H1
          exact absurd H (by simp)
        · replace c54 := Bool.eq_false_iff.mpr c54
          subst c54
          have H1 : ((reply_Put.f kj9 a0_0 l0_1).bind fun bt416 => (if bt416.2 = 0 then ((reply_Take.f kj9 bt416.1).bind fun bt418 => ((backhaulref31_Same.f kj9 bt418.1 bt418.2.1 a0_0 l0_1).bind fun t424 => (if t424 = true then (if bt418.2.2 = 0 then ((backhaullaw31_awake.f).bind fun t425 => (if t425 = true then (some true) else (some false))) else (some false)) else (some false)))) else (if bt416.1.toList = ([] : List UInt8) then ((reply_Check.f kj9 a0_0 l0_1).bind fun t426 => (if t426 = bt416.2 then ((backhaullaw31_awake.f).bind fun t427 => (if t427 = true then (some true) else (some false))) else (some false))) else (some false)))) = some true := by first | (rw [if_neg (show ¬ (false = true) by decide)] at H; exact H) | rfl
          clear H
          have H := H1
          clear H1
          replace H := Option.bind_eq_some_iff.mp H
          obtain ⟨⟨t416, t417⟩, A550, H⟩ := H
          replace H : (if t417 = 0 then ((reply_Take.f kj9 t416).bind fun bt418 => ((backhaulref31_Same.f kj9 bt418.1 bt418.2.1 a0_0 l0_1).bind fun t424 => (if t424 = true then (if bt418.2.2 = 0 then ((backhaullaw31_awake.f).bind fun t425 => (if t425 = true then (some true) else (some false))) else (some false)) else (some false)))) else (if t416.toList = ([] : List UInt8) then ((reply_Check.f kj9 a0_0 l0_1).bind fun t426 => (if t426 = t417 then ((backhaullaw31_awake.f).bind fun t427 => (if t427 = true then (some true) else (some false))) else (some false))) else (some false))) = some true := H
          have A55 := Aside0.mk A550
          clear A550
          by_cases c56 : t417 = 0
          · rw [if_pos c56] at H
            have c56b0 : (t417 == 0) = true := beq_iff_eq.mpr c56
            have c56b1 : (t417 != 0) = false := bne_eq_false_iff_eq.mpr c56
            clear c56
            replace H := Option.bind_eq_some_iff.mp H
            obtain ⟨⟨t418, t419, t422⟩, A570, H⟩ := H
            replace H : ((backhaulref31_Same.f kj9 t418 t419 a0_0 l0_1).bind fun t424 => (if t424 = true then (if t422 = 0 then ((backhaullaw31_awake.f).bind fun t425 => (if t425 = true then (some true) else (some false))) else (some false)) else (some false))) = some true := H
            have A57 := Aside0.mk A570
            clear A570
            replace H := Option.bind_eq_some_iff.mp H
            obtain ⟨t424, A580, H⟩ := H
            replace H : (if t424 = true then (if t422 = 0 then ((backhaullaw31_awake.f).bind fun t425 => (if t425 = true then (some true) else (some false))) else (some false)) else (some false)) = some true := H
            have A58 := Aside0.mk A580
            clear A580
            by_cases c59 : t424 = true
            · subst c59
              have H1 : (if t422 = 0 then ((backhaullaw31_awake.f).bind fun t425 => (if t425 = true then (some true) else (some false))) else (some false)) = some true := by first | (rw [if_pos rfl] at H; exact H) | rfl
              clear H
              have H := H1
              clear H1
              by_cases c60 : t422 = 0
              · rw [if_pos c60] at H
                have c60b0 : (t422 == 0) = true := beq_iff_eq.mpr c60
                have c60b1 : (t422 != 0) = false := bne_eq_false_iff_eq.mpr c60
                clear c60
                replace H := Option.bind_eq_some_iff.mp H
                obtain ⟨t425, A610, H⟩ := H
                replace H : (if t425 = true then (some true) else (some false)) = some true := H
                have A61 := Aside0.mk A610
                clear A610
                by_cases c62 : t425 = true
                · subst c62
                  have H1 : (some true) = some true := by first | (rw [if_pos rfl] at H; exact H) | rfl
                  clear H
                  have H := H1
                  clear H1
                  clear H
                  have hnb63 := NB403_413.out
                  have hnc63 := NB413_403.out
                  have hnb64 := NB403_414.out
                  have hnc64 := NB414_403.out
                  have hcz65_0 : wc.cell? ⟨gb403, 0, none⟩ = some (.int .i64 a0_0) := (blk_cell BK403.out 0).trans rfl
                  have hcz65_1 : wc.cell? ⟨gb403, 1, none⟩ = some (.slice A0_1 l0_1.length c0_1) := (blk_cell BK403.out 1).trans rfl
                  have hfz65_0 := blk_frozen BK403.out 0
                  have hfz65_1 := blk_frozen BK403.out 1
                  go_wp2_with (first | ((with_reducible refine gate_callee (f := 25) rfl ?_); refine goesL_ (some 48) rfl rfl Try.func25 (by kernel_rfl) rfl #[.agg #[.int .i64 a0_0, .slice A0_1 l0_1.length c0_1]] rfl (by (try simp only [List.map_toArray, List.map_cons, List.map_nil]); first | done | rfl | (simp only [List.length_drop, List.length_take]; rfl)) ?_; (with_reducible refine (reply_Put.calls kj9 a0_0 _ _ l0_1 t416 t417 _ ?side1 ?side2 A55.out).mono ?_); (case side1 => repeat (first | exact (Kd.C_below HR0_1.out HB.out) | (with_reducible refine Kd.C_alloc ?_ _) | (with_reducible refine Kd.C_drewN ?_ _) | (with_reducible refine Kd.C_drew ?_))); (case side2 => exact HC0_1.out); rintro e w66 ⟨rfl, hb⟩; refine ⟨_, rfl, ?_⟩; have n0_ := Aside0.mk (Kd.R_below (by (with_reducible repeat (first | apply Kd.R_alloc | apply Kd.R_drewN | apply Kd.R_drew)); exact HO_414001.out) hb); have n1_ := Aside0.mk (Kd.R_below (by (with_reducible repeat (first | apply Kd.R_alloc | apply Kd.R_drewN | apply Kd.R_drew)); exact HO_415001.out) hb); have n2_ := Aside0.mk (blk_below (g := gb403) (o := .cells #[.int .i64 a0_0, .slice A0_1 l0_1.length c0_1] 25 (0, 0)) (by (with_reducible repeat (first | refine blk_drewN ?_ _ | refine blk_drew ?_ | refine blk_alloc ?_ _)); exact BK403.out) hb); have n3_ := Aside0.mk (blk_below (g := gb413) (o := .cells #[.int .i64 t405, .slice Ao20 t406.length co20] 25 (0, 0)) (by (with_reducible repeat (first | refine blk_drewN ?_ _ | refine blk_drew ?_ | refine blk_alloc ?_ _)); exact BK413.out) hb); have n4_ := Aside0.mk (blk_below (g := gb414) (o := .cells #[.int .i64 t409, .slice Ao23 t410.length co23] 25 (0, 0)) (by (with_reducible repeat (first | refine blk_drewN ?_ _ | refine blk_drew ?_ | refine blk_alloc ?_ _)); exact BK414.out) hb); have n5_ := Aside0.mk (below_step (by repeat (first | (with_reducible first | exact HB.out | apply below_alloc | apply pw_below_drewN | apply below_drew1 | refine below_set ?_ GE403.out | refine below_set ?_ GE413.out | refine below_set ?_ GE414.out) | exact HB.out)) hb); clear HO_414001; clear HO_415001; clear BK403; clear BK413; clear BK414; clear HB; have HO_414001 := n0_; have HO_415001 := n1_; have BK403 := n2_; have BK413 := n3_; have BK414 := n4_; have HB := n5_; clear n0_ n1_ n2_ n3_ n4_ n5_; (try clear hb); (try clear hb2); (try clear hk); (try clear hi)) | ((with_reducible refine gate_callee (f := 27) rfl ?_); refine goesL_ (some 66) rfl rfl Try.func27 (by kernel_rfl) rfl #[.string t416] rfl (by (try simp only [List.map_toArray, List.map_cons, List.map_nil]); first | done | rfl | (simp only [List.length_drop, List.length_take]; rfl)) ?_; (with_reducible refine (reply_Take.calls kj9 t416 t418 t419 t422 _ A57.out).mono ?_); rintro e w67 ⟨v420, rfl, ho0, hb⟩; refine ⟨_, rfl, ?_⟩; have n0_ := Aside0.mk (Kd.R_elder' (by (with_reducible repeat (first | apply Kd.R_alloc | apply Kd.R_drewN | apply Kd.R_drew)); exact HO_414001.out) (Kd.R_base ho0) hb); have n1_ := Aside0.mk (Kd.R_elder' (by (with_reducible repeat (first | apply Kd.R_alloc | apply Kd.R_drewN | apply Kd.R_drew)); exact HO_415001.out) (Kd.R_base ho0) hb); have n2_ := Aside0.mk (Kd.R_lower (Kd.R_new' (Kd.R_new' ho0 (Kd.R_lt (by (with_reducible repeat (first | apply Kd.R_alloc | apply Kd.R_drewN | apply Kd.R_drew)); exact HO_414001.out))) (Kd.R_lt (by (with_reducible repeat (first | apply Kd.R_alloc | apply Kd.R_drewN | apply Kd.R_drew)); exact HO_415001.out))) (below_size (by repeat (first | (with_reducible first | exact HB.out | apply below_alloc | apply pw_below_drewN | apply below_drew1 | refine below_set ?_ GE403.out | refine below_set ?_ GE413.out | refine below_set ?_ GE414.out) | exact HB.out)))); have n3_ := Aside0.mk (blk_below (g := gb403) (o := .cells #[.int .i64 a0_0, .slice A0_1 l0_1.length c0_1] 25 (0, 0)) (by (with_reducible repeat (first | refine blk_drewN ?_ _ | refine blk_drew ?_ | refine blk_alloc ?_ _)); exact BK403.out) hb); have n4_ := Aside0.mk (blk_below (g := gb413) (o := .cells #[.int .i64 t405, .slice Ao20 t406.length co20] 25 (0, 0)) (by (with_reducible repeat (first | refine blk_drewN ?_ _ | refine blk_drew ?_ | refine blk_alloc ?_ _)); exact BK413.out) hb); have n5_ := Aside0.mk (blk_below (g := gb414) (o := .cells #[.int .i64 t409, .slice Ao23 t410.length co23] 25 (0, 0)) (by (with_reducible repeat (first | refine blk_drewN ?_ _ | refine blk_drew ?_ | refine blk_alloc ?_ _)); exact BK414.out) hb); have n6_ := Aside0.mk (below_step (by repeat (first | (with_reducible first | exact HB.out | apply below_alloc | apply pw_below_drewN | apply below_drew1 | refine below_set ?_ GE403.out | refine below_set ?_ GE413.out | refine below_set ?_ GE414.out) | exact HB.out)) hb); clear HO_414001; clear HO_415001; clear BK403; clear BK413; clear BK414; clear HB; have HO_414001 := n0_; have HO_415001 := n1_; have HO421 := n2_; have BK403 := n3_; have BK413 := n4_; have BK414 := n5_; have HB := n6_; clear n0_ n1_ n2_ n3_ n4_ n5_ n6_; (try clear hb); (try clear hb2); (try clear hk); (try clear hi); (try clear ho0)) | ((with_reducible refine gate_dst (N := 7) rfl ?_); (try (refine gate_guard (by rfl) ?_; dsimp only)); refine box_event ?hg (N := 7) ?hd (cs := #[.int .i64 0, .slice none 0 0]) (t := 25) ?hr ?_; (case hd => rfl); (case hg => rfl); (case hr => first | (go_simp; done) | (go_simp; rfl)); intro gb423 hg w68 hbox hb; have n0_ := Aside0.mk (Kd.R_below (by (with_reducible repeat (first | apply Kd.R_alloc | apply Kd.R_drewN | apply Kd.R_drew)); exact HO_414001.out) hb); have n1_ := Aside0.mk (Kd.R_below (by (with_reducible repeat (first | apply Kd.R_alloc | apply Kd.R_drewN | apply Kd.R_drew)); exact HO_415001.out) hb); have n2_ := Aside0.mk (Kd.R_below (by (with_reducible repeat (first | apply Kd.R_alloc | apply Kd.R_drewN | apply Kd.R_drew)); exact HO421.out) hb); have n3_ := Aside0.mk (blk_below (g := gb403) (o := .cells #[.int .i64 a0_0, .slice A0_1 l0_1.length c0_1] 25 (0, 0)) (by (with_reducible repeat (first | refine blk_drewN ?_ _ | refine blk_drew ?_ | refine blk_alloc ?_ _)); exact BK403.out) hb); have n4_ := Aside0.mk (blk_below (g := gb413) (o := .cells #[.int .i64 t405, .slice Ao20 t406.length co20] 25 (0, 0)) (by (with_reducible repeat (first | refine blk_drewN ?_ _ | refine blk_drew ?_ | refine blk_alloc ?_ _)); exact BK413.out) hb); have n5_ := Aside0.mk (blk_below (g := gb414) (o := .cells #[.int .i64 t409, .slice Ao23 t410.length co23] 25 (0, 0)) (by (with_reducible repeat (first | refine blk_drewN ?_ _ | refine blk_drew ?_ | refine blk_alloc ?_ _)); exact BK414.out) hb); have n6_ := Aside0.mk (below_step (by repeat (first | (with_reducible first | exact HB.out | apply below_alloc | apply pw_below_drewN | apply below_drew1 | refine below_set ?_ GE403.out | refine below_set ?_ GE413.out | refine below_set ?_ GE414.out) | exact HB.out)) hb); have n7_ := Aside0.mk (hbox); have n8_ := Aside0.mk ((by rw [hg]; exact (below_size (by repeat (first | (with_reducible first | exact HB.out | apply below_alloc | apply pw_below_drewN | apply below_drew1 | refine below_set ?_ GE403.out | refine below_set ?_ GE413.out | refine below_set ?_ GE414.out) | exact HB.out))) : w.heap.size ≤ gb423)); have n9_ := Aside0.mk ((by rw [hg]; exact (below_size (by repeat (first | (with_reducible first | exact HB.out | apply below_alloc | apply pw_below_drewN | apply below_drew1 | refine below_set ?_ GE403.out | refine below_set ?_ GE413.out | refine below_set ?_ GE414.out) | exact HB.out))) : w.heap.size ≤ gb423)); have n10_ := Aside0.mk ((by rw [hg]; exact Nat.ne_of_lt (blk_lt (g := gb403) (o := .cells #[.int .i64 a0_0, .slice A0_1 l0_1.length c0_1] 25 (0, 0)) (by (with_reducible repeat (first | refine blk_drewN ?_ _ | refine blk_drew ?_ | refine blk_alloc ?_ _)); exact BK403.out)) : gb403 ≠ gb423)); have n11_ := Aside0.mk ((by rw [hg]; exact Nat.ne_of_gt (blk_lt (g := gb403) (o := .cells #[.int .i64 a0_0, .slice A0_1 l0_1.length c0_1] 25 (0, 0)) (by (with_reducible repeat (first | refine blk_drewN ?_ _ | refine blk_drew ?_ | refine blk_alloc ?_ _)); exact BK403.out)) : gb423 ≠ gb403)); have n12_ := Aside0.mk ((by rw [hg]; exact Nat.ne_of_lt (blk_lt (g := gb413) (o := .cells #[.int .i64 t405, .slice Ao20 t406.length co20] 25 (0, 0)) (by (with_reducible repeat (first | refine blk_drewN ?_ _ | refine blk_drew ?_ | refine blk_alloc ?_ _)); exact BK413.out)) : gb413 ≠ gb423)); have n13_ := Aside0.mk ((by rw [hg]; exact Nat.ne_of_gt (blk_lt (g := gb413) (o := .cells #[.int .i64 t405, .slice Ao20 t406.length co20] 25 (0, 0)) (by (with_reducible repeat (first | refine blk_drewN ?_ _ | refine blk_drew ?_ | refine blk_alloc ?_ _)); exact BK413.out)) : gb423 ≠ gb413)); have n14_ := Aside0.mk ((by rw [hg]; exact Nat.ne_of_lt (blk_lt (g := gb414) (o := .cells #[.int .i64 t409, .slice Ao23 t410.length co23] 25 (0, 0)) (by (with_reducible repeat (first | refine blk_drewN ?_ _ | refine blk_drew ?_ | refine blk_alloc ?_ _)); exact BK414.out)) : gb414 ≠ gb423)); have n15_ := Aside0.mk ((by rw [hg]; exact Nat.ne_of_gt (blk_lt (g := gb414) (o := .cells #[.int .i64 t409, .slice Ao23 t410.length co23] 25 (0, 0)) (by (with_reducible repeat (first | refine blk_drewN ?_ _ | refine blk_drew ?_ | refine blk_alloc ?_ _)); exact BK414.out)) : gb423 ≠ gb414)); clear HO_414001; clear HO_415001; clear HO421; clear BK403; clear BK413; clear BK414; clear HB; have HO_414001 := n0_; have HO_415001 := n1_; have HO421 := n2_; have BK403 := n3_; have BK413 := n4_; have BK414 := n5_; have HB := n6_; have BK423 := n7_; have GW423 := n8_; have GE423 := n9_; have NB403_423 := n10_; have NB423_403 := n11_; have NB413_423 := n12_; have NB423_413 := n13_; have NB414_423 := n14_; have NB423_414 := n15_; clear n0_ n1_ n2_ n3_ n4_ n5_ n6_ n7_ n8_ n9_ n10_ n11_ n12_ n13_ n14_ n15_; clear hb hbox hg; have hnb69 := NB423_403.out; have hnc69 := NB403_423.out; have hnb70 := NB423_413.out; have hnc70 := NB413_423.out; have hnb71 := NB423_414.out; have hnc71 := NB414_423.out; have hcz72_0 : w68.cell? ⟨gb423, 0, none⟩ = some (.int .i64 0) := (blk_cell BK423.out 0).trans rfl; have hcz72_1 : w68.cell? ⟨gb423, 1, none⟩ = some (.slice none 0 0) := (blk_cell BK423.out 1).trans rfl; have hfz72_0 := blk_frozen BK423.out 0; have hfz72_1 := blk_frozen BK423.out 1; obtain ⟨Ao73, co73, eo73⟩ := Kd.R_slice HO421.out; subst eo73; have hcz74_0 : w68.cell? ⟨gb403, 0, none⟩ = some (.int .i64 a0_0) := (blk_cell BK403.out 0).trans rfl; have hcz74_1 : w68.cell? ⟨gb403, 1, none⟩ = some (.slice A0_1 l0_1.length c0_1) := (blk_cell BK403.out 1).trans rfl; have hfz74_0 := blk_frozen BK403.out 0; have hfz74_1 := blk_frozen BK403.out 1) | ((with_reducible refine gate_callee (f := 31) rfl ?_); refine goesL_ (some 71) rfl rfl Try.func31 (by kernel_rfl) rfl #[.agg #[.int .i64 t418, .slice Ao73 t419.length co73], .agg #[.int .i64 a0_0, .slice A0_1 l0_1.length c0_1]] rfl (by (try simp only [List.map_toArray, List.map_cons, List.map_nil]); first | done | rfl | (simp only [List.length_drop, List.length_take]; rfl)) ?_; (with_reducible refine (backhaulref31_Same.calls kj9 t418 _ _ t419 a0_0 _ _ l0_1 true _ ?side1 ?side2 ?side3 ?side4 A58.out).mono ?_); (case side1 => refine (Kd.R_reads' (e := 3) (base := w.heap.size) (ok := fun k_ => ((True ∧ some k_ ≠ (.slice Ao20 t406.length co20 : Value).ownBlock) ∧ some k_ ≠ (.slice Ao23 t410.length co23 : Value).ownBlock)) (n := t419.length) (c := co73) ?_).2.2; exact (by (with_reducible repeat (first | apply Kd.R_alloc | apply Kd.R_drewN | apply Kd.R_drew)); exact (Kd.R_mono (Kd.R_far (p := ⟨gb423, 1, none⟩) (Kd.R_far (p := ⟨gb423, 0, none⟩) (Kd.R_types HO421.out BK423.out (by decide)) (fun _ hk => hk.2) (.int .i64 t418)) (fun _ hk => hk.2) (.slice Ao73 t419.length co73)) (fun _ h_ => h_.1)))); (case side2 => exact (Kd.R_reads' HO421.out).2.1); (case side3 => exact Kd.C_below HR0_1.out (by repeat (first | (with_reducible first | exact HB.out | apply below_alloc | apply pw_below_drewN | apply below_drew1 | refine below_set ?_ GE403.out | refine below_set ?_ GE413.out | refine below_set ?_ GE414.out | refine below_set ?_ GE423.out) | exact HB.out))); (case side4 => exact HC0_1.out); rintro e w75 ⟨rfl, hb⟩; refine ⟨_, rfl, ?_⟩; have n0_ := Aside0.mk (Kd.R_below (by (with_reducible repeat (first | apply Kd.R_alloc | apply Kd.R_drewN | apply Kd.R_drew)); exact (Kd.R_mono (Kd.R_far (p := ⟨gb423, 1, none⟩) (Kd.R_far (p := ⟨gb423, 0, none⟩) (Kd.R_types HO_414001.out BK423.out (by decide)) (fun _ hk => hk.2) (.int .i64 t418)) (fun _ hk => hk.2) (.slice Ao73 t419.length co73)) (fun _ h_ => h_.1))) hb); have n1_ := Aside0.mk (Kd.R_below (by (with_reducible repeat (first | apply Kd.R_alloc | apply Kd.R_drewN | apply Kd.R_drew)); exact (Kd.R_mono (Kd.R_far (p := ⟨gb423, 1, none⟩) (Kd.R_far (p := ⟨gb423, 0, none⟩) (Kd.R_types HO_415001.out BK423.out (by decide)) (fun _ hk => hk.2) (.int .i64 t418)) (fun _ hk => hk.2) (.slice Ao73 t419.length co73)) (fun _ h_ => h_.1))) hb); have n2_ := Aside0.mk (Kd.R_below (by (with_reducible repeat (first | apply Kd.R_alloc | apply Kd.R_drewN | apply Kd.R_drew)); exact (Kd.R_mono (Kd.R_far (p := ⟨gb423, 1, none⟩) (Kd.R_far (p := ⟨gb423, 0, none⟩) (Kd.R_types HO421.out BK423.out (by decide)) (fun _ hk => hk.2) (.int .i64 t418)) (fun _ hk => hk.2) (.slice Ao73 t419.length co73)) (fun _ h_ => h_.1))) hb); have n3_ := Aside0.mk (blk_below (g := gb403) (o := .cells #[.int .i64 a0_0, .slice A0_1 l0_1.length c0_1] 25 (0, 0)) (by (with_reducible repeat (first | refine blk_drewN ?_ _ | refine blk_drew ?_ | refine blk_alloc ?_ _)); refine blk_far ?_ NB403_423.out _; (with_reducible repeat (first | refine blk_drewN ?_ _ | refine blk_drew ?_ | refine blk_alloc ?_ _)); refine blk_far ?_ NB403_423.out _; (with_reducible repeat (first | refine blk_drewN ?_ _ | refine blk_drew ?_ | refine blk_alloc ?_ _)); exact BK403.out) hb); have n4_ := Aside0.mk (blk_below (g := gb413) (o := .cells #[.int .i64 t405, .slice Ao20 t406.length co20] 25 (0, 0)) (by (with_reducible repeat (first | refine blk_drewN ?_ _ | refine blk_drew ?_ | refine blk_alloc ?_ _)); refine blk_far ?_ NB413_423.out _; (with_reducible repeat (first | refine blk_drewN ?_ _ | refine blk_drew ?_ | refine blk_alloc ?_ _)); refine blk_far ?_ NB413_423.out _; (with_reducible repeat (first | refine blk_drewN ?_ _ | refine blk_drew ?_ | refine blk_alloc ?_ _)); exact BK413.out) hb); have n5_ := Aside0.mk (blk_below (g := gb414) (o := .cells #[.int .i64 t409, .slice Ao23 t410.length co23] 25 (0, 0)) (by (with_reducible repeat (first | refine blk_drewN ?_ _ | refine blk_drew ?_ | refine blk_alloc ?_ _)); refine blk_far ?_ NB414_423.out _; (with_reducible repeat (first | refine blk_drewN ?_ _ | refine blk_drew ?_ | refine blk_alloc ?_ _)); refine blk_far ?_ NB414_423.out _; (with_reducible repeat (first | refine blk_drewN ?_ _ | refine blk_drew ?_ | refine blk_alloc ?_ _)); exact BK414.out) hb); have n6_ := Aside0.mk (blk_below (g := gb423) (o := .cells #[.int .i64 t418, .slice Ao73 t419.length co73] 25 (0, 0)) (by (with_reducible repeat (first | refine blk_drewN ?_ _ | refine blk_drew ?_ | refine blk_alloc ?_ _)); refine blk_put (cs := #[.int .i64 t418, .slice none 0 0]) ?_ 1 _ rfl; (with_reducible repeat (first | refine blk_drewN ?_ _ | refine blk_drew ?_ | refine blk_alloc ?_ _)); refine blk_put (cs := #[.int .i64 0, .slice none 0 0]) ?_ 0 _ rfl; (with_reducible repeat (first | refine blk_drewN ?_ _ | refine blk_drew ?_ | refine blk_alloc ?_ _)); exact BK423.out) hb); have n7_ := Aside0.mk (below_step (by repeat (first | (with_reducible first | exact HB.out | apply below_alloc | apply pw_below_drewN | apply below_drew1 | refine below_set ?_ GE403.out | refine below_set ?_ GE413.out | refine below_set ?_ GE414.out | refine below_set ?_ GE423.out) | exact HB.out)) hb); clear HO_414001; clear HO_415001; clear HO421; clear BK403; clear BK413; clear BK414; clear BK423; clear HB; have HO_414001 := n0_; have HO_415001 := n1_; have HO421 := n2_; have BK403 := n3_; have BK413 := n4_; have BK414 := n5_; have BK423 := n6_; have HB := n7_; clear n0_ n1_ n2_ n3_ n4_ n5_ n6_ n7_; (try clear hb); (try clear hb2); (try clear hk); (try clear hi)) | (go_at_call 24; (with_reducible refine (backhaullaw31_awake.calls  true _ A61.out).mono ?_); rintro e w76 ⟨rfl, hb⟩; have n0_ := Aside0.mk (Kd.R_below (by (with_reducible repeat (first | apply Kd.R_alloc | apply Kd.R_drewN | apply Kd.R_drew)); exact HO_414001.out) hb); have n1_ := Aside0.mk (Kd.R_below (by (with_reducible repeat (first | apply Kd.R_alloc | apply Kd.R_drewN | apply Kd.R_drew)); exact HO_415001.out) hb); have n2_ := Aside0.mk (Kd.R_below (by (with_reducible repeat (first | apply Kd.R_alloc | apply Kd.R_drewN | apply Kd.R_drew)); exact HO421.out) hb); have n3_ := Aside0.mk (blk_below (g := gb403) (o := .cells #[.int .i64 a0_0, .slice A0_1 l0_1.length c0_1] 25 (0, 0)) (by (with_reducible repeat (first | refine blk_drewN ?_ _ | refine blk_drew ?_ | refine blk_alloc ?_ _)); exact BK403.out) hb); have n4_ := Aside0.mk (blk_below (g := gb413) (o := .cells #[.int .i64 t405, .slice Ao20 t406.length co20] 25 (0, 0)) (by (with_reducible repeat (first | refine blk_drewN ?_ _ | refine blk_drew ?_ | refine blk_alloc ?_ _)); exact BK413.out) hb); have n5_ := Aside0.mk (blk_below (g := gb414) (o := .cells #[.int .i64 t409, .slice Ao23 t410.length co23] 25 (0, 0)) (by (with_reducible repeat (first | refine blk_drewN ?_ _ | refine blk_drew ?_ | refine blk_alloc ?_ _)); exact BK414.out) hb); have n6_ := Aside0.mk (blk_below (g := gb423) (o := .cells #[.int .i64 t418, .slice Ao73 t419.length co73] 25 (0, 0)) (by (with_reducible repeat (first | refine blk_drewN ?_ _ | refine blk_drew ?_ | refine blk_alloc ?_ _)); exact BK423.out) hb); have n7_ := Aside0.mk (below_step (by repeat (first | (with_reducible first | exact HB.out | apply below_alloc | apply pw_below_drewN | apply below_drew1 | refine below_set ?_ GE403.out | refine below_set ?_ GE413.out | refine below_set ?_ GE414.out | refine below_set ?_ GE423.out) | exact HB.out)) hb); clear HO_414001; clear HO_415001; clear HO421; clear BK403; clear BK413; clear BK414; clear BK423; clear HB; have HO_414001 := n0_; have HO_415001 := n1_; have HO421 := n2_; have BK403 := n3_; have BK413 := n4_; have BK414 := n5_; have BK423 := n6_; have HB := n7_; clear n0_ n1_ n2_ n3_ n4_ n5_ n6_ n7_; (try clear hb); (try clear hb2); (try clear hk); (try clear hi)))
                  go_ret
                  exact ⟨by first | rfl | (simp [errW_none, errW_some] <;> rfl) | (simp [*, errW_none, errW_some] <;> rfl), by repeat (first | (with_reducible first | exact HB.out | apply below_alloc | apply pw_below_drewN | apply below_drew1 | refine below_set ?_ GE403.out | refine below_set ?_ GE413.out | refine below_set ?_ GE414.out | refine below_set ?_ GE423.out) | exact HB.out)⟩
                · replace c62 := Bool.eq_false_iff.mpr c62
                  subst c62
                  have H1 : (some false) = some true := by first | (rw [if_neg (show ¬ (false = true) by decide)] at H; exact H) | rfl
                  clear H
                  have H := H1
                  clear H1
                  exact absurd H (by simp)
              · rw [if_neg c60] at H
                have c60b0 : (t422 == 0) = false := beq_eq_false_iff_ne.mpr c60
                have c60b1 : (t422 != 0) = true := bne_iff_ne.mpr c60
                exact absurd H (by simp)
            · replace c59 := Bool.eq_false_iff.mpr c59
              subst c59
              have H1 : (some false) = some true := by first | (rw [if_neg (show ¬ (false = true) by decide)] at H; exact H) | rfl
              clear H
              have H := H1
              clear H1
              exact absurd H (by simp)
          · rw [if_neg c56] at H
            have c56b0 : (t417 == 0) = false := beq_eq_false_iff_ne.mpr c56
            have c56b1 : (t417 != 0) = true := bne_iff_ne.mpr c56
            by_cases c77 : t416.toList = ([] : List UInt8)
            · rw [if_pos c77] at H
              have c77b0 : (t416.toList == ([] : List UInt8)) = true := beq_iff_eq.mpr c77
              have c77b1 : (t416.toList != ([] : List UInt8)) = false := bne_eq_false_iff_eq.mpr c77
              clear c77
              replace H := Option.bind_eq_some_iff.mp H
              obtain ⟨t426, A780, H⟩ := H
              replace H : (if t426 = t417 then ((backhaullaw31_awake.f).bind fun t427 => (if t427 = true then (some true) else (some false))) else (some false)) = some true := H
              have A78 := Aside0.mk A780
              clear A780
              by_cases c79 : t426 = t417
              · rw [if_pos c79] at H
                have c79b0 : (t426 == t417) = true := beq_iff_eq.mpr c79
                have c79b1 : (t426 != t417) = false := bne_eq_false_iff_eq.mpr c79
                clear c79
                replace H := Option.bind_eq_some_iff.mp H
                obtain ⟨t427, A800, H⟩ := H
                replace H : (if t427 = true then (some true) else (some false)) = some true := H
                have A80 := Aside0.mk A800
                clear A800
                by_cases c81 : t427 = true
                · subst c81
                  have H1 : (some true) = some true := by first | (rw [if_pos rfl] at H; exact H) | rfl
                  clear H
                  have H := H1
                  clear H1
                  clear H
                  have hnb82 := NB403_413.out
                  have hnc82 := NB413_403.out
                  have hnb83 := NB403_414.out
                  have hnc83 := NB414_403.out
                  have hcz84_0 : wc.cell? ⟨gb403, 0, none⟩ = some (.int .i64 a0_0) := (blk_cell BK403.out 0).trans rfl
                  have hcz84_1 : wc.cell? ⟨gb403, 1, none⟩ = some (.slice A0_1 l0_1.length c0_1) := (blk_cell BK403.out 1).trans rfl
                  have hfz84_0 := blk_frozen BK403.out 0
                  have hfz84_1 := blk_frozen BK403.out 1
                  go_wp2_with (first | ((with_reducible refine gate_callee (f := 25) rfl ?_); refine goesL_ (some 48) rfl rfl Try.func25 (by kernel_rfl) rfl #[.agg #[.int .i64 a0_0, .slice A0_1 l0_1.length c0_1]] rfl (by (try simp only [List.map_toArray, List.map_cons, List.map_nil]); first | done | rfl | (simp only [List.length_drop, List.length_take]; rfl)) ?_; (with_reducible refine (reply_Put.calls kj9 a0_0 _ _ l0_1 t416 t417 _ ?side1 ?side2 A55.out).mono ?_); (case side1 => repeat (first | exact (Kd.C_below HR0_1.out HB.out) | (with_reducible refine Kd.C_alloc ?_ _) | (with_reducible refine Kd.C_drewN ?_ _) | (with_reducible refine Kd.C_drew ?_))); (case side2 => exact HC0_1.out); rintro e w85 ⟨rfl, hb⟩; refine ⟨_, rfl, ?_⟩; have n0_ := Aside0.mk (Kd.R_below (by (with_reducible repeat (first | apply Kd.R_alloc | apply Kd.R_drewN | apply Kd.R_drew)); exact HO_414001.out) hb); have n1_ := Aside0.mk (Kd.R_below (by (with_reducible repeat (first | apply Kd.R_alloc | apply Kd.R_drewN | apply Kd.R_drew)); exact HO_415001.out) hb); have n2_ := Aside0.mk (blk_below (g := gb403) (o := .cells #[.int .i64 a0_0, .slice A0_1 l0_1.length c0_1] 25 (0, 0)) (by (with_reducible repeat (first | refine blk_drewN ?_ _ | refine blk_drew ?_ | refine blk_alloc ?_ _)); exact BK403.out) hb); have n3_ := Aside0.mk (blk_below (g := gb413) (o := .cells #[.int .i64 t405, .slice Ao20 t406.length co20] 25 (0, 0)) (by (with_reducible repeat (first | refine blk_drewN ?_ _ | refine blk_drew ?_ | refine blk_alloc ?_ _)); exact BK413.out) hb); have n4_ := Aside0.mk (blk_below (g := gb414) (o := .cells #[.int .i64 t409, .slice Ao23 t410.length co23] 25 (0, 0)) (by (with_reducible repeat (first | refine blk_drewN ?_ _ | refine blk_drew ?_ | refine blk_alloc ?_ _)); exact BK414.out) hb); have n5_ := Aside0.mk (below_step (by repeat (first | (with_reducible first | exact HB.out | apply below_alloc | apply pw_below_drewN | apply below_drew1 | refine below_set ?_ GE403.out | refine below_set ?_ GE413.out | refine below_set ?_ GE414.out) | exact HB.out)) hb); clear HO_414001; clear HO_415001; clear BK403; clear BK413; clear BK414; clear HB; have HO_414001 := n0_; have HO_415001 := n1_; have BK403 := n2_; have BK413 := n3_; have BK414 := n4_; have HB := n5_; clear n0_ n1_ n2_ n3_ n4_ n5_; (try clear hb); (try clear hb2); (try clear hk); (try clear hi); have hcz86_0 : w85.cell? ⟨gb403, 0, none⟩ = some (.int .i64 a0_0) := (blk_cell BK403.out 0).trans rfl; have hcz86_1 : w85.cell? ⟨gb403, 1, none⟩ = some (.slice A0_1 l0_1.length c0_1) := (blk_cell BK403.out 1).trans rfl; have hfz86_0 := blk_frozen BK403.out 0; have hfz86_1 := blk_frozen BK403.out 1) | (go_at_call 29; (with_reducible refine (reply_Check.calls kj9 a0_0 _ _ l0_1 t426 _ ?side1 ?side2 A78.out).mono ?_); (case side1 => repeat (first | exact (Kd.C_below HR0_1.out HB.out) | (with_reducible refine Kd.C_alloc ?_ _) | (with_reducible refine Kd.C_drewN ?_ _) | (with_reducible refine Kd.C_drew ?_))); (case side2 => exact HC0_1.out); rintro e w87 ⟨rfl, hb⟩; have n0_ := Aside0.mk (Kd.R_below (by (with_reducible repeat (first | apply Kd.R_alloc | apply Kd.R_drewN | apply Kd.R_drew)); exact HO_414001.out) hb); have n1_ := Aside0.mk (Kd.R_below (by (with_reducible repeat (first | apply Kd.R_alloc | apply Kd.R_drewN | apply Kd.R_drew)); exact HO_415001.out) hb); have n2_ := Aside0.mk (blk_below (g := gb403) (o := .cells #[.int .i64 a0_0, .slice A0_1 l0_1.length c0_1] 25 (0, 0)) (by (with_reducible repeat (first | refine blk_drewN ?_ _ | refine blk_drew ?_ | refine blk_alloc ?_ _)); exact BK403.out) hb); have n3_ := Aside0.mk (blk_below (g := gb413) (o := .cells #[.int .i64 t405, .slice Ao20 t406.length co20] 25 (0, 0)) (by (with_reducible repeat (first | refine blk_drewN ?_ _ | refine blk_drew ?_ | refine blk_alloc ?_ _)); exact BK413.out) hb); have n4_ := Aside0.mk (blk_below (g := gb414) (o := .cells #[.int .i64 t409, .slice Ao23 t410.length co23] 25 (0, 0)) (by (with_reducible repeat (first | refine blk_drewN ?_ _ | refine blk_drew ?_ | refine blk_alloc ?_ _)); exact BK414.out) hb); have n5_ := Aside0.mk (below_step (by repeat (first | (with_reducible first | exact HB.out | apply below_alloc | apply pw_below_drewN | apply below_drew1 | refine below_set ?_ GE403.out | refine below_set ?_ GE413.out | refine below_set ?_ GE414.out) | exact HB.out)) hb); clear HO_414001; clear HO_415001; clear BK403; clear BK413; clear BK414; clear HB; have HO_414001 := n0_; have HO_415001 := n1_; have BK403 := n2_; have BK413 := n3_; have BK414 := n4_; have HB := n5_; clear n0_ n1_ n2_ n3_ n4_ n5_; (try clear hb); (try clear hb2); (try clear hk); (try clear hi)) | (go_at_call 24; (with_reducible refine (backhaullaw31_awake.calls  true _ A80.out).mono ?_); rintro e w88 ⟨rfl, hb⟩; have n0_ := Aside0.mk (Kd.R_below (by (with_reducible repeat (first | apply Kd.R_alloc | apply Kd.R_drewN | apply Kd.R_drew)); exact HO_414001.out) hb); have n1_ := Aside0.mk (Kd.R_below (by (with_reducible repeat (first | apply Kd.R_alloc | apply Kd.R_drewN | apply Kd.R_drew)); exact HO_415001.out) hb); have n2_ := Aside0.mk (blk_below (g := gb403) (o := .cells #[.int .i64 a0_0, .slice A0_1 l0_1.length c0_1] 25 (0, 0)) (by (with_reducible repeat (first | refine blk_drewN ?_ _ | refine blk_drew ?_ | refine blk_alloc ?_ _)); exact BK403.out) hb); have n3_ := Aside0.mk (blk_below (g := gb413) (o := .cells #[.int .i64 t405, .slice Ao20 t406.length co20] 25 (0, 0)) (by (with_reducible repeat (first | refine blk_drewN ?_ _ | refine blk_drew ?_ | refine blk_alloc ?_ _)); exact BK413.out) hb); have n4_ := Aside0.mk (blk_below (g := gb414) (o := .cells #[.int .i64 t409, .slice Ao23 t410.length co23] 25 (0, 0)) (by (with_reducible repeat (first | refine blk_drewN ?_ _ | refine blk_drew ?_ | refine blk_alloc ?_ _)); exact BK414.out) hb); have n5_ := Aside0.mk (below_step (by repeat (first | (with_reducible first | exact HB.out | apply below_alloc | apply pw_below_drewN | apply below_drew1 | refine below_set ?_ GE403.out | refine below_set ?_ GE413.out | refine below_set ?_ GE414.out) | exact HB.out)) hb); clear HO_414001; clear HO_415001; clear BK403; clear BK413; clear BK414; clear HB; have HO_414001 := n0_; have HO_415001 := n1_; have BK403 := n2_; have BK413 := n3_; have BK414 := n4_; have HB := n5_; clear n0_ n1_ n2_ n3_ n4_ n5_; (try clear hb); (try clear hb2); (try clear hk); (try clear hi)))
                  go_ret
                  exact ⟨by first | rfl | (simp [errW_none, errW_some] <;> rfl) | (simp [*, errW_none, errW_some] <;> rfl), by repeat (first | (with_reducible first | exact HB.out | apply below_alloc | apply pw_below_drewN | apply below_drew1 | refine below_set ?_ GE403.out | refine below_set ?_ GE413.out | refine below_set ?_ GE414.out) | exact HB.out)⟩
                · replace c81 := Bool.eq_false_iff.mpr c81
                  subst c81
                  have H1 : (some false) = some true := by first | (rw [if_neg (show ¬ (false = true) by decide)] at H; exact H) | rfl
                  clear H
                  have H := H1
                  clear H1
                  exact absurd H (by simp)
              · rw [if_neg c79] at H
                have c79b0 : (t426 == t417) = false := beq_eq_false_iff_ne.mpr c79
                have c79b1 : (t426 != t417) = true := bne_iff_ne.mpr c79
                exact absurd H (by simp)
            · rw [if_neg c77] at H
              have c77b0 : (t416.toList == ([] : List UInt8)) = false := beq_eq_false_iff_ne.mpr c77
              have c77b1 : (t416.toList != ([] : List UInt8)) = true := bne_iff_ne.mpr c77
              exact absurd H (by simp)
def backhaullaw31_ReplyBack.Pure : Prop := ∀ (a0_0 : Int) (l0_1 : List Int), (Lit.int .i64 a0_0).wf = true → (l0_1.length ≤ maxLen ∧ ∀ x ∈ l0_1, (Lit.int .i64 x).wf = true) → ∃ k, backhaullaw31_ReplyBack.f k a0_0 l0_1 = some true
end Go.Proofs.Ytakkhomjpflkbaa.F
set_option linter.unusedVariables false
namespace Go.Proofs.Ytakkhomjpflkbaa.Q
open Go.RowKit Go.Proofs.YtakkhomjpflkbaaW.PrintWords Go.Proofs.YtakkhomjpflkbaaW.PrintLast Go.Proofs.YtakkhomjpflkbaaW.PrintMore
theorem Ev.ite {α : Type} {c : Prop} [Decidable c] {a b : Nat → Option α} {r : α} (h1 : c → Ev a r) (h2 : ¬ c → Ev b r) : Ev (fun k => if c then a k else b k) r := by
  by_cases h : c
  · simp only [if_pos h]; exact h1 h
  · simp only [if_neg h]; exact h2 h
theorem Ev.pos {α : Type} {c : Prop} [Decidable c] {a b : Nat → Option α} {r : α} (h : c) (h1 : Ev a r) : Ev (fun k => if c then a k else b k) r := by
  simp only [if_pos h]; exact h1
theorem Ev.neg {α : Type} {c : Prop} [Decidable c] {a b : Nat → Option α} {r : α} (h : ¬ c) (h1 : Ev b r) : Ev (fun k => if c then a k else b k) r := by
  simp only [if_neg h]; exact h1
theorem Ev.ok {α : Type} {a b : α} (h : a = b) : Ev (fun _ => some a) b := ⟨0, fun _ _ => by rw [h]⟩
theorem Ev.const {α : Type} {o : Option α} {r : α} (h : o = some r) : Ev (fun _ => o) r := ⟨0, fun _ _ => h⟩
theorem Ev.bindc {α β : Type} {o : Option α} {f : Nat → α → Option β} {a : α} {r : β} (h : o = some a) (k : Ev (fun n => f n a) r) : Ev (fun n => o.bind (f n)) r := by
  subst h
  exact k
theorem Ev.eq {α : Type} {g : Nat → Option α} {a b : α} (h : Ev g a) (e : a = b) : Ev g b := e ▸ h
theorem i64_bounds {x : Int} (h : (Lit.int .i64 x).wf = true) : -9223372036854775808 ≤ x ∧ x ≤ 9223372036854775807 := by
  simp [Lit.wf, IntKind.min, IntKind.max, IntKind.signed, IntKind.bits] at h
  omega
theorem wrap_eq {x : Int} (h0 : -9223372036854775808 ≤ x) (h1 : x ≤ 9223372036854775807) : wrap64 x = x := by
  unfold wrap64; omega
theorem u64_eq {x : Int} (h0 : 0 ≤ x) (h1 : x < 18446744073709551616) : IntKind.u64.wrap x = x := by
  simp [IntKind.wrap, IntKind.signed, IntKind.bits]; omega
theorem rd_nat {l : List Int} {i : Nat} (h : i < l.length) : rd l (i : Int) = l[i] := by
  unfold rd; simp [List.getD_eq_getElem?_getD, h]
theorem drop_cons {α : Type} {l : List α} {i : Nat} (h : i < l.length) : l.drop i = l[i] :: l.drop (i + 1) := List.drop_eq_getElem_cons h
end Go.Proofs.Ytakkhomjpflkbaa.Q
set_option linter.unusedVariables false
namespace Go.Proofs.Ytakkhomjpflkbaa.Q
open Go.RowKit Go.Proofs.YtakkhomjpflkbaaW.PrintWords Go.Proofs.YtakkhomjpflkbaaW.PrintLast Go.Proofs.YtakkhomjpflkbaaW.PrintMore
def beL : Nat → Nat → List UInt8
  | 0, _ => []
  | w + 1, n => beL w (n / 256) ++ [UInt8.ofNat n]
def beN (l : List UInt8) : Nat := l.foldl (fun a b => 256 * a + b.toNat) 0
theorem beL_length (w : Nat) : ∀ n, (beL w n).length = w := by
  induction w with
  | zero => intro n; rfl
  | succ w ih => intro n; simp [beL, ih]
theorem beN_append (a : List UInt8) (b : UInt8) : beN (a ++ [b]) = 256 * beN a + b.toNat := by
  simp [beN]
theorem toNat_ofNat (n : Nat) : (UInt8.ofNat n).toNat = n % 256 := by simp
theorem beN_beL (w : Nat) : ∀ n, beN (beL w n) = n % 256 ^ w := by
  induction w with
  | zero => intro n; simp [beL, beN, Nat.mod_one]
  | succ w ih =>
    intro n
    rw [beL, beN_append, ih, toNat_ofNat, Nat.pow_succ, Nat.mul_comm (256 ^ w) 256, Nat.mod_mul]
    omega
theorem snoc_cases {α : Type} (l : List α) : l = [] ∨ ∃ a b, l = a ++ [b] := by
  rcases List.eq_nil_or_concat l with h | ⟨a, b, h⟩
  · exact .inl h
  · exact .inr ⟨a, b, by simpa using h⟩
theorem beN_lt (w : Nat) : ∀ l : List UInt8, l.length = w → beN l < 256 ^ w := by
  induction w with
  | zero => intro l h; rw [List.eq_nil_of_length_eq_zero h]; simp [beN]
  | succ w ih =>
    intro l h
    rcases snoc_cases l with rfl | ⟨a, b, rfl⟩
    · simp at h
    · have hb := b.toNat_lt
      have := ih a (by simpa using h)
      rw [beN_append, Nat.pow_succ]
      omega
def bytesB (l : List UInt8) : ByteArray := ⟨l.toArray⟩
theorem bytesB_data (l : List UInt8) : (bytesB l).data.toList = l := rfl
theorem bytesB_size (l : List UInt8) : (bytesB l).size = l.length := by simp [bytesB, ByteArray.size]
theorem ext_list {a b : ByteArray} (h : a.data.toList = b.data.toList) : a = b := by
  cases a; cases b; simpa [Array.toList_inj] using h
theorem data_append (a b : ByteArray) : (a ++ b).data.toList = a.data.toList ++ b.data.toList := by simp [ByteArray.data_append]
theorem size_data (a : ByteArray) : a.data.toList.length = a.size := by rw [Array.length_toList]; rfl
theorem bt_data (s : ByteArray) (i : Nat) (h : i < s.size) : bt s (i : Int) = ((s.data.toList[i]'(by rw [size_data]; exact h)).toNat : Int) := by
  unfold bt
  rw [dif_pos (by simpa using h)]
  simp [ByteArray.getElem_eq_getElem_data]
def wide (w : Int) : Prop := w = 1 ∨ w = 2 ∨ w = 4 ∨ w = 8
instance (w : Int) : Decidable (wide w) := by unfold wide; infer_instance
def putS (n w : Int) : ByteArray × Int := if wide w then (if 0 ≤ n ∧ n < 256 ^ w.toNat then (bytesB (beL w.toNat n.toNat), 0) else (⟨#[]⟩, 8)) else (⟨#[]⟩, 2)
def numAt (s : ByteArray) (at_ w : Nat) : Nat := beN ((s.data.toList.drop at_).take w)
def getS (s : ByteArray) (at_ w : Int) : Int × Int × Int :=
  if wide w ∧ 0 ≤ at_ ∧ at_ ≤ s.size then
    (if s.size - at_ < w then (0, 0, 4) else if (numAt s at_.toNat w.toNat : Int) > 9223372036854775807 then (0, 0, 8) else ((numAt s at_.toNat w.toNat : Int), at_ + w, 0))
  else (0, 0, 2)
def rowL (w : Int) : List Int → ByteArray × Int
  | [] => (⟨#[]⟩, 0)
  | x :: xs => if (putS x w).2 = 0 then (if (rowL w xs).2 = 0 then ((putS x w).1 ++ (rowL w xs).1, 0) else (⟨#[]⟩, (rowL w xs).2)) else (⟨#[]⟩, (putS x w).2)
def rowS (w : Int) (l : List Int) : ByteArray × Int :=
  if wide w then (if l.length > 1000 then (⟨#[]⟩, 3) else if (rowL w l).2 = 0 then (bytesB (beL 2 l.length) ++ (rowL w l).1, 0) else (⟨#[]⟩, (rowL w l).2)) else (⟨#[]⟩, 2)
def unrowL (s : ByteArray) (w : Int) : Nat → Int → List Int × Int × Int
  | 0, tt => ([], tt, 0)
  | n + 1, tt => if (getS s tt w).2.2 = 0 then
      (if (unrowL s w n (getS s tt w).2.1).2.2 = 0 then ((getS s tt w).1 :: (unrowL s w n (getS s tt w).2.1).1, (unrowL s w n (getS s tt w).2.1).2) else ([], 0, (unrowL s w n (getS s tt w).2.1).2.2))
    else ([], 0, (getS s tt w).2.2)
def unrowS (s : ByteArray) (at_ w top : Int) : List Int × Int × Int :=
  if ¬ wide w ∨ at_ < 0 ∨ at_ > s.size ∨ top < 0 then ([], 0, 2) else
  if (getS s at_ 2).2.2 = 0 then
    (if (getS s at_ 2).1 > top ∨ (getS s at_ 2).1 > 1000 then ([], 0, 3) else unrowL s w (getS s at_ 2).1.toNat (getS s at_ 2).2.1)
  else ([], 0, (getS s at_ 2).2.2)
theorem wide_nat {w : Int} (h : wide w) : 0 < w ∧ w ≤ 8 := by unfold wide at h; omega
theorem pow_cast {a w : Nat} (h : a < 256 ^ w) : (a : Int) < 256 ^ w := by
  have := Int.ofNat_lt.2 h
  rw [Int.natCast_pow] at this
  exact this
theorem pow_cast' {a w : Nat} (h : (a : Int) < 256 ^ w) : a < 256 ^ w := by
  apply Int.ofNat_lt.1
  rw [Int.natCast_pow]
  exact h
theorem getS_ok {s : ByteArray} {a w n tt : Int} (h : getS s a w = (n, tt, 0)) : wide w ∧ 0 ≤ a ∧ a + w ≤ s.size ∧ tt = a + w ∧ n = (numAt s a.toNat w.toNat : Int) ∧ n ≤ 9223372036854775807 ∧ 0 ≤ n := by
  unfold getS at h
  by_cases h1 : wide w ∧ 0 ≤ a ∧ a ≤ s.size
  · rw [if_pos h1] at h
    by_cases h2 : s.size - a < w
    · rw [if_pos h2] at h; simp at h
    · rw [if_neg h2] at h
      by_cases h3 : (numAt s a.toNat w.toNat : Int) > 9223372036854775807
      · rw [if_pos h3] at h; simp at h
      · rw [if_neg h3] at h
        simp only [Prod.mk.injEq] at h
        obtain ⟨rfl, rfl, _⟩ := h
        exact ⟨h1.1, h1.2.1, by omega, rfl, rfl, by omega, by omega⟩
  · rw [if_neg h1] at h; simp at h
theorem putS_ok {n w : Int} {b : ByteArray} (h : putS n w = (b, 0)) : wide w ∧ 0 ≤ n ∧ n < 256 ^ w.toNat ∧ b = bytesB (beL w.toNat n.toNat) := by
  unfold putS at h
  by_cases h1 : wide w
  · rw [if_pos h1] at h
    by_cases h2 : 0 ≤ n ∧ n < 256 ^ w.toNat
    · rw [if_pos h2] at h
      exact ⟨h1, h2.1, h2.2, (Prod.mk.inj h).1.symm⟩
    · rw [if_neg h2] at h; exact absurd (Prod.mk.inj h).2 (by decide)
  · rw [if_neg h1] at h; exact absurd (Prod.mk.inj h).2 (by decide)
theorem numAt_lt {s : ByteArray} {a w : Nat} (h : a + w ≤ s.size) : numAt s a w < 256 ^ w := by
  apply beN_lt
  rw [List.length_take, List.length_drop, size_data]; omega
theorem get_of_put {n w : Int} {b x y : ByteArray} (h : putS n w = (b, 0)) (hn : n ≤ 9223372036854775807) : getS (x ++ b ++ y) x.size w = (n, x.size + w, 0) ∧ b.size = w.toNat := by
  obtain ⟨hw, h0, h1, rfl⟩ := putS_ok h
  have hw' := wide_nat hw
  have hsz : (bytesB (beL w.toNat n.toNat)).size = w.toNat := by rw [bytesB_size, beL_length]
  have hnum : (numAt (x ++ bytesB (beL w.toNat n.toNat) ++ y) x.size w.toNat : Int) = n := by
    unfold numAt
    rw [data_append, data_append, bytesB_data, List.append_assoc, List.drop_left' (size_data x), List.take_left' (beL_length _ _), beN_beL, Nat.mod_eq_of_lt]
    · omega
    · have : ((n.toNat : Nat) : Int) < 256 ^ w.toNat := by rw [Int.toNat_of_nonneg h0]; exact h1
      exact pow_cast' this
  refine ⟨?_, hsz⟩
  unfold getS
  rw [if_pos ⟨hw, by omega, by simp only [ByteArray.size_append, hsz]; omega⟩, if_neg (by simp only [ByteArray.size_append, hsz]; omega), Int.toNat_natCast, hnum, if_neg (by omega)]
theorem put2 {n : Nat} (h : n < 65536) : putS n 2 = (bytesB (beL 2 n), 0) := by
  unfold putS
  rw [if_pos (by decide), if_pos ⟨by omega, by show (n : Int) < 256 ^ 2; omega⟩]; rfl
theorem rowL_cons {w n : Int} {l : List Int} {b : ByteArray} (h : rowL w (n :: l) = (b, 0)) : ∃ p q, putS n w = (p, 0) ∧ rowL w l = (q, 0) ∧ b = p ++ q := by
  simp only [rowL] at h
  by_cases h1 : (putS n w).2 = 0
  · rw [if_pos h1] at h
    by_cases h2 : (rowL w l).2 = 0
    · rw [if_pos h2] at h
      exact ⟨(putS n w).1, (rowL w l).1, by rw [← h1], by rw [← h2], (Prod.mk.inj h).1.symm⟩
    · rw [if_neg h2] at h; exact absurd (Prod.mk.inj h).2 h2
  · rw [if_neg h1] at h; exact absurd (Prod.mk.inj h).2 h1
theorem unrowL_of_rowL {w : Int} {y : ByteArray} : ∀ (l : List Int) (b x : ByteArray), rowL w l = (b, 0) → (∀ n ∈ l, n ≤ 9223372036854775807) → unrowL (x ++ b ++ y) w l.length (x.size : Int) = (l, (x.size : Int) + b.size, 0)
  | [], b, x, h, _ => by
    simp only [rowL, Prod.mk.injEq] at h
    obtain ⟨rfl, _⟩ := h
    have e0 : ((⟨#[]⟩ : ByteArray).size : Int) = 0 := rfl
    exact congrArg (fun z => (([] : List Int), z, (0 : Int))) (show (x.size : Int) = (x.size : Int) + ((⟨#[]⟩ : ByteArray).size : Int) by rw [e0]; omega)
  | n :: l, b, x, h, hn => by
    obtain ⟨p, q, hp, hq, rfl⟩ := rowL_cons h
    obtain ⟨hg, hs⟩ := get_of_put (x := x) (y := q ++ y) hp (hn n List.mem_cons_self)
    have hw := wide_nat (putS_ok hp).1
    have ih := unrowL_of_rowL (y := y) l q (x ++ p) hq (fun m hm => hn m (List.mem_cons_of_mem _ hm))
    have e : x ++ p ++ (q ++ y) = x ++ (p ++ q) ++ y := by simp only [ByteArray.append_assoc]
    have e2 : x ++ p ++ q ++ y = x ++ (p ++ q) ++ y := by simp only [ByteArray.append_assoc]
    rw [e] at hg
    rw [e2, ByteArray.size_append, show ((x.size + p.size : Nat) : Int) = (x.size : Int) + w by omega] at ih
    simp only [List.length_cons, unrowL, hg, ih, if_true]
    rw [ByteArray.size_append]
    congr 2
    omega
theorem rowS_ok {w : Int} {l : List Int} {b : ByteArray} (h : rowS w l = (b, 0)) : wide w ∧ l.length ≤ 1000 ∧ ∃ q, rowL w l = (q, 0) ∧ b = bytesB (beL 2 l.length) ++ q := by
  unfold rowS at h
  by_cases h1 : wide w
  · rw [if_pos h1] at h
    by_cases h2 : l.length > 1000
    · rw [if_pos h2] at h; exact absurd (Prod.mk.inj h).2 (by decide)
    · rw [if_neg h2] at h
      by_cases h3 : (rowL w l).2 = 0
      · rw [if_pos h3] at h
        exact ⟨h1, by omega, (rowL w l).1, by rw [← h3], (Prod.mk.inj h).1.symm⟩
      · rw [if_neg h3] at h; exact absurd (Prod.mk.inj h).2 h3
  · rw [if_neg h1] at h; exact absurd (Prod.mk.inj h).2 (by decide)
theorem unrow_of_row {w top : Int} {l : List Int} {b x y : ByteArray} (h : rowS w l = (b, 0)) (hn : ∀ n ∈ l, n ≤ 9223372036854775807) (ht : (l.length : Int) ≤ top) : unrowS (x ++ b ++ y) (x.size : Int) w top = (l, (x.size : Int) + b.size, 0) := by
  obtain ⟨hw, hl, q, hq, rfl⟩ := rowS_ok h
  have hg := (get_of_put (x := x) (y := q ++ y) (put2 (n := l.length) (by omega)) (by omega)).1
  have e : x ++ bytesB (beL 2 l.length) ++ (q ++ y) = x ++ (bytesB (beL 2 l.length) ++ q) ++ y := by simp only [ByteArray.append_assoc]
  rw [e] at hg
  have hu := unrowL_of_rowL (y := y) l q (x ++ bytesB (beL 2 l.length)) hq hn
  have e2 : x ++ bytesB (beL 2 l.length) ++ q ++ y = x ++ (bytesB (beL 2 l.length) ++ q) ++ y := by simp only [ByteArray.append_assoc]
  have e3 : (bytesB (beL 2 l.length)).size = 2 := by rw [bytesB_size, beL_length]
  rw [e2, ByteArray.size_append, e3] at hu
  unfold unrowS
  rw [if_neg (by simp only [ByteArray.size_append, e3]; intro h; rcases h with h | h | h | h; exact h hw; omega; omega; omega), hg]
  simp only [if_true]
  rw [if_neg (by omega), Int.toNat_natCast]
  rw [show ((x.size + 2 : Nat) : Int) = (x.size : Int) + 2 by omega] at hu
  rw [hu, ByteArray.size_append, e3]
  congr 2
  omega
end Go.Proofs.Ytakkhomjpflkbaa.Q
set_option linter.unusedVariables false
namespace Go.Proofs.Ytakkhomjpflkbaa.Q
open Go.RowKit Go.Proofs.Ytakkhomjpflkbaa.F Go.Proofs.YtakkhomjpflkbaaW.PrintWords Go.Proofs.YtakkhomjpflkbaaW.PrintLast Go.Proofs.YtakkhomjpflkbaaW.PrintMore
theorem wide_dec (w : Int) : (if w = 1 then some true else if w = 2 then some true else if w = 4 then some true else some (w == 8)) = some (decide (wide w)) := by
  unfold wide
  by_cases h1 : w = 1
  · rw [if_pos h1]; simp [h1]
  · rw [if_neg h1]
    by_cases h2 : w = 2
    · rw [if_pos h2]; simp [h2]
    · rw [if_neg h2]
      by_cases h4 : w = 4
      · rw [if_pos h4]; simp [h4]
      · rw [if_neg h4]
        by_cases h8 : w = 8
        · simp [h8]
        · simp [h1, h2, h4, h8]
theorem octet_wide_f (w : Int) : octet_wide.f w = some (decide (wide w)) := by
  unfold octet_wide.f
  exact wide_dec w
theorem octet_inside_f (s : ByteArray) (a : Int) : octet_inside.f s a = some (decide (0 ≤ a ∧ a ≤ s.size)) := by
  unfold octet_inside.f
  by_cases h : a ≥ 0
  · rw [if_pos h]; congr 1; exact decide_eq_decide.2 ⟨fun x => ⟨h, x⟩, fun x => x.2⟩
  · rw [if_neg h]; congr 1; exact (decide_eq_false (fun x => h x.1)).symm
def natI (l : List UInt8) : List Int := l.map (fun b => (b.toNat : Int))
theorem strOfNums_nat (l : List UInt8) : strOfNums (natI l) = bytesB l := by
  unfold strOfNums natI bytesB
  rw [List.map_map]
  congr 2
  exact (List.map_congr_left fun b _ => by simp).trans (List.map_id l)
theorem byte_mod (n : Int) (h : 0 ≤ n) : n % 256 = (((UInt8.ofNat n.toNat).toNat : Nat) : Int) := by
  rw [toNat_ofNat]; omega
theorem octet_put_l0 (d : Nat) : ∀ (n : Int) (t : List UInt8), 0 ≤ n → d ≤ 8 → Ev (fun k => octet_Put.l0 k n (List.replicate d 0 ++ natI t) ((d : Int) - 1)) (bytesB (beL d n.toNat ++ t), 0) := by
  induction d with
  | zero =>
    intro n t hn hd
    refine Ev.step (fun k => by simp only [octet_Put.l0]; rfl) ?_
    refine Ev.neg (by omega) (Ev.ok ?_)
    simp only [List.replicate_zero, List.nil_append, beL]
    rw [strOfNums_nat]
  | succ d ih =>
    intro n t hn hd
    refine Ev.step (fun k => by simp only [octet_Put.l0]; rfl) ?_
    refine Ev.pos (by omega) (Ev.pos (by omega) (Ev.pos (by simp only [List.length_append, List.length_replicate]; omega) ?_))
    have e1 : ((((d + 1 : Nat) : Int) - 1) : Int).toNat = d := by omega
    have e2 : wrap64 (((d + 1 : Nat) : Int) - 1 - 1) = (d : Int) - 1 := by rw [wrap_eq (by omega) (by omega)]; omega
    have e3 : (List.replicate (d + 1) 0 ++ natI t).set d (n % 256) = List.replicate d 0 ++ natI (UInt8.ofNat n.toNat :: t) := by
      rw [List.replicate_succ', List.append_assoc, List.set_append_right _ _ (by simp)]
      simp only [List.length_replicate, Nat.sub_self, List.cons_append, List.nil_append, List.set_cons_zero, natI, List.map_cons, byte_mod n hn]
    rw [e1, e2, e3]
    refine Ev.eq (ih (n / 256) (UInt8.ofNat n.toNat :: t) (by omega) (by omega)) ?_
    rw [beL, show (n / 256).toNat = n.toNat / 256 by omega, List.append_assoc]
    rfl
theorem octet_put_j0 {n w : Int} (hw : wide w) (hn : 0 ≤ n) (hlt : n < 256 ^ w.toNat) : Ev (fun k => octet_Put.j0 k n w false) (putS n w) := by
  have hw' := wide_nat hw
  refine Ev.step (fun k => by simp only [octet_Put.j0]; rfl) ?_
  refine Ev.neg (by decide) (Ev.pos (by omega) (Ev.pos (by omega) ?_))
  have h := octet_put_l0 w.toNat n [] hn (by omega)
  simp only [natI, List.map_nil, List.append_nil] at h
  rw [wrap_eq (by omega) (by omega), show w - 1 = ((w.toNat : Nat) : Int) - 1 by omega]
  refine Ev.eq h ?_
  unfold putS
  rw [if_pos hw, if_pos ⟨hn, hlt⟩]
theorem octet_put_t {n w : Int} (hw : wide w) (h : ¬ (0 ≤ n ∧ n < 256 ^ w.toNat)) : Ev (fun k => octet_Put.j0 k n w true) (putS n w) := by
  refine Ev.step (fun k => by simp only [octet_Put.j0]; rfl) ?_
  refine Ev.pos trivial (Ev.ok ?_)
  unfold putS
  rw [if_pos hw, if_neg h]
theorem octet_put_f {n : Int} (w : Int) (h1 : n ≤ 9223372036854775807) : Ev (fun k => octet_Put.f k n w) (putS n w) := by
  unfold octet_Put.f
  refine Ev.bindc (octet_wide_f w) ?_
  by_cases hw : wide w
  · refine Ev.pos (decide_eq_true hw) ?_
    refine Ev.ite (fun h => octet_put_t hw (by omega)) (fun h => ?_)
    have key : ∀ b : Bool, (b = true ↔ ¬ n < 256 ^ w.toNat) → Ev (fun k => octet_Put.j0 k n w b) (putS n w) := by
      intro b hb
      cases b with
      | true => exact octet_put_t hw (fun x => (hb.1 rfl) x.2)
      | false => exact octet_put_j0 hw (by omega) (Classical.byContradiction fun x => by have := hb.2 x; cases this)
    rcases hw with rfl | rfl | rfl | rfl
    · rw [show wrap64 (8 * 1) = 8 from wrap_eq (by decide) (by decide)]
      refine Ev.pos (by decide) (Ev.pos (by decide) (key _ ?_))
      rw [decide_eq_true_eq, show shr .i64 n 8 = n / 256 from rfl]
      show n / 256 > 0 ↔ ¬ n < 256
      omega
    · rw [show wrap64 (8 * 2) = 16 from wrap_eq (by decide) (by decide)]
      refine Ev.pos (by decide) (Ev.pos (by decide) (key _ ?_))
      rw [decide_eq_true_eq, show shr .i64 n 16 = n / 65536 from rfl]
      show n / 65536 > 0 ↔ ¬ n < 65536
      omega
    · rw [show wrap64 (8 * 4) = 32 from wrap_eq (by decide) (by decide)]
      refine Ev.pos (by decide) (Ev.pos (by decide) (key _ ?_))
      rw [decide_eq_true_eq, show shr .i64 n 32 = n / 4294967296 from rfl]
      show n / 4294967296 > 0 ↔ ¬ n < 4294967296
      omega
    · refine Ev.neg (by decide) (key false ?_)
      show false = true ↔ ¬ n < 18446744073709551616
      simp
      omega
  · refine Ev.neg (fun x => hw (of_decide_eq_true x)) (Ev.ok ?_)
    unfold putS
    rw [if_neg hw]
theorem numAt_succ {s : ByteArray} {a i : Nat} (h : a + i < s.size) : (numAt s a (i + 1) : Int) = 256 * (numAt s a i : Int) + bt s ((a + i : Nat) : Int) := by
  have hl : a + i < s.data.toList.length := by rw [size_data]; exact h
  unfold numAt
  rw [List.take_succ_eq_append_getElem (by rw [List.length_drop]; omega), beN_append, bt_data s (a + i) h, List.getElem_drop]
  omega
theorem numAt_lt' {s : ByteArray} {a i : Nat} (h : a + i ≤ s.size) : (numAt s a i : Int) < 256 ^ i := pow_cast (numAt_lt h)
theorem pow_le8 {i : Nat} (h : i ≤ 7) : (256 : Int) ^ i ≤ 72057594037927936 := by
  have : i = 0 ∨ i = 1 ∨ i = 2 ∨ i = 3 ∨ i = 4 ∨ i = 5 ∨ i = 6 ∨ i = 7 := by omega
  rcases this with rfl | rfl | rfl | rfl | rfl | rfl | rfl | rfl <;> decide
theorem bt_range (s : ByteArray) (i : Int) : 0 ≤ bt s i ∧ bt s i < 256 := by
  unfold bt
  split
  · rename_i h
    have := (s[i.toNat]'h).toNat_lt
    omega
  · omega
theorem or_byte {x y : Int} (h0 : 0 ≤ x) (h1 : x < 72057594037927936) (h2 : 0 ≤ y) (h3 : y < 256) : Go.bits .or .u64 (IntKind.u64.wrap (x * 256)) (IntKind.u64.wrap y) = 256 * x + y := by
  rw [u64_eq (x := x * 256) (by omega) (by omega), u64_eq (x := y) (by omega) (by omega)]
  rw [bits_join .u64 64 (by decide) (fun n h0 h1 => u64_eq h0 h1) 8 (x * 256) y (by omega) (by omega) (by omega) (by omega) (by omega) (by omega)]
  omega
theorem getS_in {s : ByteArray} {a w : Int} (hw : wide w) (h0 : 0 ≤ a) (h1 : a + w ≤ s.size) : getS s a w = if (numAt s a.toNat w.toNat : Int) > 9223372036854775807 then (0, 0, 8) else ((numAt s a.toNat w.toNat : Int), a + w, 0) := by
  have hw' := wide_nat hw
  unfold getS
  rw [if_pos ⟨hw, h0, by omega⟩, if_neg (by omega)]
theorem octet_get_l0 {s : ByteArray} {a w : Int} (hs : s.size ≤ 9223372036854775807) (hw : wide w) (h0 : 0 ≤ a) (h1 : a + w ≤ s.size) (d : Nat) : ∀ i : Nat, w - i = d → Ev (fun k => octet_Get.l0 k s a w (numAt s a.toNat i : Int) w (i : Int)) (getS s a w) := by
  have hw' := wide_nat hw
  induction d with
  | zero =>
    intro i hi
    refine Ev.step (fun k => by simp only [octet_Get.l0]; rfl) ?_
    refine Ev.neg (by omega) ?_
    rw [getS_in hw h0 h1, show w.toNat = i by omega]
    refine Ev.ite (fun h => ?_) (fun h => ?_)
    · rw [if_pos h]; exact Ev.ok rfl
    · rw [if_neg h, wrap_eq (x := (numAt s a.toNat i : Int)) (by omega) (by omega), wrap_eq (by omega) (by omega)]
      exact Ev.ok rfl
  | succ d ih =>
    intro i hi
    have hlt := numAt_lt' (s := s) (a := a.toNat) (i := i) (by omega)
    have hp := pow_le8 (i := i) (by omega)
    refine Ev.step (fun k => by simp only [octet_Get.l0]; rfl) ?_
    rw [wrap_eq (x := a + (i : Int)) (by omega) (by omega), wrap_eq (x := (i : Int) + 1) (by omega) (by omega)]
    refine Ev.pos (by omega) (Ev.pos (by omega) (Ev.pos (by omega) ?_))
    have hb := bt_range s (a + i)
    rw [or_byte (by omega) (by omega) hb.1 hb.2]
    have e := numAt_succ (s := s) (a := a.toNat) (i := i) (by omega)
    rw [show ((a.toNat + i : Nat) : Int) = a + i by omega] at e
    rw [← e]
    exact ih (i + 1) (by omega)
theorem octet_get_f {s : ByteArray} (a w : Int) (hs : s.size ≤ 9223372036854775807) : Ev (fun k => octet_Get.f k s a w) (getS s a w) := by
  have bad : ¬ (wide w ∧ 0 ≤ a ∧ a ≤ s.size) → Ev (fun k => octet_Get.j0 k s a w true) (getS s a w) := by
    intro h
    refine Ev.step (fun k => by simp only [octet_Get.j0]; rfl) ?_
    refine Ev.pos trivial (Ev.ok ?_)
    unfold getS
    rw [if_neg h]
  unfold octet_Get.f
  refine Ev.bindc (octet_wide_f w) ?_
  by_cases hw : wide w
  · have hw' := wide_nat hw
    refine Ev.pos (decide_eq_true hw) (Ev.bindc (octet_inside_f s a) ?_)
    by_cases ha : 0 ≤ a ∧ a ≤ s.size
    · rw [decide_eq_true ha]
      refine Ev.step (fun k => by simp only [octet_Get.j0]; rfl) ?_
      refine Ev.neg (by decide) ?_
      rw [wrap_eq (by omega) (by omega)]
      refine Ev.ite (fun h => Ev.ok ?_) (fun h => ?_)
      · unfold getS
        rw [if_pos ⟨hw, ha⟩, if_pos h]
      · exact octet_get_l0 hs hw ha.1 (by omega) w.toNat 0 (by omega)
    · rw [decide_eq_false ha]
      exact bad (fun x => ha x.2)
  · exact Ev.neg (fun x => hw (of_decide_eq_true x)) (bad (fun x => hw x.1))
end Go.Proofs.Ytakkhomjpflkbaa.Q
set_option linter.unusedVariables false
namespace Go.Proofs.Ytakkhomjpflkbaa.Q
open Go.RowKit Go.Proofs.Ytakkhomjpflkbaa.F Go.Proofs.YtakkhomjpflkbaaW.PrintWords Go.Proofs.YtakkhomjpflkbaaW.PrintLast Go.Proofs.YtakkhomjpflkbaaW.PrintMore
theorem put_size {n w : Int} : (putS n w).1.size ≤ 8 := by
  unfold putS
  by_cases hw : wide w
  · rw [if_pos hw]
    split
    · have := wide_nat hw
      show (bytesB _).size ≤ 8
      rw [bytesB_size, beL_length]; omega
    · exact Nat.zero_le _
  · rw [if_neg hw]; exact Nat.zero_le _
def rowA (acc : ByteArray) (r : ByteArray × Int) : ByteArray × Int := if r.2 = 0 then (acc ++ r.1, 0) else (⟨#[]⟩, r.2)
theorem rowA_cons {w x : Int} {xs : List Int} {acc : ByteArray} (h : (putS x w).2 = 0) : rowA (acc ++ (putS x w).1) (rowL w xs) = rowA acc (rowL w (x :: xs)) := by
  unfold rowA
  simp only [rowL, if_pos h]
  by_cases h2 : (rowL w xs).2 = 0
  · rw [if_pos h2, if_pos h2, if_pos rfl, ByteArray.append_assoc]
  · rw [if_neg h2, if_neg h2, if_neg h2]
theorem rowA_bad {w x : Int} {xs : List Int} {acc : ByteArray} (h : (putS x w).2 ≠ 0) : ((⟨#[]⟩ : ByteArray), (putS x w).2) = rowA acc (rowL w (x :: xs)) := by
  unfold rowA
  simp only [rowL, if_neg h]
theorem octet_row_go {w : Int} : ∀ (l : List Int) (acc : ByteArray), (∀ x ∈ l, x ≤ 9223372036854775807) → acc.size + 8 * l.length < 140737488355328 → Ev (fun k => octet_Row.go k w l acc) (rowA acc (rowL w l))
  | [], acc, _, _ => by
    refine Ev.ok ?_
    unfold rowA
    simp only [rowL, if_true]
    congr 1
    apply ext_list
    rw [data_append]; simp
  | x :: xs, acc, hx, hs => by
    simp only [octet_Row.go]
    refine Ev.bind (octet_put_f w (hx x List.mem_cons_self)) ?_
    have hp := put_size (n := x) (w := w)
    rw [List.length_cons] at hs
    refine Ev.ite (fun h => ?_) (fun h => Ev.ok (rowA_bad h))
    refine Ev.pos (by omega) ?_
    rw [← rowA_cons h]
    exact octet_row_go xs _ (fun y hy => hx y (List.mem_cons_of_mem _ hy)) (by rw [ByteArray.size_append]; omega)
theorem octet_row_f {l : List Int} (w : Int) (hx : ∀ x ∈ l, x ≤ 9223372036854775807) : Ev (fun k => octet_Row.f k w l) (rowS w l) := by
  unfold octet_Row.f rowS
  refine Ev.bindc (octet_wide_f w) ?_
  by_cases hw : wide w
  · rw [if_pos hw]
    refine Ev.pos (decide_eq_true hw) (Ev.ite (fun h => ?_) (fun h => ?_))
    · rw [if_pos (by omega)]; exact Ev.ok rfl
    · rw [if_neg (by omega)]
      have hb := octet_put_f (n := (l.length : Int)) 2 (by omega)
      rw [put2 (by omega)] at hb
      refine Ev.bind hb (Ev.pos rfl (Ev.pos ?_ ?_))
      · simp only [bytesB_size, beL_length]; omega
      · exact octet_row_go l _ hx (by simp only [bytesB_size, beL_length]; omega)
  · rw [if_neg hw]
    exact Ev.neg (fun x => hw (of_decide_eq_true x)) (Ev.ok rfl)
def unrowA (acc : List Int) (r : List Int × Int × Int) : List Int × Int × Int := if r.2.2 = 0 then (acc ++ r.1, r.2.1, 0) else ([], 0, r.2.2)
theorem unrowA_cons {s : ByteArray} {w t : Int} {n : Nat} {acc : List Int} (h : (getS s t w).2.2 = 0) : unrowA (acc ++ [(getS s t w).1]) (unrowL s w n (getS s t w).2.1) = unrowA acc (unrowL s w (n + 1) t) := by
  unfold unrowA
  simp only [unrowL, if_pos h]
  by_cases h2 : (unrowL s w n (getS s t w).2.1).2.2 = 0
  · rw [if_pos h2, if_pos h2, if_pos h2]; simp
  · rw [if_neg h2, if_neg h2, if_neg h2]
theorem unrowA_bad {s : ByteArray} {w t : Int} {n : Nat} {acc : List Int} (h : (getS s t w).2.2 ≠ 0) : (([] : List Int), (0 : Int), (getS s t w).2.2) = unrowA acc (unrowL s w (n + 1) t) := by
  unfold unrowA
  simp only [unrowL, if_neg h]
theorem unrowA_nil {r : List Int × Int × Int} (h : r.2.2 ≠ 0 → r = ([], 0, r.2.2)) : unrowA [] r = r := by
  unfold unrowA
  by_cases h2 : r.2.2 = 0
  · rw [if_pos h2, List.nil_append, ← h2]
  · rw [if_neg h2]; exact (h h2).symm
theorem unrowL_bad {s : ByteArray} {w : Int} : ∀ (n : Nat) (t : Int), (unrowL s w n t).2.2 ≠ 0 → unrowL s w n t = ([], 0, (unrowL s w n t).2.2)
  | 0, t, h => absurd rfl h
  | n + 1, t, h => by
    simp only [unrowL] at h ⊢
    by_cases h1 : (getS s t w).2.2 = 0
    · rw [if_pos h1] at h ⊢
      by_cases h2 : (unrowL s w n (getS s t w).2.1).2.2 = 0
      · rw [if_pos h2] at h; exact absurd h2 h
      · rw [if_neg h2]
    · rw [if_neg h1]
theorem octet_unrow_l0 {s : ByteArray} {w : Int} {n : Nat} (hs : s.size ≤ 4611686018427387904) (hn : n ≤ 1000) (d : Nat) : ∀ (i : Nat) (acc : List Int) (t : Int), n - i = d → i ≤ n → acc.length ≤ i → Ev (fun k => octet_Unrow.l0 k s w acc t (n : Int) (i : Int)) (unrowA acc (unrowL s w d t)) := by
  induction d with
  | zero =>
    intro i acc t hd hi ha
    refine Ev.step (fun k => by simp only [octet_Unrow.l0]; rfl) ?_
    refine Ev.neg (by omega) (Ev.ok ?_)
    unfold unrowA
    simp [unrowL]
  | succ d ih =>
    intro i acc t hd hi ha
    refine Ev.step (fun k => by simp only [octet_Unrow.l0]; rfl) ?_
    rw [wrap_eq (x := (i : Int) + 1) (by omega) (by omega)]
    refine Ev.pos (by omega) (Ev.bind (octet_get_f t w (by omega)) ?_)
    refine Ev.ite (fun h1 => Ev.pos (by omega) ?_) (fun h1 => Ev.ok (unrowA_bad h1))
    rw [← unrowA_cons h1]
    exact ih (i + 1) _ _ (by omega) (by omega) (by simp only [List.length_append, List.length_cons, List.length_nil]; omega)
theorem octet_unrow_f {s : ByteArray} (a w m : Int) (hs : s.size ≤ 4611686018427387904) : Ev (fun k => octet_Unrow.f k s a w m) (unrowS s a w m) := by
  have bad : (¬ wide w ∨ a < 0 ∨ a > s.size ∨ m < 0) → Ev (fun k => octet_Unrow.j0 k s a w m true) (unrowS s a w m) := by
    intro h
    refine Ev.step (fun k => by simp only [octet_Unrow.j0]; rfl) ?_
    refine Ev.pos trivial (Ev.ok ?_)
    unfold unrowS
    rw [if_pos h]
  unfold octet_Unrow.f
  refine Ev.bindc (octet_wide_f w) ?_
  by_cases hw : wide w
  · refine Ev.pos (decide_eq_true hw) (Ev.bindc (octet_inside_f s a) ?_)
    by_cases ha : 0 ≤ a ∧ a ≤ s.size
    · refine Ev.pos (decide_eq_true ha) ?_
      by_cases hm : m < 0
      · rw [decide_eq_true hm]; exact bad (.inr (.inr (.inr hm)))
      · rw [decide_eq_false hm]
        have e : unrowS s a w m = if (getS s a 2).2.2 = 0 then (if (getS s a 2).1 > m ∨ (getS s a 2).1 > 1000 then ([], 0, 3) else unrowL s w (getS s a 2).1.toNat (getS s a 2).2.1) else ([], 0, (getS s a 2).2.2) := by
          unfold unrowS
          rw [if_neg (fun x => by rcases x with x | x | x | x; exact x hw; omega; omega; omega)]
        rw [e]
        refine Ev.step (fun k => by simp only [octet_Unrow.j0]; rfl) ?_
        refine Ev.neg (by decide) (Ev.bind (octet_get_f a 2 (by omega)) ?_)
        refine Ev.ite (fun h1 => ?_) (fun h1 => ?_)
        · rw [if_pos h1]
          have hg : getS s a 2 = ((getS s a 2).1, (getS s a 2).2.1, 0) := by rw [← h1]
          obtain ⟨_, h2, h3, h4, h5, h6, h7⟩ := getS_ok hg
          have hmn : mn m 1000 = if 1000 < m then 1000 else m := rfl
          refine Ev.ite (fun h8 => ?_) (fun h8 => ?_)
          · rw [if_pos (by rw [hmn] at h8; split at h8 <;> omega)]; exact Ev.ok rfl
          · have h9 : ¬ ((getS s a 2).1 > m ∨ (getS s a 2).1 > 1000) := by rw [hmn] at h8; split at h8 <;> omega
            rw [if_neg h9]
            have := octet_unrow_l0 (w := w) (n := (getS s a 2).1.toNat) hs (by omega) (getS s a 2).1.toNat 0 [] (getS s a 2).2.1 (by omega) (by omega) (by simp)
            rw [Int.toNat_of_nonneg h7, unrowA_nil (unrowL_bad _ _)] at this
            exact this
        · rw [if_neg h1]; exact Ev.ok rfl
    · refine Ev.neg (fun x => ha (of_decide_eq_true x)) (bad (by omega))
  · exact Ev.neg (fun x => hw (of_decide_eq_true x)) (bad (.inl hw))
theorem same_ints_l0 {a b : List Int} (hl : a.length < 9223372036854775807) (hab : a.length = b.length) (d : Nat) : ∀ i : Nat, a.length - i = d → i ≤ a.length →
    Ev (fun k => backhaulref02_SameInts.l0 k a b (i : Int)) (decide (a.drop i = b.drop i)) := by
  induction d with
  | zero =>
    intro i hd hi
    refine Ev.step (fun k => by simp only [backhaulref02_SameInts.l0]; rfl) ?_
    refine Ev.neg (by omega) (Ev.ok ?_)
    rw [List.drop_eq_nil_of_le (by omega), List.drop_eq_nil_of_le (by omega)]; simp
  | succ d ih =>
    intro i hd hi
    have h : i < a.length := by omega
    have h' : i < b.length := by omega
    refine Ev.step (fun k => by simp only [backhaulref02_SameInts.l0]; rfl) ?_
    refine Ev.pos (by omega) (Ev.pos (by omega) (Ev.pos (by omega) ?_))
    rw [rd_nat h, rd_nat h', drop_cons h, drop_cons h']
    refine Ev.ite (fun he => ?_) (fun he => Ev.ok ?_)
    · rw [wrap_eq (by omega) (by omega)]
      refine Ev.eq (ih (i + 1) (by omega) (by omega)) ?_
      rw [he]
      exact decide_eq_decide.2 ⟨fun e => by rw [e], fun e => by injection e⟩
    · exact (decide_eq_false (fun e => he (by injection e))).symm
theorem same_ints_f {a b : List Int} (hl : a.length < 9223372036854775807) : Ev (fun k => backhaulref02_SameInts.f k a b) (decide (a = b)) := by
  unfold backhaulref02_SameInts.f
  refine Ev.ite (fun h => ?_) (fun h => Ev.ok ?_)
  · exact same_ints_l0 hl (by omega) a.length 0 (by omega) (by omega)
  · have : ¬ a = b := fun e => h (by rw [e])
    simp [this]
end Go.Proofs.Ytakkhomjpflkbaa.Q
