-- merged and pruned by prune.py (the session's own program); its words go back to the kit's print
import Derived.Test.YtefhljhpcpajgaaProg
import Derived.Below
import Derived.Deep.Draws
import Derived.Deep.AppendLies
import Derived.Maps.AppendAt
import Derived.OwnWalk
import Derived.Laws.BytesArg
import Derived.Laws.MakeOwn
import Derived.Laws.OwnMore
import Derived.Deep.OwnRows
import Derived.Tactics
import Derived.Lib.ConvBytes
import Derived.Laws.Slices
import Derived.WalkKit
import Derived.KernelRfl
import Derived.RowKit3
import Derived.Deep.LoopGhost
import Derived.Deep.QuietTactic
import Derived.BigQuiet
import Derived.WideLaws
import Derived.Deep.DeepCutAuto
import Derived.Deep.CutBlock
import Derived.Deep.RegionHeld3
import Derived.Laws.Rows
import Derived.Lib.AppendStr
import Derived.ArgAppend
import Derived.Laws.IdiomCopy
import Derived.OrdersHeld
import Derived.Laws.BitsLemmas
import Derived.RowKit
import Derived.Laws.StructEq
import Derived.Deep.RegionLawGrows
import Derived.Lib.SliceRun
import Derived.Maps.Own
import Derived.Maps.OwnOps
import Derived.Maps.Views
import Derived.StringKeys
import Derived.Carry
import Derived.Lib.OthersKept
import Derived.Lib.RuneCount
import Derived.Laws.Cover4
import Derived.Outline
import Derived.Shelf.Small.Bits
import Derived.Shelf.Utf8.RuneCount
import Derived.Shelf.Strconv.Itoa0
import Derived.Shelf.Strings.Prefix
import Derived.Shelf.Bits.Mul64
import Derived.Ground.SlsfProg
import Derived.Shelf.SlSortCmp.Insertion
import Derived.Shelf.SlSortCmp.Insertion1
import Derived.Sort.LotA
import Derived.Sort.OwnSortedInts
import Derived.WalkMore
import Derived.Test.YtefhljhpcpajgaaZOrderTells5
namespace Go.Proofs.Ytefhljhpcpajgaa.F
open Go.RowKit Go.Proofs.YtefhljhpcpajgaaX Go.Proofs.YtefhljhpcpajgaaW.PrintWords Go.Proofs.YtefhljhpcpajgaaW.PrintLast Go.Proofs.YtefhljhpcpajgaaW.PrintMore
attribute [local go_sem] max2_int min2_int max_two min_two max_three min_three max_four min_four   
attribute [local go_sem high] str_geq str_leq str_gtr
set_option linter.unusedVariables false
set_option linter.unusedSimpArgs false
def backhaullaw26_awake.f  : Option (Bool) := some true
set_option maxHeartbeats 8000000 in
set_option maxRecDepth 100000 in
theorem backhaullaw26_awake.calls (r : Bool)  (w : World) (h : backhaullaw26_awake.f  = some r) :
    Calls Try.prog 82 #[] w fun e w' => e = .returned (.bool r) ∧ Below w.heap.size w w' := by
  obtain rfl : r = true := by injection h with h; exact h.symm
  have hu99 := Try.underlying99
  have HB := zA (Below.refl w.heap.size w)
  have H : ((backhaullaw26_two.f (⟨#[66]⟩ : ByteArray)).bind fun t101 => ((order_Make.f 1000 5 9 t101 10 29).bind fun bt104 => ((backhaullaw26_two.f (⟨#[65]⟩ : ByteArray)).bind fun t111 => ((order_Make.f 1000 5 9 t111 10 29).bind fun bt114 => ((backhaullaw26_two.f (⟨#[66]⟩ : ByteArray)).bind fun t121 => ((order_Make.f 1000 0 9 t121 10 29).bind fun bt124 => ((order_Find.f 1000 bt104.1 bt104.2.1 bt104.2.2.1 (⟨#[67]⟩ : ByteArray)).bind fun bt131 => ((order_Find.f 1000 bt104.1 bt104.2.1 bt104.2.2.1 (⟨#[68]⟩ : ByteArray)).bind fun bt134 => ((order_Paid.f 1000 bt104.1 bt104.2.1 bt104.2.2.1).bind fun bt137 => (if bt104.2.2.2 = 0 then (if bt114.2.2.2 = 32 then (if bt124.2.2.2 = 2 then (if bt131.1 = 1 then (if bt131.2.1 = 1 then (if bt131.2.2 = true then (if bt134.2.2 = true then (some false) else (if bt137.1 = 319 then (if bt137.2 = 0 then ((order_Serials.f 1000 bt104.1 bt104.2.1 bt104.2.2.1).bind fun t139 => ((backhaulref01_SameTexts.f 1000 t139 (([(⟨#[65]⟩ : ByteArray), (⟨#[66]⟩ : ByteArray), (⟨#[67]⟩ : ByteArray)] : List ByteArray))).bind fun t145 => (if t145 = true then ((order_Check.f 1000 bt104.1 bt104.2.1 bt104.2.2.1).bind fun t146 => (if t146 = 0 then ((order_Same.f 1000 bt104.1 bt104.2.1 bt104.2.2.1 bt104.1 bt104.2.1 bt104.2.2.1).bind fun t147 => (if t147 = true then ((order_Check.f 1000 0 0 ([] : List (S71))).bind fun t148 => (if t148 = 40 then (some true) else (some false))) else (some false))) else (some false))) else (some false)))) else (some false)) else (some false))) else (some false)) else (some false)) else (some false)) else (some false)) else (some false)) else (some false))))))))))) = some true := by decide +kernel
  replace H := Option.bind_eq_some_iff.mp H
  obtain ⟨t101, A10, H⟩ := H
  try dsimp only at H
  have A1 := zA A10
  clear A10
  replace H := Option.bind_eq_some_iff.mp H
  obtain ⟨⟨t104, t105, t106, t109⟩, A20, H⟩ := H
  try dsimp only at H
  have A2 := zA A20
  clear A20
  replace H := Option.bind_eq_some_iff.mp H
  obtain ⟨t111, A30, H⟩ := H
  try dsimp only at H
  have A3 := zA A30
  clear A30
  replace H := Option.bind_eq_some_iff.mp H
  obtain ⟨⟨t114, t115, t116, t119⟩, A40, H⟩ := H
  try dsimp only at H
  have A4 := zA A40
  clear A40
  replace H := Option.bind_eq_some_iff.mp H
  obtain ⟨t121, A50, H⟩ := H
  try dsimp only at H
  have A5 := zA A50
  clear A50
  replace H := Option.bind_eq_some_iff.mp H
  obtain ⟨⟨t124, t125, t126, t129⟩, A60, H⟩ := H
  try dsimp only at H
  have A6 := zA A60
  clear A60
  replace H := Option.bind_eq_some_iff.mp H
  obtain ⟨⟨t131, t132, t133⟩, A70, H⟩ := H
  try dsimp only at H
  have A7 := zA A70
  clear A70
  replace H := Option.bind_eq_some_iff.mp H
  obtain ⟨⟨t134, t135, t136⟩, A80, H⟩ := H
  try dsimp only at H
  have A8 := zA A80
  clear A80
  replace H := Option.bind_eq_some_iff.mp H
  obtain ⟨⟨t137, t138⟩, A90, H⟩ := H
  try dsimp only at H
  have A9 := zA A90
  clear A90
  by_cases c10 : t109 = 0
  · rw [if_pos c10] at H
    have c10b0 : (t109 == 0) = true := beq_iff_eq.mpr c10; have c10b1 : (t109 != 0) = false := bne_eq_false_iff_eq.mpr c10; clear c10; by_cases c11 : t119 = 32
    · rw [if_pos c11] at H
      have c11b0 : (t119 == 32) = true := beq_iff_eq.mpr c11; have c11b1 : (t119 != 32) = false := bne_eq_false_iff_eq.mpr c11; clear c11; by_cases c12 : t129 = 2
      · rw [if_pos c12] at H
        have c12b0 : (t129 == 2) = true := beq_iff_eq.mpr c12; have c12b1 : (t129 != 2) = false := bne_eq_false_iff_eq.mpr c12; clear c12; by_cases c13 : t131 = 1
        · rw [if_pos c13] at H
          have c13b0 : (t131 == 1) = true := beq_iff_eq.mpr c13; have c13b1 : (t131 != 1) = false := bne_eq_false_iff_eq.mpr c13; clear c13; by_cases c14 : t132 = 1
          · rw [if_pos c14] at H
            have c14b0 : (t132 == 1) = true := beq_iff_eq.mpr c14; have c14b1 : (t132 != 1) = false := bne_eq_false_iff_eq.mpr c14; clear c14; by_cases c15 : t133 = true
            · subst c15
              have H1 : (if t136 = true then (some false) else (if t137 = 319 then (if t138 = 0 then ((order_Serials.f 1000 t104 t105 t106).bind fun t139 => ((backhaulref01_SameTexts.f 1000 t139 (([(⟨#[65]⟩ : ByteArray), (⟨#[66]⟩ : ByteArray), (⟨#[67]⟩ : ByteArray)] : List ByteArray))).bind fun t145 => (if t145 = true then ((order_Check.f 1000 t104 t105 t106).bind fun t146 => (if t146 = 0 then ((order_Same.f 1000 t104 t105 t106 t104 t105 t106).bind fun t147 => (if t147 = true then ((order_Check.f 1000 0 0 ([] : List (S71))).bind fun t148 => (if t148 = 40 then (some true) else (some false))) else (some false))) else (some false))) else (some false)))) else (some false)) else (some false))) = some true := by first | (rw [if_pos rfl] at H; exact H) | rfl
              clear H; have H := H1; clear H1; by_cases c16 : t136 = true
              · subst c16
                have H1 : (some false) = some true := by first | (rw [if_pos rfl] at H; exact H) | rfl
                clear H; have H := H1; clear H1; exact absurd H (by simp)
              replace c16 := Bool.eq_false_iff.mpr c16; subst c16; have H1 : (if t137 = 319 then (if t138 = 0 then ((order_Serials.f 1000 t104 t105 t106).bind fun t139 => ((backhaulref01_SameTexts.f 1000 t139 (([(⟨#[65]⟩ : ByteArray), (⟨#[66]⟩ : ByteArray), (⟨#[67]⟩ : ByteArray)] : List ByteArray))).bind fun t145 => (if t145 = true then ((order_Check.f 1000 t104 t105 t106).bind fun t146 => (if t146 = 0 then ((order_Same.f 1000 t104 t105 t106 t104 t105 t106).bind fun t147 => (if t147 = true then ((order_Check.f 1000 0 0 ([] : List (S71))).bind fun t148 => (if t148 = 40 then (some true) else (some false))) else (some false))) else (some false))) else (some false)))) else (some false)) else (some false)) = some true := by first | (rw [if_neg (show ¬ (false = true) by decide)] at H; exact H) | rfl
              clear H; have H := H1; clear H1; by_cases c17 : t137 = 319
              · rw [if_pos c17] at H
                have c17b0 : (t137 == 319) = true := beq_iff_eq.mpr c17; have c17b1 : (t137 != 319) = false := bne_eq_false_iff_eq.mpr c17; clear c17; by_cases c18 : t138 = 0
                · rw [if_pos c18] at H
                  have c18b0 : (t138 == 0) = true := beq_iff_eq.mpr c18; have c18b1 : (t138 != 0) = false := bne_eq_false_iff_eq.mpr c18; clear c18; replace H := Option.bind_eq_some_iff.mp H; obtain ⟨t139, A190, H⟩ := H; try dsimp only at H
                  have A19 := zA A190; clear A190; obtain ⟨y142, hy142⟩ : ∃ y_ : List ByteArray, y_ = (([(⟨#[65]⟩ : ByteArray), (⟨#[66]⟩ : ByteArray), (⟨#[67]⟩ : ByteArray)] : List ByteArray)) := ⟨_, rfl⟩
                  replace H : ((backhaulref01_SameTexts.f 1000 t139 y142).bind fun t145 => (if t145 = true then ((order_Check.f 1000 t104 t105 t106).bind fun t146 => (if t146 = 0 then ((order_Same.f 1000 t104 t105 t106 t104 t105 t106).bind fun t147 => (if t147 = true then ((order_Check.f 1000 0 0 ([] : List (S71))).bind fun t148 => (if t148 = 40 then (some true) else (some false))) else (some false))) else (some false))) else (some false))) = some true := by first | (rw [hy142]; with_reducible exact H) | (have H2_ := (Option.bind_some _ _).symm.trans H; rw [hy142]; with_reducible exact H2_) | (have H2_ := (Option.bind_some _ _).symm.trans H; with_reducible exact H2_) | with_reducible exact H | (rw [hy142]; exact H) | exact H
                  have Ny142 := zA hy142; clear hy142; replace H := Option.bind_eq_some_iff.mp H; obtain ⟨t145, A200, H⟩ := H; try dsimp only at H
                  have A20 := zA A200; clear A200; by_cases c21 : t145 = true
                  · subst c21
                    have H1 : ((order_Check.f 1000 t104 t105 t106).bind fun t146 => (if t146 = 0 then ((order_Same.f 1000 t104 t105 t106 t104 t105 t106).bind fun t147 => (if t147 = true then ((order_Check.f 1000 0 0 ([] : List (S71))).bind fun t148 => (if t148 = 40 then (some true) else (some false))) else (some false))) else (some false))) = some true := by first | (rw [if_pos rfl] at H; exact H) | rfl
                    clear H; have H := H1; clear H1; replace H := Option.bind_eq_some_iff.mp H; obtain ⟨t146, A220, H⟩ := H; try dsimp only at H
                    have A22 := zA A220; clear A220; by_cases c23 : t146 = 0
                    · rw [if_pos c23] at H
                      have c23b0 : (t146 == 0) = true := beq_iff_eq.mpr c23; have c23b1 : (t146 != 0) = false := bne_eq_false_iff_eq.mpr c23; clear c23; replace H := Option.bind_eq_some_iff.mp H; obtain ⟨t147, A240, H⟩ := H; try dsimp only at H
                      have A24 := zA A240; clear A240; by_cases c25 : t147 = true
                      · subst c25
                        have H1 : ((order_Check.f 1000 0 0 ([] : List (S71))).bind fun t148 => (if t148 = 40 then (some true) else (some false))) = some true := by first | (rw [if_pos rfl] at H; exact H) | rfl
                        clear H; have H := H1; clear H1; replace H := Option.bind_eq_some_iff.mp H; obtain ⟨t148, A260, H⟩ := H; try dsimp only at H
                        have A26 := zA A260; clear A260; by_cases c27 : t148 = 40
                        · rw [if_pos c27] at H
                          have c27b0 : (t148 == 40) = true := beq_iff_eq.mpr c27; have c27b1 : (t148 != 40) = false := bne_eq_false_iff_eq.mpr c27; clear c27; clear H; go_enter Try.func82, Try.ntmps82; go_wp2_with (first | ((with_reducible refine zJq (f := 124) rfl ?_); refine goesL_ (some 16) rfl rfl Try.func124 (by kernel_rfl) rfl #[.string (⟨#[66]⟩ : ByteArray)] rfl qG ?_; (with_reducible refine (backhaullaw26_two.calls (⟨#[66]⟩ : ByteArray) t101 _ A1.out).mono ?_); rintro e w28 ⟨v102, rfl, ho0, hb⟩; refine ⟨_, rfl, ?_⟩; have n0_ := zA (Kd.N_lower (Kd.N_mono (ok' := fun k_ => True) ho0 (fun k_ hk_ => trivial)) (zW qB)); have n1_ := zA (zV qB hb); clear HB; have HO103 := n0_; have HB := n1_; clear n0_ n1_; (try clear hb); (try clear ho0); obtain ⟨Ao29, co29, eo29⟩ := Kd.N_slice HO103.out; subst eo29) | ((with_reducible refine zJq (f := 83) rfl ?_); refine goesL_ (some 17) rfl rfl Try.func83 (by kernel_rfl) rfl #[.int .i64 5, .int .i64 9, .slice Ao29 t101.length co29, .int .i64 10, .int .i64 29] rfl qG ?_; (with_reducible refine (order_Make.calls 1000 5 9 (fun k_ => True) _ _ t101 10 29 t104 t105 t106 t109 _ ?side1 A2.out).mono ?_); (case side1 => exact Kd.N_V (HO103.out)); rintro e w30 ⟨v107, rfl, ho0, hb⟩; refine ⟨_, rfl, ?_⟩; have n0_ := zA (Kd.N_elder' (by (with_reducible repeat (first | apply Kd.N_alloc | apply Kd.N_drewN | apply Kd.N_drew)); exact HO103.out) (Kd.N_base ho0) hb); have n1_ := zA (Kd.N_lower (Kd.N_mono (ok' := fun k_ => True) ho0 (fun k_ hk_ => trivial)) (zW qB)); have n2_ := zA (zV qB hb); clear HO103 HB; have HO103 := n0_; have HO108 := n1_; have HB := n2_; clear n0_ n1_ n2_; (try clear hb); (try clear ho0)) | ((with_reducible refine gate_dst (N := 1) rfl ?_); (try (refine gate_guard (by rfl) ?_; dsimp only)); refine box_event qr (N := 1) qr (cs := #[.int .i64 0, .int .i64 0, .slice none 0 0]) (t := 99) qg ?_; intro gb110 hg w31 hbox hb; have n0_ := zA (Kd.N_below (Kd.N_elderB (by (with_reducible repeat (first | apply Kd.N_alloc | apply Kd.N_drewN | apply Kd.N_drew)); exact HO103.out) gb110 (Nat.le_of_eq hg.symm)) hb); have n1_ := zA (Kd.N_below (Kd.N_elderB (by (with_reducible repeat (first | apply Kd.N_alloc | apply Kd.N_drewN | apply Kd.N_drew)); exact HO108.out) gb110 (Nat.le_of_eq hg.symm)) hb); have n2_ := zA (zV qB hb); have n3_ := zA (hbox); have n4_ := zA ((qS : w.heap.size ≤ gb110)); have n5_ := zA ((qS : w.heap.size ≤ gb110)); clear HO103 HO108 HB; have HO103 := n0_; have HO108 := n1_; have HB := n2_; have BK110 := n3_; have GW110 := n4_; have GE110 := n5_; clear n0_ n1_ n2_ n3_ n4_ n5_ hb hbox hg; obtain ⟨_, _, _, _, _, _⟩ := qc3f BK110.out; obtain ⟨Ao33, co33, eo33⟩ := Kd.N_slice HO108.out; subst eo33) | ((with_reducible refine zJq (f := 124) rfl ?_); refine goesL_ (some 21) rfl rfl Try.func124 (by kernel_rfl) rfl #[.string (⟨#[65]⟩ : ByteArray)] rfl qG ?_; (with_reducible refine (backhaullaw26_two.calls (⟨#[65]⟩ : ByteArray) t111 _ A3.out).mono ?_); rintro e w34 ⟨v112, rfl, ho0, hb⟩; refine ⟨_, rfl, ?_⟩; have n0_ := zA (Kd.N_elder' (by (with_reducible repeat (first | apply Kd.N_alloc | apply Kd.N_drewN | apply Kd.N_drew)); exact (Kd.N_mono (Kd.N_far (p := ⟨gb110, 2, none⟩) (Kd.N_far (p := ⟨gb110, 1, none⟩) (Kd.N_far (p := ⟨gb110, 0, none⟩) (Kd.N_mono HO103.out (fun k_ hk => (⟨hk, hk.2⟩ : _ ∧ k_ ≠ gb110))) (fun _ hk => hk.2) (.int .i64 t104)) (fun _ hk => hk.2) (.int .i64 t105)) (fun _ hk => hk.2) (.slice Ao33 t106.length co33)) (fun _ h_ => h_.1))) (Kd.N_base ho0) hb); have n1_ := zA (Kd.N_elder' (by (with_reducible repeat (first | apply Kd.N_alloc | apply Kd.N_drewN | apply Kd.N_drew)); exact (Kd.N_mono (Kd.N_far (p := ⟨gb110, 2, none⟩) (Kd.N_far (p := ⟨gb110, 1, none⟩) (Kd.N_far (p := ⟨gb110, 0, none⟩) (Kd.N_mono HO108.out (fun k_ hk => (⟨hk, hk.2⟩ : _ ∧ k_ ≠ gb110))) (fun _ hk => hk.2) (.int .i64 t104)) (fun _ hk => hk.2) (.int .i64 t105)) (fun _ hk => hk.2) (.slice Ao33 t106.length co33)) (fun _ h_ => h_.1))) (Kd.N_base ho0) hb); have n2_ := zA (Kd.N_lower (Kd.N_mono (ok' := fun k_ => some k_ ≠ (.slice Ao29 t101.length co29 : Value).ownBlock ∧ some k_ ≠ (.slice Ao33 t106.length co33 : Value).ownBlock ∧ k_ ≠ gb110) ho0 (fun k_ hk_ => ⟨(Kd.fresh' (Kd.N_lt (by (with_reducible repeat (first | apply Kd.N_alloc | apply Kd.N_drewN | apply Kd.N_drew)); exact (Kd.N_mono (Kd.N_far (p := ⟨gb110, 2, none⟩) (Kd.N_far (p := ⟨gb110, 1, none⟩) (Kd.N_far (p := ⟨gb110, 0, none⟩) (Kd.N_mono HO103.out (fun k_ hk => (⟨hk, hk.2⟩ : _ ∧ k_ ≠ gb110))) (fun _ hk => hk.2) (.int .i64 t104)) (fun _ hk => hk.2) (.int .i64 t105)) (fun _ hk => hk.2) (.slice Ao33 t106.length co33)) (fun _ h_ => h_.1)))) k_ hk_), (Kd.fresh' (Kd.N_lt (by (with_reducible repeat (first | apply Kd.N_alloc | apply Kd.N_drewN | apply Kd.N_drew)); exact (Kd.N_mono (Kd.N_far (p := ⟨gb110, 2, none⟩) (Kd.N_far (p := ⟨gb110, 1, none⟩) (Kd.N_far (p := ⟨gb110, 0, none⟩) (Kd.N_mono HO108.out (fun k_ hk => (⟨hk, hk.2⟩ : _ ∧ k_ ≠ gb110))) (fun _ hk => hk.2) (.int .i64 t104)) (fun _ hk => hk.2) (.int .i64 t105)) (fun _ hk => hk.2) (.slice Ao33 t106.length co33)) (fun _ h_ => h_.1)))) k_ hk_), (Kd.freshB (g := gb110) (o := .cells #[.int .i64 t104, .int .i64 t105, .slice Ao33 t106.length co33] 99 (0, 0)) (qV BK110.out) k_ hk_)⟩)) (zW qB)); have n3_ := zA (zX (g := gb110) (o := .cells #[.int .i64 t104, .int .i64 t105, .slice Ao33 t106.length co33] 99 (0, 0)) (qV BK110.out) hb); have n4_ := zA (zV qB hb); clear HO103 HO108 BK110 HB; have HO103 := n0_; have HO108 := n1_; have HO113 := n2_; have BK110 := n3_; have HB := n4_; clear n0_ n1_ n2_ n3_ n4_; (try clear hb); (try clear ho0); obtain ⟨Ao35, co35, eo35⟩ := Kd.N_slice HO113.out; subst eo35) | ((with_reducible refine zJq (f := 83) rfl ?_); refine goesL_ (some 22) rfl rfl Try.func83 (by kernel_rfl) rfl #[.int .i64 5, .int .i64 9, .slice Ao35 t111.length co35, .int .i64 10, .int .i64 29] rfl qG ?_; (with_reducible refine (order_Make.calls 1000 5 9 (fun k_ => (some k_ ≠ (.slice Ao29 t101.length co29 : Value).ownBlock ∧ (some k_ ≠ (.slice Ao33 t106.length co33 : Value).ownBlock ∧ k_ ≠ gb110))) _ _ t111 10 29 t114 t115 t116 t119 _ ?side1 A4.out).mono ?_); (case side1 => exact Kd.N_V (HO113.out)); rintro e w36 ⟨v117, rfl, ho0, hb⟩; refine ⟨_, rfl, ?_⟩; have n0_ := zA (Kd.N_elder' (by (with_reducible repeat (first | apply Kd.N_alloc | apply Kd.N_drewN | apply Kd.N_drew)); exact HO103.out) (Kd.N_base ho0) hb); have n1_ := zA (Kd.N_elder' (by (with_reducible repeat (first | apply Kd.N_alloc | apply Kd.N_drewN | apply Kd.N_drew)); exact HO108.out) (Kd.N_base ho0) hb); have n2_ := zA (Kd.N_elder' (by (with_reducible repeat (first | apply Kd.N_alloc | apply Kd.N_drewN | apply Kd.N_drew)); exact HO113.out) (Kd.N_base ho0) hb); have n3_ := zA (Kd.N_lower (Kd.N_mono (ok' := fun k_ => some k_ ≠ (.slice Ao29 t101.length co29 : Value).ownBlock ∧ some k_ ≠ (.slice Ao33 t106.length co33 : Value).ownBlock ∧ k_ ≠ gb110) ho0 (fun k_ hk_ => ⟨Or.elim hk_ (fun hs_ => hs_.1) (fun hn_ => (Kd.fresh' (Kd.N_lt (by (with_reducible repeat (first | apply Kd.N_alloc | apply Kd.N_drewN | apply Kd.N_drew)); exact HO103.out)) k_ hn_)), Or.elim hk_ (fun hs_ => hs_.2.1) (fun hn_ => (Kd.fresh' (Kd.N_lt (by (with_reducible repeat (first | apply Kd.N_alloc | apply Kd.N_drewN | apply Kd.N_drew)); exact HO108.out)) k_ hn_)), Or.elim hk_ (fun hs_ => hs_.2.2) (fun hn_ => (Kd.freshB (g := gb110) (o := .cells #[.int .i64 t104, .int .i64 t105, .slice Ao33 t106.length co33] 99 (0, 0)) (qW BK110.out) k_ hn_))⟩)) (zW qB)); have n4_ := zA (qX BK110.out hb); have n5_ := zA (zV qB hb); clear HO103 HO108 HO113 BK110 HB; have HO103 := n0_; have HO108 := n1_; have HO113 := n2_; have HO118 := n3_; have BK110 := n4_; have HB := n5_; clear n0_ n1_ n2_ n3_ n4_ n5_; (try clear hb); (try clear ho0)) | ((with_reducible refine gate_dst (N := 3) rfl ?_); (try (refine gate_guard (by rfl) ?_; dsimp only)); refine box_event qr (N := 3) qr (cs := #[.int .i64 0, .int .i64 0, .slice none 0 0]) (t := 99) qg ?_; intro gb120 hg w37 hbox hb; have n0_ := zA (Kd.N_below (Kd.N_elderB (by (with_reducible repeat (first | apply Kd.N_alloc | apply Kd.N_drewN | apply Kd.N_drew)); exact HO103.out) gb120 (Nat.le_of_eq hg.symm)) hb); have n1_ := zA (Kd.N_below (Kd.N_elderB (by (with_reducible repeat (first | apply Kd.N_alloc | apply Kd.N_drewN | apply Kd.N_drew)); exact HO108.out) gb120 (Nat.le_of_eq hg.symm)) hb); have n2_ := zA (Kd.N_below (Kd.N_elderB (by (with_reducible repeat (first | apply Kd.N_alloc | apply Kd.N_drewN | apply Kd.N_drew)); exact HO113.out) gb120 (Nat.le_of_eq hg.symm)) hb); have n3_ := zA (Kd.N_below (Kd.N_elderB (by (with_reducible repeat (first | apply Kd.N_alloc | apply Kd.N_drewN | apply Kd.N_drew)); exact HO118.out) gb120 (Nat.le_of_eq hg.symm)) hb); have n4_ := zA (qX BK110.out hb); have n5_ := zA (zV qB hb); have n6_ := zA (hbox); have n7_ := zA ((qS : w.heap.size ≤ gb120)); have n8_ := zA ((qS : w.heap.size ≤ gb120)); have n9_ := zA ((by rw [hg]; exact zLq (qL BK110.out) : gb110 ≠ gb120)); have n10_ := zA ((by rw [hg]; exact zMq (qL BK110.out) : gb120 ≠ gb110)); clear HO103 HO108 HO113 HO118 BK110 HB; have HO103 := n0_; have HO108 := n1_; have HO113 := n2_; have HO118 := n3_; have BK110 := n4_; have HB := n5_; have BK120 := n6_; have GW120 := n7_; have GE120 := n8_; have NB110_120 := n9_; have NB120_110 := n10_; clear n0_ n1_ n2_ n3_ n4_ n5_ n6_ n7_ n8_ n9_ n10_ hb hbox hg; have hnb38 := NB120_110.out; have hnc38 := NB110_120.out; obtain ⟨_, _, _, _, _, _⟩ := qc3f BK120.out; obtain ⟨Ao40, co40, eo40⟩ := Kd.N_slice HO118.out; subst eo40) | ((with_reducible refine zJq (f := 124) rfl ?_); refine goesL_ (some 26) rfl rfl Try.func124 (by kernel_rfl) rfl #[.string (⟨#[66]⟩ : ByteArray)] rfl qG ?_; (with_reducible refine (backhaullaw26_two.calls (⟨#[66]⟩ : ByteArray) t121 _ A5.out).mono ?_); rintro e w41 ⟨v122, rfl, ho0, hb⟩; refine ⟨_, rfl, ?_⟩; have n0_ := zA (Kd.N_elder' (by (with_reducible repeat (first | apply Kd.N_alloc | apply Kd.N_drewN | apply Kd.N_drew)); exact (Kd.N_mono (Kd.N_far (p := ⟨gb120, 2, none⟩) (Kd.N_far (p := ⟨gb120, 1, none⟩) (Kd.N_far (p := ⟨gb120, 0, none⟩) (Kd.N_mono HO103.out (fun k_ hk => (⟨hk, hk.2⟩ : _ ∧ k_ ≠ gb120))) (fun _ hk => hk.2) (.int .i64 t114)) (fun _ hk => hk.2) (.int .i64 t115)) (fun _ hk => hk.2) (.slice Ao40 t116.length co40)) (fun _ h_ => h_.1))) (Kd.N_base ho0) hb); have n1_ := zA (Kd.N_elder' (by (with_reducible repeat (first | apply Kd.N_alloc | apply Kd.N_drewN | apply Kd.N_drew)); exact (Kd.N_mono (Kd.N_far (p := ⟨gb120, 2, none⟩) (Kd.N_far (p := ⟨gb120, 1, none⟩) (Kd.N_far (p := ⟨gb120, 0, none⟩) (Kd.N_mono HO108.out (fun k_ hk => (⟨hk, hk.2⟩ : _ ∧ k_ ≠ gb120))) (fun _ hk => hk.2) (.int .i64 t114)) (fun _ hk => hk.2) (.int .i64 t115)) (fun _ hk => hk.2) (.slice Ao40 t116.length co40)) (fun _ h_ => h_.1))) (Kd.N_base ho0) hb); have n2_ := zA (Kd.N_elder' (by (with_reducible repeat (first | apply Kd.N_alloc | apply Kd.N_drewN | apply Kd.N_drew)); exact (Kd.N_mono (Kd.N_far (p := ⟨gb120, 2, none⟩) (Kd.N_far (p := ⟨gb120, 1, none⟩) (Kd.N_far (p := ⟨gb120, 0, none⟩) (Kd.N_mono HO113.out (fun k_ hk => (⟨hk, hk.2⟩ : _ ∧ k_ ≠ gb120))) (fun _ hk => hk.2) (.int .i64 t114)) (fun _ hk => hk.2) (.int .i64 t115)) (fun _ hk => hk.2) (.slice Ao40 t116.length co40)) (fun _ h_ => h_.1))) (Kd.N_base ho0) hb); have n3_ := zA (Kd.N_elder' (by (with_reducible repeat (first | apply Kd.N_alloc | apply Kd.N_drewN | apply Kd.N_drew)); exact (Kd.N_mono (Kd.N_far (p := ⟨gb120, 2, none⟩) (Kd.N_far (p := ⟨gb120, 1, none⟩) (Kd.N_far (p := ⟨gb120, 0, none⟩) (Kd.N_mono HO118.out (fun k_ hk => (⟨hk, hk.2⟩ : _ ∧ k_ ≠ gb120))) (fun _ hk => hk.2) (.int .i64 t114)) (fun _ hk => hk.2) (.int .i64 t115)) (fun _ hk => hk.2) (.slice Ao40 t116.length co40)) (fun _ h_ => h_.1))) (Kd.N_base ho0) hb); have n4_ := zA (Kd.N_lower (Kd.N_mono (ok' := fun k_ => some k_ ≠ (.slice Ao29 t101.length co29 : Value).ownBlock ∧ some k_ ≠ (.slice Ao33 t106.length co33 : Value).ownBlock ∧ some k_ ≠ (.slice Ao35 t111.length co35 : Value).ownBlock ∧ some k_ ≠ (.slice Ao40 t116.length co40 : Value).ownBlock ∧ k_ ≠ gb110 ∧ k_ ≠ gb120) ho0 (fun k_ hk_ => ⟨(Kd.fresh' (Kd.N_lt (by (with_reducible repeat (first | apply Kd.N_alloc | apply Kd.N_drewN | apply Kd.N_drew)); exact (Kd.N_mono (Kd.N_far (p := ⟨gb120, 2, none⟩) (Kd.N_far (p := ⟨gb120, 1, none⟩) (Kd.N_far (p := ⟨gb120, 0, none⟩) (Kd.N_mono HO103.out (fun k_ hk => (⟨hk, hk.2⟩ : _ ∧ k_ ≠ gb120))) (fun _ hk => hk.2) (.int .i64 t114)) (fun _ hk => hk.2) (.int .i64 t115)) (fun _ hk => hk.2) (.slice Ao40 t116.length co40)) (fun _ h_ => h_.1)))) k_ hk_), (Kd.fresh' (Kd.N_lt (by (with_reducible repeat (first | apply Kd.N_alloc | apply Kd.N_drewN | apply Kd.N_drew)); exact (Kd.N_mono (Kd.N_far (p := ⟨gb120, 2, none⟩) (Kd.N_far (p := ⟨gb120, 1, none⟩) (Kd.N_far (p := ⟨gb120, 0, none⟩) (Kd.N_mono HO108.out (fun k_ hk => (⟨hk, hk.2⟩ : _ ∧ k_ ≠ gb120))) (fun _ hk => hk.2) (.int .i64 t114)) (fun _ hk => hk.2) (.int .i64 t115)) (fun _ hk => hk.2) (.slice Ao40 t116.length co40)) (fun _ h_ => h_.1)))) k_ hk_), (Kd.fresh' (Kd.N_lt (by (with_reducible repeat (first | apply Kd.N_alloc | apply Kd.N_drewN | apply Kd.N_drew)); exact (Kd.N_mono (Kd.N_far (p := ⟨gb120, 2, none⟩) (Kd.N_far (p := ⟨gb120, 1, none⟩) (Kd.N_far (p := ⟨gb120, 0, none⟩) (Kd.N_mono HO113.out (fun k_ hk => (⟨hk, hk.2⟩ : _ ∧ k_ ≠ gb120))) (fun _ hk => hk.2) (.int .i64 t114)) (fun _ hk => hk.2) (.int .i64 t115)) (fun _ hk => hk.2) (.slice Ao40 t116.length co40)) (fun _ h_ => h_.1)))) k_ hk_), (Kd.fresh' (Kd.N_lt (by (with_reducible repeat (first | apply Kd.N_alloc | apply Kd.N_drewN | apply Kd.N_drew)); exact (Kd.N_mono (Kd.N_far (p := ⟨gb120, 2, none⟩) (Kd.N_far (p := ⟨gb120, 1, none⟩) (Kd.N_far (p := ⟨gb120, 0, none⟩) (Kd.N_mono HO118.out (fun k_ hk => (⟨hk, hk.2⟩ : _ ∧ k_ ≠ gb120))) (fun _ hk => hk.2) (.int .i64 t114)) (fun _ hk => hk.2) (.int .i64 t115)) (fun _ hk => hk.2) (.slice Ao40 t116.length co40)) (fun _ h_ => h_.1)))) k_ hk_), (Kd.freshB (g := gb110) (o := .cells #[.int .i64 t104, .int .i64 t105, .slice Ao33 t106.length co33] 99 (0, 0)) (qW BK110.out) k_ hk_), (Kd.freshB (g := gb120) (o := .cells #[.int .i64 t114, .int .i64 t115, .slice Ao40 t116.length co40] 99 (0, 0)) (qV BK120.out) k_ hk_)⟩)) (zW qB)); have n5_ := zA (qX BK110.out hb); have n6_ := zA (zX (g := gb120) (o := .cells #[.int .i64 t114, .int .i64 t115, .slice Ao40 t116.length co40] 99 (0, 0)) (qV BK120.out) hb); have n7_ := zA (zV qB hb); clear HO103 HO108 HO113 HO118 BK110 BK120 HB; have HO103 := n0_; have HO108 := n1_; have HO113 := n2_; have HO118 := n3_; have HO123 := n4_; have BK110 := n5_; have BK120 := n6_; have HB := n7_; clear n0_ n1_ n2_ n3_ n4_ n5_ n6_ n7_; (try clear hb); (try clear ho0); obtain ⟨Ao42, co42, eo42⟩ := Kd.N_slice HO123.out; subst eo42) | ((with_reducible refine zJq (f := 83) rfl ?_); refine goesL_ (some 27) rfl rfl Try.func83 (by kernel_rfl) rfl #[.int .i64 0, .int .i64 9, .slice Ao42 t121.length co42, .int .i64 10, .int .i64 29] rfl qG ?_; (with_reducible refine (order_Make.calls 1000 0 9 (fun k_ => (some k_ ≠ (.slice Ao29 t101.length co29 : Value).ownBlock ∧ (some k_ ≠ (.slice Ao33 t106.length co33 : Value).ownBlock ∧ (some k_ ≠ (.slice Ao35 t111.length co35 : Value).ownBlock ∧ (some k_ ≠ (.slice Ao40 t116.length co40 : Value).ownBlock ∧ (k_ ≠ gb110 ∧ k_ ≠ gb120)))))) _ _ t121 10 29 t124 t125 t126 t129 _ ?side1 A6.out).mono ?_); (case side1 => exact Kd.N_V (HO123.out)); rintro e w43 ⟨v127, rfl, ho0, hb⟩; refine ⟨_, rfl, ?_⟩; have n0_ := zA (Kd.N_elder' (by (with_reducible repeat (first | apply Kd.N_alloc | apply Kd.N_drewN | apply Kd.N_drew)); exact HO103.out) (Kd.N_base ho0) hb); have n1_ := zA (Kd.N_elder' (by (with_reducible repeat (first | apply Kd.N_alloc | apply Kd.N_drewN | apply Kd.N_drew)); exact HO108.out) (Kd.N_base ho0) hb); have n2_ := zA (Kd.N_elder' (by (with_reducible repeat (first | apply Kd.N_alloc | apply Kd.N_drewN | apply Kd.N_drew)); exact HO113.out) (Kd.N_base ho0) hb); have n3_ := zA (Kd.N_elder' (by (with_reducible repeat (first | apply Kd.N_alloc | apply Kd.N_drewN | apply Kd.N_drew)); exact HO118.out) (Kd.N_base ho0) hb); have n4_ := zA (Kd.N_elder' (by (with_reducible repeat (first | apply Kd.N_alloc | apply Kd.N_drewN | apply Kd.N_drew)); exact HO123.out) (Kd.N_base ho0) hb); have n5_ := zA (Kd.N_lower (Kd.N_mono (ok' := fun k_ => some k_ ≠ (.slice Ao29 t101.length co29 : Value).ownBlock ∧ some k_ ≠ (.slice Ao33 t106.length co33 : Value).ownBlock ∧ some k_ ≠ (.slice Ao35 t111.length co35 : Value).ownBlock ∧ some k_ ≠ (.slice Ao40 t116.length co40 : Value).ownBlock ∧ k_ ≠ gb110 ∧ k_ ≠ gb120) ho0 (fun k_ hk_ => ⟨Or.elim hk_ (fun hs_ => hs_.1) (fun hn_ => (Kd.fresh' (Kd.N_lt (by (with_reducible repeat (first | apply Kd.N_alloc | apply Kd.N_drewN | apply Kd.N_drew)); exact HO103.out)) k_ hn_)), Or.elim hk_ (fun hs_ => hs_.2.1) (fun hn_ => (Kd.fresh' (Kd.N_lt (by (with_reducible repeat (first | apply Kd.N_alloc | apply Kd.N_drewN | apply Kd.N_drew)); exact HO108.out)) k_ hn_)), Or.elim hk_ (fun hs_ => hs_.2.2.1) (fun hn_ => (Kd.fresh' (Kd.N_lt (by (with_reducible repeat (first | apply Kd.N_alloc | apply Kd.N_drewN | apply Kd.N_drew)); exact HO113.out)) k_ hn_)), Or.elim hk_ (fun hs_ => hs_.2.2.2.1) (fun hn_ => (Kd.fresh' (Kd.N_lt (by (with_reducible repeat (first | apply Kd.N_alloc | apply Kd.N_drewN | apply Kd.N_drew)); exact HO118.out)) k_ hn_)), Or.elim hk_ (fun hs_ => hs_.2.2.2.2.1) (fun hn_ => (Kd.freshB (g := gb110) (o := .cells #[.int .i64 t104, .int .i64 t105, .slice Ao33 t106.length co33] 99 (0, 0)) (qW BK110.out) k_ hn_)), Or.elim hk_ (fun hs_ => hs_.2.2.2.2.2) (fun hn_ => (Kd.freshB (g := gb120) (o := .cells #[.int .i64 t114, .int .i64 t115, .slice Ao40 t116.length co40] 99 (0, 0)) (qW BK120.out) k_ hn_))⟩)) (zW qB)); have n6_ := zA (qX BK110.out hb); have n7_ := zA (qX BK120.out hb); have n8_ := zA (zV qB hb); clear HO103 HO108 HO113 HO118 HO123 BK110 BK120 HB; have HO103 := n0_; have HO108 := n1_; have HO113 := n2_; have HO118 := n3_; have HO123 := n4_; have HO128 := n5_; have BK110 := n6_; have BK120 := n7_; have HB := n8_; clear n0_ n1_ n2_ n3_ n4_ n5_ n6_ n7_ n8_; (try clear hb); (try clear ho0)) | ((with_reducible refine gate_dst (N := 5) rfl ?_); (try (refine gate_guard (by rfl) ?_; dsimp only)); refine box_event qr (N := 5) qr (cs := #[.int .i64 0, .int .i64 0, .slice none 0 0]) (t := 99) qg ?_; intro gb130 hg w44 hbox hb; have n0_ := zA (Kd.N_below (Kd.N_elderB (by (with_reducible repeat (first | apply Kd.N_alloc | apply Kd.N_drewN | apply Kd.N_drew)); exact HO103.out) gb130 (Nat.le_of_eq hg.symm)) hb); have n1_ := zA (Kd.N_below (Kd.N_elderB (by (with_reducible repeat (first | apply Kd.N_alloc | apply Kd.N_drewN | apply Kd.N_drew)); exact HO108.out) gb130 (Nat.le_of_eq hg.symm)) hb); have n2_ := zA (Kd.N_below (Kd.N_elderB (by (with_reducible repeat (first | apply Kd.N_alloc | apply Kd.N_drewN | apply Kd.N_drew)); exact HO113.out) gb130 (Nat.le_of_eq hg.symm)) hb); have n3_ := zA (Kd.N_below (Kd.N_elderB (by (with_reducible repeat (first | apply Kd.N_alloc | apply Kd.N_drewN | apply Kd.N_drew)); exact HO118.out) gb130 (Nat.le_of_eq hg.symm)) hb); have n4_ := zA (Kd.N_below (Kd.N_elderB (by (with_reducible repeat (first | apply Kd.N_alloc | apply Kd.N_drewN | apply Kd.N_drew)); exact HO123.out) gb130 (Nat.le_of_eq hg.symm)) hb); have n5_ := zA (Kd.N_below (Kd.N_elderB (by (with_reducible repeat (first | apply Kd.N_alloc | apply Kd.N_drewN | apply Kd.N_drew)); exact HO128.out) gb130 (Nat.le_of_eq hg.symm)) hb); have n6_ := zA (qX BK110.out hb); have n7_ := zA (qX BK120.out hb); have n8_ := zA (zV qB hb); have n9_ := zA (hbox); have n10_ := zA ((qS : w.heap.size ≤ gb130)); have n11_ := zA ((qS : w.heap.size ≤ gb130)); have n12_ := zA ((by rw [hg]; exact zLq (qL BK110.out) : gb110 ≠ gb130)); have n13_ := zA ((by rw [hg]; exact zMq (qL BK110.out) : gb130 ≠ gb110)); have n14_ := zA ((by rw [hg]; exact zLq (qL BK120.out) : gb120 ≠ gb130)); have n15_ := zA ((by rw [hg]; exact zMq (qL BK120.out) : gb130 ≠ gb120)); clear HO103 HO108 HO113 HO118 HO123 HO128 BK110 BK120 HB; have HO103 := n0_; have HO108 := n1_; have HO113 := n2_; have HO118 := n3_; have HO123 := n4_; have HO128 := n5_; have BK110 := n6_; have BK120 := n7_; have HB := n8_; have BK130 := n9_; have GW130 := n10_; have GE130 := n11_; have NB110_130 := n12_; have NB130_110 := n13_; have NB120_130 := n14_; have NB130_120 := n15_; clear n0_ n1_ n2_ n3_ n4_ n5_ n6_ n7_ n8_ n9_ n10_ n11_ n12_ n13_ n14_ n15_ hb hbox hg; have hnb45 := NB130_110.out; have hnc45 := NB110_130.out; have hnb46 := NB130_120.out; have hnc46 := NB120_130.out; obtain ⟨_, _, _, _, _, _⟩ := qc3f BK130.out; obtain ⟨Ao48, co48, eo48⟩ := Kd.N_slice HO128.out; subst eo48; obtain ⟨_, _, _, _, _, _⟩ := qc3f BK110.out) | ((with_reducible refine zJq (f := 86) rfl ?_); refine goesL_ (some 32) rfl rfl Try.func86 (by kernel_rfl) rfl #[.agg #[.int .i64 t104, .int .i64 t105, .slice Ao33 t106.length co33], .string (⟨#[67]⟩ : ByteArray)] rfl qG ?_; (with_reducible refine (order_Find.calls 1000 t104 t105 _ _ t106 (⟨#[67]⟩ : ByteArray) t131 t132 true _ ?side1 ?side2 A7.out).mono ?_); (case side1 => refine (Kd.N_reads' (e := 71) (base := w.heap.size) (ok := fun k_ => (((((((True ∧ k_ ≠ gb110) ∧ some k_ ≠ (.slice Ao35 t111.length co35 : Value).ownBlock) ∧ some k_ ≠ (.slice Ao40 t116.length co40 : Value).ownBlock) ∧ k_ ≠ gb120) ∧ some k_ ≠ (.slice Ao42 t121.length co42 : Value).ownBlock) ∧ some k_ ≠ (.slice Ao48 t126.length co48 : Value).ownBlock) ∧ k_ ≠ gb130)) (n := t106.length) (c := co33) ?_).2.2; exact (by (with_reducible repeat (first | apply Kd.N_alloc | apply Kd.N_drewN | apply Kd.N_drew)); exact (Kd.N_mono (Kd.N_far (p := ⟨gb130, 2, none⟩) (Kd.N_far (p := ⟨gb130, 1, none⟩) (Kd.N_far (p := ⟨gb130, 0, none⟩) (Kd.N_mono HO108.out (fun k_ hk => (⟨hk, hk.2⟩ : _ ∧ k_ ≠ gb130))) (fun _ hk => hk.2) (.int .i64 t124)) (fun _ hk => hk.2) (.int .i64 t125)) (fun _ hk => hk.2) (.slice Ao48 t126.length co48)) (fun _ h_ => h_.1)))); (case side2 => exact (Kd.N_reads' HO108.out).2.1); rintro e w50 ⟨rfl, hb⟩; refine ⟨_, rfl, ?_⟩; have n0_ := zA (Kd.N_below (by (with_reducible repeat (first | apply Kd.N_alloc | apply Kd.N_drewN | apply Kd.N_drew)); exact (Kd.N_mono (Kd.N_far (p := ⟨gb130, 2, none⟩) (Kd.N_far (p := ⟨gb130, 1, none⟩) (Kd.N_far (p := ⟨gb130, 0, none⟩) (Kd.N_mono HO103.out (fun k_ hk => (⟨hk, hk.2⟩ : _ ∧ k_ ≠ gb130))) (fun _ hk => hk.2) (.int .i64 t124)) (fun _ hk => hk.2) (.int .i64 t125)) (fun _ hk => hk.2) (.slice Ao48 t126.length co48)) (fun _ h_ => h_.1))) hb); have n1_ := zA (Kd.N_below (by (with_reducible repeat (first | apply Kd.N_alloc | apply Kd.N_drewN | apply Kd.N_drew)); exact (Kd.N_mono (Kd.N_far (p := ⟨gb130, 2, none⟩) (Kd.N_far (p := ⟨gb130, 1, none⟩) (Kd.N_far (p := ⟨gb130, 0, none⟩) (Kd.N_mono HO108.out (fun k_ hk => (⟨hk, hk.2⟩ : _ ∧ k_ ≠ gb130))) (fun _ hk => hk.2) (.int .i64 t124)) (fun _ hk => hk.2) (.int .i64 t125)) (fun _ hk => hk.2) (.slice Ao48 t126.length co48)) (fun _ h_ => h_.1))) hb); have n2_ := zA (Kd.N_below (by (with_reducible repeat (first | apply Kd.N_alloc | apply Kd.N_drewN | apply Kd.N_drew)); exact (Kd.N_mono (Kd.N_far (p := ⟨gb130, 2, none⟩) (Kd.N_far (p := ⟨gb130, 1, none⟩) (Kd.N_far (p := ⟨gb130, 0, none⟩) (Kd.N_mono HO113.out (fun k_ hk => (⟨hk, hk.2⟩ : _ ∧ k_ ≠ gb130))) (fun _ hk => hk.2) (.int .i64 t124)) (fun _ hk => hk.2) (.int .i64 t125)) (fun _ hk => hk.2) (.slice Ao48 t126.length co48)) (fun _ h_ => h_.1))) hb); have n3_ := zA (Kd.N_below (by (with_reducible repeat (first | apply Kd.N_alloc | apply Kd.N_drewN | apply Kd.N_drew)); exact (Kd.N_mono (Kd.N_far (p := ⟨gb130, 2, none⟩) (Kd.N_far (p := ⟨gb130, 1, none⟩) (Kd.N_far (p := ⟨gb130, 0, none⟩) (Kd.N_mono HO118.out (fun k_ hk => (⟨hk, hk.2⟩ : _ ∧ k_ ≠ gb130))) (fun _ hk => hk.2) (.int .i64 t124)) (fun _ hk => hk.2) (.int .i64 t125)) (fun _ hk => hk.2) (.slice Ao48 t126.length co48)) (fun _ h_ => h_.1))) hb); have n4_ := zA (Kd.N_below (by (with_reducible repeat (first | apply Kd.N_alloc | apply Kd.N_drewN | apply Kd.N_drew)); exact (Kd.N_mono (Kd.N_far (p := ⟨gb130, 2, none⟩) (Kd.N_far (p := ⟨gb130, 1, none⟩) (Kd.N_far (p := ⟨gb130, 0, none⟩) (Kd.N_mono HO123.out (fun k_ hk => (⟨hk, hk.2⟩ : _ ∧ k_ ≠ gb130))) (fun _ hk => hk.2) (.int .i64 t124)) (fun _ hk => hk.2) (.int .i64 t125)) (fun _ hk => hk.2) (.slice Ao48 t126.length co48)) (fun _ h_ => h_.1))) hb); have n5_ := zA (Kd.N_below (by (with_reducible repeat (first | apply Kd.N_alloc | apply Kd.N_drewN | apply Kd.N_drew)); exact (Kd.N_mono (Kd.N_far (p := ⟨gb130, 2, none⟩) (Kd.N_far (p := ⟨gb130, 1, none⟩) (Kd.N_far (p := ⟨gb130, 0, none⟩) (Kd.N_mono HO128.out (fun k_ hk => (⟨hk, hk.2⟩ : _ ∧ k_ ≠ gb130))) (fun _ hk => hk.2) (.int .i64 t124)) (fun _ hk => hk.2) (.int .i64 t125)) (fun _ hk => hk.2) (.slice Ao48 t126.length co48)) (fun _ h_ => h_.1))) hb); have n6_ := zA (qX BK110.out hb); have n7_ := zA (qX BK120.out hb); have n8_ := zA (zX (g := gb130) (o := .cells #[.int .i64 t124, .int .i64 t125, .slice Ao48 t126.length co48] 99 (0, 0)) (qV BK130.out) hb); have n9_ := zA (zV qB hb); clear HO103 HO108 HO113 HO118 HO123 HO128 BK110 BK120 BK130 HB; have HO103 := n0_; have HO108 := n1_; have HO113 := n2_; have HO118 := n3_; have HO123 := n4_; have HO128 := n5_; have BK110 := n6_; have BK120 := n7_; have BK130 := n8_; have HB := n9_; clear n0_ n1_ n2_ n3_ n4_ n5_ n6_ n7_ n8_ n9_; (try clear hb); obtain ⟨_, _, _, _, _, _⟩ := qc3f BK110.out) | ((with_reducible refine zJq (f := 86) rfl ?_); refine goesL_ (some 38) rfl rfl Try.func86 (by kernel_rfl) rfl #[.agg #[.int .i64 t104, .int .i64 t105, .slice Ao33 t106.length co33], .string (⟨#[68]⟩ : ByteArray)] rfl qG ?_; (with_reducible refine (order_Find.calls 1000 t104 t105 _ _ t106 (⟨#[68]⟩ : ByteArray) t134 t135 false _ ?side1 ?side2 A8.out).mono ?_); (case side1 => repeat (first | exact (Kd.N_reads' HO108.out).2.2 | (with_reducible refine Kd.C_alloc ?_ _) | (with_reducible refine Kd.C_drewN ?_ _) | (with_reducible refine Kd.C_drew ?_))); (case side2 => exact (Kd.N_reads' HO108.out).2.1); rintro e w52 ⟨rfl, hb⟩; refine ⟨_, rfl, ?_⟩; have n0_ := zA (Kd.N_below (by (with_reducible repeat (first | apply Kd.N_alloc | apply Kd.N_drewN | apply Kd.N_drew)); exact HO103.out) hb); have n1_ := zA (Kd.N_below (by (with_reducible repeat (first | apply Kd.N_alloc | apply Kd.N_drewN | apply Kd.N_drew)); exact HO108.out) hb); have n2_ := zA (Kd.N_below (by (with_reducible repeat (first | apply Kd.N_alloc | apply Kd.N_drewN | apply Kd.N_drew)); exact HO113.out) hb); have n3_ := zA (Kd.N_below (by (with_reducible repeat (first | apply Kd.N_alloc | apply Kd.N_drewN | apply Kd.N_drew)); exact HO118.out) hb); have n4_ := zA (Kd.N_below (by (with_reducible repeat (first | apply Kd.N_alloc | apply Kd.N_drewN | apply Kd.N_drew)); exact HO123.out) hb); have n5_ := zA (Kd.N_below (by (with_reducible repeat (first | apply Kd.N_alloc | apply Kd.N_drewN | apply Kd.N_drew)); exact HO128.out) hb); have n6_ := zA (qX BK110.out hb); have n7_ := zA (qX BK120.out hb); have n8_ := zA (qX BK130.out hb); have n9_ := zA (zV qB hb); clear HO103 HO108 HO113 HO118 HO123 HO128 BK110 BK120 BK130 HB; have HO103 := n0_; have HO108 := n1_; have HO113 := n2_; have HO118 := n3_; have HO123 := n4_; have HO128 := n5_; have BK110 := n6_; have BK120 := n7_; have BK130 := n8_; have HB := n9_; clear n0_ n1_ n2_ n3_ n4_ n5_ n6_ n7_ n8_ n9_; (try clear hb); obtain ⟨_, _, _, _, _, _⟩ := qc3f BK110.out) | ((with_reducible refine zJq (f := 88) rfl ?_); refine goesL_ (some 44) rfl rfl Try.func88 (by kernel_rfl) rfl #[.agg #[.int .i64 t104, .int .i64 t105, .slice Ao33 t106.length co33]] rfl qG ?_; (with_reducible refine (order_Paid.calls 1000 t104 t105 _ _ t106 t137 t138 _ ?side1 ?side2 A9.out).mono ?_); (case side1 => repeat (first | exact (Kd.N_reads' HO108.out).2.2 | (with_reducible refine Kd.C_alloc ?_ _) | (with_reducible refine Kd.C_drewN ?_ _) | (with_reducible refine Kd.C_drew ?_))); (case side2 => exact (Kd.N_reads' HO108.out).2.1); rintro e w54 ⟨rfl, hb⟩; refine ⟨_, rfl, ?_⟩; have n0_ := zA (Kd.N_below (by (with_reducible repeat (first | apply Kd.N_alloc | apply Kd.N_drewN | apply Kd.N_drew)); exact HO103.out) hb); have n1_ := zA (Kd.N_below (by (with_reducible repeat (first | apply Kd.N_alloc | apply Kd.N_drewN | apply Kd.N_drew)); exact HO108.out) hb); have n2_ := zA (Kd.N_below (by (with_reducible repeat (first | apply Kd.N_alloc | apply Kd.N_drewN | apply Kd.N_drew)); exact HO113.out) hb); have n3_ := zA (Kd.N_below (by (with_reducible repeat (first | apply Kd.N_alloc | apply Kd.N_drewN | apply Kd.N_drew)); exact HO118.out) hb); have n4_ := zA (Kd.N_below (by (with_reducible repeat (first | apply Kd.N_alloc | apply Kd.N_drewN | apply Kd.N_drew)); exact HO123.out) hb); have n5_ := zA (Kd.N_below (by (with_reducible repeat (first | apply Kd.N_alloc | apply Kd.N_drewN | apply Kd.N_drew)); exact HO128.out) hb); have n6_ := zA (qX BK110.out hb); have n7_ := zA (qX BK120.out hb); have n8_ := zA (qX BK130.out hb); have n9_ := zA (zV qB hb); clear HO103 HO108 HO113 HO118 HO123 HO128 BK110 BK120 BK130 HB; have HO103 := n0_; have HO108 := n1_; have HO113 := n2_; have HO118 := n3_; have HO123 := n4_; have HO128 := n5_; have BK110 := n6_; have BK120 := n7_; have BK130 := n8_; have HB := n9_; clear n0_ n1_ n2_ n3_ n4_ n5_ n6_ n7_ n8_ n9_; (try clear hb); obtain ⟨_, _, _, _, _, _⟩ := qc3f BK110.out) | (go_at_call 93; (with_reducible refine (order_Serials.calls 1000 t104 t105 _ _ t106 t139 _ ?side1 ?side2 A19.out).mono ?_); (case side1 => repeat (first | exact (Kd.N_reads' HO108.out).2.2 | (with_reducible refine Kd.C_alloc ?_ _) | (with_reducible refine Kd.C_drewN ?_ _) | (with_reducible refine Kd.C_drew ?_))); (case side2 => exact (Kd.N_reads' HO108.out).2.1); rintro e w56 ⟨v140, rfl, ho0, hb⟩; have n0_ := zA (Kd.N_elder' (by (with_reducible repeat (first | apply Kd.N_alloc | apply Kd.N_drewN | apply Kd.N_drew)); exact HO103.out) (Kd.R_base ho0) hb); have n1_ := zA (Kd.N_elder' (by (with_reducible repeat (first | apply Kd.N_alloc | apply Kd.N_drewN | apply Kd.N_drew)); exact HO108.out) (Kd.R_base ho0) hb); have n2_ := zA (Kd.N_elder' (by (with_reducible repeat (first | apply Kd.N_alloc | apply Kd.N_drewN | apply Kd.N_drew)); exact HO113.out) (Kd.R_base ho0) hb); have n3_ := zA (Kd.N_elder' (by (with_reducible repeat (first | apply Kd.N_alloc | apply Kd.N_drewN | apply Kd.N_drew)); exact HO118.out) (Kd.R_base ho0) hb); have n4_ := zA (Kd.N_elder' (by (with_reducible repeat (first | apply Kd.N_alloc | apply Kd.N_drewN | apply Kd.N_drew)); exact HO123.out) (Kd.R_base ho0) hb); have n5_ := zA (Kd.N_elder' (by (with_reducible repeat (first | apply Kd.N_alloc | apply Kd.N_drewN | apply Kd.N_drew)); exact HO128.out) (Kd.R_base ho0) hb); have n6_ := zA (Kd.R_lower ho0 (zW qB)); have n7_ := zA (qX BK110.out hb); have n8_ := zA (qX BK120.out hb); have n9_ := zA (qX BK130.out hb); have n10_ := zA (zV qB hb); clear HO103 HO108 HO113 HO118 HO123 HO128 BK110 BK120 BK130 HB; have HO103 := n0_; have HO108 := n1_; have HO113 := n2_; have HO118 := n3_; have HO123 := n4_; have HO128 := n5_; have HO141 := n6_; have BK110 := n7_; have BK120 := n8_; have BK130 := n9_; have HB := n10_; clear n0_ n1_ n2_ n3_ n4_ n5_ n6_ n7_ n8_ n9_ n10_; (try clear hb); (try clear ho0)) | ((with_reducible refine gate_dst (N := 83) rfl ?_); (try (refine gate_guard (by rfl) ?_; dsimp only)); refine Kd.R_lit Kd.string _ 9 ?hg (N := 83) ?hd (xs := ([(⟨#[65]⟩ : ByteArray), (⟨#[66]⟩ : ByteArray), (⟨#[67]⟩ : ByteArray)] : List ByteArray)) (inner := [.string (⟨#[65]⟩ : ByteArray), .string (⟨#[66]⟩ : ByteArray), .string (⟨#[67]⟩ : ByteArray)]) (ok := fun _ => True) (okp := fun _ => True) ?hr ?hp (fun _ hk => hk) trivial (Below.refl _ _) (Nat.le_refl _) (by simp) ?_; (case hd => rfl); (case hg => rfl); (case hr => first | (go_simp; done) | (go_simp; rfl)); (case hp => exact (Reps.one (show Kd.M Kd.string _ _ _ (⟨#[65]⟩ : ByteArray) [.string (⟨#[65]⟩ : ByteArray)] from rfl) (Reps.one (show Kd.M Kd.string _ _ _ (⟨#[66]⟩ : ByteArray) [.string (⟨#[66]⟩ : ByteArray)] from rfl) (Reps.one (show Kd.M Kd.string _ _ _ (⟨#[67]⟩ : ByteArray) [.string (⟨#[67]⟩ : ByteArray)] from rfl) (Reps.none _ _))))); intro v143 w57 ho58 hb hg_ hnew_; clear hg_ hnew_; (first | rw [← Ny142.out] at ho58 | (simp only [Int.reduceToNat] at ho58; rw [← Ny142.out] at ho58)); have n0_ := zA (Kd.N_elder' (by (with_reducible repeat (first | apply Kd.N_alloc | apply Kd.N_drewN | apply Kd.N_drew)); exact HO103.out) (Kd.R_base ho58) hb); have n1_ := zA (Kd.N_elder' (by (with_reducible repeat (first | apply Kd.N_alloc | apply Kd.N_drewN | apply Kd.N_drew)); exact HO108.out) (Kd.R_base ho58) hb); have n2_ := zA (Kd.N_elder' (by (with_reducible repeat (first | apply Kd.N_alloc | apply Kd.N_drewN | apply Kd.N_drew)); exact HO113.out) (Kd.R_base ho58) hb); have n3_ := zA (Kd.N_elder' (by (with_reducible repeat (first | apply Kd.N_alloc | apply Kd.N_drewN | apply Kd.N_drew)); exact HO118.out) (Kd.R_base ho58) hb); have n4_ := zA (Kd.N_elder' (by (with_reducible repeat (first | apply Kd.N_alloc | apply Kd.N_drewN | apply Kd.N_drew)); exact HO123.out) (Kd.R_base ho58) hb); have n5_ := zA (Kd.N_elder' (by (with_reducible repeat (first | apply Kd.N_alloc | apply Kd.N_drewN | apply Kd.N_drew)); exact HO128.out) (Kd.R_base ho58) hb); have n6_ := zA (Kd.R_elder' (by (with_reducible repeat (first | apply Kd.R_alloc | apply Kd.R_drewN | apply Kd.R_drew)); exact HO141.out) (Kd.R_base ho58) hb); have n7_ := zA (Kd.R_lower (Kd.R_new' ho58 (Kd.R_lt (by (with_reducible repeat (first | apply Kd.R_alloc | apply Kd.R_drewN | apply Kd.R_drew)); exact HO141.out))) (zW qB)); have n8_ := zA (qX BK110.out hb); have n9_ := zA (qX BK120.out hb); have n10_ := zA (qX BK130.out hb); have n11_ := zA (zV qB hb); clear HO103 HO108 HO113 HO118 HO123 HO128 HO141 BK110 BK120 BK130 HB; have HO103 := n0_; have HO108 := n1_; have HO113 := n2_; have HO118 := n3_; have HO123 := n4_; have HO128 := n5_; have HO141 := n6_; have HO144 := n7_; have BK110 := n8_; have BK120 := n9_; have BK130 := n10_; have HB := n11_; clear n0_ n1_ n2_ n3_ n4_ n5_ n6_ n7_ n8_ n9_ n10_ n11_ hb ho58; obtain ⟨Ao59, co59, eo59⟩ := Kd.R_slice HO141.out; subst eo59; obtain ⟨Ao60, co60, eo60⟩ := Kd.R_slice HO144.out; subst eo60) | (go_at_call 92; (with_reducible refine (backhaulref01_SameTexts.calls 1000 _ _ t139 _ _ y142 true _ ?side1 ?side2 ?side3 ?side4 A20.out).mono ?_); (case side1 => repeat (first | exact (Kd.R_reads' HO141.out).2.2 | (with_reducible refine Kd.C_alloc ?_ _) | (with_reducible refine Kd.C_drewN ?_ _) | (with_reducible refine Kd.C_drew ?_))); (case side2 => exact (Kd.R_reads' HO141.out).2.1); (case side3 => repeat (first | exact (Kd.R_reads' HO144.out).2.2 | (with_reducible refine Kd.C_alloc ?_ _) | (with_reducible refine Kd.C_drewN ?_ _) | (with_reducible refine Kd.C_drew ?_))); (case side4 => exact (Kd.R_reads' HO144.out).2.1); rintro e w' ⟨rfl, ⟨nd, rfl⟩⟩; obtain ⟨_, _, _, _, _, _⟩ := qc3f BK110.out) | (go_at_call 90; (with_reducible refine (order_Check.calls 1000 t104 t105 _ _ t106 t146 _ ?side1 ?side2 A22.out).mono ?_); (case side1 => repeat (first | exact (Kd.N_reads' HO108.out).2.2 | (with_reducible refine Kd.C_alloc ?_ _) | (with_reducible refine Kd.C_drewN ?_ _) | (with_reducible refine Kd.C_drew ?_))); (case side2 => exact (Kd.N_reads' HO108.out).2.1); rintro e w62 ⟨rfl, hb⟩; have n0_ := zA (Kd.N_below (by (with_reducible repeat (first | apply Kd.N_alloc | apply Kd.N_drewN | apply Kd.N_drew)); exact HO103.out) hb); have n1_ := zA (Kd.N_below (by (with_reducible repeat (first | apply Kd.N_alloc | apply Kd.N_drewN | apply Kd.N_drew)); exact HO108.out) hb); have n2_ := zA (Kd.N_below (by (with_reducible repeat (first | apply Kd.N_alloc | apply Kd.N_drewN | apply Kd.N_drew)); exact HO113.out) hb); have n3_ := zA (Kd.N_below (by (with_reducible repeat (first | apply Kd.N_alloc | apply Kd.N_drewN | apply Kd.N_drew)); exact HO118.out) hb); have n4_ := zA (Kd.N_below (by (with_reducible repeat (first | apply Kd.N_alloc | apply Kd.N_drewN | apply Kd.N_drew)); exact HO123.out) hb); have n5_ := zA (Kd.N_below (by (with_reducible repeat (first | apply Kd.N_alloc | apply Kd.N_drewN | apply Kd.N_drew)); exact HO128.out) hb); have n6_ := zA (Kd.R_below (by (with_reducible repeat (first | apply Kd.R_alloc | apply Kd.R_drewN | apply Kd.R_drew)); exact HO141.out) hb); have n7_ := zA (Kd.R_below (by (with_reducible repeat (first | apply Kd.R_alloc | apply Kd.R_drewN | apply Kd.R_drew)); exact HO144.out) hb); have n8_ := zA (qX BK110.out hb); have n9_ := zA (qX BK120.out hb); have n10_ := zA (qX BK130.out hb); have n11_ := zA (zV qB hb); clear HO103 HO108 HO113 HO118 HO123 HO128 HO141 HO144 BK110 BK120 BK130 HB; have HO103 := n0_; have HO108 := n1_; have HO113 := n2_; have HO118 := n3_; have HO123 := n4_; have HO128 := n5_; have HO141 := n6_; have HO144 := n7_; have BK110 := n8_; have BK120 := n9_; have BK130 := n10_; have HB := n11_; clear n0_ n1_ n2_ n3_ n4_ n5_ n6_ n7_ n8_ n9_ n10_ n11_; (try clear hb); obtain ⟨_, _, _, _, _, _⟩ := qc3f BK110.out) | (go_at_call 95; (with_reducible refine (order_Same.calls 1000 t104 t105 _ _ t106 t104 t105 _ _ t106 true _ ?side1 ?side2 ?side3 ?side4 A24.out).mono ?_); (case side1 => repeat (first | exact (Kd.N_reads' HO108.out).2.2 | (with_reducible refine Kd.C_alloc ?_ _) | (with_reducible refine Kd.C_drewN ?_ _) | (with_reducible refine Kd.C_drew ?_))); (case side2 => exact (Kd.N_reads' HO108.out).2.1); (case side3 => repeat (first | exact (Kd.N_reads' HO108.out).2.2 | (with_reducible refine Kd.C_alloc ?_ _) | (with_reducible refine Kd.C_drewN ?_ _) | (with_reducible refine Kd.C_drew ?_))); (case side4 => exact (Kd.N_reads' HO108.out).2.1); rintro e w64 ⟨rfl, hb⟩; have n0_ := zA (Kd.N_below (by (with_reducible repeat (first | apply Kd.N_alloc | apply Kd.N_drewN | apply Kd.N_drew)); exact HO103.out) hb); have n1_ := zA (Kd.N_below (by (with_reducible repeat (first | apply Kd.N_alloc | apply Kd.N_drewN | apply Kd.N_drew)); exact HO108.out) hb); have n2_ := zA (Kd.N_below (by (with_reducible repeat (first | apply Kd.N_alloc | apply Kd.N_drewN | apply Kd.N_drew)); exact HO113.out) hb); have n3_ := zA (Kd.N_below (by (with_reducible repeat (first | apply Kd.N_alloc | apply Kd.N_drewN | apply Kd.N_drew)); exact HO118.out) hb); have n4_ := zA (Kd.N_below (by (with_reducible repeat (first | apply Kd.N_alloc | apply Kd.N_drewN | apply Kd.N_drew)); exact HO123.out) hb); have n5_ := zA (Kd.N_below (by (with_reducible repeat (first | apply Kd.N_alloc | apply Kd.N_drewN | apply Kd.N_drew)); exact HO128.out) hb); have n6_ := zA (Kd.R_below (by (with_reducible repeat (first | apply Kd.R_alloc | apply Kd.R_drewN | apply Kd.R_drew)); exact HO141.out) hb); have n7_ := zA (Kd.R_below (by (with_reducible repeat (first | apply Kd.R_alloc | apply Kd.R_drewN | apply Kd.R_drew)); exact HO144.out) hb); have n8_ := zA (qX BK110.out hb); have n9_ := zA (qX BK120.out hb); have n10_ := zA (qX BK130.out hb); have n11_ := zA (zV qB hb); clear HO103 HO108 HO113 HO118 HO123 HO128 HO141 HO144 BK110 BK120 BK130 HB; have HO103 := n0_; have HO108 := n1_; have HO113 := n2_; have HO118 := n3_; have HO123 := n4_; have HO128 := n5_; have HO141 := n6_; have HO144 := n7_; have BK110 := n8_; have BK120 := n9_; have BK130 := n10_; have HB := n11_; clear n0_ n1_ n2_ n3_ n4_ n5_ n6_ n7_ n8_ n9_ n10_ n11_; (try clear hb)) | (go_at_call 90; (refine (order_Check.calls 1000 0 0 _ _ ([] : List (S71)) t148 _ ?side1 ?side2 A26.out).mono ?_); (case side1 => exact Kd.C_nil _ _); (case side2 => exact Nat.le_refl _); rintro e w65 ⟨rfl, hb⟩; have n0_ := zA (Kd.N_below (by (with_reducible repeat (first | apply Kd.N_alloc | apply Kd.N_drewN | apply Kd.N_drew)); exact HO103.out) hb); have n1_ := zA (Kd.N_below (by (with_reducible repeat (first | apply Kd.N_alloc | apply Kd.N_drewN | apply Kd.N_drew)); exact HO108.out) hb); have n2_ := zA (Kd.N_below (by (with_reducible repeat (first | apply Kd.N_alloc | apply Kd.N_drewN | apply Kd.N_drew)); exact HO113.out) hb); have n3_ := zA (Kd.N_below (by (with_reducible repeat (first | apply Kd.N_alloc | apply Kd.N_drewN | apply Kd.N_drew)); exact HO118.out) hb); have n4_ := zA (Kd.N_below (by (with_reducible repeat (first | apply Kd.N_alloc | apply Kd.N_drewN | apply Kd.N_drew)); exact HO123.out) hb); have n5_ := zA (Kd.N_below (by (with_reducible repeat (first | apply Kd.N_alloc | apply Kd.N_drewN | apply Kd.N_drew)); exact HO128.out) hb); have n6_ := zA (Kd.R_below (by (with_reducible repeat (first | apply Kd.R_alloc | apply Kd.R_drewN | apply Kd.R_drew)); exact HO141.out) hb); have n7_ := zA (Kd.R_below (by (with_reducible repeat (first | apply Kd.R_alloc | apply Kd.R_drewN | apply Kd.R_drew)); exact HO144.out) hb); have n8_ := zA (qX BK110.out hb); have n9_ := zA (qX BK120.out hb); have n10_ := zA (qX BK130.out hb); have n11_ := zA (zV qB hb); clear HO103 HO108 HO113 HO118 HO123 HO128 HO141 HO144 BK110 BK120 BK130 HB; have HO103 := n0_; have HO108 := n1_; have HO113 := n2_; have HO118 := n3_; have HO123 := n4_; have HO128 := n5_; have HO141 := n6_; have HO144 := n7_; have BK110 := n8_; have BK120 := n9_; have BK130 := n10_; have HB := n11_; clear n0_ n1_ n2_ n3_ n4_ n5_ n6_ n7_ n8_ n9_ n10_ n11_; (try clear hb)))
                          go_ret; exact ⟨qE, qB⟩
                        rw [if_neg c27] at H; have c27b0 : (t148 == 40) = false := beq_eq_false_iff_ne.mpr c27; have c27b1 : (t148 != 40) = true := bne_iff_ne.mpr c27; exact absurd H (by simp)
                      replace c25 := Bool.eq_false_iff.mpr c25; subst c25; have H1 : (some false) = some true := by first | (rw [if_neg (show ¬ (false = true) by decide)] at H; exact H) | rfl
                      clear H; have H := H1; clear H1; exact absurd H (by simp)
                    rw [if_neg c23] at H; have c23b0 : (t146 == 0) = false := beq_eq_false_iff_ne.mpr c23; have c23b1 : (t146 != 0) = true := bne_iff_ne.mpr c23; exact absurd H (by simp)
                  replace c21 := Bool.eq_false_iff.mpr c21; subst c21; have H1 : (some false) = some true := by first | (rw [if_neg (show ¬ (false = true) by decide)] at H; exact H) | rfl
                  clear H; have H := H1; clear H1; exact absurd H (by simp)
                rw [if_neg c18] at H; have c18b0 : (t138 == 0) = false := beq_eq_false_iff_ne.mpr c18; have c18b1 : (t138 != 0) = true := bne_iff_ne.mpr c18; exact absurd H (by simp)
              rw [if_neg c17] at H; have c17b0 : (t137 == 319) = false := beq_eq_false_iff_ne.mpr c17; have c17b1 : (t137 != 319) = true := bne_iff_ne.mpr c17; exact absurd H (by simp)
            replace c15 := Bool.eq_false_iff.mpr c15; subst c15; have H1 : (some false) = some true := by first | (rw [if_neg (show ¬ (false = true) by decide)] at H; exact H) | rfl
            clear H; have H := H1; clear H1; exact absurd H (by simp)
          rw [if_neg c14] at H; have c14b0 : (t132 == 1) = false := beq_eq_false_iff_ne.mpr c14; have c14b1 : (t132 != 1) = true := bne_iff_ne.mpr c14; exact absurd H (by simp)
        rw [if_neg c13] at H; have c13b0 : (t131 == 1) = false := beq_eq_false_iff_ne.mpr c13; have c13b1 : (t131 != 1) = true := bne_iff_ne.mpr c13; exact absurd H (by simp)
      rw [if_neg c12] at H; have c12b0 : (t129 == 2) = false := beq_eq_false_iff_ne.mpr c12; have c12b1 : (t129 != 2) = true := bne_iff_ne.mpr c12; exact absurd H (by simp)
    rw [if_neg c11] at H; have c11b0 : (t119 == 32) = false := beq_eq_false_iff_ne.mpr c11; have c11b1 : (t119 != 32) = true := bne_iff_ne.mpr c11; exact absurd H (by simp)
  rw [if_neg c10] at H
  have c10b0 : (t109 == 0) = false := beq_eq_false_iff_ne.mpr c10
  have c10b1 : (t109 != 0) = true := bne_iff_ne.mpr c10
  exact absurd H (by simp)
def backhaulref21_SameLine.f (k : Nat) (a0_0 : Int) (a0_1 : Int) (a0_2 : Int) (a0_3 : Int) (l0_4 : List ByteArray) (a1_0 : Int) (a1_1 : Int) (a1_2 : Int) (a1_3 : Int) (l1_4 : List ByteArray) : Option (Bool) := if a0_0 = a1_0 then (if a0_1 = a1_1 then (if a0_2 = a1_2 then (if a0_3 = a1_3 then ((backhaulref01_SameTexts.f k l0_4 l1_4).bind fun t103 => (some t103)) else (some false)) else (some false)) else (some false)) else (some false)
theorem backhaulref21_SameLine.mono : ∀ a0 a1 a2 a3 a4 a5 a6 a7 a8 a9 k, LeO (backhaulref21_SameLine.f k a0 a1 a2 a3 a4 a5 a6 a7 a8 a9) (backhaulref21_SameLine.f (k + 1) a0 a1 a2 a3 a4 a5 a6 a7 a8 a9) := by
  intro a0 a1 a2 a3 a4 a5 a6 a7 a8 a9 k
  unfold backhaulref21_SameLine.f
  repeat' (with_reducible first | exact backhaulref01_SameTexts.mono _ _ _ | exact LeO.refl _ | exact LeO.none _ | refine LeO.ite ?_ ?_ | refine LeO.bind ?_ (fun _ => ?_))
set_option maxHeartbeats 8000000 in
set_option maxRecDepth 100000 in
theorem backhaulref21_SameLine.calls (k : Nat) (a0_0 : Int) (a0_1 : Int) (a0_2 : Int) (a0_3 : Int) (A0_4 : Option Addr) (c0_4 : Nat) (l0_4 : List ByteArray) (a1_0 : Int) (a1_1 : Int) (a1_2 : Int) (a1_3 : Int) (A1_4 : Option Addr) (c1_4 : Nat) (l1_4 : List ByteArray) (r : Bool) (w : World) (hr0_4 : Kd.C Kd.string w A0_4 l0_4.length l0_4) (hc0_4 : l0_4.length ≤ c0_4) (hr1_4 : Kd.C Kd.string w A1_4 l1_4.length l1_4) (hc1_4 : l1_4.length ≤ c1_4) (h : backhaulref21_SameLine.f k a0_0 a0_1 a0_2 a0_3 l0_4 a1_0 a1_1 a1_2 a1_3 l1_4 = some r) :
    Calls Try.prog 116 #[.agg #[.int .i64 a0_0, .int .i64 a0_1, .int .i64 a0_2, .int .i64 a0_3, .slice A0_4 l0_4.length c0_4], .agg #[.int .i64 a1_0, .int .i64 a1_1, .int .i64 a1_2, .int .i64 a1_3, .slice A1_4 l1_4.length c1_4]] w fun e w' => e = .returned (.bool r) ∧ Below w.heap.size w w' := by
  have hu71 := Try.underlying71
  have HR0_4 := zA hr0_4
  have HC0_4 := zA hc0_4
  clear hr0_4 hc0_4
  have HR1_4 := zA hr1_4
  have HC1_4 := zA hc1_4
  clear hr1_4 hc1_4
  have HB := zA (Below.refl w.heap.size w)
  have H : (if a0_0 = a1_0 then (if a0_1 = a1_1 then (if a0_2 = a1_2 then (if a0_3 = a1_3 then ((backhaulref01_SameTexts.f k l0_4 l1_4).bind fun t103 => (some t103)) else (some false)) else (some false)) else (some false)) else (some false)) = some r := h
  clear h
  by_cases c3 : a0_0 = a1_0
  · rw [if_pos c3] at H
    have c3b0 : (a0_0 == a1_0) = true := beq_iff_eq.mpr c3; have c3b1 : (a0_0 != a1_0) = false := bne_eq_false_iff_eq.mpr c3; clear c3; by_cases c4 : a0_1 = a1_1
    · rw [if_pos c4] at H
      have c4b0 : (a0_1 == a1_1) = true := beq_iff_eq.mpr c4; have c4b1 : (a0_1 != a1_1) = false := bne_eq_false_iff_eq.mpr c4; clear c4; by_cases c5 : a0_2 = a1_2
      · rw [if_pos c5] at H
        have c5b0 : (a0_2 == a1_2) = true := beq_iff_eq.mpr c5; have c5b1 : (a0_2 != a1_2) = false := bne_eq_false_iff_eq.mpr c5; clear c5; by_cases c6 : a0_3 = a1_3
        · rw [if_pos c6] at H
          have c6b0 : (a0_3 == a1_3) = true := beq_iff_eq.mpr c6; have c6b1 : (a0_3 != a1_3) = false := bne_eq_false_iff_eq.mpr c6; clear c6; replace H := Option.bind_eq_some_iff.mp H; obtain ⟨t103, A70, H⟩ := H; try dsimp only at H
          have A7 := zA A70; clear A70; obtain rfl := zKq H; go_enter Try.func116, Try.ntmps116; go_wp2_with (first | ((with_reducible refine gate_dst (N := 2) rfl ?_); refine box_event qr (N := 2) qr (cs := #[.int .i64 a0_0, .int .i64 a0_1, .int .i64 a0_2, .int .i64 a0_3, .slice A0_4 l0_4.length c0_4]) (t := 71) qg ?_; intro gb101 hg w8 hbox hb; have n0_ := zA (zV qB hb); have n1_ := zA (hbox); have n2_ := zA ((qS : w.heap.size ≤ gb101)); have n3_ := zA ((qS : w.heap.size ≤ gb101)); clear HB; have HB := n0_; have BK101 := n1_; have GW101 := n2_; have GE101 := n3_; clear n0_ n1_ n2_ n3_ hb hbox hg) | ((with_reducible refine gate_dst (N := 3) rfl ?_); refine box_event qr (N := 3) qr (cs := #[.int .i64 a1_0, .int .i64 a1_1, .int .i64 a1_2, .int .i64 a1_3, .slice A1_4 l1_4.length c1_4]) (t := 71) qg ?_; intro gb102 hg w9 hbox hb; have n0_ := zA (qX BK101.out hb); have n1_ := zA (zV qB hb); have n2_ := zA (hbox); have n3_ := zA ((qS : w.heap.size ≤ gb102)); have n4_ := zA ((qS : w.heap.size ≤ gb102)); have n5_ := zA ((by rw [hg]; exact zLq (qL BK101.out) : gb101 ≠ gb102)); have n6_ := zA ((by rw [hg]; exact zMq (qL BK101.out) : gb102 ≠ gb101)); clear BK101 HB; have BK101 := n0_; have HB := n1_; have BK102 := n2_; have GW102 := n3_; have GE102 := n4_; have NB101_102 := n5_; have NB102_101 := n6_; clear n0_ n1_ n2_ n3_ n4_ n5_ n6_ hb hbox hg; have hnb10 := NB101_102.out; have hnc10 := NB102_101.out; obtain ⟨_, _, _, _, _, _, _, _, _, _⟩ := qc5f BK101.out; obtain ⟨_, _, _, _, _, _, _, _, _, _⟩ := qc5f BK102.out) | (go_at_call 92; (with_reducible refine (backhaulref01_SameTexts.calls k _ _ l0_4 _ _ l1_4 t103 _ ?side1 ?side2 ?side3 ?side4 A7.out).mono ?_); (case side1 => exact qC (Kd.C_below HR0_4.out HB.out)); (case side2 => exact HC0_4.out); (case side3 => exact qC (Kd.C_below HR1_4.out HB.out)); (case side4 => exact HC1_4.out); rintro e w' ⟨rfl, ⟨nd, rfl⟩⟩)); go_ret; exact ⟨qE, qB⟩
        rw [if_neg c6] at H; have c6b0 : (a0_3 == a1_3) = false := beq_eq_false_iff_ne.mpr c6; have c6b1 : (a0_3 != a1_3) = true := bne_iff_ne.mpr c6; obtain rfl := zKq H; go_enter Try.func116, Try.ntmps116; go_wp2_with (first | ((with_reducible refine gate_dst (N := 2) rfl ?_); refine box_event qr (N := 2) qr (cs := #[.int .i64 a0_0, .int .i64 a0_1, .int .i64 a0_2, .int .i64 a0_3, .slice A0_4 l0_4.length c0_4]) (t := 71) qg ?_; intro gb101 hg w13 hbox hb; have n0_ := zA (zV qB hb); have n1_ := zA (hbox); have n2_ := zA ((qS : w.heap.size ≤ gb101)); have n3_ := zA ((qS : w.heap.size ≤ gb101)); clear HB; have HB := n0_; have BK101 := n1_; have GW101 := n2_; have GE101 := n3_; clear n0_ n1_ n2_ n3_ hb hbox hg) | ((with_reducible refine gate_dst (N := 3) rfl ?_); refine box_event qr (N := 3) qr (cs := #[.int .i64 a1_0, .int .i64 a1_1, .int .i64 a1_2, .int .i64 a1_3, .slice A1_4 l1_4.length c1_4]) (t := 71) qg ?_; intro gb102 hg w14 hbox hb; have n0_ := zA (qX BK101.out hb); have n1_ := zA (zV qB hb); have n2_ := zA (hbox); have n3_ := zA ((qS : w.heap.size ≤ gb102)); have n4_ := zA ((qS : w.heap.size ≤ gb102)); have n5_ := zA ((by rw [hg]; exact zLq (qL BK101.out) : gb101 ≠ gb102)); have n6_ := zA ((by rw [hg]; exact zMq (qL BK101.out) : gb102 ≠ gb101)); clear BK101 HB; have BK101 := n0_; have HB := n1_; have BK102 := n2_; have GW102 := n3_; have GE102 := n4_; have NB101_102 := n5_; have NB102_101 := n6_; clear n0_ n1_ n2_ n3_ n4_ n5_ n6_ hb hbox hg; have hnb15 := NB101_102.out; have hnc15 := NB102_101.out; obtain ⟨_, _, _, _, _, _, _, _, _, _⟩ := qc5f BK101.out; obtain ⟨_, _, _, _, _, _, _, _, _, _⟩ := qc5f BK102.out)); go_ret; exact ⟨qE, qB⟩
      rw [if_neg c5] at H; have c5b0 : (a0_2 == a1_2) = false := beq_eq_false_iff_ne.mpr c5; have c5b1 : (a0_2 != a1_2) = true := bne_iff_ne.mpr c5; obtain rfl := zKq H; go_enter Try.func116, Try.ntmps116; go_wp2_with (first | ((with_reducible refine gate_dst (N := 2) rfl ?_); refine box_event qr (N := 2) qr (cs := #[.int .i64 a0_0, .int .i64 a0_1, .int .i64 a0_2, .int .i64 a0_3, .slice A0_4 l0_4.length c0_4]) (t := 71) qg ?_; intro gb101 hg w18 hbox hb; have n0_ := zA (zV qB hb); have n1_ := zA (hbox); have n2_ := zA ((qS : w.heap.size ≤ gb101)); have n3_ := zA ((qS : w.heap.size ≤ gb101)); clear HB; have HB := n0_; have BK101 := n1_; have GW101 := n2_; have GE101 := n3_; clear n0_ n1_ n2_ n3_ hb hbox hg) | ((with_reducible refine gate_dst (N := 3) rfl ?_); refine box_event qr (N := 3) qr (cs := #[.int .i64 a1_0, .int .i64 a1_1, .int .i64 a1_2, .int .i64 a1_3, .slice A1_4 l1_4.length c1_4]) (t := 71) qg ?_; intro gb102 hg w19 hbox hb; have n0_ := zA (qX BK101.out hb); have n1_ := zA (zV qB hb); have n2_ := zA (hbox); have n3_ := zA ((qS : w.heap.size ≤ gb102)); have n4_ := zA ((qS : w.heap.size ≤ gb102)); have n5_ := zA ((by rw [hg]; exact zLq (qL BK101.out) : gb101 ≠ gb102)); have n6_ := zA ((by rw [hg]; exact zMq (qL BK101.out) : gb102 ≠ gb101)); clear BK101 HB; have BK101 := n0_; have HB := n1_; have BK102 := n2_; have GW102 := n3_; have GE102 := n4_; have NB101_102 := n5_; have NB102_101 := n6_; clear n0_ n1_ n2_ n3_ n4_ n5_ n6_ hb hbox hg; have hnb20 := NB101_102.out; have hnc20 := NB102_101.out; obtain ⟨_, _, _, _, _, _, _, _, _, _⟩ := qc5f BK101.out; obtain ⟨_, _, _, _, _, _, _, _, _, _⟩ := qc5f BK102.out)); go_ret; exact ⟨qE, qB⟩
    rw [if_neg c4] at H; have c4b0 : (a0_1 == a1_1) = false := beq_eq_false_iff_ne.mpr c4; have c4b1 : (a0_1 != a1_1) = true := bne_iff_ne.mpr c4; obtain rfl := zKq H; go_enter Try.func116, Try.ntmps116; go_wp2_with (first | ((with_reducible refine gate_dst (N := 2) rfl ?_); refine box_event qr (N := 2) qr (cs := #[.int .i64 a0_0, .int .i64 a0_1, .int .i64 a0_2, .int .i64 a0_3, .slice A0_4 l0_4.length c0_4]) (t := 71) qg ?_; intro gb101 hg w23 hbox hb; have n0_ := zA (zV qB hb); have n1_ := zA (hbox); have n2_ := zA ((qS : w.heap.size ≤ gb101)); have n3_ := zA ((qS : w.heap.size ≤ gb101)); clear HB; have HB := n0_; have BK101 := n1_; have GW101 := n2_; have GE101 := n3_; clear n0_ n1_ n2_ n3_ hb hbox hg) | ((with_reducible refine gate_dst (N := 3) rfl ?_); refine box_event qr (N := 3) qr (cs := #[.int .i64 a1_0, .int .i64 a1_1, .int .i64 a1_2, .int .i64 a1_3, .slice A1_4 l1_4.length c1_4]) (t := 71) qg ?_; intro gb102 hg w24 hbox hb; have n0_ := zA (qX BK101.out hb); have n1_ := zA (zV qB hb); have n2_ := zA (hbox); have n3_ := zA ((qS : w.heap.size ≤ gb102)); have n4_ := zA ((qS : w.heap.size ≤ gb102)); have n5_ := zA ((by rw [hg]; exact zLq (qL BK101.out) : gb101 ≠ gb102)); have n6_ := zA ((by rw [hg]; exact zMq (qL BK101.out) : gb102 ≠ gb101)); clear BK101 HB; have BK101 := n0_; have HB := n1_; have BK102 := n2_; have GW102 := n3_; have GE102 := n4_; have NB101_102 := n5_; have NB102_101 := n6_; clear n0_ n1_ n2_ n3_ n4_ n5_ n6_ hb hbox hg; have hnb25 := NB101_102.out; have hnc25 := NB102_101.out; obtain ⟨_, _, _, _, _, _, _, _, _, _⟩ := qc5f BK101.out; obtain ⟨_, _, _, _, _, _, _, _, _, _⟩ := qc5f BK102.out)); go_ret; exact ⟨qE, qB⟩
  rw [if_neg c3] at H
  have c3b0 : (a0_0 == a1_0) = false := beq_eq_false_iff_ne.mpr c3
  have c3b1 : (a0_0 != a1_0) = true := bne_iff_ne.mpr c3
  obtain rfl := zKq H
  go_enter Try.func116, Try.ntmps116
  go_wp2_with (first | ((with_reducible refine gate_dst (N := 2) rfl ?_); refine box_event qr (N := 2) qr (cs := #[.int .i64 a0_0, .int .i64 a0_1, .int .i64 a0_2, .int .i64 a0_3, .slice A0_4 l0_4.length c0_4]) (t := 71) qg ?_; intro gb101 hg w28 hbox hb; have n0_ := zA (zV qB hb); have n1_ := zA (hbox); have n2_ := zA ((qS : w.heap.size ≤ gb101)); have n3_ := zA ((qS : w.heap.size ≤ gb101)); clear HB; have HB := n0_; have BK101 := n1_; have GW101 := n2_; have GE101 := n3_; clear n0_ n1_ n2_ n3_ hb hbox hg) | ((with_reducible refine gate_dst (N := 3) rfl ?_); refine box_event qr (N := 3) qr (cs := #[.int .i64 a1_0, .int .i64 a1_1, .int .i64 a1_2, .int .i64 a1_3, .slice A1_4 l1_4.length c1_4]) (t := 71) qg ?_; intro gb102 hg w29 hbox hb; have n0_ := zA (qX BK101.out hb); have n1_ := zA (zV qB hb); have n2_ := zA (hbox); have n3_ := zA ((qS : w.heap.size ≤ gb102)); have n4_ := zA ((qS : w.heap.size ≤ gb102)); have n5_ := zA ((by rw [hg]; exact zLq (qL BK101.out) : gb101 ≠ gb102)); have n6_ := zA ((by rw [hg]; exact zMq (qL BK101.out) : gb102 ≠ gb101)); clear BK101 HB; have BK101 := n0_; have HB := n1_; have BK102 := n2_; have GW102 := n3_; have GE102 := n4_; have NB101_102 := n5_; have NB102_101 := n6_; clear n0_ n1_ n2_ n3_ n4_ n5_ n6_ hb hbox hg; have hnb30 := NB101_102.out; have hnc30 := NB102_101.out; obtain ⟨_, _, _, _, _, _, _, _, _, _⟩ := qc5f BK101.out; obtain ⟨_, _, _, _, _, _, _, _, _, _⟩ := qc5f BK102.out))
  go_ret
  exact ⟨qE, qB⟩
def backhaulref21_SameLines.l0 : Nat → List (S71) → List (S71) → Int → Option (Bool)
  | 0, _, _, _ => none
  | k + 1, x0, x1, x5 => if x5 < (x0.length : Int) then (if 0 ≤ x5 then (if x5 < (x1.length : Int) then ((backhaulref21_SameLine.f k ((rd_T71 x0 x5).f0) ((rd_T71 x0 x5).f1) ((rd_T71 x0 x5).f2) ((rd_T71 x0 x5).f3) ((rd_T71 x0 x5).f4) ((rd_T71 x1 x5).f0) ((rd_T71 x1 x5).f1) ((rd_T71 x1 x5).f2) ((rd_T71 x1 x5).f3) ((rd_T71 x1 x5).f4)).bind fun t103 => (if t103 = true then (backhaulref21_SameLines.l0 k x0 x1 (wrap64 (x5 + 1))) else (some false))) else (none)) else (none)) else (some true)
def backhaulref21_SameLines.f (k : Nat) (l0 : List (S71)) (l1 : List (S71)) : Option (Bool) := if (l0.length : Int) = (l1.length : Int) then (backhaulref21_SameLines.l0 k l0 l1 0) else (some false)
theorem backhaulref21_SameLines.mono_l : ∀ k, (∀ y0 y1 y2, LeO (backhaulref21_SameLines.l0 k y0 y1 y2) (backhaulref21_SameLines.l0 (k + 1) y0 y1 y2))
  | 0 => fun _ _ _ r h => by simp [backhaulref21_SameLines.l0] at h
  | k + 1 => by
    have ih0 := backhaulref21_SameLines.mono_l k
    intro y0 y1 y2
    unfold backhaulref21_SameLines.l0
    repeat' (with_reducible first | exact ih0 _ _ _ | exact backhaulref21_SameLine.mono _ _ _ _ _ _ _ _ _ _ _ | exact LeO.refl _ | exact LeO.none _ | refine LeO.ite ?_ ?_ | refine LeO.bind ?_ (fun _ => ?_))
theorem backhaulref21_SameLines.mono : ∀ a0 a1 k, LeO (backhaulref21_SameLines.f k a0 a1) (backhaulref21_SameLines.f (k + 1) a0 a1) := by
  intro a0 a1 k
  have ih0 := backhaulref21_SameLines.mono_l k
  unfold backhaulref21_SameLines.f
  repeat' (with_reducible first | exact ih0 _ _ _ | exact backhaulref21_SameLine.mono _ _ _ _ _ _ _ _ _ _ _ | exact LeO.refl _ | exact LeO.none _ | refine LeO.ite ?_ ?_ | refine LeO.bind ?_ (fun _ => ?_))
def backhaulref21_SameLines.T6 : Bool × List (List Nat × List Nat) := (true, [([], []), ([], []), ([0, 1], [0, 1]), ([2], [2]), ([], []), ([], []), ([4, 5], [4, 5]), ([6], [6]), ([3, 7], [3, 7]), ([8], [8])])
def backhaulref21_SameLines.B6 : List Nat := [0, 0, 3, 7, 0, 0, 48, 112, 255, 511]
theorem backhaulref21_SameLines.tab6 : rtab .any (opsOf Try.f64 6) = backhaulref21_SameLines.T6 := by kernel_rfl
theorem backhaulref21_SameLines.bits6 : waitsOk backhaulref21_SameLines.T6.2 backhaulref21_SameLines.B6 = true := by kernel_rfl
set_option maxHeartbeats 8000000 in
set_option maxRecDepth 100000 in
theorem backhaulref21_SameLines.calls (k : Nat) (A0 : Option Addr) (c0 : Nat) (l0 : List (S71)) (A1 : Option Addr) (c1 : Nat) (l1 : List (S71)) (r : Bool) (w : World) (hr0 : Kd.C k71 w A0 l0.length l0) (hc0 : l0.length ≤ c0) (hr1 : Kd.C k71 w A1 l1.length l1) (hc1 : l1.length ≤ c1) (h : backhaulref21_SameLines.f k l0 l1 = some r) :
    Calls Try.prog 64 #[.slice A0 l0.length c0, .slice A1 l1.length c1] w fun e w' => e = .returned (.bool r) ∧ Below w.heap.size w w' := by
  have hu71 := Try.underlying71
  have HR0 := zA hr0
  have HC0 := zA hc0
  clear hr0 hc0
  have HR1 := zA hr1
  have HC1 := zA hc1
  clear hr1 hc1
  have HB := zA (Below.refl w.heap.size w)
  have H : (if (l0.length : Int) = (l1.length : Int) then (backhaulref21_SameLines.l0 k l0 l1 0) else (some false)) = some r := h
  clear h
  by_cases c3 : (l0.length : Int) = (l1.length : Int)
  · rw [if_pos c3] at H
    have c3b0 : ((l0.length : Int) == (l1.length : Int)) = true := beq_iff_eq.mpr c3; have c3b1 : ((l0.length : Int) != (l1.length : Int)) = false := bne_eq_false_iff_eq.mpr c3; have c3b2 : (l0.length == l1.length) = true := by first | simpa using c3 | (simp at c3 ⊢; omega)
    clear c3; have H' := zA H; clear H; go_enter Try.func64, Try.ntmps64; go_wp2; go_loopg [5] k (fun kq v5 w' => ∃ (x5_1 : Int), v5 = .int .i64 x5_1 ∧ Aside0 (backhaulref21_SameLines.l0 kq l0 l1 x5_1 = some r) ∧ Aside0 (kq ≤ k) ∧ Aside0 (Below w.heap.size w w'))
    case atStart => exact ⟨(0), (by first | rfl | (simp; done) | (simp [*]; done)), H', ⟨Nat.le_refl _⟩, ⟨qB⟩⟩
    case round =>
      clear H'; try clear c1
      try clear p2
      try clear c3
      try clear c3b0
      try clear c3b1
      try clear c3b2
      obtain ⟨x5_1, rfl, HA, HK1, HB⟩ := hrel; cases gk with
      | zero => exact absurd HA.out (by simp [backhaulref21_SameLines.l0])
      | succ k1 =>
        have H := HA.out; clear HA; simp only [backhaulref21_SameLines.l0] at H; by_cases c4 : x5_1 < (l0.length : Int)
        · rw [if_pos c4] at H
          have c4b0 : decide (x5_1 < (l0.length : Int)) = true := zFq c4; clear c4; by_cases c5 : 0 ≤ x5_1
          · rw [if_pos c5] at H
            have c5b0 : decide (0 ≤ x5_1) = true := zFq c5; clear c5; by_cases c6 : x5_1 < (l1.length : Int)
            · rw [if_pos c6] at H
              have c6b0 : decide (x5_1 < (l1.length : Int)) = true := zFq c6; clear c6; replace H := Option.bind_eq_some_iff.mp H; obtain ⟨t103, A70, H⟩ := H; try dsimp only at H
              have A7 := zA A70; clear A70; by_cases c8 : t103 = true
              · subst c8
                have H1 : (backhaulref21_SameLines.l0 k1 l0 l1 (wrap64 (x5_1 + 1))) = some r := by first | (rw [if_pos rfl] at H; exact H) | rfl
                clear H; have H := H1; clear H1; have H' := zA H; clear H; try go_wp2
                have n0_ := zA (zC HB.out); clear HB; have HB := n0_; clear n0_; have p101 : 0 ≤ (x5_1 : Int) := of_decide_eq_true qA; have q101 : x5_1 < (l0.length : Int) := of_decide_eq_true qA; obtain ⟨ad101, A101_4, c101_4, e101, hx101_0, hx101_1, hx101_2, hx101_3, hx101_4, hl101_4, hi101_4⟩ := at_T71 HR0.out x5_1 p101 q101; have hw101_4 := hx101_4; have hw101_3 := hx101_3; have hw101_2 := hx101_2; have hw101_1 := hx101_1; have hw101_0 := hx101_0; cases e101
                replace hx101_0 := (HB.out.cell (zCq w _ hx101_0)).trans hx101_0; replace hx101_1 := (HB.out.cell (zCq w _ hx101_1)).trans hx101_1; replace hx101_2 := (HB.out.cell (zCq w _ hx101_2)).trans hx101_2; replace hx101_3 := (HB.out.cell (zCq w _ hx101_3)).trans hx101_3; replace hx101_4 := (HB.out.cell (zCq w _ hx101_4)).trans hx101_4; have HR101_4 := zA hi101_4; have HC101_4 := zA hl101_4; clear hi101_4 hl101_4; replace p101 := eq_true p101; replace q101 := eq_true q101; have p102 : 0 ≤ (x5_1 : Int) := of_decide_eq_true qA; have q102 : x5_1 < (l1.length : Int) := of_decide_eq_true qA; obtain ⟨ad102, A102_4, c102_4, e102, hx102_0, hx102_1, hx102_2, hx102_3, hx102_4, hl102_4, hi102_4⟩ := at_T71 HR1.out x5_1 p102 q102; have hw102_4 := hx102_4; have hw102_3 := hx102_3; have hw102_2 := hx102_2; have hw102_1 := hx102_1; have hw102_0 := hx102_0; cases e102
                replace hx102_0 := (HB.out.cell (zCq w _ hx102_0)).trans hx102_0; replace hx102_1 := (HB.out.cell (zCq w _ hx102_1)).trans hx102_1; replace hx102_2 := (HB.out.cell (zCq w _ hx102_2)).trans hx102_2; replace hx102_3 := (HB.out.cell (zCq w _ hx102_3)).trans hx102_3; replace hx102_4 := (HB.out.cell (zCq w _ hx102_4)).trans hx102_4; have HR102_4 := zA hi102_4; have HC102_4 := zA hl102_4; clear hi102_4 hl102_4; replace p102 := eq_true p102; replace q102 := eq_true q102; refine start_ (n := 10) (S := fun w' => w'.cell? (ad101.add ((x5_1).toNat * 5)) = some (.int .i64 ((rd_T71 l0 x5_1).f0)) ∧ w'.cell? ⟨(ad101.add ((x5_1).toNat * 5)).block, (ad101.add ((x5_1).toNat * 5)).off + 1, none⟩ = some (.int .i64 ((rd_T71 l0 x5_1).f1)) ∧ w'.cell? ⟨(ad101.add ((x5_1).toNat * 5)).block, (ad101.add ((x5_1).toNat * 5)).off + 2, none⟩ = some (.int .i64 ((rd_T71 l0 x5_1).f2)) ∧ w'.cell? ⟨(ad101.add ((x5_1).toNat * 5)).block, (ad101.add ((x5_1).toNat * 5)).off + 3, none⟩ = some (.int .i64 ((rd_T71 l0 x5_1).f3)) ∧ w'.cell? ⟨(ad101.add ((x5_1).toNat * 5)).block, (ad101.add ((x5_1).toNat * 5)).off + 4, none⟩ = some (.slice A101_4 ((rd_T71 l0 x5_1).f4).length c101_4) ∧ w'.cell? (ad102.add ((x5_1).toNat * 5)) = some (.int .i64 ((rd_T71 l1 x5_1).f0)) ∧ w'.cell? ⟨(ad102.add ((x5_1).toNat * 5)).block, (ad102.add ((x5_1).toNat * 5)).off + 1, none⟩ = some (.int .i64 ((rd_T71 l1 x5_1).f1)) ∧ w'.cell? ⟨(ad102.add ((x5_1).toNat * 5)).block, (ad102.add ((x5_1).toNat * 5)).off + 2, none⟩ = some (.int .i64 ((rd_T71 l1 x5_1).f2)) ∧ w'.cell? ⟨(ad102.add ((x5_1).toNat * 5)).block, (ad102.add ((x5_1).toNat * 5)).off + 3, none⟩ = some (.int .i64 ((rd_T71 l1 x5_1).f3)) ∧ w'.cell? ⟨(ad102.add ((x5_1).toNat * 5)).block, (ad102.add ((x5_1).toNat * 5)).off + 4, none⟩ = some (.slice A102_4 ((rd_T71 l1 x5_1).f4).length c102_4)) (ds := []) #[o0, o0, o0, o0, o0, o0, o0, o0, o0, o0] (by kernel_rfl) rfl rfl ⟨((HB.out.cell (zCq w _ hw101_0)).trans hw101_0), ((HB.out.cell (zCq w _ hw101_1)).trans hw101_1), ((HB.out.cell (zCq w _ hw101_2)).trans hw101_2), ((HB.out.cell (zCq w _ hw101_3)).trans hw101_3), ((HB.out.cell (zCq w _ hw101_4)).trans hw101_4), ((HB.out.cell (zCq w _ hw102_0)).trans hw102_0), ((HB.out.cell (zCq w _ hw102_1)).trans hw102_1), ((HB.out.cell (zCq w _ hw102_2)).trans hw102_2), ((HB.out.cell (zCq w _ hw102_3)).trans hw102_3), ((HB.out.cell (zCq w _ hw102_4)).trans hw102_4)⟩ (fun hHeld => ?_); refine with_tabW backhaulref21_SameLines.tab6 backhaulref21_SameLines.bits6 (fun HT_ HW_ => ?_); generalize wr.drew = w9 at HB HR101_4 HR102_4 hx101_0 hx101_1 hx101_2 hx101_3 hx101_4 hx102_0 hx102_1 hx102_2 hx102_3 hx102_4 hHeld ⊢; refine pure_ (i := 0) (N := some 17) #[o1, o0, o0, o0, o0, o0, o0, o0, o0, o0] rfl rfl (any_of HT_.out (by kernel_rfl)) (fun _ _ _ h => h) (Or.inl ⟨by rfl, qy⟩) qz ?_
                refine pure_ (i := 1) (N := some 18) #[o1, o1, o0, o0, o0, o0, o0, o0, o0, o0] rfl rfl (any_of HT_.out (by kernel_rfl)) (fun _ _ _ h => h) (Or.inl ⟨by rfl, qy⟩) qz ?_; refine pure_ (i := 2) (N := some 19) #[o1, o1, o1, o0, o0, o0, o0, o0, o0, o0] rfl rfl (any_of HT_.out (by kernel_rfl)) (fun _ _ _ h => h) (Or.inl ⟨by rfl, qy⟩) qz ?_; refine pure_ (i := 4) (N := some 21) #[o1, o1, o1, o0, o1, o0, o0, o0, o0, o0] rfl rfl (any_of HT_.out (by kernel_rfl)) (fun _ _ _ h => h) (Or.inl ⟨by rfl, qy⟩) qz ?_; refine pure_ (i := 5) (N := some 22) #[o1, o1, o1, o0, o1, o1, o0, o0, o0, o0] rfl rfl (any_of HT_.out (by kernel_rfl)) (fun _ _ _ h => h) (Or.inl ⟨by rfl, qy⟩) qz ?_; refine pure_ (i := 6) (N := some 23) #[o1, o1, o1, o0, o1, o1, o1, o0, o0, o0] rfl rfl (any_of HT_.out (by kernel_rfl)) (fun _ _ _ h => h) (Or.inl ⟨by rfl, qy⟩) qz ?_; refine take_ (i := 3) (N := some 20) (v := ?_) (a' := ?_) #[o1, o1, o1, o1, o1, o1, o1, o0, o0, o0] rfl rfl (take_ofW HT_.out HW_.out (by kernel_rfl)) (fun _ _ _ h => h) (Or.inl ⟨by rfl, ?_⟩) hHeld ?_ ?_; rotate_left
                · rintro w' ⟨s0, s1, s2, s3, s4, s5, s6, s7, s8, s9⟩
                  go_simp; with_reducible rfl
                rotate_left
                · simp only [Act.put, zH, zI, zJ, i64_w, i32_w]
                  rfl
                refine take_ (i := 7) (N := some 24) (v := ?_) (a' := ?_) #[o1, o1, o1, o1, o1, o1, o1, o1, o0, o0] rfl rfl (take_ofW HT_.out HW_.out (by kernel_rfl)) (fun _ _ _ h => h) (Or.inl ⟨by rfl, ?_⟩) hHeld ?_ ?_; rotate_left
                · rintro w' ⟨s0, s1, s2, s3, s4, s5, s6, s7, s8, s9⟩
                  go_simp; with_reducible rfl
                rotate_left
                · simp only [Act.put, zH, zI, zJ, i64_w, i32_w]
                  rfl
                refine one_ (i := 8) (N := some 25) #[o1, o1, o1, o1, o1, o1, o1, o1, o1, o0] rfl rfl (one_of HT_.out (by kernel_rfl)) (by decide) (fun K hK => ?_); refine goes_ Try.func116 (by kernel_rfl) rfl #[.agg #[.int .i64 ((rd_T71 l0 x5_1).f0), .int .i64 ((rd_T71 l0 x5_1).f1), .int .i64 ((rd_T71 l0 x5_1).f2), .int .i64 ((rd_T71 l0 x5_1).f3), .slice A101_4 ((rd_T71 l0 x5_1).f4).length c101_4], .agg #[.int .i64 ((rd_T71 l1 x5_1).f0), .int .i64 ((rd_T71 l1 x5_1).f1), .int .i64 ((rd_T71 l1 x5_1).f2), .int .i64 ((rd_T71 l1 x5_1).f3), .slice A102_4 ((rd_T71 l1 x5_1).f4).length c102_4]] (by rfl) rfl rfl qG ?_; with_reducible refine (backhaulref21_SameLine.calls k1 ((rd_T71 l0 x5_1).f0) ((rd_T71 l0 x5_1).f1) ((rd_T71 l0 x5_1).f2) ((rd_T71 l0 x5_1).f3) _ _ ((rd_T71 l0 x5_1).f4) ((rd_T71 l1 x5_1).f0) ((rd_T71 l1 x5_1).f1) ((rd_T71 l1 x5_1).f2) ((rd_T71 l1 x5_1).f3) _ _ ((rd_T71 l1 x5_1).f4) true _ ?side1 ?side2 ?side3 ?side4 A7.out).mono ?_
                (case side1 => exact qC (Kd.C_below HR101_4.out HB.out))
                (case side2 => exact HC101_4.out)
                (case side3 => exact qC (Kd.C_below HR102_4.out HB.out))
                (case side4 => exact HC102_4.out)
                rintro e w10 ⟨rfl, hb⟩; refine ⟨_, rfl, ?_⟩; have n0_ := zA (zV qB hb); clear HB; have HB := n0_; clear n0_; (try clear hb); (try clear hb2); (try clear hk); (try clear hi); refine hK.out _ _ ⟨((HB.out.cell (zCq w _ hw101_0)).trans hw101_0), ((HB.out.cell (zCq w _ hw101_1)).trans hw101_1), ((HB.out.cell (zCq w _ hw101_2)).trans hw101_2), ((HB.out.cell (zCq w _ hw101_3)).trans hw101_3), ((HB.out.cell (zCq w _ hw101_4)).trans hw101_4), ((HB.out.cell (zCq w _ hw102_0)).trans hw102_0), ((HB.out.cell (zCq w _ hw102_1)).trans hw102_1), ((HB.out.cell (zCq w _ hw102_2)).trans hw102_2), ((HB.out.cell (zCq w _ hw102_3)).trans hw102_3), ((HB.out.cell (zCq w _ hw102_4)).trans hw102_4)⟩ (fun hHeld => ?_); clear hK K; refine norm_ (a' := ?_) ?_ ?_; rotate_left
                · show Act.put _ (some 25) _ = _
                  simp only [Act.put, zH, zI, zJ, i64_w, i32_w]; rfl
                refine pure_ (i := 9) (N := some 26) #[o1, o1, o1, o1, o1, o1, o1, o1, o1, o1] rfl rfl (any_of HT_.out (by kernel_rfl)) (fun _ _ _ h => h) (Or.inl ⟨by rfl, qy⟩) qz ?_; refine done_ (done_of HT_.out (by kernel_rfl)) ?_; try go_wp2
                go_roundg k1
                case measure => have := HK1.out; omega
                case rel => exact ⟨(wrap64 (x5_1 + 1)), (by first | rfl | (simp; done) | (simp [*]; done)), H', ⟨by have := HK1.out; omega⟩, ⟨qB⟩⟩
              replace c8 := Bool.eq_false_iff.mpr c8; subst c8; have H1 : (some false) = some r := by first | (rw [if_neg (show ¬ (false = true) by decide)] at H; exact H) | rfl
              clear H; have H := H1; clear H1; obtain rfl := zKq H; try go_wp2
              have n0_ := zA (zC HB.out); clear HB; have HB := n0_; clear n0_; have p101 : 0 ≤ (x5_1 : Int) := of_decide_eq_true qA; have q101 : x5_1 < (l0.length : Int) := of_decide_eq_true qA; obtain ⟨ad101, A101_4, c101_4, e101, hx101_0, hx101_1, hx101_2, hx101_3, hx101_4, hl101_4, hi101_4⟩ := at_T71 HR0.out x5_1 p101 q101; have hw101_4 := hx101_4; have hw101_3 := hx101_3; have hw101_2 := hx101_2; have hw101_1 := hx101_1; have hw101_0 := hx101_0; cases e101
              replace hx101_0 := (HB.out.cell (zCq w _ hx101_0)).trans hx101_0; replace hx101_1 := (HB.out.cell (zCq w _ hx101_1)).trans hx101_1; replace hx101_2 := (HB.out.cell (zCq w _ hx101_2)).trans hx101_2; replace hx101_3 := (HB.out.cell (zCq w _ hx101_3)).trans hx101_3; replace hx101_4 := (HB.out.cell (zCq w _ hx101_4)).trans hx101_4; have HR101_4 := zA hi101_4; have HC101_4 := zA hl101_4; clear hi101_4 hl101_4; replace p101 := eq_true p101; replace q101 := eq_true q101; have p102 : 0 ≤ (x5_1 : Int) := of_decide_eq_true qA; have q102 : x5_1 < (l1.length : Int) := of_decide_eq_true qA; obtain ⟨ad102, A102_4, c102_4, e102, hx102_0, hx102_1, hx102_2, hx102_3, hx102_4, hl102_4, hi102_4⟩ := at_T71 HR1.out x5_1 p102 q102; have hw102_4 := hx102_4; have hw102_3 := hx102_3; have hw102_2 := hx102_2; have hw102_1 := hx102_1; have hw102_0 := hx102_0; cases e102
              replace hx102_0 := (HB.out.cell (zCq w _ hx102_0)).trans hx102_0; replace hx102_1 := (HB.out.cell (zCq w _ hx102_1)).trans hx102_1; replace hx102_2 := (HB.out.cell (zCq w _ hx102_2)).trans hx102_2; replace hx102_3 := (HB.out.cell (zCq w _ hx102_3)).trans hx102_3; replace hx102_4 := (HB.out.cell (zCq w _ hx102_4)).trans hx102_4; have HR102_4 := zA hi102_4; have HC102_4 := zA hl102_4; clear hi102_4 hl102_4; replace p102 := eq_true p102; replace q102 := eq_true q102; refine start_ (n := 10) (S := fun w' => w'.cell? (ad101.add ((x5_1).toNat * 5)) = some (.int .i64 ((rd_T71 l0 x5_1).f0)) ∧ w'.cell? ⟨(ad101.add ((x5_1).toNat * 5)).block, (ad101.add ((x5_1).toNat * 5)).off + 1, none⟩ = some (.int .i64 ((rd_T71 l0 x5_1).f1)) ∧ w'.cell? ⟨(ad101.add ((x5_1).toNat * 5)).block, (ad101.add ((x5_1).toNat * 5)).off + 2, none⟩ = some (.int .i64 ((rd_T71 l0 x5_1).f2)) ∧ w'.cell? ⟨(ad101.add ((x5_1).toNat * 5)).block, (ad101.add ((x5_1).toNat * 5)).off + 3, none⟩ = some (.int .i64 ((rd_T71 l0 x5_1).f3)) ∧ w'.cell? ⟨(ad101.add ((x5_1).toNat * 5)).block, (ad101.add ((x5_1).toNat * 5)).off + 4, none⟩ = some (.slice A101_4 ((rd_T71 l0 x5_1).f4).length c101_4) ∧ w'.cell? (ad102.add ((x5_1).toNat * 5)) = some (.int .i64 ((rd_T71 l1 x5_1).f0)) ∧ w'.cell? ⟨(ad102.add ((x5_1).toNat * 5)).block, (ad102.add ((x5_1).toNat * 5)).off + 1, none⟩ = some (.int .i64 ((rd_T71 l1 x5_1).f1)) ∧ w'.cell? ⟨(ad102.add ((x5_1).toNat * 5)).block, (ad102.add ((x5_1).toNat * 5)).off + 2, none⟩ = some (.int .i64 ((rd_T71 l1 x5_1).f2)) ∧ w'.cell? ⟨(ad102.add ((x5_1).toNat * 5)).block, (ad102.add ((x5_1).toNat * 5)).off + 3, none⟩ = some (.int .i64 ((rd_T71 l1 x5_1).f3)) ∧ w'.cell? ⟨(ad102.add ((x5_1).toNat * 5)).block, (ad102.add ((x5_1).toNat * 5)).off + 4, none⟩ = some (.slice A102_4 ((rd_T71 l1 x5_1).f4).length c102_4)) (ds := []) #[o0, o0, o0, o0, o0, o0, o0, o0, o0, o0] (by kernel_rfl) rfl rfl ⟨((HB.out.cell (zCq w _ hw101_0)).trans hw101_0), ((HB.out.cell (zCq w _ hw101_1)).trans hw101_1), ((HB.out.cell (zCq w _ hw101_2)).trans hw101_2), ((HB.out.cell (zCq w _ hw101_3)).trans hw101_3), ((HB.out.cell (zCq w _ hw101_4)).trans hw101_4), ((HB.out.cell (zCq w _ hw102_0)).trans hw102_0), ((HB.out.cell (zCq w _ hw102_1)).trans hw102_1), ((HB.out.cell (zCq w _ hw102_2)).trans hw102_2), ((HB.out.cell (zCq w _ hw102_3)).trans hw102_3), ((HB.out.cell (zCq w _ hw102_4)).trans hw102_4)⟩ (fun hHeld => ?_); refine with_tabW backhaulref21_SameLines.tab6 backhaulref21_SameLines.bits6 (fun HT_ HW_ => ?_); generalize wr.drew = w11 at HB HR101_4 HR102_4 hx101_0 hx101_1 hx101_2 hx101_3 hx101_4 hx102_0 hx102_1 hx102_2 hx102_3 hx102_4 hHeld ⊢; refine pure_ (i := 0) (N := some 17) #[o1, o0, o0, o0, o0, o0, o0, o0, o0, o0] rfl rfl (any_of HT_.out (by kernel_rfl)) (fun _ _ _ h => h) (Or.inl ⟨by rfl, qy⟩) qz ?_
              refine pure_ (i := 1) (N := some 18) #[o1, o1, o0, o0, o0, o0, o0, o0, o0, o0] rfl rfl (any_of HT_.out (by kernel_rfl)) (fun _ _ _ h => h) (Or.inl ⟨by rfl, qy⟩) qz ?_; refine pure_ (i := 2) (N := some 19) #[o1, o1, o1, o0, o0, o0, o0, o0, o0, o0] rfl rfl (any_of HT_.out (by kernel_rfl)) (fun _ _ _ h => h) (Or.inl ⟨by rfl, qy⟩) qz ?_; refine pure_ (i := 4) (N := some 21) #[o1, o1, o1, o0, o1, o0, o0, o0, o0, o0] rfl rfl (any_of HT_.out (by kernel_rfl)) (fun _ _ _ h => h) (Or.inl ⟨by rfl, qy⟩) qz ?_; refine pure_ (i := 5) (N := some 22) #[o1, o1, o1, o0, o1, o1, o0, o0, o0, o0] rfl rfl (any_of HT_.out (by kernel_rfl)) (fun _ _ _ h => h) (Or.inl ⟨by rfl, qy⟩) qz ?_; refine pure_ (i := 6) (N := some 23) #[o1, o1, o1, o0, o1, o1, o1, o0, o0, o0] rfl rfl (any_of HT_.out (by kernel_rfl)) (fun _ _ _ h => h) (Or.inl ⟨by rfl, qy⟩) qz ?_; refine take_ (i := 3) (N := some 20) (v := ?_) (a' := ?_) #[o1, o1, o1, o1, o1, o1, o1, o0, o0, o0] rfl rfl (take_ofW HT_.out HW_.out (by kernel_rfl)) (fun _ _ _ h => h) (Or.inl ⟨by rfl, ?_⟩) hHeld ?_ ?_; rotate_left
              · rintro w' ⟨s0, s1, s2, s3, s4, s5, s6, s7, s8, s9⟩
                go_simp; with_reducible rfl
              rotate_left
              · simp only [Act.put, zH, zI, zJ, i64_w, i32_w]
                rfl
              refine take_ (i := 7) (N := some 24) (v := ?_) (a' := ?_) #[o1, o1, o1, o1, o1, o1, o1, o1, o0, o0] rfl rfl (take_ofW HT_.out HW_.out (by kernel_rfl)) (fun _ _ _ h => h) (Or.inl ⟨by rfl, ?_⟩) hHeld ?_ ?_; rotate_left
              · rintro w' ⟨s0, s1, s2, s3, s4, s5, s6, s7, s8, s9⟩
                go_simp; with_reducible rfl
              rotate_left
              · simp only [Act.put, zH, zI, zJ, i64_w, i32_w]
                rfl
              refine one_ (i := 8) (N := some 25) #[o1, o1, o1, o1, o1, o1, o1, o1, o1, o0] rfl rfl (one_of HT_.out (by kernel_rfl)) (by decide) (fun K hK => ?_); refine goes_ Try.func116 (by kernel_rfl) rfl #[.agg #[.int .i64 ((rd_T71 l0 x5_1).f0), .int .i64 ((rd_T71 l0 x5_1).f1), .int .i64 ((rd_T71 l0 x5_1).f2), .int .i64 ((rd_T71 l0 x5_1).f3), .slice A101_4 ((rd_T71 l0 x5_1).f4).length c101_4], .agg #[.int .i64 ((rd_T71 l1 x5_1).f0), .int .i64 ((rd_T71 l1 x5_1).f1), .int .i64 ((rd_T71 l1 x5_1).f2), .int .i64 ((rd_T71 l1 x5_1).f3), .slice A102_4 ((rd_T71 l1 x5_1).f4).length c102_4]] (by rfl) rfl rfl qG ?_; with_reducible refine (backhaulref21_SameLine.calls k1 ((rd_T71 l0 x5_1).f0) ((rd_T71 l0 x5_1).f1) ((rd_T71 l0 x5_1).f2) ((rd_T71 l0 x5_1).f3) _ _ ((rd_T71 l0 x5_1).f4) ((rd_T71 l1 x5_1).f0) ((rd_T71 l1 x5_1).f1) ((rd_T71 l1 x5_1).f2) ((rd_T71 l1 x5_1).f3) _ _ ((rd_T71 l1 x5_1).f4) false _ ?side1 ?side2 ?side3 ?side4 A7.out).mono ?_
              (case side1 => exact qC (Kd.C_below HR101_4.out HB.out))
              (case side2 => exact HC101_4.out)
              (case side3 => exact qC (Kd.C_below HR102_4.out HB.out))
              (case side4 => exact HC102_4.out)
              rintro e w12 ⟨rfl, hb⟩; refine ⟨_, rfl, ?_⟩; have n0_ := zA (zV qB hb); clear HB; have HB := n0_; clear n0_; (try clear hb); (try clear hb2); (try clear hk); (try clear hi); refine hK.out _ _ ⟨((HB.out.cell (zCq w _ hw101_0)).trans hw101_0), ((HB.out.cell (zCq w _ hw101_1)).trans hw101_1), ((HB.out.cell (zCq w _ hw101_2)).trans hw101_2), ((HB.out.cell (zCq w _ hw101_3)).trans hw101_3), ((HB.out.cell (zCq w _ hw101_4)).trans hw101_4), ((HB.out.cell (zCq w _ hw102_0)).trans hw102_0), ((HB.out.cell (zCq w _ hw102_1)).trans hw102_1), ((HB.out.cell (zCq w _ hw102_2)).trans hw102_2), ((HB.out.cell (zCq w _ hw102_3)).trans hw102_3), ((HB.out.cell (zCq w _ hw102_4)).trans hw102_4)⟩ (fun hHeld => ?_); clear hK K; refine norm_ (a' := ?_) ?_ ?_; rotate_left
              · show Act.put _ (some 25) _ = _
                simp only [Act.put, zH, zI, zJ, i64_w, i32_w]; rfl
              refine pure_ (i := 9) (N := some 26) #[o1, o1, o1, o1, o1, o1, o1, o1, o1, o1] rfl rfl (any_of HT_.out (by kernel_rfl)) (fun _ _ _ h => h) (Or.inl ⟨by rfl, qy⟩) qz ?_; refine done_ (done_of HT_.out (by kernel_rfl)) ?_; try go_wp2
              go_ret; exact ⟨qE, qB⟩
            rw [if_neg c6] at H; exact absurd H (by simp)
          rw [if_neg c5] at H; exact absurd H (by simp)
        rw [if_neg c4] at H; have c4b0 : decide (x5_1 < (l0.length : Int)) = false := zGq c4; clear c4; obtain rfl := zKq H; go_wp2; go_ret; exact ⟨qE, qB⟩
  rw [if_neg c3] at H
  have c3b0 : ((l0.length : Int) == (l1.length : Int)) = false := beq_eq_false_iff_ne.mpr c3
  have c3b1 : ((l0.length : Int) != (l1.length : Int)) = true := bne_iff_ne.mpr c3
  have c3b2 : (l0.length == l1.length) = false := by first | simpa using c3 | (simp at c3 ⊢; omega)
  obtain rfl := zKq H
  go_enter Try.func64, Try.ntmps64
  go_wp2
  go_ret
  exact ⟨qE, qB⟩
def backhaulref26_Same.f (k : Nat) (a0_0 : Int) (a0_1 : Int) (l0_2 : List (S71)) (a1_0 : Int) (a1_1 : Int) (l1_2 : List (S71)) : Option (Bool) := if a0_0 = a1_0 then (if a0_1 = a1_1 then ((backhaulref21_SameLines.f k l0_2 l1_2).bind fun t103 => (some t103)) else (some false)) else (some false)
theorem backhaulref26_Same.mono : ∀ a0 a1 a2 a3 a4 a5 k, LeO (backhaulref26_Same.f k a0 a1 a2 a3 a4 a5) (backhaulref26_Same.f (k + 1) a0 a1 a2 a3 a4 a5) := by
  intro a0 a1 a2 a3 a4 a5 k
  unfold backhaulref26_Same.f
  repeat' (with_reducible first | exact backhaulref21_SameLines.mono _ _ _ | exact LeO.refl _ | exact LeO.none _ | refine LeO.ite ?_ ?_ | refine LeO.bind ?_ (fun _ => ?_))
set_option maxHeartbeats 8000000 in
set_option maxRecDepth 100000 in
theorem backhaulref26_Same.calls (k : Nat) (a0_0 : Int) (a0_1 : Int) (A0_2 : Option Addr) (c0_2 : Nat) (l0_2 : List (S71)) (a1_0 : Int) (a1_1 : Int) (A1_2 : Option Addr) (c1_2 : Nat) (l1_2 : List (S71)) (r : Bool) (w : World) (hr0_2 : Kd.C k71 w A0_2 l0_2.length l0_2) (hc0_2 : l0_2.length ≤ c0_2) (hr1_2 : Kd.C k71 w A1_2 l1_2.length l1_2) (hc1_2 : l1_2.length ≤ c1_2) (h : backhaulref26_Same.f k a0_0 a0_1 l0_2 a1_0 a1_1 l1_2 = some r) :
    Calls Try.prog 85 #[.agg #[.int .i64 a0_0, .int .i64 a0_1, .slice A0_2 l0_2.length c0_2], .agg #[.int .i64 a1_0, .int .i64 a1_1, .slice A1_2 l1_2.length c1_2]] w fun e w' => e = .returned (.bool r) ∧ Below w.heap.size w w' := by
  have hu99 := Try.underlying99
  have HR0_2 := zA hr0_2
  have HC0_2 := zA hc0_2
  clear hr0_2 hc0_2
  have HR1_2 := zA hr1_2
  have HC1_2 := zA hc1_2
  clear hr1_2 hc1_2
  have HB := zA (Below.refl w.heap.size w)
  have H : (if a0_0 = a1_0 then (if a0_1 = a1_1 then ((backhaulref21_SameLines.f k l0_2 l1_2).bind fun t103 => (some t103)) else (some false)) else (some false)) = some r := h
  clear h
  by_cases c3 : a0_0 = a1_0
  · rw [if_pos c3] at H
    have c3b0 : (a0_0 == a1_0) = true := beq_iff_eq.mpr c3; have c3b1 : (a0_0 != a1_0) = false := bne_eq_false_iff_eq.mpr c3; clear c3; by_cases c4 : a0_1 = a1_1
    · rw [if_pos c4] at H
      have c4b0 : (a0_1 == a1_1) = true := beq_iff_eq.mpr c4; have c4b1 : (a0_1 != a1_1) = false := bne_eq_false_iff_eq.mpr c4; clear c4; replace H := Option.bind_eq_some_iff.mp H; obtain ⟨t103, A50, H⟩ := H; try dsimp only at H
      have A5 := zA A50; clear A50; obtain rfl := zKq H; go_enter Try.func85, Try.ntmps85; go_wp2_with (first | ((with_reducible refine gate_dst (N := 2) rfl ?_); refine box_event qr (N := 2) qr (cs := #[.int .i64 a0_0, .int .i64 a0_1, .slice A0_2 l0_2.length c0_2]) (t := 99) qg ?_; intro gb101 hg w6 hbox hb; have n0_ := zA (zV qB hb); have n1_ := zA (hbox); have n2_ := zA ((qS : w.heap.size ≤ gb101)); have n3_ := zA ((qS : w.heap.size ≤ gb101)); clear HB; have HB := n0_; have BK101 := n1_; have GW101 := n2_; have GE101 := n3_; clear n0_ n1_ n2_ n3_ hb hbox hg) | ((with_reducible refine gate_dst (N := 3) rfl ?_); refine box_event qr (N := 3) qr (cs := #[.int .i64 a1_0, .int .i64 a1_1, .slice A1_2 l1_2.length c1_2]) (t := 99) qg ?_; intro gb102 hg w7 hbox hb; have n0_ := zA (qX BK101.out hb); have n1_ := zA (zV qB hb); have n2_ := zA (hbox); have n3_ := zA ((qS : w.heap.size ≤ gb102)); have n4_ := zA ((qS : w.heap.size ≤ gb102)); have n5_ := zA ((by rw [hg]; exact zLq (qL BK101.out) : gb101 ≠ gb102)); have n6_ := zA ((by rw [hg]; exact zMq (qL BK101.out) : gb102 ≠ gb101)); clear BK101 HB; have BK101 := n0_; have HB := n1_; have BK102 := n2_; have GW102 := n3_; have GE102 := n4_; have NB101_102 := n5_; have NB102_101 := n6_; clear n0_ n1_ n2_ n3_ n4_ n5_ n6_ hb hbox hg; have hnb8 := NB101_102.out; have hnc8 := NB102_101.out; obtain ⟨_, _, _, _, _, _⟩ := qc3f BK101.out; obtain ⟨_, _, _, _, _, _⟩ := qc3f BK102.out) | (go_at_call 64; (with_reducible refine (backhaulref21_SameLines.calls k _ _ l0_2 _ _ l1_2 t103 _ ?side1 ?side2 ?side3 ?side4 A5.out).mono ?_); (case side1 => exact qC (Kd.C_below HR0_2.out HB.out)); (case side2 => exact HC0_2.out); (case side3 => exact qC (Kd.C_below HR1_2.out HB.out)); (case side4 => exact HC1_2.out); rintro e w11 ⟨rfl, hb⟩; have n0_ := zA (qX BK101.out hb); have n1_ := zA (qX BK102.out hb); have n2_ := zA (zV qB hb); clear BK101 BK102 HB; have BK101 := n0_; have BK102 := n1_; have HB := n2_; clear n0_ n1_ n2_; (try clear hb))); go_ret; exact ⟨qE, qB⟩
    rw [if_neg c4] at H; have c4b0 : (a0_1 == a1_1) = false := beq_eq_false_iff_ne.mpr c4; have c4b1 : (a0_1 != a1_1) = true := bne_iff_ne.mpr c4; obtain rfl := zKq H; go_enter Try.func85, Try.ntmps85; go_wp2_with (first | ((with_reducible refine gate_dst (N := 2) rfl ?_); refine box_event qr (N := 2) qr (cs := #[.int .i64 a0_0, .int .i64 a0_1, .slice A0_2 l0_2.length c0_2]) (t := 99) qg ?_; intro gb101 hg w12 hbox hb; have n0_ := zA (zV qB hb); have n1_ := zA (hbox); have n2_ := zA ((qS : w.heap.size ≤ gb101)); have n3_ := zA ((qS : w.heap.size ≤ gb101)); clear HB; have HB := n0_; have BK101 := n1_; have GW101 := n2_; have GE101 := n3_; clear n0_ n1_ n2_ n3_ hb hbox hg) | ((with_reducible refine gate_dst (N := 3) rfl ?_); refine box_event qr (N := 3) qr (cs := #[.int .i64 a1_0, .int .i64 a1_1, .slice A1_2 l1_2.length c1_2]) (t := 99) qg ?_; intro gb102 hg w13 hbox hb; have n0_ := zA (qX BK101.out hb); have n1_ := zA (zV qB hb); have n2_ := zA (hbox); have n3_ := zA ((qS : w.heap.size ≤ gb102)); have n4_ := zA ((qS : w.heap.size ≤ gb102)); have n5_ := zA ((by rw [hg]; exact zLq (qL BK101.out) : gb101 ≠ gb102)); have n6_ := zA ((by rw [hg]; exact zMq (qL BK101.out) : gb102 ≠ gb101)); clear BK101 HB; have BK101 := n0_; have HB := n1_; have BK102 := n2_; have GW102 := n3_; have GE102 := n4_; have NB101_102 := n5_; have NB102_101 := n6_; clear n0_ n1_ n2_ n3_ n4_ n5_ n6_ hb hbox hg; have hnb14 := NB101_102.out; have hnc14 := NB102_101.out; obtain ⟨_, _, _, _, _, _⟩ := qc3f BK101.out; obtain ⟨_, _, _, _, _, _⟩ := qc3f BK102.out)); go_ret; exact ⟨qE, qB⟩
  rw [if_neg c3] at H
  have c3b0 : (a0_0 == a1_0) = false := beq_eq_false_iff_ne.mpr c3
  have c3b1 : (a0_0 != a1_0) = true := bne_iff_ne.mpr c3
  obtain rfl := zKq H
  go_enter Try.func85, Try.ntmps85
  go_wp2_with (first | ((with_reducible refine gate_dst (N := 2) rfl ?_); refine box_event qr (N := 2) qr (cs := #[.int .i64 a0_0, .int .i64 a0_1, .slice A0_2 l0_2.length c0_2]) (t := 99) qg ?_; intro gb101 hg w17 hbox hb; have n0_ := zA (zV qB hb); have n1_ := zA (hbox); have n2_ := zA ((qS : w.heap.size ≤ gb101)); have n3_ := zA ((qS : w.heap.size ≤ gb101)); clear HB; have HB := n0_; have BK101 := n1_; have GW101 := n2_; have GE101 := n3_; clear n0_ n1_ n2_ n3_ hb hbox hg) | ((with_reducible refine gate_dst (N := 3) rfl ?_); refine box_event qr (N := 3) qr (cs := #[.int .i64 a1_0, .int .i64 a1_1, .slice A1_2 l1_2.length c1_2]) (t := 99) qg ?_; intro gb102 hg w18 hbox hb; have n0_ := zA (qX BK101.out hb); have n1_ := zA (zV qB hb); have n2_ := zA (hbox); have n3_ := zA ((qS : w.heap.size ≤ gb102)); have n4_ := zA ((qS : w.heap.size ≤ gb102)); have n5_ := zA ((by rw [hg]; exact zLq (qL BK101.out) : gb101 ≠ gb102)); have n6_ := zA ((by rw [hg]; exact zMq (qL BK101.out) : gb102 ≠ gb101)); clear BK101 HB; have BK101 := n0_; have HB := n1_; have BK102 := n2_; have GW102 := n3_; have GE102 := n4_; have NB101_102 := n5_; have NB102_101 := n6_; clear n0_ n1_ n2_ n3_ n4_ n5_ n6_ hb hbox hg; have hnb19 := NB101_102.out; have hnc19 := NB102_101.out; obtain ⟨_, _, _, _, _, _⟩ := qc3f BK101.out; obtain ⟨_, _, _, _, _, _⟩ := qc3f BK102.out))
  go_ret
  exact ⟨qE, qB⟩
mutual
def backhaulref26_twice.l0 : Nat → List ByteArray → Int → Option (Bool)
  | 0, _, _ => none
  | k + 1, x0, x3 => if x3 < (x0.length : Int) then (backhaulref26_twice.l1 k x0 x3 0) else (some false)
def backhaulref26_twice.l1 : Nat → List ByteArray → Int → Int → Option (Bool)
  | 0, _, _, _ => none
  | k + 1, x0, x3, x4 => if x4 < x3 then (if 0 ≤ x3 then (if x3 < (x0.length : Int) then (if 0 ≤ x4 then (if x4 < (x0.length : Int) then (if (rdOf ByteArray.empty x0 x3).toList = (rdOf ByteArray.empty x0 x4).toList then (some true) else (backhaulref26_twice.l1 k x0 x3 (wrap64 (x4 + 1)))) else (none)) else (none)) else (none)) else (none)) else (backhaulref26_twice.l0 k x0 (wrap64 (x3 + 1)))
end
def backhaulref26_twice.f (k : Nat) (l0 : List ByteArray) : Option (Bool) := backhaulref26_twice.l0 k l0 0
theorem backhaulref26_twice.mono_l : ∀ k, (∀ y0 y1, LeO (backhaulref26_twice.l0 k y0 y1) (backhaulref26_twice.l0 (k + 1) y0 y1)) ∧ (∀ y0 y1 y2, LeO (backhaulref26_twice.l1 k y0 y1 y2) (backhaulref26_twice.l1 (k + 1) y0 y1 y2))
  | 0 => ⟨fun _ _ r h => by simp [backhaulref26_twice.l0] at h, fun _ _ _ r h => by simp [backhaulref26_twice.l1] at h⟩
  | k + 1 => by
    obtain ⟨ih0, ih1⟩ := backhaulref26_twice.mono_l k
    refine ⟨?_, ?_⟩
    · intro y0 y1
      unfold backhaulref26_twice.l0
      repeat' (with_reducible first | exact ih0 _ _ | exact ih1 _ _ _ | exact LeO.refl _ | exact LeO.none _ | refine LeO.ite ?_ ?_ | refine LeO.bind ?_ (fun _ => ?_))
    intro y0 y1 y2
    unfold backhaulref26_twice.l1
    repeat' (with_reducible first | exact ih0 _ _ | exact ih1 _ _ _ | exact LeO.refl _ | exact LeO.none _ | refine LeO.ite ?_ ?_ | refine LeO.bind ?_ (fun _ => ?_))
theorem backhaulref26_twice.mono : ∀ a0 k, LeO (backhaulref26_twice.f k a0) (backhaulref26_twice.f (k + 1) a0) := by
  intro a0 k
  obtain ⟨ih0, ih1⟩ := backhaulref26_twice.mono_l k
  unfold backhaulref26_twice.f
  repeat' (with_reducible first | exact ih0 _ _ | exact ih1 _ _ _ | exact LeO.refl _ | exact LeO.none _ | refine LeO.ite ?_ ?_ | refine LeO.bind ?_ (fun _ => ?_))
set_option maxHeartbeats 8000000 in
set_option maxRecDepth 100000 in
theorem backhaulref26_twice.calls (k : Nat) (A0 : Option Addr) (c0 : Nat) (l0 : List ByteArray) (r : Bool) (w : World) (hr0 : Kd.C Kd.string w A0 l0.length l0) (hc0 : l0.length ≤ c0) (h : backhaulref26_twice.f k l0 = some r) :
    Calls Try.prog 128 #[.slice A0 l0.length c0] w fun e w' => e = .returned (.bool r) ∧ Drawn0 w w' := by
  have HR0 := zA hr0
  have HC0 := zA hc0
  clear hr0 hc0
  have H : (backhaulref26_twice.l0 k l0 0) = some r := h
  clear h
  have H' := zA H
  clear H
  go_enter Try.func128, Try.ntmps128
  go_wp2
  repeat (go_quiet (fail); try go_wp2)
  go_loopg [3] k (fun kq v3 w' => ∃ (x3_1 : Int), v3 = .int .i64 x3_1 ∧ Aside0 (backhaulref26_twice.l0 kq l0 x3_1 = some r) ∧ Aside0 (kq ≤ k) ∧ Drawn0 w w')
  case atStart => exact ⟨(0), (by first | rfl | (simp; done) | (simp [*]; done)), H', ⟨Nat.le_refl _⟩, by repeat (first | exact Drawn0.refl _ | apply Drawn0.step)⟩
  case round =>
    clear H'; try clear c1
    obtain ⟨x3_1, rfl, HA, HK1, ⟨m1, rfl⟩⟩ := hrel; cases gk with
    | zero => exact absurd HA.out (by simp [backhaulref26_twice.l0])
    | succ k1 =>
      have H := HA.out; clear HA; simp only [backhaulref26_twice.l0] at H; by_cases c2 : x3_1 < (l0.length : Int)
      · rw [if_pos c2] at H
        have c2b0 : decide (x3_1 < (l0.length : Int)) = true := zFq c2; clear c2; have H' := zA H; clear H; go_wp2; repeat (go_quiet (fail); try go_wp2)
        go_loopg [4] k1 (fun kq v4 w' => ∃ (x4_2 : Int), v4 = .int .i64 x4_2 ∧ Aside0 (backhaulref26_twice.l1 kq l0 x3_1 x4_2 = some r) ∧ Aside0 (kq ≤ k1) ∧ Drawn0 w w')
        case atStart => exact ⟨(0), (by first | rfl | (simp; done) | (simp [*]; done)), H', ⟨Nat.le_refl _⟩, by repeat (first | exact Drawn0.refl _ | apply Drawn0.step)⟩
        case round =>
          clear H'; try clear c1
          try clear c2
          try clear c2b0
          try clear p2
          obtain ⟨x4_2, rfl, HA, HK2, ⟨m2, rfl⟩⟩ := hrel; cases gk with
          | zero => exact absurd HA.out (by simp [backhaulref26_twice.l1])
          | succ k2 =>
            have H := HA.out; clear HA; simp only [backhaulref26_twice.l1] at H; by_cases c3 : x4_2 < x3_1
            · rw [if_pos c3] at H
              have c3b0 : decide (x4_2 < x3_1) = true := zFq c3; clear c3; by_cases c4 : 0 ≤ x3_1
              · rw [if_pos c4] at H
                have c4b0 : decide (0 ≤ x3_1) = true := zFq c4; clear c4; by_cases c5 : x3_1 < (l0.length : Int)
                · rw [if_pos c5] at H
                  have c5b0 : decide (x3_1 < (l0.length : Int)) = true := zFq c5; clear c5; by_cases c6 : 0 ≤ x4_2
                  · rw [if_pos c6] at H
                    have c6b0 : decide (0 ≤ x4_2) = true := zFq c6; clear c6; by_cases c7 : x4_2 < (l0.length : Int)
                    · rw [if_pos c7] at H
                      have c7b0 : decide (x4_2 < (l0.length : Int)) = true := zFq c7; clear c7; by_cases c8 : (rdOf ByteArray.empty l0 x3_1).toList = (rdOf ByteArray.empty l0 x4_2).toList
                      · rw [if_pos c8] at H
                        have c8b0 : ((rdOf ByteArray.empty l0 x3_1).toList == (rdOf ByteArray.empty l0 x4_2).toList) = true := beq_iff_eq.mpr c8; have c8b1 : ((rdOf ByteArray.empty l0 x3_1).toList != (rdOf ByteArray.empty l0 x4_2).toList) = false := bne_eq_false_iff_eq.mpr c8; clear c8; obtain rfl := zKq H; have p101 : 0 ≤ (x3_1 : Int) := of_decide_eq_true qA; have q101 : x3_1 < (l0.length : Int) := of_decide_eq_true qA; obtain ⟨ad101, e101, hx101_0⟩ := Kd.at_string HR0.out x3_1 p101 q101; cases e101
                        replace p101 := eq_true p101; replace q101 := eq_true q101; have p102 : 0 ≤ (x4_2 : Int) := of_decide_eq_true qA; have q102 : x4_2 < (l0.length : Int) := of_decide_eq_true qA; obtain ⟨ad102, e102, hx102_0⟩ := Kd.at_string HR0.out x4_2 p102 q102; obtain rfl : ad101 = ad102 := (by injection e102)
                        replace p102 := eq_true p102; replace q102 := eq_true q102; go_wp2; repeat (go_quiet (fail); try go_wp2)
                        go_ret; exact ⟨by first | rfl | (simp; done) | (simp [*]; done), by repeat (first | exact Drawn0.refl _ | apply Drawn0.step)⟩
                      rw [if_neg c8] at H; have c8b0 : ((rdOf ByteArray.empty l0 x3_1).toList == (rdOf ByteArray.empty l0 x4_2).toList) = false := beq_eq_false_iff_ne.mpr c8; have c8b1 : ((rdOf ByteArray.empty l0 x3_1).toList != (rdOf ByteArray.empty l0 x4_2).toList) = true := bne_iff_ne.mpr c8; have H' := zA H; clear H; have p101 : 0 ≤ (x3_1 : Int) := of_decide_eq_true qA; have q101 : x3_1 < (l0.length : Int) := of_decide_eq_true qA; obtain ⟨ad101, e101, hx101_0⟩ := Kd.at_string HR0.out x3_1 p101 q101; cases e101
                      replace p101 := eq_true p101; replace q101 := eq_true q101; have p102 : 0 ≤ (x4_2 : Int) := of_decide_eq_true qA; have q102 : x4_2 < (l0.length : Int) := of_decide_eq_true qA; obtain ⟨ad102, e102, hx102_0⟩ := Kd.at_string HR0.out x4_2 p102 q102; obtain rfl : ad101 = ad102 := (by injection e102)
                      replace p102 := eq_true p102; replace q102 := eq_true q102; go_wp2; repeat (go_quiet (fail); try go_wp2)
                      go_roundg k2
                      case measure => have := HK1.out; have := HK2.out; omega
                      case rel => exact ⟨(wrap64 (x4_2 + 1)), (by first | rfl | (simp; done) | (simp [*]; done)), H', ⟨by have := HK1.out; have := HK2.out; omega⟩, by repeat (first | exact Drawn0.refl _ | apply Drawn0.step)⟩
                    rw [if_neg c7] at H; exact absurd H (by simp)
                  rw [if_neg c6] at H; exact absurd H (by simp)
                rw [if_neg c5] at H; exact absurd H (by simp)
              rw [if_neg c4] at H; exact absurd H (by simp)
            rw [if_neg c3] at H; have c3b0 : decide (x4_2 < x3_1) = false := zGq c3; clear c3; have H' := zA H; clear H; go_wp2; repeat (go_quiet (fail); try go_wp2)
            go_roundg k2
            case measure => have := HK1.out; have := HK2.out; omega
            case rel => exact ⟨(wrap64 (x3_1 + 1)), (by first | rfl | (simp; done) | (simp [*]; done)), H', ⟨by have := HK1.out; have := HK2.out; omega⟩, by repeat (first | exact Drawn0.refl _ | apply Drawn0.step)⟩
      rw [if_neg c2] at H; have c2b0 : decide (x3_1 < (l0.length : Int)) = false := zGq c2; clear c2; obtain rfl := zKq H; go_wp2; repeat (go_quiet (fail); try go_wp2)
      go_ret; exact ⟨by first | rfl | (simp; done) | (simp [*]; done), by repeat (first | exact Drawn0.refl _ | apply Drawn0.step)⟩
def backhaulref26_all.l0 : Nat → List (S71) → List ByteArray → Int → Option (List ByteArray)
  | 0, _, _, _ => none
  | k + 1, x0, x3, x4 => if x4 < (x0.length : Int) then (if 0 ≤ x4 then (if x3.length + ((rd_T71 x0 x4).f4).length < 8796093022208 then (backhaulref26_all.l0 k x0 (x3 ++ ((rd_T71 x0 x4).f4)) (wrap64 (x4 + 1))) else (none)) else (none)) else (some x3)
def backhaulref26_all.f (k : Nat) (l0 : List (S71)) : Option (List ByteArray) := backhaulref26_all.l0 k l0 ([] : List ByteArray) 0
theorem backhaulref26_all.mono_l : ∀ k, (∀ y0 y1 y2, LeO (backhaulref26_all.l0 k y0 y1 y2) (backhaulref26_all.l0 (k + 1) y0 y1 y2))
  | 0 => fun _ _ _ r h => by simp [backhaulref26_all.l0] at h
  | k + 1 => by
    have ih0 := backhaulref26_all.mono_l k
    intro y0 y1 y2
    unfold backhaulref26_all.l0
    repeat' (with_reducible first | exact ih0 _ _ _ | exact LeO.refl _ | exact LeO.none _ | refine LeO.ite ?_ ?_ | refine LeO.bind ?_ (fun _ => ?_))
theorem backhaulref26_all.mono : ∀ a0 k, LeO (backhaulref26_all.f k a0) (backhaulref26_all.f (k + 1) a0) := by
  intro a0 k
  have ih0 := backhaulref26_all.mono_l k
  unfold backhaulref26_all.f
  repeat' (with_reducible first | exact ih0 _ _ _ | exact LeO.refl _ | exact LeO.none _ | refine LeO.ite ?_ ?_ | refine LeO.bind ?_ (fun _ => ?_))
set_option maxHeartbeats 8000000 in
set_option maxRecDepth 100000 in
theorem backhaulref26_all.calls (k : Nat) (A0 : Option Addr) (c0 : Nat) (l0 : List (S71)) (r : List ByteArray) (w : World) (hr0 : Kd.C k71 w A0 l0.length l0) (hc0 : l0.length ≤ c0) (h : backhaulref26_all.f k l0 = some r) :
    Calls Try.prog 129 #[.slice A0 l0.length c0] w fun e w' => ∃ v0_ : Value, e = .returned (v0_) ∧ Kd.R Kd.string 9 w' w.heap.size (fun _ => True) v0_ r ∧ Below w.heap.size w w' := by
  have HR0 := zA hr0
  have HC0 := zA hc0
  clear hr0 hc0
  have HB := zA (Below.refl w.heap.size w)
  have H : (backhaulref26_all.l0 k l0 ([] : List ByteArray) 0) = some r := h
  clear h
  have H' := zA H
  clear H
  go_enter Try.func129, Try.ntmps129
  go_wp2
  go_loopg [3, 4] k (fun kq v3 v4 w' => ∃ (x3_1 : List ByteArray) (x4_1 : Int), v4 = .int .i64 x4_1 ∧ Aside0 (backhaulref26_all.l0 kq l0 x3_1 x4_1 = some r) ∧ Aside0 (kq ≤ k) ∧ Aside0 (Kd.R Kd.string 9 w' w.heap.size (fun _ => True) v3 x3_1) ∧ Aside0 (Below w.heap.size w w'))
  case atStart => exact ⟨(([] : List ByteArray)), (0), (by first | rfl | (simp; done) | (simp [*]; done)), H', ⟨Nat.le_refl _⟩, ⟨qN⟩, ⟨qB⟩⟩
  case round =>
    clear H'; try clear c1
    obtain ⟨x3_1, x4_1, rfl, HA, HK1, HO_3, HB⟩ := hrel; cases gk with
    | zero => exact absurd HA.out (by simp [backhaulref26_all.l0])
    | succ k1 =>
      have H := HA.out; clear HA; simp only [backhaulref26_all.l0] at H; by_cases c2 : x4_1 < (l0.length : Int)
      · rw [if_pos c2] at H
        have c2b0 : decide (x4_1 < (l0.length : Int)) = true := zFq c2; clear c2; by_cases c3 : 0 ≤ x4_1
        · rw [if_pos c3] at H
          have c3b0 : decide (0 ≤ x4_1) = true := zFq c3; clear c3; by_cases c4 : x3_1.length + ((rd_T71 l0 x4_1).f4).length < 8796093022208
          · rw [if_pos c4] at H
            have LMc4 := zA c4; clear c4; obtain ⟨y102, hy102⟩ : ∃ y_ : List ByteArray, y_ = (x3_1 ++ ((rd_T71 l0 x4_1).f4)) := ⟨_, rfl⟩
            replace H : (backhaulref26_all.l0 k1 l0 y102 (wrap64 (x4_1 + 1))) = some r := by first | (rw [hy102]; with_reducible exact H) | (have H2_ := (Option.bind_some _ _).symm.trans H; rw [hy102]; with_reducible exact H2_) | (have H2_ := (Option.bind_some _ _).symm.trans H; with_reducible exact H2_) | with_reducible exact H | (rw [hy102]; exact H) | exact H
            have Ny102 := zA hy102; clear hy102; have H' := zA H; clear H; have p101 : 0 ≤ (x4_1 : Int) := of_decide_eq_true qA; have q101 : x4_1 < (l0.length : Int) := of_decide_eq_true qA; obtain ⟨ad101, A101_4, c101_4, e101, hx101_0, hx101_1, hx101_2, hx101_3, hx101_4, hl101_4, hi101_4⟩ := at_T71 HR0.out x4_1 p101 q101; cases e101
            replace hx101_0 := (HB.out.cell (zCq w _ hx101_0)).trans hx101_0; replace hx101_1 := (HB.out.cell (zCq w _ hx101_1)).trans hx101_1; replace hx101_2 := (HB.out.cell (zCq w _ hx101_2)).trans hx101_2; replace hx101_3 := (HB.out.cell (zCq w _ hx101_3)).trans hx101_3; replace hx101_4 := (HB.out.cell (zCq w _ hx101_4)).trans hx101_4; have HR101_4 := zA hi101_4; have HC101_4 := zA hl101_4; clear hi101_4 hl101_4; replace p101 := eq_true p101; replace q101 := eq_true q101; go_wp2_with (first | ((with_reducible refine gate_builtin (b := .append) (xs := #[.tmp 11, .tmp 16]) rfl ?_); at_builtin; refine Kd.R_append_rows Kd.string (w0 := w) w.heap.size rfl (.tmp 11) (.tmp 16) 69 9 (.string ⟨#[]⟩) 16 rfl Try.underlying69 info9 rfl (by decide) (by omega) u3 x3_1 ((rd_T71 l0 x4_1).f4) _ _ _ (fun _ => True) (fun _ => False) rfl rfl ?aO ?aR (fun _ _ h => h) (fun _ h => h.elim) ?aF ?aB ?aS ?aL ?_; (case aR => exact qC (Kd.C_below HR101_4.out HB.out)); (case aB => exact qB); (case aF => exact (fun _ _ => trivial)); (case aO => exact (by (with_reducible repeat (first | apply Kd.R_alloc | apply Kd.R_drewN | apply Kd.R_drew)); exact HO_3.out)); (case aS => exact (zW qB)); (case aL => have := LMc4.out; omega); intro v103 w5 ho hb hg hat; rw [← Ny102.out] at ho; have n0_ := zA (hb); have n1_ := zA (ho); clear HB HO_3; have HB := n0_; have HO104 := n1_; clear n0_ n1_ ho hb hg hat)); go_roundg k1
            case measure => have := HK1.out; omega
            case rel => exact ⟨(y102), (wrap64 (x4_1 + 1)), (by first | rfl | (simp; done) | (simp [*]; done)), H', ⟨by have := HK1.out; omega⟩, ⟨by (with_reducible repeat (first | apply Kd.R_alloc | apply Kd.R_drewN | apply Kd.R_drew)); exact HO104.out⟩, ⟨qB⟩⟩
          rw [if_neg c4] at H; exact absurd H (by simp)
        rw [if_neg c3] at H; exact absurd H (by simp)
      rw [if_neg c2] at H; have c2b0 : decide (x4_1 < (l0.length : Int)) = false := zGq c2; clear c2; obtain rfl := zKq H; go_wp2; go_ret; exact ⟨_, qE, by (with_reducible repeat (first | apply Kd.R_alloc | apply Kd.R_drewN | apply Kd.R_drew)); exact HO_3.out, qB⟩
def backhaulref26_cost.l0 : Nat → List (S71) → Int → Int → Option (Int)
  | 0, _, _, _ => none
  | k + 1, x0, x3, x4 => if x4 < (x0.length : Int) then (if 0 ≤ x4 then (if (wrap64 ((wrap64 (x3 + ((rd_T71 x0 x4).f2))) + ((rd_T71 x0 x4).f3))) > 1000000000000 then (some (-1)) else (backhaulref26_cost.l0 k x0 (wrap64 ((wrap64 (x3 + ((rd_T71 x0 x4).f2))) + ((rd_T71 x0 x4).f3))) (wrap64 (x4 + 1)))) else (none)) else (some x3)
def backhaulref26_cost.f (k : Nat) (l0 : List (S71)) : Option (Int) := backhaulref26_cost.l0 k l0 0 0
theorem backhaulref26_cost.mono_l : ∀ k, (∀ y0 y1 y2, LeO (backhaulref26_cost.l0 k y0 y1 y2) (backhaulref26_cost.l0 (k + 1) y0 y1 y2))
  | 0 => fun _ _ _ r h => by simp [backhaulref26_cost.l0] at h
  | k + 1 => by
    have ih0 := backhaulref26_cost.mono_l k
    intro y0 y1 y2
    unfold backhaulref26_cost.l0
    repeat' (with_reducible first | exact ih0 _ _ _ | exact LeO.refl _ | exact LeO.none _ | refine LeO.ite ?_ ?_ | refine LeO.bind ?_ (fun _ => ?_))
theorem backhaulref26_cost.mono : ∀ a0 k, LeO (backhaulref26_cost.f k a0) (backhaulref26_cost.f (k + 1) a0) := by
  intro a0 k
  have ih0 := backhaulref26_cost.mono_l k
  unfold backhaulref26_cost.f
  repeat' (with_reducible first | exact ih0 _ _ _ | exact LeO.refl _ | exact LeO.none _ | refine LeO.ite ?_ ?_ | refine LeO.bind ?_ (fun _ => ?_))
set_option maxHeartbeats 8000000 in
set_option maxRecDepth 100000 in
theorem backhaulref26_cost.calls (k : Nat) (A0 : Option Addr) (c0 : Nat) (l0 : List (S71)) (r : Int) (w : World) (hr0 : Kd.C k71 w A0 l0.length l0) (hc0 : l0.length ≤ c0) (h : backhaulref26_cost.f k l0 = some r) :
    Calls Try.prog 132 #[.slice A0 l0.length c0] w fun e w' => e = .returned (.int .i64 r) ∧ Drawn0 w w' := by
  have HR0 := zA hr0
  have HC0 := zA hc0
  clear hr0 hc0
  have H : (backhaulref26_cost.l0 k l0 0 0) = some r := h
  clear h
  have H' := zA H
  clear H
  go_enter Try.func132, Try.ntmps132
  go_wp2
  repeat (go_quiet (fail); try go_wp2)
  go_loopg [3, 4] k (fun kq v3 v4 w' => ∃ (x3_1 : Int) (x4_1 : Int), v3 = .int .i64 x3_1 ∧ v4 = .int .i64 x4_1 ∧ Aside0 (backhaulref26_cost.l0 kq l0 x3_1 x4_1 = some r) ∧ Aside0 (kq ≤ k) ∧ Drawn0 w w')
  case atStart => exact ⟨(0), (0), (by first | rfl | (simp; done) | (simp [*]; done)), (by first | rfl | (simp; done) | (simp [*]; done)), H', ⟨Nat.le_refl _⟩, by repeat (first | exact Drawn0.refl _ | apply Drawn0.step)⟩
  case round =>
    clear H'; try clear c1
    obtain ⟨x3_1, x4_1, rfl, rfl, HA, HK1, ⟨m1, rfl⟩⟩ := hrel; cases gk with
    | zero => exact absurd HA.out (by simp [backhaulref26_cost.l0])
    | succ k1 =>
      have H := HA.out; clear HA; simp only [backhaulref26_cost.l0] at H; by_cases c2 : x4_1 < (l0.length : Int)
      · rw [if_pos c2] at H
        have c2b0 : decide (x4_1 < (l0.length : Int)) = true := zFq c2; clear c2; by_cases c3 : 0 ≤ x4_1
        · rw [if_pos c3] at H
          have c3b0 : decide (0 ≤ x4_1) = true := zFq c3; clear c3; by_cases c4 : (wrap64 ((wrap64 (x3_1 + ((rd_T71 l0 x4_1).f2))) + ((rd_T71 l0 x4_1).f3))) > 1000000000000
          · rw [if_pos c4] at H
            have c4b0 : decide (1000000000000 < (wrap64 ((wrap64 (x3_1 + ((rd_T71 l0 x4_1).f2))) + ((rd_T71 l0 x4_1).f3)))) = true := zFq c4; clear c4; obtain rfl := zKq H; have p101 : 0 ≤ (x4_1 : Int) := of_decide_eq_true qA; have q101 : x4_1 < (l0.length : Int) := of_decide_eq_true qA; obtain ⟨ad101, A101_4, c101_4, e101, hx101_0, hx101_1, hx101_2, hx101_3, hx101_4, hl101_4, hi101_4⟩ := at_T71 HR0.out x4_1 p101 q101; cases e101
            have HR101_4 := zA hi101_4; have HC101_4 := zA hl101_4; clear hi101_4 hl101_4; replace p101 := eq_true p101; replace q101 := eq_true q101; have p102 : 0 ≤ (x4_1 : Int) := of_decide_eq_true qA; have q102 : x4_1 < (l0.length : Int) := of_decide_eq_true qA; obtain ⟨ad102, A102_4, c102_4, e102, hx102_0, hx102_1, hx102_2, hx102_3, hx102_4, hl102_4, hi102_4⟩ := at_T71 HR0.out x4_1 p102 q102; obtain rfl : ad101 = ad102 := (by injection e102)
            have HR102_4 := zA hi102_4; have HC102_4 := zA hl102_4; clear hi102_4 hl102_4; replace p102 := eq_true p102; replace q102 := eq_true q102; have ea_ := zKq (hx101_4.symm.trans hx102_4); injection ea_ with ea_ en_ ec_
            subst ea_; subst ec_; clear en_; go_wp2; repeat (go_quiet (fail); try go_wp2)
            go_ret; exact ⟨by first | rfl | (simp; done) | (simp [*]; done), by repeat (first | exact Drawn0.refl _ | apply Drawn0.step)⟩
          rw [if_neg c4] at H; have c4b0 : decide (1000000000000 < (wrap64 ((wrap64 (x3_1 + ((rd_T71 l0 x4_1).f2))) + ((rd_T71 l0 x4_1).f3)))) = false := zGq c4; clear c4; have H' := zA H; clear H; have p101 : 0 ≤ (x4_1 : Int) := of_decide_eq_true qA; have q101 : x4_1 < (l0.length : Int) := of_decide_eq_true qA; obtain ⟨ad101, A101_4, c101_4, e101, hx101_0, hx101_1, hx101_2, hx101_3, hx101_4, hl101_4, hi101_4⟩ := at_T71 HR0.out x4_1 p101 q101; cases e101
          have HR101_4 := zA hi101_4; have HC101_4 := zA hl101_4; clear hi101_4 hl101_4; replace p101 := eq_true p101; replace q101 := eq_true q101; have p102 : 0 ≤ (x4_1 : Int) := of_decide_eq_true qA; have q102 : x4_1 < (l0.length : Int) := of_decide_eq_true qA; obtain ⟨ad102, A102_4, c102_4, e102, hx102_0, hx102_1, hx102_2, hx102_3, hx102_4, hl102_4, hi102_4⟩ := at_T71 HR0.out x4_1 p102 q102; obtain rfl : ad101 = ad102 := (by injection e102)
          have HR102_4 := zA hi102_4; have HC102_4 := zA hl102_4; clear hi102_4 hl102_4; replace p102 := eq_true p102; replace q102 := eq_true q102; have ea_ := zKq (hx101_4.symm.trans hx102_4); injection ea_ with ea_ en_ ec_
          subst ea_; subst ec_; clear en_; go_wp2; repeat (go_quiet (fail); try go_wp2)
          go_roundg k1
          case measure => have := HK1.out; omega
          case rel => exact ⟨(wrap64 ((wrap64 (x3_1 + ((rd_T71 l0 x4_1).f2))) + ((rd_T71 l0 x4_1).f3))), (wrap64 (x4_1 + 1)), (by first | rfl | (simp; done) | (simp [*]; done)), (by first | rfl | (simp; done) | (simp [*]; done)), H', ⟨by have := HK1.out; omega⟩, by repeat (first | exact Drawn0.refl _ | apply Drawn0.step)⟩
        rw [if_neg c3] at H; exact absurd H (by simp)
      rw [if_neg c2] at H; have c2b0 : decide (x4_1 < (l0.length : Int)) = false := zGq c2; clear c2; obtain rfl := zKq H; go_wp2; repeat (go_quiet (fail); try go_wp2)
      go_ret; exact ⟨by first | rfl | (simp; done) | (simp [*]; done), by repeat (first | exact Drawn0.refl _ | apply Drawn0.step)⟩
mutual
def backhaulref01_Class.j0 : Nat → Int → Bool → Option (Int)
  | 0, _, _ => none
  | k + 1, x0, x16 => if x16 = true then (some 1) else (if x0 ≥ 48 then (backhaulref01_Class.j1 k x0 (decide (x0 ≤ 57))) else (backhaulref01_Class.j1 k x0 false))
def backhaulref01_Class.j1 : Nat → Int → Bool → Option (Int)
  | 0, _, _ => none
  | k + 1, x0, x22 => if x22 = true then (some 2) else (if x0 = 45 then (some 3) else (some 0))
end
def backhaulref01_Class.f (k : Nat) (a0 : Int) : Option (Int) := if a0 ≥ 65 then (if a0 ≤ 90 then (backhaulref01_Class.j0 k a0 true) else (if a0 ≥ 97 then (backhaulref01_Class.j0 k a0 (decide (a0 ≤ 122))) else (backhaulref01_Class.j0 k a0 false))) else (if a0 ≥ 97 then (backhaulref01_Class.j0 k a0 (decide (a0 ≤ 122))) else (backhaulref01_Class.j0 k a0 false))
theorem backhaulref01_Class.mono_l : ∀ k, (∀ y0 y1, LeO (backhaulref01_Class.j0 k y0 y1) (backhaulref01_Class.j0 (k + 1) y0 y1)) ∧ (∀ y0 y1, LeO (backhaulref01_Class.j1 k y0 y1) (backhaulref01_Class.j1 (k + 1) y0 y1))
  | 0 => ⟨fun _ _ r h => by simp [backhaulref01_Class.j0] at h, fun _ _ r h => by simp [backhaulref01_Class.j1] at h⟩
  | k + 1 => by
    obtain ⟨ih0, ih1⟩ := backhaulref01_Class.mono_l k
    refine ⟨?_, ?_⟩
    · intro y0 y1
      unfold backhaulref01_Class.j0
      repeat' (with_reducible first | exact ih0 _ _ | exact ih1 _ _ | exact LeO.refl _ | exact LeO.none _ | refine LeO.ite ?_ ?_ | refine LeO.bind ?_ (fun _ => ?_))
    intro y0 y1
    unfold backhaulref01_Class.j1
    repeat' (with_reducible first | exact ih0 _ _ | exact ih1 _ _ | exact LeO.refl _ | exact LeO.none _ | refine LeO.ite ?_ ?_ | refine LeO.bind ?_ (fun _ => ?_))
theorem backhaulref01_Class.mono : ∀ a0 k, LeO (backhaulref01_Class.f k a0) (backhaulref01_Class.f (k + 1) a0) := by
  intro a0 k
  obtain ⟨ih0, ih1⟩ := backhaulref01_Class.mono_l k
  unfold backhaulref01_Class.f
  repeat' (with_reducible first | exact ih0 _ _ | exact ih1 _ _ | exact LeO.refl _ | exact LeO.none _ | refine LeO.ite ?_ ?_ | refine LeO.bind ?_ (fun _ => ?_))
set_option maxHeartbeats 8000000 in
set_option maxRecDepth 100000 in
theorem backhaulref01_Class.calls (k : Nat) (a0 : Int) (r : Int) (w : World) (h : backhaulref01_Class.f k a0 = some r) :
    Calls Try.prog 161 #[.int .i32 a0] w fun e w' => e = .returned (.int .i64 r) ∧ Drawn0 w w' := by
  have H : (if a0 ≥ 65 then (if a0 ≤ 90 then (backhaulref01_Class.j0 k a0 true) else (if a0 ≥ 97 then (backhaulref01_Class.j0 k a0 (decide (a0 ≤ 122))) else (backhaulref01_Class.j0 k a0 false))) else (if a0 ≥ 97 then (backhaulref01_Class.j0 k a0 (decide (a0 ≤ 122))) else (backhaulref01_Class.j0 k a0 false))) = some r := h
  clear h
  have HC2 := zA H
  clear H
  go_enter Try.func161, Try.ntmps161
  go_upto_region 1 with (fail)
  go_cut [16] (fun v16 wc => ∃ (kq : Nat) (x16_1 : Bool), v16 = .bool x16_1 ∧ Aside0 (backhaulref01_Class.j0 kq a0 x16_1 = some r) ∧ Aside0 (kq ≤ k) ∧ Drawn0 w wc)
  case first =>
    have H := HC2.out; clear HC2; by_cases c3 : a0 ≥ 65
    · rw [if_pos c3] at H
      have c3b0 : decide (65 ≤ a0) = true := zFq c3; clear c3; (first | rw [c3b0] | (simp only [i64_w, i32_w]; rw [c3b0]) | skip)
      by_cases c4 : a0 ≤ 90
      · rw [if_pos c4] at H
        have c4b0 : decide (a0 ≤ 90) = true := zFq c4; clear c4; have H' := zA H; clear H; go_wp2; go_meet
        case rel => exact ⟨_, (true), (by first | rfl | (simp; done) | (simp [*]; done)), H', ⟨by first | omega | exact Nat.le_refl _⟩, by repeat (first | exact Drawn0.refl _ | apply Drawn0.step)⟩
      rw [if_neg c4] at H; have c4b0 : decide (a0 ≤ 90) = false := zGq c4; clear c4; by_cases c5 : a0 ≥ 97
      · rw [if_pos c5] at H
        have c5b0 : decide (97 ≤ a0) = true := zFq c5; clear c5; have H' := zA H; clear H; go_wp2; go_meet
        case rel => exact ⟨_, (decide (a0 ≤ 122)), (by first | rfl | (simp; done) | (simp [*]; done)), H', ⟨by first | omega | exact Nat.le_refl _⟩, by repeat (first | exact Drawn0.refl _ | apply Drawn0.step)⟩
      rw [if_neg c5] at H; have c5b0 : decide (97 ≤ a0) = false := zGq c5; clear c5; have H' := zA H; clear H; go_wp2; go_meet
      case rel => exact ⟨_, (false), (by first | rfl | (simp; done) | (simp [*]; done)), H', ⟨by first | omega | exact Nat.le_refl _⟩, by repeat (first | exact Drawn0.refl _ | apply Drawn0.step)⟩
    rw [if_neg c3] at H; have c3b0 : decide (65 ≤ a0) = false := zGq c3; clear c3; (first | rw [c3b0] | (simp only [i64_w, i32_w]; rw [c3b0]) | skip)
    by_cases c6 : a0 ≥ 97
    · rw [if_pos c6] at H
      have c6b0 : decide (97 ≤ a0) = true := zFq c6; clear c6; have H' := zA H; clear H; go_wp2; go_meet
      case rel => exact ⟨_, (decide (a0 ≤ 122)), (by first | rfl | (simp; done) | (simp [*]; done)), H', ⟨by first | omega | exact Nat.le_refl _⟩, by repeat (first | exact Drawn0.refl _ | apply Drawn0.step)⟩
    rw [if_neg c6] at H; have c6b0 : decide (97 ≤ a0) = false := zGq c6; clear c6; have H' := zA H; clear H; go_wp2; go_meet
    case rel => exact ⟨_, (false), (by first | rfl | (simp; done) | (simp [*]; done)), H', ⟨by first | omega | exact Nat.le_refl _⟩, by repeat (first | exact Drawn0.refl _ | apply Drawn0.step)⟩
  case rest =>
    clear HC2; try clear c1
    try clear p2
    try clear c3
    try clear c3b0
    try clear c4
    try clear c4b0
    try clear c5
    try clear c5b0
    try clear c6
    try clear c6b0
    obtain ⟨kq, x16_1, rfl, HA, HJ1, ⟨mc1, rfl⟩⟩ := hcut; cases kq with
    | zero => exact absurd HA.out (by simp [backhaulref01_Class.j0])
    | succ kj1 =>
      have H := HA.out; clear HA; simp only [backhaulref01_Class.j0] at H; by_cases c7 : x16_1 = true
      · subst c7
        have H1 : (some 1) = some r := by first | (rw [if_pos rfl] at H; exact H) | rfl
        clear H; have H := H1; clear H1; obtain rfl := zKq H; go_wp2; go_ret; exact ⟨by first | rfl | (simp; done) | (simp [*]; done), by repeat (first | exact Drawn0.refl _ | apply Drawn0.step)⟩
      replace c7 := Bool.eq_false_iff.mpr c7; subst c7; have H1 : (if a0 ≥ 48 then (backhaulref01_Class.j1 kj1 a0 (decide (a0 ≤ 57))) else (backhaulref01_Class.j1 kj1 a0 false)) = some r := by first | (rw [if_neg (show ¬ (false = true) by decide)] at H; exact H) | rfl
      clear H; have H := H1; clear H1; have HC8 := zA H; clear H; go_upto_region 3 with (fail)
      go_cut [22] (fun v22 wc => ∃ (kq : Nat) (x22_7 : Bool), v22 = .bool x22_7 ∧ Aside0 (backhaulref01_Class.j1 kq a0 x22_7 = some r) ∧ Aside0 (kq ≤ kj1) ∧ Drawn0 w wc)
      case first =>
        have H := HC8.out; clear HC8; by_cases c9 : a0 ≥ 48
        · rw [if_pos c9] at H
          have c9b0 : decide (48 ≤ a0) = true := zFq c9; clear c9; (first | rw [c9b0] | (simp only [i64_w, i32_w]; rw [c9b0]) | skip)
          have H' := zA H; clear H; go_wp2; go_meet
          case rel => exact ⟨_, (decide (a0 ≤ 57)), (by first | rfl | (simp; done) | (simp [*]; done)), H', ⟨by have := HJ1.out; first | omega | exact Nat.le_refl _⟩, by repeat (first | exact Drawn0.refl _ | apply Drawn0.step)⟩
        rw [if_neg c9] at H; have c9b0 : decide (48 ≤ a0) = false := zGq c9; clear c9; (first | rw [c9b0] | (simp only [i64_w, i32_w]; rw [c9b0]) | skip)
        have H' := zA H; clear H; go_wp2; go_meet
        case rel => exact ⟨_, (false), (by first | rfl | (simp; done) | (simp [*]; done)), H', ⟨by have := HJ1.out; first | omega | exact Nat.le_refl _⟩, by repeat (first | exact Drawn0.refl _ | apply Drawn0.step)⟩
      case rest =>
        clear HC8; try clear c1
        try clear p2
        try clear c3
        try clear c3b0
        try clear c4
        try clear c4b0
        try clear c5
        try clear c5b0
        try clear c6
        try clear c6b0
        try clear c7
        try clear c9
        try clear c9b0
        try clear p2
        obtain ⟨kq, x22_7, rfl, HA, HJ7, ⟨mc7, rfl⟩⟩ := hcut; cases kq with
        | zero => exact absurd HA.out (by simp [backhaulref01_Class.j1])
        | succ kj7 =>
          have H := HA.out; clear HA; simp only [backhaulref01_Class.j1] at H; by_cases c10 : x22_7 = true
          · subst c10
            have H1 : (some 2) = some r := by first | (rw [if_pos rfl] at H; exact H) | rfl
            clear H; have H := H1; clear H1; obtain rfl := zKq H; go_wp2; go_ret; exact ⟨by first | rfl | (simp; done) | (simp [*]; done), by repeat (first | exact Drawn0.refl _ | apply Drawn0.step)⟩
          replace c10 := Bool.eq_false_iff.mpr c10; subst c10; have H1 : (if a0 = 45 then (some 3) else (some 0)) = some r := by first | (rw [if_neg (show ¬ (false = true) by decide)] at H; exact H) | rfl
          clear H; have H := H1; clear H1; by_cases c11 : a0 = 45
          · rw [if_pos c11] at H
            have c11b0 : (a0 == 45) = true := beq_iff_eq.mpr c11; have c11b1 : (a0 != 45) = false := bne_eq_false_iff_eq.mpr c11; clear c11; obtain rfl := zKq H; go_wp2; go_ret; exact ⟨by first | rfl | (simp; done) | (simp [*]; done), by repeat (first | exact Drawn0.refl _ | apply Drawn0.step)⟩
          rw [if_neg c11] at H; have c11b0 : (a0 == 45) = false := beq_eq_false_iff_ne.mpr c11; have c11b1 : (a0 != 45) = true := bne_iff_ne.mpr c11; obtain rfl := zKq H; go_wp2; go_ret; exact ⟨by first | rfl | (simp; done) | (simp [*]; done), by repeat (first | exact Drawn0.refl _ | apply Drawn0.step)⟩
mutual
def backhaulref01_Fold.j0 : Nat → ByteArray → Bool → Option (ByteArray × Int)
  | 0, _, _ => none
  | k + 1, x0, x27 => if x27 = true then (some ((⟨#[]⟩ : ByteArray), 9)) else (backhaulref01_Fold.l0 k x0 ([] : List Int) 0)
def backhaulref01_Fold.l0 : Nat → ByteArray → List Int → Int → Option (ByteArray × Int)
  | 0, _, _, _ => none
  | k + 1, x0, x4, x5 => if x5 < (x0.size : Int) then (if 0 ≤ x5 then ((backhaulref01_Class.f k (wrap32 (bt x0 x5))).bind fun t101 => (if t101 = 0 then (backhaulref01_Fold.j2 k x0 x4 x5 (bt x0 x5) true) else (if (bt x0 x5) = 45 then (if 0 ≤ (wrap64 (x5 - 1)) then (if (wrap64 (x5 - 1)) < (x0.size : Int) then (backhaulref01_Fold.j2 k x0 x4 x5 (bt x0 x5) ((bt x0 (wrap64 (x5 - 1))) == 45)) else (none)) else (none)) else (backhaulref01_Fold.j2 k x0 x4 x5 (bt x0 x5) false)))) else (none)) else (some (strOfNums x4, 0))
def backhaulref01_Fold.j2 : Nat → ByteArray → List Int → Int → Int → Bool → Option (ByteArray × Int)
  | 0, _, _, _, _, _ => none
  | k + 1, x0, x4, x5, x6, x51 => if x51 = true then (some ((⟨#[]⟩ : ByteArray), 9)) else (if x6 ≥ 97 then (if x6 ≤ 122 then (if x4.length < 140737488355328 then (backhaulref01_Fold.l0 k x0 (x4 ++ [(x6 - 32) % 256]) (wrap64 (x5 + 1))) else (none)) else (if x4.length < 140737488355328 then (backhaulref01_Fold.l0 k x0 (x4 ++ [x6]) (wrap64 (x5 + 1))) else (none))) else (if x4.length < 140737488355328 then (backhaulref01_Fold.l0 k x0 (x4 ++ [x6]) (wrap64 (x5 + 1))) else (none)))
end
def backhaulref01_Fold.f (k : Nat) (a0 : ByteArray) : Option (ByteArray × Int) := if (a0.size : Int) = 0 then (backhaulref01_Fold.j0 k a0 true) else (if (a0.size : Int) > 16 then (backhaulref01_Fold.j0 k a0 true) else (if 0 < (a0.size : Int) then (if (bt a0 0) = 45 then (backhaulref01_Fold.j0 k a0 true) else (if 0 ≤ (wrap64 ((a0.size : Int) - 1)) then (if (wrap64 ((a0.size : Int) - 1)) < (a0.size : Int) then (backhaulref01_Fold.j0 k a0 ((bt a0 (wrap64 ((a0.size : Int) - 1))) == 45)) else (none)) else (none))) else (none)))
theorem backhaulref01_Fold.mono_l : ∀ k, (∀ y0 y1, LeO (backhaulref01_Fold.j0 k y0 y1) (backhaulref01_Fold.j0 (k + 1) y0 y1)) ∧ (∀ y0 y1 y2, LeO (backhaulref01_Fold.l0 k y0 y1 y2) (backhaulref01_Fold.l0 (k + 1) y0 y1 y2)) ∧ (∀ y0 y1 y2 y3 y4, LeO (backhaulref01_Fold.j2 k y0 y1 y2 y3 y4) (backhaulref01_Fold.j2 (k + 1) y0 y1 y2 y3 y4))
  | 0 => ⟨fun _ _ r h => by simp [backhaulref01_Fold.j0] at h, fun _ _ _ r h => by simp [backhaulref01_Fold.l0] at h, fun _ _ _ _ _ r h => by simp [backhaulref01_Fold.j2] at h⟩
  | k + 1 => by
    obtain ⟨ih0, ih1, ih2⟩ := backhaulref01_Fold.mono_l k
    refine ⟨?_, ?_, ?_⟩
    · intro y0 y1
      unfold backhaulref01_Fold.j0
      repeat' (with_reducible first | exact ih0 _ _ | exact ih1 _ _ _ | exact ih2 _ _ _ _ _ | exact backhaulref01_Class.mono _ _ | exact LeO.refl _ | exact LeO.none _ | refine LeO.ite ?_ ?_ | refine LeO.bind ?_ (fun _ => ?_))
    · intro y0 y1 y2
      unfold backhaulref01_Fold.l0
      repeat' (with_reducible first | exact ih0 _ _ | exact ih1 _ _ _ | exact ih2 _ _ _ _ _ | exact backhaulref01_Class.mono _ _ | exact LeO.refl _ | exact LeO.none _ | refine LeO.ite ?_ ?_ | refine LeO.bind ?_ (fun _ => ?_))
    intro y0 y1 y2 y3 y4
    unfold backhaulref01_Fold.j2
    repeat' (with_reducible first | exact ih0 _ _ | exact ih1 _ _ _ | exact ih2 _ _ _ _ _ | exact backhaulref01_Class.mono _ _ | exact LeO.refl _ | exact LeO.none _ | refine LeO.ite ?_ ?_ | refine LeO.bind ?_ (fun _ => ?_))
theorem backhaulref01_Fold.mono : ∀ a0 k, LeO (backhaulref01_Fold.f k a0) (backhaulref01_Fold.f (k + 1) a0) := by
  intro a0 k
  obtain ⟨ih0, ih1, ih2⟩ := backhaulref01_Fold.mono_l k
  unfold backhaulref01_Fold.f
  repeat' (with_reducible first | exact ih0 _ _ | exact ih1 _ _ _ | exact ih2 _ _ _ _ _ | exact backhaulref01_Class.mono _ _ | exact LeO.refl _ | exact LeO.none _ | refine LeO.ite ?_ ?_ | refine LeO.bind ?_ (fun _ => ?_))
set_option maxHeartbeats 8000000 in
set_option maxRecDepth 100000 in
theorem backhaulref01_Fold.calls (k : Nat) (a0 : ByteArray) (r1 : ByteArray) (r2 : Int) (w : World) (h : backhaulref01_Fold.f k a0 = some (r1, r2)) :
    Calls Try.prog 151 #[.string a0] w fun e w' => e = .returned (.tuple #[.string r1, .int .i64 r2]) ∧ Below w.heap.size w w' := by
  have HB := zA (Below.refl w.heap.size w)
  have H : (if (a0.size : Int) = 0 then (backhaulref01_Fold.j0 k a0 true) else (if (a0.size : Int) > 16 then (backhaulref01_Fold.j0 k a0 true) else (if 0 < (a0.size : Int) then (if (bt a0 0) = 45 then (backhaulref01_Fold.j0 k a0 true) else (if 0 ≤ (wrap64 ((a0.size : Int) - 1)) then (if (wrap64 ((a0.size : Int) - 1)) < (a0.size : Int) then (backhaulref01_Fold.j0 k a0 ((bt a0 (wrap64 ((a0.size : Int) - 1))) == 45)) else (none)) else (none))) else (none)))) = some (r1, r2) := h
  clear h
  have HC2 := zA H
  clear H
  go_enter Try.func151, Try.ntmps151
  go_upto_region 1 with (fail)
  go_cut [27] (fun v27 wc => ∃ (kq : Nat) (x27_1 : Bool), v27 = .bool x27_1 ∧ Aside0 (backhaulref01_Fold.j0 kq a0 x27_1 = some (r1, r2)) ∧ Aside0 (kq ≤ k) ∧ Aside0 (Below w.heap.size w wc))
  case first =>
    have H := HC2.out; clear HC2; by_cases c3 : (a0.size : Int) = 0
    · rw [if_pos c3] at H
      have c3b0 : ((a0.size : Int) == 0) = true := beq_iff_eq.mpr c3; have c3b1 : ((a0.size : Int) != 0) = false := bne_eq_false_iff_eq.mpr c3; clear c3; (first | rw [c3b0] | (simp only [i64_w, i32_w]; rw [c3b0]) | skip)
      have H' := zA H; clear H; go_wp2; go_meet
      case rel => exact ⟨_, (true), (by first | rfl | (simp; done) | (simp [*]; done)), H', ⟨by first | omega | exact Nat.le_refl _⟩, ⟨qB⟩⟩
    rw [if_neg c3] at H; have c3b0 : ((a0.size : Int) == 0) = false := beq_eq_false_iff_ne.mpr c3; have c3b1 : ((a0.size : Int) != 0) = true := bne_iff_ne.mpr c3; (first | rw [c3b0] | (simp only [i64_w, i32_w]; rw [c3b0]) | skip)
    by_cases c4 : (a0.size : Int) > 16
    · rw [if_pos c4] at H
      have c4b0 : decide (16 < (a0.size : Int)) = true := zFq c4; have c4b1 : decide (16 < a0.size) = true := zFq (by omega); clear c4; have H' := zA H; clear H; go_wp2; go_meet
      case rel => exact ⟨_, (true), (by first | rfl | (simp; done) | (simp [*]; done)), H', ⟨by first | omega | exact Nat.le_refl _⟩, ⟨qB⟩⟩
    rw [if_neg c4] at H; have c4b0 : decide (16 < (a0.size : Int)) = false := zGq c4; have c4b1 : decide (16 < a0.size) = false := zGq (by omega); clear c4; by_cases c5 : 0 < (a0.size : Int)
    · rw [if_pos c5] at H
      have c5b0 : decide (0 < (a0.size : Int)) = true := zFq c5; have c5b1 : decide (0 < a0.size) = true := zFq (by omega); clear c5; by_cases c7 : (bt a0 0) = 45
      · rw [if_pos c7] at H
        have c7b0 : ((bt a0 0) == 45) = true := beq_iff_eq.mpr c7; have c7b1 : ((bt a0 0) != 45) = false := bne_eq_false_iff_eq.mpr c7; clear c7; have H' := zA H; clear H; have p6 : 0 ≤ (0 : Int) := (by omega)
        have q6 : 0 < a0.size := (by have : (0 : Int) < (a0.size : Int) := of_decide_eq_true qA; omega)
        have hx6 : ∀ h : 0 < a0.size, ((a0[0]'h).toNat : Int) = bt a0 0 := bt_at a0 0; clear p6; have qi6 : (0 < (a0.size : Int)) = True := eq_true (of_decide_eq_true qA); replace q6 := eq_true q6; go_wp2; go_meet
        case rel => exact ⟨_, (true), (by first | rfl | (simp; done) | (simp [*]; done)), H', ⟨by first | omega | exact Nat.le_refl _⟩, ⟨qB⟩⟩
      rw [if_neg c7] at H; have c7b0 : ((bt a0 0) == 45) = false := beq_eq_false_iff_ne.mpr c7; have c7b1 : ((bt a0 0) != 45) = true := bne_iff_ne.mpr c7; obtain ⟨ji8, hji8⟩ : ∃ j_ : Int, (wrap64 ((a0.size : Int) - 1)) = j_ := ⟨_, rfl⟩
      replace H : (if 0 ≤ (ji8) then (if (ji8) < (a0.size : Int) then (backhaulref01_Fold.j0 k a0 ((bt a0 (ji8)) == 45)) else (none)) else (none)) = some (r1, r2) := by first | (rw [hji8] at H; exact H) | (simp only [hji8] at H ⊢; exact H)
      have hji8w : (IntKind.i64.wrap ((a0.size : Int) - 1)) = ji8 := (i64_w _).trans hji8; by_cases c9 : 0 ≤ (ji8)
      · rw [if_pos c9] at H
        have c9b0 : decide (0 ≤ (ji8)) = true := zFq c9; clear c9; by_cases c10 : (ji8) < (a0.size : Int)
        · rw [if_pos c10] at H
          have c10b0 : decide ((ji8) < (a0.size : Int)) = true := zFq c10; clear c10; have H' := zA H; clear H; have p6 : 0 ≤ (0 : Int) := (by omega)
          have q6 : 0 < a0.size := (by have : (0 : Int) < (a0.size : Int) := of_decide_eq_true qA; omega)
          have hx6 : ∀ h : 0 < a0.size, ((a0[0]'h).toNat : Int) = bt a0 0 := bt_at a0 0; clear p6; have qi6 : (0 < (a0.size : Int)) = True := eq_true (of_decide_eq_true qA); replace q6 := eq_true q6; have p11 : 0 ≤ ((ji8) : Int) := of_decide_eq_true qA; have q11 : (ji8) < (a0.size : Int) := of_decide_eq_true qA; have hx11 := bt_at a0 (ji8); replace p11 := eq_true p11; replace q11 := eq_true q11; go_wp2; go_meet
          case rel => exact ⟨_, (((bt a0 (ji8)) == 45)), (by first | rfl | (simp; done) | (simp only [← hji8] <;> (first | rfl | simp)) | (simp [*]; done)), H', ⟨by first | omega | exact Nat.le_refl _⟩, ⟨qB⟩⟩
        rw [if_neg c10] at H; exact absurd H (by simp)
      rw [if_neg c9] at H; exact absurd H (by simp)
    rw [if_neg c5] at H; exact absurd H (by simp)
  case rest =>
    clear HC2; try clear c1
    try clear p1
    try clear q1
    try clear hx1
    try clear p2
    try clear c3
    try clear c3b0
    try clear c3b1
    try clear c4
    try clear c4b0
    try clear c4b1
    try clear c5
    try clear c5b0
    try clear c5b1
    try clear p6
    try clear q6
    try clear hx6
    try clear qi6
    try clear c7
    try clear c7b0
    try clear c7b1
    try clear c9
    try clear c9b0
    try clear c10
    try clear c10b0
    try clear p11
    try clear q11
    try clear hx11
    try clear p11
    try clear p6
    try clear q11
    try clear q6
    obtain ⟨kq, x27_1, rfl, HA, HJ1, HB⟩ := hcut; cases kq with
    | zero => exact absurd HA.out (by simp [backhaulref01_Fold.j0])
    | succ kj1 =>
      have H := HA.out; clear HA; simp only [backhaulref01_Fold.j0] at H; by_cases c12 : x27_1 = true
      · subst c12
        have H1 : (some ((⟨#[]⟩ : ByteArray), 9)) = some (r1, r2) := by first | (rw [if_pos rfl] at H; exact H) | rfl
        clear H; have H := H1; clear H1; simp only [zNq, zOq] at H; obtain ⟨rfl, rfl⟩ := H; go_wp2; go_ret2; exact ⟨qE, qB⟩
      replace c12 := Bool.eq_false_iff.mpr c12; subst c12; have H1 : (backhaulref01_Fold.l0 kj1 a0 ([] : List Int) 0) = some (r1, r2) := by first | (rw [if_neg (show ¬ (false = true) by decide)] at H; exact H) | rfl
      clear H; have H := H1; clear H1; have H' := zA H; clear H; go_wp2; go_loopg [4, 5] kj1 (fun kq v4 v5 w' => ∃ (x4_2 : List Int) (x5_2 : Int), v5 = .int .i64 x5_2 ∧ Aside0 (backhaulref01_Fold.l0 kq a0 x4_2 x5_2 = some (r1, r2)) ∧ Aside0 (kq ≤ kj1) ∧ Aside0 (Kd.R (Kd.int .u8) 5 w' w.heap.size (fun _ => True) v4 x4_2) ∧ Aside0 (Below w.heap.size w w'))
      case atStart => exact ⟨(([] : List Int)), (0), (by first | rfl | (simp; done) | (simp [*]; done)), H', ⟨Nat.le_refl _⟩, ⟨qN⟩, ⟨qB⟩⟩
      case round =>
        clear H'; try clear c1
        try clear p1
        try clear q1
        try clear hx1
        try clear p2
        try clear c3
        try clear c3b0
        try clear c3b1
        try clear c4
        try clear c4b0
        try clear c4b1
        try clear c5
        try clear c5b0
        try clear c5b1
        try clear p6
        try clear q6
        try clear hx6
        try clear qi6
        try clear c7
        try clear c7b0
        try clear c7b1
        try clear c9
        try clear c9b0
        try clear c10
        try clear c10b0
        try clear p11
        try clear q11
        try clear hx11
        try clear c12
        try clear p1
        try clear p11
        try clear p2
        try clear p6
        try clear q1
        try clear q11
        try clear q6
        obtain ⟨x4_2, x5_2, rfl, HA, HK2, HO_4, HB⟩ := hrel; cases gk with
        | zero => exact absurd HA.out (by simp [backhaulref01_Fold.l0])
        | succ k2 =>
          have H := HA.out; clear HA; simp only [backhaulref01_Fold.l0] at H; by_cases c13 : x5_2 < (a0.size : Int)
          · rw [if_pos c13] at H
            have c13b0 : decide (x5_2 < (a0.size : Int)) = true := zFq c13; clear c13; by_cases c14 : 0 ≤ x5_2
            · rw [if_pos c14] at H
              have c14b0 : decide (0 ≤ x5_2) = true := zFq c14; clear c14; have HC16 := zA H; clear H; have p15 : 0 ≤ (x5_2 : Int) := of_decide_eq_true qA; have q15 : x5_2 < (a0.size : Int) := of_decide_eq_true qA; have hx15 := bt_at a0 x5_2; replace p15 := eq_true p15; replace q15 := eq_true q15; go_upto_region 8 with (fail)
              go_cut [51] (fun v51 wc => ∃ (kq : Nat) (x51_15 : Bool), v51 = .bool x51_15 ∧ Aside0 (backhaulref01_Fold.j2 kq a0 x4_2 x5_2 (bt a0 x5_2) x51_15 = some (r1, r2)) ∧ Aside0 (kq ≤ k2) ∧ Aside0 (Kd.R (Kd.int .u8) 5 wc w.heap.size (fun _ => True) u4 x4_2) ∧ Aside0 (Below w.heap.size w wc))
              case first =>
                have H := HC16.out; clear HC16; replace H := Option.bind_eq_some_iff.mp H; obtain ⟨t101, A170, H⟩ := H; try dsimp only at H
                have A17 := zA A170; clear A170; by_cases c18 : t101 = 0
                · rw [if_pos c18] at H
                  have c18b0 : (t101 == 0) = true := beq_iff_eq.mpr c18; have c18b1 : (t101 != 0) = false := bne_eq_false_iff_eq.mpr c18; clear c18; (first | rw [c18b0] | (simp only [i64_w, i32_w]; rw [c18b0]) | skip)
                  have H' := zA H; clear H; go_wp2_with (first | ((with_reducible refine zJq (f := 161) rfl ?_); refine goesL_ (some 39) rfl rfl Try.func161 (by kernel_rfl) rfl #[.int .i32 (wrap32 (bt a0 x5_2))] rfl qG ?_; (with_reducible refine (backhaulref01_Class.calls k2 (wrap32 (bt a0 x5_2)) t101 _ A17.out).mono ?_); rintro e w' ⟨rfl, ⟨nd, rfl⟩⟩; refine ⟨_, rfl, ?_⟩)); go_meet
                  case rel => exact ⟨_, (true), (by first | rfl | (simp; done) | (simp [*]; done)), H', ⟨by have := HJ1.out; have := HK2.out; first | omega | exact Nat.le_refl _⟩, ⟨by (with_reducible repeat (first | apply Kd.R_alloc | apply Kd.R_drewN | apply Kd.R_drew)); exact HO_4.out⟩, ⟨qB⟩⟩
                rw [if_neg c18] at H; have c18b0 : (t101 == 0) = false := beq_eq_false_iff_ne.mpr c18; have c18b1 : (t101 != 0) = true := bne_iff_ne.mpr c18; (first | rw [c18b0] | (simp only [i64_w, i32_w]; rw [c18b0]) | skip)
                by_cases c19 : (bt a0 x5_2) = 45
                · rw [if_pos c19] at H
                  have c19b0 : ((bt a0 x5_2) == 45) = true := beq_iff_eq.mpr c19; have c19b1 : ((bt a0 x5_2) != 45) = false := bne_eq_false_iff_eq.mpr c19; clear c19; obtain ⟨ji20, hji20⟩ : ∃ j_ : Int, (wrap64 (x5_2 - 1)) = j_ := ⟨_, rfl⟩
                  replace H : (if 0 ≤ (ji20) then (if (ji20) < (a0.size : Int) then (backhaulref01_Fold.j2 k2 a0 x4_2 x5_2 (bt a0 x5_2) ((bt a0 (ji20)) == 45)) else (none)) else (none)) = some (r1, r2) := by first | (rw [hji20] at H; exact H) | (simp only [hji20] at H ⊢; exact H)
                  (try rw [hji20] at A17)
                  have hji20w : (IntKind.i64.wrap (x5_2 - 1)) = ji20 := (i64_w _).trans hji20; by_cases c21 : 0 ≤ (ji20)
                  · rw [if_pos c21] at H
                    have c21b0 : decide (0 ≤ (ji20)) = true := zFq c21; clear c21; by_cases c22 : (ji20) < (a0.size : Int)
                    · rw [if_pos c22] at H
                      have c22b0 : decide ((ji20) < (a0.size : Int)) = true := zFq c22; clear c22; have H' := zA H; clear H; go_wp2_with (first | ((with_reducible refine zJq (f := 161) rfl ?_); refine goesL_ (some 39) rfl rfl Try.func161 (by kernel_rfl) rfl #[.int .i32 (wrap32 (bt a0 x5_2))] rfl qG ?_; (with_reducible refine (backhaulref01_Class.calls k2 (wrap32 (bt a0 x5_2)) t101 _ A17.out).mono ?_); rintro e w' ⟨rfl, ⟨nd, rfl⟩⟩; refine ⟨_, rfl, ?_⟩; have p23 : 0 ≤ ((ji20) : Int) := of_decide_eq_true qA; have q23 : (ji20) < (a0.size : Int) := of_decide_eq_true qA; have hx23 := bt_at a0 (ji20); replace p23 := eq_true p23; replace q23 := eq_true q23)); go_meet
                      case rel => exact ⟨_, (((bt a0 (ji20)) == 45)), (by first | rfl | (simp; done) | (simp only [← hji20] <;> (first | rfl | simp)) | (simp [*]; done)), H', ⟨by have := HJ1.out; have := HK2.out; first | omega | exact Nat.le_refl _⟩, ⟨by (with_reducible repeat (first | apply Kd.R_alloc | apply Kd.R_drewN | apply Kd.R_drew)); exact HO_4.out⟩, ⟨qB⟩⟩
                    rw [if_neg c22] at H; exact absurd H (by simp)
                  rw [if_neg c21] at H; exact absurd H (by simp)
                rw [if_neg c19] at H; have c19b0 : ((bt a0 x5_2) == 45) = false := beq_eq_false_iff_ne.mpr c19; have c19b1 : ((bt a0 x5_2) != 45) = true := bne_iff_ne.mpr c19; have H' := zA H; clear H; go_wp2_with (first | ((with_reducible refine zJq (f := 161) rfl ?_); refine goesL_ (some 39) rfl rfl Try.func161 (by kernel_rfl) rfl #[.int .i32 (wrap32 (bt a0 x5_2))] rfl qG ?_; (with_reducible refine (backhaulref01_Class.calls k2 (wrap32 (bt a0 x5_2)) t101 _ A17.out).mono ?_); rintro e w' ⟨rfl, ⟨nd, rfl⟩⟩; refine ⟨_, rfl, ?_⟩)); go_meet
                case rel => exact ⟨_, (false), (by first | rfl | (simp; done) | (simp [*]; done)), H', ⟨by have := HJ1.out; have := HK2.out; first | omega | exact Nat.le_refl _⟩, ⟨by (with_reducible repeat (first | apply Kd.R_alloc | apply Kd.R_drewN | apply Kd.R_drew)); exact HO_4.out⟩, ⟨qB⟩⟩
              case rest =>
                clear HC16; try clear c1
                try clear p1
                try clear q1
                try clear hx1
                try clear c2
                try clear p2
                try clear q2
                try clear hx2
                try clear c3
                try clear c3b0
                try clear c3b1
                try clear p3
                try clear c4
                try clear c4b0
                try clear c4b1
                try clear c5
                try clear c5b0
                try clear c5b1
                try clear p6
                try clear q6
                try clear hx6
                try clear qi6
                try clear c7
                try clear c7b0
                try clear c7b1
                try clear c9
                try clear c9b0
                try clear c10
                try clear c10b0
                try clear p11
                try clear q11
                try clear hx11
                try clear c12
                try clear c13
                try clear c13b0
                try clear c14
                try clear c14b0
                try clear c15
                try clear p15
                try clear q15
                try clear hx15
                try clear c16
                try clear c18
                try clear c18b0
                try clear c18b1
                try clear c19
                try clear c19b0
                try clear c19b1
                try clear c21
                try clear c21b0
                try clear c22
                try clear c22b0
                try clear p23
                try clear q23
                try clear hx23
                try clear p1
                try clear p11
                try clear p15
                try clear p2
                try clear p23
                try clear p6
                try clear q1
                try clear q11
                try clear q15
                try clear q23
                try clear q6
                obtain ⟨kq, x51_15, rfl, HA, HJ15, HO_4, HB⟩ := hcut; cases kq with
                | zero => exact absurd HA.out (by simp [backhaulref01_Fold.j2])
                | succ kj15 =>
                  have H := HA.out; clear HA; simp only [backhaulref01_Fold.j2] at H; by_cases c24 : x51_15 = true
                  · subst c24
                    have H1 : (some ((⟨#[]⟩ : ByteArray), 9)) = some (r1, r2) := by first | (rw [if_pos rfl] at H; exact H) | rfl
                    clear H; have H := H1; clear H1; simp only [zNq, zOq] at H; obtain ⟨rfl, rfl⟩ := H; go_wp2; go_ret2; exact ⟨qE, qB⟩
                  replace c24 := Bool.eq_false_iff.mpr c24; subst c24; have H1 : (if (bt a0 x5_2) ≥ 97 then (if (bt a0 x5_2) ≤ 122 then (if x4_2.length < 140737488355328 then (backhaulref01_Fold.l0 kj15 a0 (x4_2 ++ [((bt a0 x5_2) - 32) % 256]) (wrap64 (x5_2 + 1))) else (none)) else (if x4_2.length < 140737488355328 then (backhaulref01_Fold.l0 kj15 a0 (x4_2 ++ [(bt a0 x5_2)]) (wrap64 (x5_2 + 1))) else (none))) else (if x4_2.length < 140737488355328 then (backhaulref01_Fold.l0 kj15 a0 (x4_2 ++ [(bt a0 x5_2)]) (wrap64 (x5_2 + 1))) else (none))) = some (r1, r2) := by first | (rw [if_neg (show ¬ (false = true) by decide)] at H; exact H) | rfl
                  clear H; have H := H1; clear H1; by_cases c25 : (bt a0 x5_2) ≥ 97
                  · rw [if_pos c25] at H
                    have c25b0 : decide (97 ≤ (bt a0 x5_2)) = true := zFq c25; clear c25; by_cases c26 : (bt a0 x5_2) ≤ 122
                    · rw [if_pos c26] at H
                      have c26b0 : decide ((bt a0 x5_2) ≤ 122) = true := zFq c26; clear c26; by_cases c27 : x4_2.length < 140737488355328
                      · rw [if_pos c27] at H
                        have LMc27 := zA c27; clear c27; obtain ⟨y102, hy102⟩ : ∃ y_ : List Int, y_ = (x4_2 ++ [((bt a0 x5_2) - 32) % 256]) := ⟨_, rfl⟩
                        replace H : (backhaulref01_Fold.l0 kj15 a0 y102 (wrap64 (x5_2 + 1))) = some (r1, r2) := by first | (rw [hy102]; with_reducible exact H) | (have H2_ := (Option.bind_some _ _).symm.trans H; rw [hy102]; with_reducible exact H2_) | (have H2_ := (Option.bind_some _ _).symm.trans H; with_reducible exact H2_) | with_reducible exact H | (rw [hy102]; exact H) | exact H
                        have Ny102 := zA hy102; clear hy102; have H' := zA H; clear H; go_wp2_with (first | ((with_reducible refine gate_builtin (b := .append) (xs := #[.tmp 60, .tmp 62]) rfl ?_); (try (refine gate_guard (by rfl) ?_; dsimp only)); at_builtin; refine Kd.R_append (Kd.int .u8) (w0 := w) w.heap.size rfl (.tmp 60) (.tmp 62) 179 5 (.int .u8 0) 1 rfl Try.underlying179 info5 rfl (by decide) (by omega) u4 x4_2 (((bt a0 x5_2) - 32) % 256) [.int .u8 (((bt a0 x5_2) - 32) % 256)] (fun _ => True) (fun _ => False) rfl rfl ?aP (fun _ hk => hk.elim) ?aF ?aO ?aB ?aS ?aL ?_; (case aP => exact rfl); (case aB => exact qB); (case aF => exact (fun _ _ => trivial)); (case aO => exact (by (with_reducible repeat (first | apply Kd.R_alloc | apply Kd.R_drewN | apply Kd.R_drew)); exact HO_4.out)); (case aS => exact (zW qB)); (case aL => have := LMc27.out; omega); intro v103 w28 ho hb hg hat; rw [← Ny102.out] at ho; have n0_ := zA (hb); have n1_ := zA (ho); clear HB HO_4; have HB := n0_; have HO104 := n1_; clear n0_ n1_ ho hb hg hat)); go_roundg kj15
                        case measure => have := HJ1.out; have := HK2.out; have := HJ15.out; omega
                        case rel => exact ⟨(y102), (wrap64 (x5_2 + 1)), (by first | rfl | (simp; done) | (simp [*]; done)), H', ⟨by have := HJ1.out; have := HK2.out; have := HJ15.out; omega⟩, ⟨by (with_reducible repeat (first | apply Kd.R_alloc | apply Kd.R_drewN | apply Kd.R_drew)); exact HO104.out⟩, ⟨qB⟩⟩
                      rw [if_neg c27] at H; exact absurd H (by simp)
                    rw [if_neg c26] at H; have c26b0 : decide ((bt a0 x5_2) ≤ 122) = false := zGq c26; clear c26; by_cases c29 : x4_2.length < 140737488355328
                    · rw [if_pos c29] at H
                      have LMc29 := zA c29; clear c29; obtain ⟨y105, hy105⟩ : ∃ y_ : List Int, y_ = (x4_2 ++ [(bt a0 x5_2)]) := ⟨_, rfl⟩
                      replace H : (backhaulref01_Fold.l0 kj15 a0 y105 (wrap64 (x5_2 + 1))) = some (r1, r2) := by first | (rw [hy105]; with_reducible exact H) | (have H2_ := (Option.bind_some _ _).symm.trans H; rw [hy105]; with_reducible exact H2_) | (have H2_ := (Option.bind_some _ _).symm.trans H; with_reducible exact H2_) | with_reducible exact H | (rw [hy105]; exact H) | exact H
                      have Ny105 := zA hy105; clear hy105; have H' := zA H; clear H; go_wp2_with (first | ((with_reducible refine gate_builtin (b := .append) (xs := #[.tmp 60, .tmp 62]) rfl ?_); (try (refine gate_guard (by rfl) ?_; dsimp only)); at_builtin; refine Kd.R_append (Kd.int .u8) (w0 := w) w.heap.size rfl (.tmp 60) (.tmp 62) 179 5 (.int .u8 0) 1 rfl Try.underlying179 info5 rfl (by decide) (by omega) u4 x4_2 (bt a0 x5_2) [.int .u8 (bt a0 x5_2)] (fun _ => True) (fun _ => False) rfl rfl ?aP (fun _ hk => hk.elim) ?aF ?aO ?aB ?aS ?aL ?_; (case aP => exact rfl); (case aB => exact qB); (case aF => exact (fun _ _ => trivial)); (case aO => exact (by (with_reducible repeat (first | apply Kd.R_alloc | apply Kd.R_drewN | apply Kd.R_drew)); exact HO_4.out)); (case aS => exact (zW qB)); (case aL => have := LMc29.out; omega); intro v106 w30 ho hb hg hat; rw [← Ny105.out] at ho; have n0_ := zA (hb); have n1_ := zA (ho); clear HB HO_4; have HB := n0_; have HO107 := n1_; clear n0_ n1_ ho hb hg hat)); go_roundg kj15
                      case measure => have := HJ1.out; have := HK2.out; have := HJ15.out; omega
                      case rel => exact ⟨(y105), (wrap64 (x5_2 + 1)), (by first | rfl | (simp; done) | (simp [*]; done)), H', ⟨by have := HJ1.out; have := HK2.out; have := HJ15.out; omega⟩, ⟨by (with_reducible repeat (first | apply Kd.R_alloc | apply Kd.R_drewN | apply Kd.R_drew)); exact HO107.out⟩, ⟨qB⟩⟩
                    rw [if_neg c29] at H; exact absurd H (by simp)
                  rw [if_neg c25] at H; have c25b0 : decide (97 ≤ (bt a0 x5_2)) = false := zGq c25; clear c25; by_cases c31 : x4_2.length < 140737488355328
                  · rw [if_pos c31] at H
                    have LMc31 := zA c31; clear c31; obtain ⟨y108, hy108⟩ : ∃ y_ : List Int, y_ = (x4_2 ++ [(bt a0 x5_2)]) := ⟨_, rfl⟩
                    replace H : (backhaulref01_Fold.l0 kj15 a0 y108 (wrap64 (x5_2 + 1))) = some (r1, r2) := by first | (rw [hy108]; with_reducible exact H) | (have H2_ := (Option.bind_some _ _).symm.trans H; rw [hy108]; with_reducible exact H2_) | (have H2_ := (Option.bind_some _ _).symm.trans H; with_reducible exact H2_) | with_reducible exact H | (rw [hy108]; exact H) | exact H
                    have Ny108 := zA hy108; clear hy108; have H' := zA H; clear H; go_wp2_with (first | ((with_reducible refine gate_builtin (b := .append) (xs := #[.tmp 60, .tmp 62]) rfl ?_); (try (refine gate_guard (by rfl) ?_; dsimp only)); at_builtin; refine Kd.R_append (Kd.int .u8) (w0 := w) w.heap.size rfl (.tmp 60) (.tmp 62) 179 5 (.int .u8 0) 1 rfl Try.underlying179 info5 rfl (by decide) (by omega) u4 x4_2 (bt a0 x5_2) [.int .u8 (bt a0 x5_2)] (fun _ => True) (fun _ => False) rfl rfl ?aP (fun _ hk => hk.elim) ?aF ?aO ?aB ?aS ?aL ?_; (case aP => exact rfl); (case aB => exact qB); (case aF => exact (fun _ _ => trivial)); (case aO => exact (by (with_reducible repeat (first | apply Kd.R_alloc | apply Kd.R_drewN | apply Kd.R_drew)); exact HO_4.out)); (case aS => exact (zW qB)); (case aL => have := LMc31.out; omega); intro v109 w32 ho hb hg hat; rw [← Ny108.out] at ho; have n0_ := zA (hb); have n1_ := zA (ho); clear HB HO_4; have HB := n0_; have HO110 := n1_; clear n0_ n1_ ho hb hg hat)); go_roundg kj15
                    case measure => have := HJ1.out; have := HK2.out; have := HJ15.out; omega
                    case rel => exact ⟨(y108), (wrap64 (x5_2 + 1)), (by first | rfl | (simp; done) | (simp [*]; done)), H', ⟨by have := HJ1.out; have := HK2.out; have := HJ15.out; omega⟩, ⟨by (with_reducible repeat (first | apply Kd.R_alloc | apply Kd.R_drewN | apply Kd.R_drew)); exact HO110.out⟩, ⟨qB⟩⟩
                  rw [if_neg c31] at H; exact absurd H (by simp)
            rw [if_neg c14] at H; exact absurd H (by simp)
          rw [if_neg c13] at H; have c13b0 : decide (x5_2 < (a0.size : Int)) = false := zGq c13; clear c13; simp only [zNq, zOq] at H; obtain ⟨rfl, rfl⟩ := H; have hcv33 := own_string (P := Try.prog) Try.underlying179 Try.underlying5 Try.underlying9 (Kd.own_of_R HO_4.out); go_wp2; go_ret2; exact ⟨qE, qB⟩
def backhaulref01_Check.f (k : Nat) (a0 : ByteArray) : Option (Int) := (backhaulref01_Fold.f k a0).bind fun bt101 => (if bt101.2 = 0 then (if bt101.1.toList = a0.toList then (some 0) else (some 9)) else (some 9))
theorem backhaulref01_Check.mono : ∀ a0 k, LeO (backhaulref01_Check.f k a0) (backhaulref01_Check.f (k + 1) a0) := by
  intro a0 k
  unfold backhaulref01_Check.f
  repeat' (with_reducible first | exact backhaulref01_Fold.mono _ _ | exact LeO.refl _ | exact LeO.none _ | refine LeO.ite ?_ ?_ | refine LeO.bind ?_ (fun _ => ?_))
set_option maxHeartbeats 8000000 in
set_option maxRecDepth 100000 in
theorem backhaulref01_Check.calls (k : Nat) (a0 : ByteArray) (r : Int) (w : World) (h : backhaulref01_Check.f k a0 = some r) :
    Calls Try.prog 143 #[.string a0] w fun e w' => e = .returned (.int .i64 r) ∧ Below w.heap.size w w' := by
  have HB := zA (Below.refl w.heap.size w)
  have H : ((backhaulref01_Fold.f k a0).bind fun bt101 => (if bt101.2 = 0 then (if bt101.1.toList = a0.toList then (some 0) else (some 9)) else (some 9))) = some r := h
  clear h
  replace H := Option.bind_eq_some_iff.mp H
  obtain ⟨⟨t101, t102⟩, A20, H⟩ := H
  try dsimp only at H
  have A2 := zA A20
  clear A20
  by_cases c3 : t102 = 0
  · rw [if_pos c3] at H
    have c3b0 : (t102 == 0) = true := beq_iff_eq.mpr c3; have c3b1 : (t102 != 0) = false := bne_eq_false_iff_eq.mpr c3; clear c3; by_cases c4 : t101.toList = a0.toList
    · rw [if_pos c4] at H
      have c4b0 : (t101.toList == a0.toList) = true := beq_iff_eq.mpr c4; have c4b1 : (t101.toList != a0.toList) = false := bne_eq_false_iff_eq.mpr c4; clear c4; obtain rfl := zKq H; go_enter Try.func143, Try.ntmps143; go_wp2_with (first | ((with_reducible refine zJq (f := 151) rfl ?_); refine goesL_ (some 7) rfl rfl Try.func151 (by kernel_rfl) rfl #[.string a0] rfl qG ?_; (with_reducible refine (backhaulref01_Fold.calls k a0 t101 t102 _ A2.out).mono ?_); rintro e w5 ⟨rfl, hb⟩; refine ⟨_, rfl, ?_⟩; have n0_ := zA (zV qB hb); clear HB; have HB := n0_; clear n0_; (try clear hb))); go_ret; exact ⟨qE, qB⟩
    rw [if_neg c4] at H; have c4b0 : (t101.toList == a0.toList) = false := beq_eq_false_iff_ne.mpr c4; have c4b1 : (t101.toList != a0.toList) = true := bne_iff_ne.mpr c4; obtain rfl := zKq H; go_enter Try.func143, Try.ntmps143; go_wp2_with (first | ((with_reducible refine zJq (f := 151) rfl ?_); refine goesL_ (some 7) rfl rfl Try.func151 (by kernel_rfl) rfl #[.string a0] rfl qG ?_; (with_reducible refine (backhaulref01_Fold.calls k a0 t101 t102 _ A2.out).mono ?_); rintro e w6 ⟨rfl, hb⟩; refine ⟨_, rfl, ?_⟩; have n0_ := zA (zV qB hb); clear HB; have HB := n0_; clear n0_; (try clear hb))); go_ret; exact ⟨qE, qB⟩
  rw [if_neg c3] at H
  have c3b0 : (t102 == 0) = false := beq_eq_false_iff_ne.mpr c3
  have c3b1 : (t102 != 0) = true := bne_iff_ne.mpr c3
  obtain rfl := zKq H
  go_enter Try.func143, Try.ntmps143
  go_wp2_with (first | ((with_reducible refine zJq (f := 151) rfl ?_); refine goesL_ (some 7) rfl rfl Try.func151 (by kernel_rfl) rfl #[.string a0] rfl qG ?_; (with_reducible refine (backhaulref01_Fold.calls k a0 t101 t102 _ A2.out).mono ?_); rintro e w7 ⟨rfl, hb⟩; refine ⟨_, rfl, ?_⟩; have n0_ := zA (zV qB hb); clear HB; have HB := n0_; clear n0_; (try clear hb)))
  go_ret
  exact ⟨qE, qB⟩
def backhaulref01_Row.l0 : Nat → List ByteArray → Int → Option (Int)
  | 0, _, _ => none
  | k + 1, x0, x3 => if x3 < (x0.length : Int) then (if 0 ≤ x3 then ((backhaulref01_Check.f k (rdOf ByteArray.empty x0 x3)).bind fun t102 => (if t102 = 0 then (if x3 > 0 then (if 0 ≤ (wrap64 (x3 - 1)) then (if (wrap64 (x3 - 1)) < (x0.length : Int) then (if ((Op.bytesLess ((rdOf ByteArray.empty x0 (wrap64 (x3 - 1))).toList) ((rdOf ByteArray.empty x0 x3).toList)) = true) then (backhaulref01_Row.l0 k x0 (wrap64 (x3 + 1))) else (some 32)) else (none)) else (none)) else (backhaulref01_Row.l0 k x0 (wrap64 (x3 + 1)))) else (some 9))) else (none)) else (some 0)
def backhaulref01_Row.f (k : Nat) (l0 : List ByteArray) : Option (Int) := backhaulref01_Row.l0 k l0 0
theorem backhaulref01_Row.mono_l : ∀ k, (∀ y0 y1, LeO (backhaulref01_Row.l0 k y0 y1) (backhaulref01_Row.l0 (k + 1) y0 y1))
  | 0 => fun _ _ r h => by simp [backhaulref01_Row.l0] at h
  | k + 1 => by
    have ih0 := backhaulref01_Row.mono_l k
    intro y0 y1
    unfold backhaulref01_Row.l0
    repeat' (with_reducible first | exact ih0 _ _ | exact backhaulref01_Check.mono _ _ | exact LeO.refl _ | exact LeO.none _ | refine LeO.ite ?_ ?_ | refine LeO.bind ?_ (fun _ => ?_))
theorem backhaulref01_Row.mono : ∀ a0 k, LeO (backhaulref01_Row.f k a0) (backhaulref01_Row.f (k + 1) a0) := by
  intro a0 k
  have ih0 := backhaulref01_Row.mono_l k
  unfold backhaulref01_Row.f
  repeat' (with_reducible first | exact ih0 _ _ | exact backhaulref01_Check.mono _ _ | exact LeO.refl _ | exact LeO.none _ | refine LeO.ite ?_ ?_ | refine LeO.bind ?_ (fun _ => ?_))
set_option maxHeartbeats 8000000 in
set_option maxRecDepth 100000 in
theorem backhaulref01_Row.calls (k : Nat) (A0 : Option Addr) (c0 : Nat) (l0 : List ByteArray) (r : Int) (w : World) (hr0 : Kd.C Kd.string w A0 l0.length l0) (hc0 : l0.length ≤ c0) (h : backhaulref01_Row.f k l0 = some r) :
    Calls Try.prog 120 #[.slice A0 l0.length c0] w fun e w' => e = .returned (.int .i64 r) ∧ Below w.heap.size w w' := by
  have HR0 := zA hr0
  have HC0 := zA hc0
  clear hr0 hc0
  have HB := zA (Below.refl w.heap.size w)
  have H : (backhaulref01_Row.l0 k l0 0) = some r := h
  clear h
  have H' := zA H
  clear H
  go_enter Try.func120, Try.ntmps120
  go_wp2
  repeat (go_quiet (fail); try go_wp2)
  go_loopg [3] k (fun kq v3 w' => ∃ (x3_1 : Int), v3 = .int .i64 x3_1 ∧ Aside0 (backhaulref01_Row.l0 kq l0 x3_1 = some r) ∧ Aside0 (kq ≤ k) ∧ Aside0 (Below w.heap.size w w'))
  case atStart => exact ⟨(0), (by first | rfl | (simp; done) | (simp [*]; done)), H', ⟨Nat.le_refl _⟩, ⟨qB⟩⟩
  case round =>
    clear H'; try clear c1
    obtain ⟨x3_1, rfl, HA, HK1, HB⟩ := hrel; cases gk with
    | zero => exact absurd HA.out (by simp [backhaulref01_Row.l0])
    | succ k1 =>
      have H := HA.out; clear HA; simp only [backhaulref01_Row.l0] at H; by_cases c2 : x3_1 < (l0.length : Int)
      · rw [if_pos c2] at H
        have c2b0 : decide (x3_1 < (l0.length : Int)) = true := zFq c2; clear c2; by_cases c3 : 0 ≤ x3_1
        · rw [if_pos c3] at H
          have c3b0 : decide (0 ≤ x3_1) = true := zFq c3; clear c3; replace H := Option.bind_eq_some_iff.mp H; obtain ⟨t102, A40, H⟩ := H; try dsimp only at H
          have A4 := zA A40; clear A40; by_cases c5 : t102 = 0
          · rw [if_pos c5] at H
            have c5b0 : (t102 == 0) = true := beq_iff_eq.mpr c5; have c5b1 : (t102 != 0) = false := bne_eq_false_iff_eq.mpr c5; clear c5; by_cases c6 : x3_1 > 0
            · rw [if_pos c6] at H
              have c6b0 : decide (0 < x3_1) = true := zFq c6; clear c6; obtain ⟨ji7, hji7⟩ : ∃ j_ : Int, (wrap64 (x3_1 - 1)) = j_ := ⟨_, rfl⟩
              replace H : (if 0 ≤ (ji7) then (if (ji7) < (l0.length : Int) then (if ((Op.bytesLess ((rdOf ByteArray.empty l0 (ji7)).toList) ((rdOf ByteArray.empty l0 x3_1).toList)) = true) then (backhaulref01_Row.l0 k1 l0 (wrap64 (x3_1 + 1))) else (some 32)) else (none)) else (none)) = some r := by first | (rw [hji7] at H; exact H) | (simp only [hji7] at H ⊢; exact H)
              (try rw [hji7] at A4)
              have hji7w : (IntKind.i64.wrap (x3_1 - 1)) = ji7 := (i64_w _).trans hji7; by_cases c8 : 0 ≤ (ji7)
              · rw [if_pos c8] at H
                have c8b0 : decide (0 ≤ (ji7)) = true := zFq c8; clear c8; by_cases c9 : (ji7) < (l0.length : Int)
                · rw [if_pos c9] at H
                  have c9b0 : decide ((ji7) < (l0.length : Int)) = true := zFq c9; clear c9; by_cases c10 : ((Op.bytesLess ((rdOf ByteArray.empty l0 (ji7)).toList) ((rdOf ByteArray.empty l0 x3_1).toList)) = true)
                  · rw [if_pos c10] at H
                    have c10b0 : (Op.bytesLess ((rdOf ByteArray.empty l0 (ji7)).toList) ((rdOf ByteArray.empty l0 x3_1).toList)) = true := c10; clear c10; have H' := zA H; clear H; have p101 : 0 ≤ (x3_1 : Int) := of_decide_eq_true qA; have q101 : x3_1 < (l0.length : Int) := of_decide_eq_true qA; obtain ⟨ad101, e101, hx101_0⟩ := Kd.at_string HR0.out x3_1 p101 q101; cases e101
                    replace hx101_0 := (HB.out.cell (zCq w _ hx101_0)).trans hx101_0; replace p101 := eq_true p101; replace q101 := eq_true q101; go_wp2_with (first | (go_at_call 143; (with_reducible refine (backhaulref01_Check.calls k1 (rdOf ByteArray.empty l0 x3_1) t102 _ A4.out).mono ?_); rintro e w11 ⟨rfl, hb⟩; have n0_ := zA (zV qB hb); clear HB; have HB := n0_; clear n0_; (try clear hb); have p103 : 0 ≤ (x3_1 : Int) := of_decide_eq_true qA; have q103 : x3_1 < (l0.length : Int) := of_decide_eq_true qA; obtain ⟨ad103, e103, hx103_0⟩ := Kd.at_string HR0.out x3_1 p103 q103; obtain rfl : ad101 = ad103 := (by injection e103); replace hx103_0 := (HB.out.cell (zCq w _ hx103_0)).trans hx103_0; replace p103 := eq_true p103; replace q103 := eq_true q103; have p104 : 0 ≤ ((ji7) : Int) := of_decide_eq_true qA; have q104 : (ji7) < (l0.length : Int) := of_decide_eq_true qA; obtain ⟨ad104, e104, hx104_0⟩ := Kd.at_string HR0.out (ji7) p104 q104; obtain rfl : ad101 = ad104 := (by injection e104); replace hx104_0 := (HB.out.cell (zCq w _ hx104_0)).trans hx104_0; replace p104 := eq_true p104; replace q104 := eq_true q104)); repeat (go_quiet (first | (go_at_call 143; (with_reducible refine (backhaulref01_Check.calls k1 (rdOf ByteArray.empty l0 x3_1) t102 _ A4.out).mono ?_); rintro e w11 ⟨rfl, hb⟩; have n0_ := zA (zV qB hb); clear HB; have HB := n0_; clear n0_; (try clear hb); have p103 : 0 ≤ (x3_1 : Int) := of_decide_eq_true qA; have q103 : x3_1 < (l0.length : Int) := of_decide_eq_true qA; obtain ⟨ad103, e103, hx103_0⟩ := Kd.at_string HR0.out x3_1 p103 q103; obtain rfl : ad101 = ad103 := (by injection e103); replace hx103_0 := (HB.out.cell (zCq w _ hx103_0)).trans hx103_0; replace p103 := eq_true p103; replace q103 := eq_true q103; have p104 : 0 ≤ ((ji7) : Int) := of_decide_eq_true qA; have q104 : (ji7) < (l0.length : Int) := of_decide_eq_true qA; obtain ⟨ad104, e104, hx104_0⟩ := Kd.at_string HR0.out (ji7) p104 q104; obtain rfl : ad101 = ad104 := (by injection e104); replace hx104_0 := (HB.out.cell (zCq w _ hx104_0)).trans hx104_0; replace p104 := eq_true p104; replace q104 := eq_true q104)); try go_wp2_with (first | (go_at_call 143; (with_reducible refine (backhaulref01_Check.calls k1 (rdOf ByteArray.empty l0 x3_1) t102 _ A4.out).mono ?_); rintro e w11 ⟨rfl, hb⟩; have n0_ := zA (zV qB hb); clear HB; have HB := n0_; clear n0_; (try clear hb); have p103 : 0 ≤ (x3_1 : Int) := of_decide_eq_true qA; have q103 : x3_1 < (l0.length : Int) := of_decide_eq_true qA; obtain ⟨ad103, e103, hx103_0⟩ := Kd.at_string HR0.out x3_1 p103 q103; obtain rfl : ad101 = ad103 := (by injection e103); replace hx103_0 := (HB.out.cell (zCq w _ hx103_0)).trans hx103_0; replace p103 := eq_true p103; replace q103 := eq_true q103; have p104 : 0 ≤ ((ji7) : Int) := of_decide_eq_true qA; have q104 : (ji7) < (l0.length : Int) := of_decide_eq_true qA; obtain ⟨ad104, e104, hx104_0⟩ := Kd.at_string HR0.out (ji7) p104 q104; obtain rfl : ad101 = ad104 := (by injection e104); replace hx104_0 := (HB.out.cell (zCq w _ hx104_0)).trans hx104_0; replace p104 := eq_true p104; replace q104 := eq_true q104)))
                    go_roundg k1
                    case measure => have := HK1.out; omega
                    case rel => exact ⟨(wrap64 (x3_1 + 1)), (by first | rfl | (simp; done) | (simp [*]; done)), H', ⟨by have := HK1.out; omega⟩, ⟨qB⟩⟩
                  rw [if_neg c10] at H; have c10b0 : (Op.bytesLess ((rdOf ByteArray.empty l0 (ji7)).toList) ((rdOf ByteArray.empty l0 x3_1).toList)) = false := by simpa using c10
                  clear c10; obtain rfl := zKq H; have p101 : 0 ≤ (x3_1 : Int) := of_decide_eq_true qA; have q101 : x3_1 < (l0.length : Int) := of_decide_eq_true qA; obtain ⟨ad101, e101, hx101_0⟩ := Kd.at_string HR0.out x3_1 p101 q101; cases e101
                  replace hx101_0 := (HB.out.cell (zCq w _ hx101_0)).trans hx101_0; replace p101 := eq_true p101; replace q101 := eq_true q101; go_wp2_with (first | (go_at_call 143; (with_reducible refine (backhaulref01_Check.calls k1 (rdOf ByteArray.empty l0 x3_1) t102 _ A4.out).mono ?_); rintro e w12 ⟨rfl, hb⟩; have n0_ := zA (zV qB hb); clear HB; have HB := n0_; clear n0_; (try clear hb); have p103 : 0 ≤ (x3_1 : Int) := of_decide_eq_true qA; have q103 : x3_1 < (l0.length : Int) := of_decide_eq_true qA; obtain ⟨ad103, e103, hx103_0⟩ := Kd.at_string HR0.out x3_1 p103 q103; obtain rfl : ad101 = ad103 := (by injection e103); replace hx103_0 := (HB.out.cell (zCq w _ hx103_0)).trans hx103_0; replace p103 := eq_true p103; replace q103 := eq_true q103; have p104 : 0 ≤ ((ji7) : Int) := of_decide_eq_true qA; have q104 : (ji7) < (l0.length : Int) := of_decide_eq_true qA; obtain ⟨ad104, e104, hx104_0⟩ := Kd.at_string HR0.out (ji7) p104 q104; obtain rfl : ad101 = ad104 := (by injection e104); replace hx104_0 := (HB.out.cell (zCq w _ hx104_0)).trans hx104_0; replace p104 := eq_true p104; replace q104 := eq_true q104)); repeat (go_quiet (first | (go_at_call 143; (with_reducible refine (backhaulref01_Check.calls k1 (rdOf ByteArray.empty l0 x3_1) t102 _ A4.out).mono ?_); rintro e w12 ⟨rfl, hb⟩; have n0_ := zA (zV qB hb); clear HB; have HB := n0_; clear n0_; (try clear hb); have p103 : 0 ≤ (x3_1 : Int) := of_decide_eq_true qA; have q103 : x3_1 < (l0.length : Int) := of_decide_eq_true qA; obtain ⟨ad103, e103, hx103_0⟩ := Kd.at_string HR0.out x3_1 p103 q103; obtain rfl : ad101 = ad103 := (by injection e103); replace hx103_0 := (HB.out.cell (zCq w _ hx103_0)).trans hx103_0; replace p103 := eq_true p103; replace q103 := eq_true q103; have p104 : 0 ≤ ((ji7) : Int) := of_decide_eq_true qA; have q104 : (ji7) < (l0.length : Int) := of_decide_eq_true qA; obtain ⟨ad104, e104, hx104_0⟩ := Kd.at_string HR0.out (ji7) p104 q104; obtain rfl : ad101 = ad104 := (by injection e104); replace hx104_0 := (HB.out.cell (zCq w _ hx104_0)).trans hx104_0; replace p104 := eq_true p104; replace q104 := eq_true q104)); try go_wp2_with (first | (go_at_call 143; (with_reducible refine (backhaulref01_Check.calls k1 (rdOf ByteArray.empty l0 x3_1) t102 _ A4.out).mono ?_); rintro e w12 ⟨rfl, hb⟩; have n0_ := zA (zV qB hb); clear HB; have HB := n0_; clear n0_; (try clear hb); have p103 : 0 ≤ (x3_1 : Int) := of_decide_eq_true qA; have q103 : x3_1 < (l0.length : Int) := of_decide_eq_true qA; obtain ⟨ad103, e103, hx103_0⟩ := Kd.at_string HR0.out x3_1 p103 q103; obtain rfl : ad101 = ad103 := (by injection e103); replace hx103_0 := (HB.out.cell (zCq w _ hx103_0)).trans hx103_0; replace p103 := eq_true p103; replace q103 := eq_true q103; have p104 : 0 ≤ ((ji7) : Int) := of_decide_eq_true qA; have q104 : (ji7) < (l0.length : Int) := of_decide_eq_true qA; obtain ⟨ad104, e104, hx104_0⟩ := Kd.at_string HR0.out (ji7) p104 q104; obtain rfl : ad101 = ad104 := (by injection e104); replace hx104_0 := (HB.out.cell (zCq w _ hx104_0)).trans hx104_0; replace p104 := eq_true p104; replace q104 := eq_true q104)))
                  go_ret; exact ⟨by first | rfl | (simp [errW_none, errW_some] <;> rfl) | (simp only [← hji7]; first | rfl | (simp [errW_none, errW_some] <;> rfl)) | (simp [*, errW_none, errW_some] <;> rfl), qB⟩
                rw [if_neg c9] at H; exact absurd H (by simp)
              rw [if_neg c8] at H; exact absurd H (by simp)
            rw [if_neg c6] at H; have c6b0 : decide (0 < x3_1) = false := zGq c6; clear c6; have H' := zA H; clear H; have p101 : 0 ≤ (x3_1 : Int) := of_decide_eq_true qA; have q101 : x3_1 < (l0.length : Int) := of_decide_eq_true qA; obtain ⟨ad101, e101, hx101_0⟩ := Kd.at_string HR0.out x3_1 p101 q101; cases e101
            replace hx101_0 := (HB.out.cell (zCq w _ hx101_0)).trans hx101_0; replace p101 := eq_true p101; replace q101 := eq_true q101; go_wp2_with (first | (go_at_call 143; (with_reducible refine (backhaulref01_Check.calls k1 (rdOf ByteArray.empty l0 x3_1) t102 _ A4.out).mono ?_); rintro e w13 ⟨rfl, hb⟩; have n0_ := zA (zV qB hb); clear HB; have HB := n0_; clear n0_; (try clear hb))); repeat (go_quiet (first | (go_at_call 143; (with_reducible refine (backhaulref01_Check.calls k1 (rdOf ByteArray.empty l0 x3_1) t102 _ A4.out).mono ?_); rintro e w13 ⟨rfl, hb⟩; have n0_ := zA (zV qB hb); clear HB; have HB := n0_; clear n0_; (try clear hb))); try go_wp2_with (first | (go_at_call 143; (with_reducible refine (backhaulref01_Check.calls k1 (rdOf ByteArray.empty l0 x3_1) t102 _ A4.out).mono ?_); rintro e w13 ⟨rfl, hb⟩; have n0_ := zA (zV qB hb); clear HB; have HB := n0_; clear n0_; (try clear hb))))
            go_roundg k1
            case measure => have := HK1.out; omega
            case rel => exact ⟨(wrap64 (x3_1 + 1)), (by first | rfl | (simp; done) | (simp [*]; done)), H', ⟨by have := HK1.out; omega⟩, ⟨qB⟩⟩
          rw [if_neg c5] at H; have c5b0 : (t102 == 0) = false := beq_eq_false_iff_ne.mpr c5; have c5b1 : (t102 != 0) = true := bne_iff_ne.mpr c5; obtain rfl := zKq H; have p101 : 0 ≤ (x3_1 : Int) := of_decide_eq_true qA; have q101 : x3_1 < (l0.length : Int) := of_decide_eq_true qA; obtain ⟨ad101, e101, hx101_0⟩ := Kd.at_string HR0.out x3_1 p101 q101; cases e101
          replace hx101_0 := (HB.out.cell (zCq w _ hx101_0)).trans hx101_0; replace p101 := eq_true p101; replace q101 := eq_true q101; go_wp2_with (first | (go_at_call 143; (with_reducible refine (backhaulref01_Check.calls k1 (rdOf ByteArray.empty l0 x3_1) t102 _ A4.out).mono ?_); rintro e w14 ⟨rfl, hb⟩; have n0_ := zA (zV qB hb); clear HB; have HB := n0_; clear n0_; (try clear hb))); repeat (go_quiet (first | (go_at_call 143; (with_reducible refine (backhaulref01_Check.calls k1 (rdOf ByteArray.empty l0 x3_1) t102 _ A4.out).mono ?_); rintro e w14 ⟨rfl, hb⟩; have n0_ := zA (zV qB hb); clear HB; have HB := n0_; clear n0_; (try clear hb))); try go_wp2_with (first | (go_at_call 143; (with_reducible refine (backhaulref01_Check.calls k1 (rdOf ByteArray.empty l0 x3_1) t102 _ A4.out).mono ?_); rintro e w14 ⟨rfl, hb⟩; have n0_ := zA (zV qB hb); clear HB; have HB := n0_; clear n0_; (try clear hb))))
          go_ret; exact ⟨qE, qB⟩
        rw [if_neg c3] at H; exact absurd H (by simp)
      rw [if_neg c2] at H; have c2b0 : decide (x3_1 < (l0.length : Int)) = false := zGq c2; clear c2; obtain rfl := zKq H; go_wp2; repeat (go_quiet (fail); try go_wp2)
      go_ret; exact ⟨qE, qB⟩
mutual
def backhaulref21_Check.j0 : Nat → Bool → Int → Int → Int → Int → List ByteArray → Option (Int)
  | 0, _, _, _, _, _, _ => none
  | k + 1, x10, x102000, x102001, x102002, x102003, x102004 => if x10 = true then (some 2) else (if x102001 < 0 then (backhaulref21_Check.j1 k true x102000 x102001 x102002 x102003 x102004) else (if x102001 > 1000000000000 then (backhaulref21_Check.j1 k true x102000 x102001 x102002 x102003 x102004) else (if x102002 < 0 then (backhaulref21_Check.j1 k true x102000 x102001 x102002 x102003 x102004) else (if x102002 > x102001 then (backhaulref21_Check.j1 k true x102000 x102001 x102002 x102003 x102004) else (if x102003 < 0 then (backhaulref21_Check.j1 k true x102000 x102001 x102002 x102003 x102004) else (if x102003 > 1000000000000 then (backhaulref21_Check.j1 k true x102000 x102001 x102002 x102003 x102004) else (backhaulref21_Check.j1 k (decide ((wrap64 (x102002 + x102003)) > 1000000000000)) x102000 x102001 x102002 x102003 x102004)))))))
def backhaulref21_Check.j1 : Nat → Bool → Int → Int → Int → Int → List ByteArray → Option (Int)
  | 0, _, _, _, _, _, _ => none
  | k + 1, x48, x102000, x102001, x102002, x102003, x102004 => if x48 = true then (some 8) else (if (x102004.length : Int) < 1 then (some 9) else (if (x102004.length : Int) > 20 then (some 9) else ((backhaulref01_Row.f k x102004).bind fun t102 => (if t102 = 0 then (some 0) else (some 9)))))
end
def backhaulref21_Check.f (k : Nat) (a0_0 : Int) (a0_1 : Int) (a0_2 : Int) (a0_3 : Int) (l0_4 : List ByteArray) : Option (Int) := if a0_0 < 1 then (backhaulref21_Check.j0 k true a0_0 a0_1 a0_2 a0_3 l0_4) else (backhaulref21_Check.j0 k (decide (a0_0 > 999999)) a0_0 a0_1 a0_2 a0_3 l0_4)
theorem backhaulref21_Check.mono_l : ∀ k, (∀ y0 y1 y2 y3 y4 y5, LeO (backhaulref21_Check.j0 k y0 y1 y2 y3 y4 y5) (backhaulref21_Check.j0 (k + 1) y0 y1 y2 y3 y4 y5)) ∧ (∀ y0 y1 y2 y3 y4 y5, LeO (backhaulref21_Check.j1 k y0 y1 y2 y3 y4 y5) (backhaulref21_Check.j1 (k + 1) y0 y1 y2 y3 y4 y5))
  | 0 => ⟨fun _ _ _ _ _ _ r h => by simp [backhaulref21_Check.j0] at h, fun _ _ _ _ _ _ r h => by simp [backhaulref21_Check.j1] at h⟩
  | k + 1 => by
    obtain ⟨ih0, ih1⟩ := backhaulref21_Check.mono_l k
    refine ⟨?_, ?_⟩
    · intro y0 y1 y2 y3 y4 y5
      unfold backhaulref21_Check.j0
      repeat' (with_reducible first | exact ih0 _ _ _ _ _ _ | exact ih1 _ _ _ _ _ _ | exact backhaulref01_Row.mono _ _ | exact LeO.refl _ | exact LeO.none _ | refine LeO.ite ?_ ?_ | refine LeO.bind ?_ (fun _ => ?_))
    intro y0 y1 y2 y3 y4 y5
    unfold backhaulref21_Check.j1
    repeat' (with_reducible first | exact ih0 _ _ _ _ _ _ | exact ih1 _ _ _ _ _ _ | exact backhaulref01_Row.mono _ _ | exact LeO.refl _ | exact LeO.none _ | refine LeO.ite ?_ ?_ | refine LeO.bind ?_ (fun _ => ?_))
theorem backhaulref21_Check.mono : ∀ a0 a1 a2 a3 a4 k, LeO (backhaulref21_Check.f k a0 a1 a2 a3 a4) (backhaulref21_Check.f (k + 1) a0 a1 a2 a3 a4) := by
  intro a0 a1 a2 a3 a4 k
  obtain ⟨ih0, ih1⟩ := backhaulref21_Check.mono_l k
  unfold backhaulref21_Check.f
  repeat' (with_reducible first | exact ih0 _ _ _ _ _ _ | exact ih1 _ _ _ _ _ _ | exact backhaulref01_Row.mono _ _ | exact LeO.refl _ | exact LeO.none _ | refine LeO.ite ?_ ?_ | refine LeO.bind ?_ (fun _ => ?_))
set_option maxHeartbeats 8000000 in
set_option maxRecDepth 100000 in
theorem backhaulref21_Check.calls (k : Nat) (a0_0 : Int) (a0_1 : Int) (a0_2 : Int) (a0_3 : Int) (A0_4 : Option Addr) (c0_4 : Nat) (l0_4 : List ByteArray) (r : Int) (w : World) (hr0_4 : Kd.C Kd.string w A0_4 l0_4.length l0_4) (hc0_4 : l0_4.length ≤ c0_4) (h : backhaulref21_Check.f k a0_0 a0_1 a0_2 a0_3 l0_4 = some r) :
    Calls Try.prog 70 #[.agg #[.int .i64 a0_0, .int .i64 a0_1, .int .i64 a0_2, .int .i64 a0_3, .slice A0_4 l0_4.length c0_4]] w fun e w' => e = .returned (.int .i64 r) ∧ Below w.heap.size w w' := by
  have hu71 := Try.underlying71
  have HR0_4 := zA hr0_4
  have HC0_4 := zA hc0_4
  clear hr0_4 hc0_4
  have HB := zA (Below.refl w.heap.size w)
  have H : (if a0_0 < 1 then (backhaulref21_Check.j0 k true a0_0 a0_1 a0_2 a0_3 l0_4) else (backhaulref21_Check.j0 k (decide (a0_0 > 999999)) a0_0 a0_1 a0_2 a0_3 l0_4)) = some r := h
  clear h
  have HC2 := zA H
  clear H
  go_enter Try.func70, Try.ntmps70
  go_upto_region 1 with (first | ((with_reducible refine gate_dst (N := 1) rfl ?_); (try (refine gate_guard (by rfl) ?_; dsimp only)); refine box_event qr (N := 1) qr (cs := #[.int .i64 a0_0, .int .i64 a0_1, .int .i64 a0_2, .int .i64 a0_3, .slice A0_4 l0_4.length c0_4]) (t := 71) qg ?_; intro gb101 hg w3 hbox hb; have n0_ := zA (zV qB hb); have n1_ := zA (hbox); have n2_ := zA ((qS : w.heap.size ≤ gb101)); have n3_ := zA ((qS : w.heap.size ≤ gb101)); clear HB; have HB := n0_; have BK101 := n1_; have GW101 := n2_; have GE101 := n3_; clear n0_ n1_ n2_ n3_ hb hbox hg))
  (try simp only [Act.put, zH, zI, zJ])
  go_cut [10] (fun v10 wc => ∃ (kq : Nat) (x10_1 : Bool), v10 = .bool x10_1 ∧ Aside0 (backhaulref21_Check.j0 kq x10_1 a0_0 a0_1 a0_2 a0_3 l0_4 = some r) ∧ Aside0 (kq ≤ k) ∧ Aside0 (wc.heap[gb101]? = some (.cells #[.int .i64 a0_0, .int .i64 a0_1, .int .i64 a0_2, .int .i64 a0_3, (.slice A0_4 l0_4.length c0_4)] 71 (0, 0))) ∧ Aside0 (Below w.heap.size w wc))
  case first =>
    have H := HC2.out; clear HC2; by_cases c4 : a0_0 < 1
    · rw [if_pos c4] at H
      have c4b0 : decide (a0_0 < 1) = true := zFq c4; clear c4; (first | rw [c4b0] | (simp only [i64_w, i32_w]; rw [c4b0]) | skip)
      have H' := zA H; clear H; obtain ⟨_, _, _, _, _, _, _, _, _, _⟩ := qc5f BK101.out; go_wp2; go_meet
      case rel => exact ⟨_, (true), (by first | rfl | (simp; done) | (simp [*]; done)), H', ⟨by first | omega | exact Nat.le_refl _⟩, ⟨by exact BK101.out⟩, ⟨qB⟩⟩
    rw [if_neg c4] at H; have c4b0 : decide (a0_0 < 1) = false := zGq c4; clear c4; (first | rw [c4b0] | (simp only [i64_w, i32_w]; rw [c4b0]) | skip)
    have H' := zA H; clear H; obtain ⟨_, _, _, _, _, _, _, _, _, _⟩ := qc5f BK101.out; go_wp2; go_meet
    case rel => exact ⟨_, (decide (a0_0 > 999999)), (by first | rfl | (simp; done) | (simp [*]; done)), H', ⟨by first | omega | exact Nat.le_refl _⟩, ⟨by exact BK101.out⟩, ⟨qB⟩⟩
  case rest =>
    clear HC2; try clear p2
    try clear c4
    try clear c4b0
    obtain ⟨kq, x10_1, rfl, HA, HJ1, BK101, HB⟩ := hcut; cases kq with
    | zero => exact absurd HA.out (by simp [backhaulref21_Check.j0])
    | succ kj1 =>
      have H := HA.out; clear HA; simp only [backhaulref21_Check.j0] at H; by_cases c7 : x10_1 = true
      · subst c7
        have H1 : (some 2) = some r := by first | (rw [if_pos rfl] at H; exact H) | rfl
        clear H; have H := H1; clear H1; obtain rfl := zKq H; go_wp2; go_ret; exact ⟨qE, qB⟩
      replace c7 := Bool.eq_false_iff.mpr c7; subst c7; have H1 : (if a0_1 < 0 then (backhaulref21_Check.j1 kj1 true a0_0 a0_1 a0_2 a0_3 l0_4) else (if a0_1 > 1000000000000 then (backhaulref21_Check.j1 kj1 true a0_0 a0_1 a0_2 a0_3 l0_4) else (if a0_2 < 0 then (backhaulref21_Check.j1 kj1 true a0_0 a0_1 a0_2 a0_3 l0_4) else (if a0_2 > a0_1 then (backhaulref21_Check.j1 kj1 true a0_0 a0_1 a0_2 a0_3 l0_4) else (if a0_3 < 0 then (backhaulref21_Check.j1 kj1 true a0_0 a0_1 a0_2 a0_3 l0_4) else (if a0_3 > 1000000000000 then (backhaulref21_Check.j1 kj1 true a0_0 a0_1 a0_2 a0_3 l0_4) else (backhaulref21_Check.j1 kj1 (decide ((wrap64 (a0_2 + a0_3)) > 1000000000000)) a0_0 a0_1 a0_2 a0_3 l0_4))))))) = some r := by first | (rw [if_neg (show ¬ (false = true) by decide)] at H; exact H) | rfl
      clear H; have H := H1; clear H1; have HC8 := zA H; clear H; go_upto_region 3 with (fail)
      go_cut [48] (fun v48 wc => ∃ (kq : Nat) (x48_7 : Bool), v48 = .bool x48_7 ∧ Aside0 (backhaulref21_Check.j1 kq x48_7 a0_0 a0_1 a0_2 a0_3 l0_4 = some r) ∧ Aside0 (kq ≤ kj1) ∧ Aside0 (wc.heap[gb101]? = some (.cells #[.int .i64 a0_0, .int .i64 a0_1, .int .i64 a0_2, .int .i64 a0_3, (.slice A0_4 l0_4.length c0_4)] 71 (0, 0))) ∧ Aside0 (Below w.heap.size w wc))
      case first =>
        have H := HC8.out; clear HC8; by_cases c9 : a0_1 < 0
        · rw [if_pos c9] at H
          have c9b0 : decide (a0_1 < 0) = true := zFq c9; clear c9; (first | rw [c9b0] | (simp only [i64_w, i32_w]; rw [c9b0]) | skip)
          have H' := zA H; clear H; obtain ⟨_, _, _, _, _, _, _, _, _, _⟩ := qc5f BK101.out; go_wp2; go_meet
          case rel => exact ⟨_, (true), (by first | rfl | (simp; done) | (simp [*]; done)), H', ⟨by have := HJ1.out; first | omega | exact Nat.le_refl _⟩, ⟨by exact BK101.out⟩, ⟨qB⟩⟩
        rw [if_neg c9] at H; have c9b0 : decide (a0_1 < 0) = false := zGq c9; clear c9; (first | rw [c9b0] | (simp only [i64_w, i32_w]; rw [c9b0]) | skip)
        by_cases c11 : a0_1 > 1000000000000
        · rw [if_pos c11] at H
          have c11b0 : decide (1000000000000 < a0_1) = true := zFq c11; clear c11; have H' := zA H; clear H; obtain ⟨_, _, _, _, _, _, _, _, _, _⟩ := qc5f BK101.out; go_wp2; go_meet
          case rel => exact ⟨_, (true), (by first | rfl | (simp; done) | (simp [*]; done)), H', ⟨by have := HJ1.out; first | omega | exact Nat.le_refl _⟩, ⟨by exact BK101.out⟩, ⟨qB⟩⟩
        rw [if_neg c11] at H; have c11b0 : decide (1000000000000 < a0_1) = false := zGq c11; clear c11; by_cases c13 : a0_2 < 0
        · rw [if_pos c13] at H
          have c13b0 : decide (a0_2 < 0) = true := zFq c13; clear c13; have H' := zA H; clear H; obtain ⟨_, _, _, _, _, _, _, _, _, _⟩ := qc5f BK101.out; go_wp2; go_meet
          case rel => exact ⟨_, (true), (by first | rfl | (simp; done) | (simp [*]; done)), H', ⟨by have := HJ1.out; first | omega | exact Nat.le_refl _⟩, ⟨by exact BK101.out⟩, ⟨qB⟩⟩
        rw [if_neg c13] at H; have c13b0 : decide (a0_2 < 0) = false := zGq c13; clear c13; by_cases c15 : a0_2 > a0_1
        · rw [if_pos c15] at H
          have c15b0 : decide (a0_1 < a0_2) = true := zFq c15; clear c15; have H' := zA H; clear H; obtain ⟨_, _, _, _, _, _, _, _, _, _⟩ := qc5f BK101.out; go_wp2; go_meet
          case rel => exact ⟨_, (true), (by first | rfl | (simp; done) | (simp [*]; done)), H', ⟨by have := HJ1.out; first | omega | exact Nat.le_refl _⟩, ⟨by exact BK101.out⟩, ⟨qB⟩⟩
        rw [if_neg c15] at H; have c15b0 : decide (a0_1 < a0_2) = false := zGq c15; clear c15; by_cases c17 : a0_3 < 0
        · rw [if_pos c17] at H
          have c17b0 : decide (a0_3 < 0) = true := zFq c17; clear c17; have H' := zA H; clear H; obtain ⟨_, _, _, _, _, _, _, _, _, _⟩ := qc5f BK101.out; go_wp2; go_meet
          case rel => exact ⟨_, (true), (by first | rfl | (simp; done) | (simp [*]; done)), H', ⟨by have := HJ1.out; first | omega | exact Nat.le_refl _⟩, ⟨by exact BK101.out⟩, ⟨qB⟩⟩
        rw [if_neg c17] at H; have c17b0 : decide (a0_3 < 0) = false := zGq c17; clear c17; by_cases c19 : a0_3 > 1000000000000
        · rw [if_pos c19] at H
          have c19b0 : decide (1000000000000 < a0_3) = true := zFq c19; clear c19; have H' := zA H; clear H; obtain ⟨_, _, _, _, _, _, _, _, _, _⟩ := qc5f BK101.out; go_wp2; go_meet
          case rel => exact ⟨_, (true), (by first | rfl | (simp; done) | (simp [*]; done)), H', ⟨by have := HJ1.out; first | omega | exact Nat.le_refl _⟩, ⟨by exact BK101.out⟩, ⟨qB⟩⟩
        rw [if_neg c19] at H; have c19b0 : decide (1000000000000 < a0_3) = false := zGq c19; clear c19; have H' := zA H; clear H; obtain ⟨_, _, _, _, _, _, _, _, _, _⟩ := qc5f BK101.out; go_wp2; go_meet
        case rel => exact ⟨_, (decide ((wrap64 (a0_2 + a0_3)) > 1000000000000)), (by first | rfl | (simp; done) | (simp [*]; done)), H', ⟨by have := HJ1.out; first | omega | exact Nat.le_refl _⟩, ⟨by exact BK101.out⟩, ⟨qB⟩⟩
      case rest =>
        clear HC8; try clear c1
        try clear p2
        try clear c4
        try clear c4b0
        try clear p6
        try clear c7
        try clear c9
        try clear c9b0
        try clear c11
        try clear c11b0
        try clear c13
        try clear c13b0
        try clear c15
        try clear c15b0
        try clear c17
        try clear c17b0
        try clear c19
        try clear c19b0
        try clear p2
        obtain ⟨kq, x48_7, rfl, HA, HJ7, BK101, HB⟩ := hcut; cases kq with
        | zero => exact absurd HA.out (by simp [backhaulref21_Check.j1])
        | succ kj7 =>
          have H := HA.out; clear HA; simp only [backhaulref21_Check.j1] at H; by_cases c22 : x48_7 = true
          · subst c22
            have H1 : (some 8) = some r := by first | (rw [if_pos rfl] at H; exact H) | rfl
            clear H; have H := H1; clear H1; obtain rfl := zKq H; go_wp2; go_ret; exact ⟨qE, qB⟩
          replace c22 := Bool.eq_false_iff.mpr c22; subst c22; have H1 : (if (l0_4.length : Int) < 1 then (some 9) else (if (l0_4.length : Int) > 20 then (some 9) else ((backhaulref01_Row.f kj7 l0_4).bind fun t102 => (if t102 = 0 then (some 0) else (some 9))))) = some r := by first | (rw [if_neg (show ¬ (false = true) by decide)] at H; exact H) | rfl
          clear H; have H := H1; clear H1; by_cases c23 : (l0_4.length : Int) < 1
          · rw [if_pos c23] at H
            have c23b0 : decide ((l0_4.length : Int) < 1) = true := zFq c23; have c23b1 : decide (l0_4.length < 1) = true := zFq (by omega); clear c23; obtain rfl := zKq H; obtain ⟨_, _, _, _, _, _, _, _, _, _⟩ := qc5f BK101.out; go_wp2; go_ret; exact ⟨qE, qB⟩
          rw [if_neg c23] at H; have c23b0 : decide ((l0_4.length : Int) < 1) = false := zGq c23; have c23b1 : decide (l0_4.length < 1) = false := zGq (by omega); clear c23; by_cases c25 : (l0_4.length : Int) > 20
          · rw [if_pos c25] at H
            have c25b0 : decide (20 < (l0_4.length : Int)) = true := zFq c25; have c25b1 : decide (20 < l0_4.length) = true := zFq (by omega); clear c25; obtain rfl := zKq H; obtain ⟨_, _, _, _, _, _, _, _, _, _⟩ := qc5f BK101.out; go_wp2; go_ret; exact ⟨qE, qB⟩
          rw [if_neg c25] at H; have c25b0 : decide (20 < (l0_4.length : Int)) = false := zGq c25; have c25b1 : decide (20 < l0_4.length) = false := zGq (by omega); clear c25; replace H := Option.bind_eq_some_iff.mp H; obtain ⟨t102, A270, H⟩ := H; try dsimp only at H
          have A27 := zA A270; clear A270; by_cases c28 : t102 = 0
          · rw [if_pos c28] at H
            have c28b0 : (t102 == 0) = true := beq_iff_eq.mpr c28; have c28b1 : (t102 != 0) = false := bne_eq_false_iff_eq.mpr c28; clear c28; obtain rfl := zKq H; obtain ⟨_, _, _, _, _, _, _, _, _, _⟩ := qc5f BK101.out; go_wp2_with (first | (go_at_call 120; (with_reducible refine (backhaulref01_Row.calls kj7 _ _ l0_4 t102 _ ?side1 ?side2 A27.out).mono ?_); (case side1 => exact qC (Kd.C_below HR0_4.out HB.out)); (case side2 => exact HC0_4.out); rintro e w30 ⟨rfl, hb⟩; have n0_ := zA (qX BK101.out hb); have n1_ := zA (zV qB hb); clear BK101 HB; have BK101 := n0_; have HB := n1_; clear n0_ n1_; (try clear hb))); go_ret; exact ⟨qE, qB⟩
          rw [if_neg c28] at H; have c28b0 : (t102 == 0) = false := beq_eq_false_iff_ne.mpr c28; have c28b1 : (t102 != 0) = true := bne_iff_ne.mpr c28; obtain rfl := zKq H; obtain ⟨_, _, _, _, _, _, _, _, _, _⟩ := qc5f BK101.out; go_wp2_with (first | (go_at_call 120; (with_reducible refine (backhaulref01_Row.calls kj7 _ _ l0_4 t102 _ ?side1 ?side2 A27.out).mono ?_); (case side1 => exact qC (Kd.C_below HR0_4.out HB.out)); (case side2 => exact HC0_4.out); rintro e w32 ⟨rfl, hb⟩; have n0_ := zA (qX BK101.out hb); have n1_ := zA (zV qB hb); clear BK101 HB; have BK101 := n0_; have HB := n1_; clear n0_ n1_; (try clear hb))); go_ret; exact ⟨qE, qB⟩
mutual
def backhaulref26_Check.j0 : Nat → Bool → Int → Int → List (S71) → Option (Int)
  | 0, _, _, _, _ => none
  | k + 1, x33, x102000, x102001, x102002 => if x33 = true then (some 40) else (backhaulref26_Check.l0 k 0 x102000 x102001 x102002)
def backhaulref26_Check.l0 : Nat → Int → Int → Int → List (S71) → Option (Int)
  | 0, _, _, _, _ => none
  | k + 1, x3, x102000, x102001, x102002 => if x3 < (x102002.length : Int) then (if 0 ≤ x3 then ((backhaulref21_Check.f k ((rd_T71 x102002 x3).f0) ((rd_T71 x102002 x3).f1) ((rd_T71 x102002 x3).f2) ((rd_T71 x102002 x3).f3) ((rd_T71 x102002 x3).f4)).bind fun t103 => (if t103 = 0 then (backhaulref26_Check.l0 k (wrap64 (x3 + 1)) x102000 x102001 x102002) else (some 40))) else (none)) else ((backhaulref26_cost.f k x102002).bind fun t104 => (if t104 < 0 then (some 40) else ((backhaulref26_all.f k x102002).bind fun t105 => ((backhaulref26_twice.f k t105).bind fun t108 => (if t108 = true then (some 40) else (some 0))))))
end
def backhaulref26_Check.f (k : Nat) (a0_0 : Int) (a0_1 : Int) (l0_2 : List (S71)) : Option (Int) := if a0_0 < 1 then (backhaulref26_Check.j0 k true a0_0 a0_1 l0_2) else (if a0_0 > 999999 then (backhaulref26_Check.j0 k true a0_0 a0_1 l0_2) else (if a0_1 < 0 then (backhaulref26_Check.j0 k true a0_0 a0_1 l0_2) else (if a0_1 > 1000000 then (backhaulref26_Check.j0 k true a0_0 a0_1 l0_2) else (if (l0_2.length : Int) = 0 then (backhaulref26_Check.j0 k true a0_0 a0_1 l0_2) else (backhaulref26_Check.j0 k (decide ((l0_2.length : Int) > 8)) a0_0 a0_1 l0_2)))))
theorem backhaulref26_Check.mono_l : ∀ k, (∀ y0 y1 y2 y3, LeO (backhaulref26_Check.j0 k y0 y1 y2 y3) (backhaulref26_Check.j0 (k + 1) y0 y1 y2 y3)) ∧ (∀ y0 y1 y2 y3, LeO (backhaulref26_Check.l0 k y0 y1 y2 y3) (backhaulref26_Check.l0 (k + 1) y0 y1 y2 y3))
  | 0 => ⟨fun _ _ _ _ r h => by simp [backhaulref26_Check.j0] at h, fun _ _ _ _ r h => by simp [backhaulref26_Check.l0] at h⟩
  | k + 1 => by
    obtain ⟨ih0, ih1⟩ := backhaulref26_Check.mono_l k
    refine ⟨?_, ?_⟩
    · intro y0 y1 y2 y3
      unfold backhaulref26_Check.j0
      repeat' (with_reducible first | exact ih0 _ _ _ _ | exact ih1 _ _ _ _ | exact backhaulref21_Check.mono _ _ _ _ _ _ | exact backhaulref26_all.mono _ _ | exact backhaulref26_cost.mono _ _ | exact backhaulref26_twice.mono _ _ | exact LeO.refl _ | exact LeO.none _ | refine LeO.ite ?_ ?_ | refine LeO.bind ?_ (fun _ => ?_))
    intro y0 y1 y2 y3
    unfold backhaulref26_Check.l0
    repeat' (with_reducible first | exact ih0 _ _ _ _ | exact ih1 _ _ _ _ | exact backhaulref21_Check.mono _ _ _ _ _ _ | exact backhaulref26_all.mono _ _ | exact backhaulref26_cost.mono _ _ | exact backhaulref26_twice.mono _ _ | exact LeO.refl _ | exact LeO.none _ | refine LeO.ite ?_ ?_ | refine LeO.bind ?_ (fun _ => ?_))
theorem backhaulref26_Check.mono : ∀ a0 a1 a2 k, LeO (backhaulref26_Check.f k a0 a1 a2) (backhaulref26_Check.f (k + 1) a0 a1 a2) := by
  intro a0 a1 a2 k
  obtain ⟨ih0, ih1⟩ := backhaulref26_Check.mono_l k
  unfold backhaulref26_Check.f
  repeat' (with_reducible first | exact ih0 _ _ _ _ | exact ih1 _ _ _ _ | exact backhaulref21_Check.mono _ _ _ _ _ _ | exact backhaulref26_all.mono _ _ | exact backhaulref26_cost.mono _ _ | exact backhaulref26_twice.mono _ _ | exact LeO.refl _ | exact LeO.none _ | refine LeO.ite ?_ ?_ | refine LeO.bind ?_ (fun _ => ?_))
set_option maxHeartbeats 8000000 in
set_option maxRecDepth 100000 in
theorem backhaulref26_Check.calls (k : Nat) (a0_0 : Int) (a0_1 : Int) (A0_2 : Option Addr) (c0_2 : Nat) (l0_2 : List (S71)) (r : Int) (w : World) (hr0_2 : Kd.C k71 w A0_2 l0_2.length l0_2) (hc0_2 : l0_2.length ≤ c0_2) (h : backhaulref26_Check.f k a0_0 a0_1 l0_2 = some r) :
    Calls Try.prog 91 #[.agg #[.int .i64 a0_0, .int .i64 a0_1, .slice A0_2 l0_2.length c0_2]] w fun e w' => e = .returned (.int .i64 r) ∧ Below w.heap.size w w' := by
  have hu99 := Try.underlying99
  have hu71 := Try.underlying71
  have HR0_2 := zA hr0_2
  have HC0_2 := zA hc0_2
  clear hr0_2 hc0_2
  have HB := zA (Below.refl w.heap.size w)
  have H : (if a0_0 < 1 then (backhaulref26_Check.j0 k true a0_0 a0_1 l0_2) else (if a0_0 > 999999 then (backhaulref26_Check.j0 k true a0_0 a0_1 l0_2) else (if a0_1 < 0 then (backhaulref26_Check.j0 k true a0_0 a0_1 l0_2) else (if a0_1 > 1000000 then (backhaulref26_Check.j0 k true a0_0 a0_1 l0_2) else (if (l0_2.length : Int) = 0 then (backhaulref26_Check.j0 k true a0_0 a0_1 l0_2) else (backhaulref26_Check.j0 k (decide ((l0_2.length : Int) > 8)) a0_0 a0_1 l0_2)))))) = some r := h
  clear h
  have HC2 := zA H
  clear H
  go_enter Try.func91, Try.ntmps91
  go_upto_region 1 with (first | ((with_reducible refine gate_dst (N := 1) rfl ?_); (try (refine gate_guard (by rfl) ?_; dsimp only)); refine box_event qr (N := 1) qr (cs := #[.int .i64 a0_0, .int .i64 a0_1, .slice A0_2 l0_2.length c0_2]) (t := 99) qg ?_; intro gb101 hg w3 hbox hb; have n0_ := zA (zV qB hb); have n1_ := zA (hbox); have n2_ := zA ((qS : w.heap.size ≤ gb101)); have n3_ := zA ((qS : w.heap.size ≤ gb101)); clear HB; have HB := n0_; have BK101 := n1_; have GW101 := n2_; have GE101 := n3_; clear n0_ n1_ n2_ n3_ hb hbox hg))
  (try simp only [Act.put, zH, zI, zJ])
  go_cut [33] (fun v33 wc => ∃ (kq : Nat) (x33_1 : Bool), v33 = .bool x33_1 ∧ Aside0 (backhaulref26_Check.j0 kq x33_1 a0_0 a0_1 l0_2 = some r) ∧ Aside0 (kq ≤ k) ∧ Aside0 (wc.heap[gb101]? = some (.cells #[.int .i64 a0_0, .int .i64 a0_1, (.slice A0_2 l0_2.length c0_2)] 99 (0, 0))) ∧ Aside0 (Below w.heap.size w wc))
  case first =>
    have H := HC2.out; clear HC2; by_cases c4 : a0_0 < 1
    · rw [if_pos c4] at H
      have c4b0 : decide (a0_0 < 1) = true := zFq c4; clear c4; (first | rw [c4b0] | (simp only [i64_w, i32_w]; rw [c4b0]) | skip)
      have H' := zA H; clear H; obtain ⟨_, _, _, _, _, _⟩ := qc3f BK101.out; go_wp2; go_meet
      case rel => exact ⟨_, (true), (by first | rfl | (simp; done) | (simp [*]; done)), H', ⟨by first | omega | exact Nat.le_refl _⟩, ⟨by exact BK101.out⟩, ⟨qB⟩⟩
    rw [if_neg c4] at H; have c4b0 : decide (a0_0 < 1) = false := zGq c4; clear c4; (first | rw [c4b0] | (simp only [i64_w, i32_w]; rw [c4b0]) | skip)
    by_cases c6 : a0_0 > 999999
    · rw [if_pos c6] at H
      have c6b0 : decide (999999 < a0_0) = true := zFq c6; clear c6; have H' := zA H; clear H; obtain ⟨_, _, _, _, _, _⟩ := qc3f BK101.out; go_wp2; go_meet
      case rel => exact ⟨_, (true), (by first | rfl | (simp; done) | (simp [*]; done)), H', ⟨by first | omega | exact Nat.le_refl _⟩, ⟨by exact BK101.out⟩, ⟨qB⟩⟩
    rw [if_neg c6] at H; have c6b0 : decide (999999 < a0_0) = false := zGq c6; clear c6; by_cases c8 : a0_1 < 0
    · rw [if_pos c8] at H
      have c8b0 : decide (a0_1 < 0) = true := zFq c8; clear c8; have H' := zA H; clear H; obtain ⟨_, _, _, _, _, _⟩ := qc3f BK101.out; go_wp2; go_meet
      case rel => exact ⟨_, (true), (by first | rfl | (simp; done) | (simp [*]; done)), H', ⟨by first | omega | exact Nat.le_refl _⟩, ⟨by exact BK101.out⟩, ⟨qB⟩⟩
    rw [if_neg c8] at H; have c8b0 : decide (a0_1 < 0) = false := zGq c8; clear c8; by_cases c10 : a0_1 > 1000000
    · rw [if_pos c10] at H
      have c10b0 : decide (1000000 < a0_1) = true := zFq c10; clear c10; have H' := zA H; clear H; obtain ⟨_, _, _, _, _, _⟩ := qc3f BK101.out; go_wp2; go_meet
      case rel => exact ⟨_, (true), (by first | rfl | (simp; done) | (simp [*]; done)), H', ⟨by first | omega | exact Nat.le_refl _⟩, ⟨by exact BK101.out⟩, ⟨qB⟩⟩
    rw [if_neg c10] at H; have c10b0 : decide (1000000 < a0_1) = false := zGq c10; clear c10; by_cases c12 : (l0_2.length : Int) = 0
    · rw [if_pos c12] at H
      have c12b0 : ((l0_2.length : Int) == 0) = true := beq_iff_eq.mpr c12; have c12b1 : ((l0_2.length : Int) != 0) = false := bne_eq_false_iff_eq.mpr c12; clear c12; have H' := zA H; clear H; obtain ⟨_, _, _, _, _, _⟩ := qc3f BK101.out; go_wp2; go_meet
      case rel => exact ⟨_, (true), (by first | rfl | (simp; done) | (simp [*]; done)), H', ⟨by first | omega | exact Nat.le_refl _⟩, ⟨by exact BK101.out⟩, ⟨qB⟩⟩
    rw [if_neg c12] at H; have c12b0 : ((l0_2.length : Int) == 0) = false := beq_eq_false_iff_ne.mpr c12; have c12b1 : ((l0_2.length : Int) != 0) = true := bne_iff_ne.mpr c12; have c12b2 : ¬ (l0_2 = []) := fun h_ => c12 (by rw [h_]; rfl)
    have H' := zA H; clear H; obtain ⟨_, _, _, _, _, _⟩ := qc3f BK101.out; go_wp2; go_meet
    case rel => exact ⟨_, (decide ((l0_2.length : Int) > 8)), (by first | rfl | (simp; done) | (simp [*]; done)), H', ⟨by first | omega | exact Nat.le_refl _⟩, ⟨by exact BK101.out⟩, ⟨qB⟩⟩
  case rest =>
    clear HC2; try clear c1
    try clear p2
    try clear c4
    try clear c4b0
    try clear c6
    try clear c6b0
    try clear c8
    try clear c8b0
    try clear c9
    try clear c10
    try clear c10b0
    try clear c12
    try clear c12b0
    try clear c12b1
    try clear c12b2
    obtain ⟨kq, x33_1, rfl, HA, HJ1, BK101, HB⟩ := hcut; cases kq with
    | zero => exact absurd HA.out (by simp [backhaulref26_Check.j0])
    | succ kj1 =>
      have H := HA.out; clear HA; simp only [backhaulref26_Check.j0] at H; by_cases c15 : x33_1 = true
      · subst c15
        have H1 : (some 40) = some r := by first | (rw [if_pos rfl] at H; exact H) | rfl
        clear H; have H := H1; clear H1; obtain rfl := zKq H; go_wp2; go_ret; exact ⟨qE, qB⟩
      replace c15 := Bool.eq_false_iff.mpr c15; subst c15; have H1 : (backhaulref26_Check.l0 kj1 0 a0_0 a0_1 l0_2) = some r := by first | (rw [if_neg (show ¬ (false = true) by decide)] at H; exact H) | rfl
      clear H; have H := H1; clear H1; have H' := zA H; clear H; go_wp2; go_loopg [3] kj1 (fun kq v3 w' => ∃ (x3_2 : Int), v3 = .int .i64 x3_2 ∧ Aside0 (backhaulref26_Check.l0 kq x3_2 a0_0 a0_1 l0_2 = some r) ∧ Aside0 (kq ≤ kj1) ∧ Aside0 (w'.heap[gb101]? = some (.cells #[.int .i64 a0_0, .int .i64 a0_1, (.slice A0_2 l0_2.length c0_2)] 99 (0, 0))) ∧ Aside0 (Below w.heap.size w w'))
      case atStart => exact ⟨(0), (by first | rfl | (simp; done) | (simp [*]; done)), H', ⟨Nat.le_refl _⟩, ⟨by exact BK101.out⟩, ⟨qB⟩⟩
      case round =>
        clear H'; try clear c1
        try clear p2
        try clear c4
        try clear c4b0
        try clear c6
        try clear c6b0
        try clear c8
        try clear c8b0
        try clear c9
        try clear c10
        try clear c10b0
        try clear c12
        try clear c12b0
        try clear c12b1
        try clear c12b2
        try clear c15
        try clear p2
        obtain ⟨x3_2, rfl, HA, HK2, BK101, HB⟩ := hrel; cases gk with
        | zero => exact absurd HA.out (by simp [backhaulref26_Check.l0])
        | succ k2 =>
          have H := HA.out; clear HA; simp only [backhaulref26_Check.l0] at H; by_cases c16 : x3_2 < (l0_2.length : Int)
          · rw [if_pos c16] at H
            have c16b0 : decide (x3_2 < (l0_2.length : Int)) = true := zFq c16; clear c16; by_cases c17 : 0 ≤ x3_2
            · rw [if_pos c17] at H
              have c17b0 : decide (0 ≤ x3_2) = true := zFq c17; clear c17; replace H := Option.bind_eq_some_iff.mp H; obtain ⟨t103, A180, H⟩ := H; try dsimp only at H
              have A18 := zA A180; clear A180; by_cases c19 : t103 = 0
              · rw [if_pos c19] at H
                have c19b0 : (t103 == 0) = true := beq_iff_eq.mpr c19; have c19b1 : (t103 != 0) = false := bne_eq_false_iff_eq.mpr c19; clear c19; have H' := zA H; clear H; obtain ⟨_, _, _, _, _, _⟩ := qc3f BK101.out; have p102 : 0 ≤ (x3_2 : Int) := of_decide_eq_true qA; have q102 : x3_2 < (l0_2.length : Int) := of_decide_eq_true qA; obtain ⟨ad102, A102_4, c102_4, e102, hx102_0, hx102_1, hx102_2, hx102_3, hx102_4, hl102_4, hi102_4⟩ := at_T71 HR0_2.out x3_2 p102 q102; cases e102
                replace hx102_0 := (HB.out.cell (zCq w _ hx102_0)).trans hx102_0; replace hx102_1 := (HB.out.cell (zCq w _ hx102_1)).trans hx102_1; replace hx102_2 := (HB.out.cell (zCq w _ hx102_2)).trans hx102_2; replace hx102_3 := (HB.out.cell (zCq w _ hx102_3)).trans hx102_3; replace hx102_4 := (HB.out.cell (zCq w _ hx102_4)).trans hx102_4; have HR102_4 := zA hi102_4; have HC102_4 := zA hl102_4; clear hi102_4 hl102_4; replace p102 := eq_true p102; replace q102 := eq_true q102; go_wp2_with (first | ((with_reducible refine zJq (f := 70) rfl ?_); refine goesL_ (some 46) rfl rfl Try.func70 (by kernel_rfl) rfl #[.agg #[.int .i64 ((rd_T71 l0_2 x3_2).f0), .int .i64 ((rd_T71 l0_2 x3_2).f1), .int .i64 ((rd_T71 l0_2 x3_2).f2), .int .i64 ((rd_T71 l0_2 x3_2).f3), .slice A102_4 ((rd_T71 l0_2 x3_2).f4).length c102_4]] rfl qG ?_; (with_reducible refine (backhaulref21_Check.calls k2 ((rd_T71 l0_2 x3_2).f0) ((rd_T71 l0_2 x3_2).f1) ((rd_T71 l0_2 x3_2).f2) ((rd_T71 l0_2 x3_2).f3) _ _ ((rd_T71 l0_2 x3_2).f4) t103 _ ?side1 ?side2 A18.out).mono ?_); (case side1 => exact qC (Kd.C_below HR102_4.out HB.out)); (case side2 => exact HC102_4.out); rintro e w21 ⟨rfl, hb⟩; refine ⟨_, rfl, ?_⟩; have n0_ := zA (qX BK101.out hb); have n1_ := zA (zV qB hb); clear BK101 HB; have BK101 := n0_; have HB := n1_; clear n0_ n1_; (try clear hb))); go_roundg k2
                case measure => have := HJ1.out; have := HK2.out; omega
                case rel => exact ⟨(wrap64 (x3_2 + 1)), (by first | rfl | (simp; done) | (simp [*]; done)), H', ⟨by have := HJ1.out; have := HK2.out; omega⟩, ⟨by exact BK101.out⟩, ⟨qB⟩⟩
              rw [if_neg c19] at H; have c19b0 : (t103 == 0) = false := beq_eq_false_iff_ne.mpr c19; have c19b1 : (t103 != 0) = true := bne_iff_ne.mpr c19; obtain rfl := zKq H; obtain ⟨_, _, _, _, _, _⟩ := qc3f BK101.out; have p102 : 0 ≤ (x3_2 : Int) := of_decide_eq_true qA; have q102 : x3_2 < (l0_2.length : Int) := of_decide_eq_true qA; obtain ⟨ad102, A102_4, c102_4, e102, hx102_0, hx102_1, hx102_2, hx102_3, hx102_4, hl102_4, hi102_4⟩ := at_T71 HR0_2.out x3_2 p102 q102; cases e102
              replace hx102_0 := (HB.out.cell (zCq w _ hx102_0)).trans hx102_0; replace hx102_1 := (HB.out.cell (zCq w _ hx102_1)).trans hx102_1; replace hx102_2 := (HB.out.cell (zCq w _ hx102_2)).trans hx102_2; replace hx102_3 := (HB.out.cell (zCq w _ hx102_3)).trans hx102_3; replace hx102_4 := (HB.out.cell (zCq w _ hx102_4)).trans hx102_4; have HR102_4 := zA hi102_4; have HC102_4 := zA hl102_4; clear hi102_4 hl102_4; replace p102 := eq_true p102; replace q102 := eq_true q102; go_wp2_with (first | ((with_reducible refine zJq (f := 70) rfl ?_); refine goesL_ (some 46) rfl rfl Try.func70 (by kernel_rfl) rfl #[.agg #[.int .i64 ((rd_T71 l0_2 x3_2).f0), .int .i64 ((rd_T71 l0_2 x3_2).f1), .int .i64 ((rd_T71 l0_2 x3_2).f2), .int .i64 ((rd_T71 l0_2 x3_2).f3), .slice A102_4 ((rd_T71 l0_2 x3_2).f4).length c102_4]] rfl qG ?_; (with_reducible refine (backhaulref21_Check.calls k2 ((rd_T71 l0_2 x3_2).f0) ((rd_T71 l0_2 x3_2).f1) ((rd_T71 l0_2 x3_2).f2) ((rd_T71 l0_2 x3_2).f3) _ _ ((rd_T71 l0_2 x3_2).f4) t103 _ ?side1 ?side2 A18.out).mono ?_); (case side1 => exact qC (Kd.C_below HR102_4.out HB.out)); (case side2 => exact HC102_4.out); rintro e w23 ⟨rfl, hb⟩; refine ⟨_, rfl, ?_⟩; have n0_ := zA (qX BK101.out hb); have n1_ := zA (zV qB hb); clear BK101 HB; have BK101 := n0_; have HB := n1_; clear n0_ n1_; (try clear hb))); go_ret; exact ⟨qE, qB⟩
            rw [if_neg c17] at H; exact absurd H (by simp)
          rw [if_neg c16] at H; have c16b0 : decide (x3_2 < (l0_2.length : Int)) = false := zGq c16; clear c16; replace H := Option.bind_eq_some_iff.mp H; obtain ⟨t104, A240, H⟩ := H; try dsimp only at H
          have A24 := zA A240; clear A240; by_cases c25 : t104 < 0
          · rw [if_pos c25] at H
            have c25b0 : decide (t104 < 0) = true := zFq c25; clear c25; obtain rfl := zKq H; obtain ⟨_, _, _, _, _, _⟩ := qc3f BK101.out; go_wp2_with (first | ((with_reducible refine zJq (f := 132) rfl ?_); refine goesL_ (some 50) rfl rfl Try.func132 (by kernel_rfl) rfl #[.slice A0_2 l0_2.length c0_2] rfl qG ?_; (with_reducible refine (backhaulref26_cost.calls k2 _ _ l0_2 t104 _ ?side1 ?side2 A24.out).mono ?_); (case side1 => exact qC (Kd.C_below HR0_2.out HB.out)); (case side2 => exact HC0_2.out); rintro e w' ⟨rfl, ⟨nd, rfl⟩⟩; refine ⟨_, rfl, ?_⟩)); go_ret; exact ⟨qE, qB⟩
          rw [if_neg c25] at H; have c25b0 : decide (t104 < 0) = false := zGq c25; clear c25; replace H := Option.bind_eq_some_iff.mp H; obtain ⟨t105, A270, H⟩ := H; try dsimp only at H
          have A27 := zA A270; clear A270; replace H := Option.bind_eq_some_iff.mp H; obtain ⟨t108, A280, H⟩ := H; try dsimp only at H
          have A28 := zA A280; clear A280; by_cases c29 : t108 = true
          · subst c29
            have H1 : (some 40) = some r := by first | (rw [if_pos rfl] at H; exact H) | rfl
            clear H; have H := H1; clear H1; obtain rfl := zKq H; obtain ⟨_, _, _, _, _, _⟩ := qc3f BK101.out; go_wp2_with (first | ((with_reducible refine zJq (f := 132) rfl ?_); refine goesL_ (some 50) rfl rfl Try.func132 (by kernel_rfl) rfl #[.slice A0_2 l0_2.length c0_2] rfl qG ?_; (with_reducible refine (backhaulref26_cost.calls k2 _ _ l0_2 t104 _ ?side1 ?side2 A24.out).mono ?_); (case side1 => exact qC (Kd.C_below HR0_2.out HB.out)); (case side2 => exact HC0_2.out); rintro e w' ⟨rfl, ⟨nd, rfl⟩⟩; refine ⟨_, rfl, ?_⟩) | (go_at_call 129; (with_reducible refine (backhaulref26_all.calls k2 _ _ l0_2 t105 _ ?side1 ?side2 A27.out).mono ?_); (case side1 => exact qC (Kd.C_below HR0_2.out qB)); (case side2 => exact HC0_2.out); rintro e w31 ⟨v106, rfl, ho0, hb⟩; have n0_ := zA (Kd.R_lower ho0 (zW qB)); have n1_ := zA (qX BK101.out hb); have n2_ := zA (zV qB hb); clear BK101 HB; have HO107 := n0_; have BK101 := n1_; have HB := n2_; clear n0_ n1_ n2_; (try clear hb); (try clear ho0); obtain ⟨Ao32, co32, eo32⟩ := Kd.R_slice HO107.out; subst eo32) | (go_at_call 128; (with_reducible refine (backhaulref26_twice.calls k2 _ _ t105 true _ ?side1 ?side2 A28.out).mono ?_); (case side1 => repeat (first | exact (Kd.R_reads' HO107.out).2.2 | (with_reducible refine Kd.C_alloc ?_ _) | (with_reducible refine Kd.C_drewN ?_ _) | (with_reducible refine Kd.C_drew ?_))); (case side2 => exact (Kd.R_reads' HO107.out).2.1); rintro e w' ⟨rfl, ⟨nd, rfl⟩⟩)); go_ret; exact ⟨qE, qB⟩
          replace c29 := Bool.eq_false_iff.mpr c29; subst c29; have H1 : (some 0) = some r := by first | (rw [if_neg (show ¬ (false = true) by decide)] at H; exact H) | rfl
          clear H; have H := H1; clear H1; obtain rfl := zKq H; obtain ⟨_, _, _, _, _, _⟩ := qc3f BK101.out; go_wp2_with (first | ((with_reducible refine zJq (f := 132) rfl ?_); refine goesL_ (some 50) rfl rfl Try.func132 (by kernel_rfl) rfl #[.slice A0_2 l0_2.length c0_2] rfl qG ?_; (with_reducible refine (backhaulref26_cost.calls k2 _ _ l0_2 t104 _ ?side1 ?side2 A24.out).mono ?_); (case side1 => exact qC (Kd.C_below HR0_2.out HB.out)); (case side2 => exact HC0_2.out); rintro e w' ⟨rfl, ⟨nd, rfl⟩⟩; refine ⟨_, rfl, ?_⟩) | (go_at_call 129; (with_reducible refine (backhaulref26_all.calls k2 _ _ l0_2 t105 _ ?side1 ?side2 A27.out).mono ?_); (case side1 => exact qC (Kd.C_below HR0_2.out qB)); (case side2 => exact HC0_2.out); rintro e w34 ⟨v106, rfl, ho0, hb⟩; have n0_ := zA (Kd.R_lower ho0 (zW qB)); have n1_ := zA (qX BK101.out hb); have n2_ := zA (zV qB hb); clear BK101 HB; have HO107 := n0_; have BK101 := n1_; have HB := n2_; clear n0_ n1_ n2_; (try clear hb); (try clear ho0); obtain ⟨Ao35, co35, eo35⟩ := Kd.R_slice HO107.out; subst eo35) | (go_at_call 128; (with_reducible refine (backhaulref26_twice.calls k2 _ _ t105 false _ ?side1 ?side2 A28.out).mono ?_); (case side1 => repeat (first | exact (Kd.R_reads' HO107.out).2.2 | (with_reducible refine Kd.C_alloc ?_ _) | (with_reducible refine Kd.C_drewN ?_ _) | (with_reducible refine Kd.C_drew ?_))); (case side2 => exact (Kd.R_reads' HO107.out).2.1); rintro e w' ⟨rfl, ⟨nd, rfl⟩⟩)); go_ret; exact ⟨qE, qB⟩
mutual
def backhaulref26_Find.l0 : Nat → ByteArray → Int → Int → Int → List (S71) → Option (Int × Int × Bool)
  | 0, _, _, _, _, _ => none
  | k + 1, x1, x7, x102000, x102001, x102002 => if x7 < (x102002.length : Int) then ((backhaulref26_Check.f k x102000 x102001 x102002).bind fun t102 => (backhaulref26_Find.j1 k x1 x7 (t102 == 0) x102000 x102001 x102002)) else (backhaulref26_Find.j1 k x1 x7 false x102000 x102001 x102002)
def backhaulref26_Find.j1 : Nat → ByteArray → Int → Bool → Int → Int → List (S71) → Option (Int × Int × Bool)
  | 0, _, _, _, _, _, _ => none
  | k + 1, x1, x7, x18, x102000, x102001, x102002 => if x18 = true then (backhaulref26_Find.l1 k x1 x7 0 x102000 x102001 x102002) else (some (0, 0, false))
def backhaulref26_Find.l1 : Nat → ByteArray → Int → Int → Int → Int → List (S71) → Option (Int × Int × Bool)
  | 0, _, _, _, _, _, _ => none
  | k + 1, x1, x7, x8, x102000, x102001, x102002 => if 0 ≤ x7 then (if x7 < (x102002.length : Int) then (if x8 < (((rd_T71 x102002 x7).f4).length : Int) then (if 0 ≤ x8 then (if (rdOf ByteArray.empty ((rd_T71 x102002 x7).f4) x8).toList = x1.toList then (some (x7, x8, true)) else (backhaulref26_Find.l1 k x1 x7 (wrap64 (x8 + 1)) x102000 x102001 x102002)) else (none)) else (backhaulref26_Find.l0 k x1 (wrap64 (x7 + 1)) x102000 x102001 x102002)) else (none)) else (none)
end
def backhaulref26_Find.f (k : Nat) (a0_0 : Int) (a0_1 : Int) (l0_2 : List (S71)) (a1 : ByteArray) : Option (Int × Int × Bool) := backhaulref26_Find.l0 k a1 0 a0_0 a0_1 l0_2
theorem backhaulref26_Find.mono_l : ∀ k, (∀ y0 y1 y2 y3 y4, LeO (backhaulref26_Find.l0 k y0 y1 y2 y3 y4) (backhaulref26_Find.l0 (k + 1) y0 y1 y2 y3 y4)) ∧ (∀ y0 y1 y2 y3 y4 y5, LeO (backhaulref26_Find.j1 k y0 y1 y2 y3 y4 y5) (backhaulref26_Find.j1 (k + 1) y0 y1 y2 y3 y4 y5)) ∧ (∀ y0 y1 y2 y3 y4 y5, LeO (backhaulref26_Find.l1 k y0 y1 y2 y3 y4 y5) (backhaulref26_Find.l1 (k + 1) y0 y1 y2 y3 y4 y5))
  | 0 => ⟨fun _ _ _ _ _ r h => by simp [backhaulref26_Find.l0] at h, fun _ _ _ _ _ _ r h => by simp [backhaulref26_Find.j1] at h, fun _ _ _ _ _ _ r h => by simp [backhaulref26_Find.l1] at h⟩
  | k + 1 => by
    obtain ⟨ih0, ih1, ih2⟩ := backhaulref26_Find.mono_l k
    refine ⟨?_, ?_, ?_⟩
    · intro y0 y1 y2 y3 y4
      unfold backhaulref26_Find.l0
      repeat' (with_reducible first | exact ih0 _ _ _ _ _ | exact ih1 _ _ _ _ _ _ | exact ih2 _ _ _ _ _ _ | exact backhaulref26_Check.mono _ _ _ _ | exact LeO.refl _ | exact LeO.none _ | refine LeO.ite ?_ ?_ | refine LeO.bind ?_ (fun _ => ?_))
    · intro y0 y1 y2 y3 y4 y5
      unfold backhaulref26_Find.j1
      repeat' (with_reducible first | exact ih0 _ _ _ _ _ | exact ih1 _ _ _ _ _ _ | exact ih2 _ _ _ _ _ _ | exact backhaulref26_Check.mono _ _ _ _ | exact LeO.refl _ | exact LeO.none _ | refine LeO.ite ?_ ?_ | refine LeO.bind ?_ (fun _ => ?_))
    intro y0 y1 y2 y3 y4 y5
    unfold backhaulref26_Find.l1
    repeat' (with_reducible first | exact ih0 _ _ _ _ _ | exact ih1 _ _ _ _ _ _ | exact ih2 _ _ _ _ _ _ | exact backhaulref26_Check.mono _ _ _ _ | exact LeO.refl _ | exact LeO.none _ | refine LeO.ite ?_ ?_ | refine LeO.bind ?_ (fun _ => ?_))
theorem backhaulref26_Find.mono : ∀ a0 a1 a2 a3 k, LeO (backhaulref26_Find.f k a0 a1 a2 a3) (backhaulref26_Find.f (k + 1) a0 a1 a2 a3) := by
  intro a0 a1 a2 a3 k
  obtain ⟨ih0, ih1, ih2⟩ := backhaulref26_Find.mono_l k
  unfold backhaulref26_Find.f
  repeat' (with_reducible first | exact ih0 _ _ _ _ _ | exact ih1 _ _ _ _ _ _ | exact ih2 _ _ _ _ _ _ | exact backhaulref26_Check.mono _ _ _ _ | exact LeO.refl _ | exact LeO.none _ | refine LeO.ite ?_ ?_ | refine LeO.bind ?_ (fun _ => ?_))
set_option maxHeartbeats 8000000 in
set_option maxRecDepth 100000 in
theorem backhaulref26_Find.calls (k : Nat) (a0_0 : Int) (a0_1 : Int) (A0_2 : Option Addr) (c0_2 : Nat) (l0_2 : List (S71)) (a1 : ByteArray) (r1 : Int) (r2 : Int) (r3 : Bool) (w : World) (hr0_2 : Kd.C k71 w A0_2 l0_2.length l0_2) (hc0_2 : l0_2.length ≤ c0_2) (h : backhaulref26_Find.f k a0_0 a0_1 l0_2 a1 = some (r1, r2, r3)) :
    Calls Try.prog 87 #[.agg #[.int .i64 a0_0, .int .i64 a0_1, .slice A0_2 l0_2.length c0_2], .string a1] w fun e w' => e = .returned (.tuple #[.int .i64 r1, .int .i64 r2, .bool r3]) ∧ Below w.heap.size w w' := by
  have hu99 := Try.underlying99
  have HR0_2 := zA hr0_2
  have HC0_2 := zA hc0_2
  clear hr0_2 hc0_2
  have HB := zA (Below.refl w.heap.size w)
  have H : (backhaulref26_Find.l0 k a1 0 a0_0 a0_1 l0_2) = some (r1, r2, r3) := h
  clear h
  have H' := zA H
  clear H
  go_enter Try.func87, Try.ntmps87
  go_wp2_with (first | ((with_reducible refine gate_dst (N := 2) rfl ?_); refine box_event qr (N := 2) qr (cs := #[.int .i64 a0_0, .int .i64 a0_1, .slice A0_2 l0_2.length c0_2]) (t := 99) qg ?_; intro gb101 hg w3 hbox hb; have n0_ := zA (zV qB hb); have n1_ := zA (hbox); have n2_ := zA ((qS : w.heap.size ≤ gb101)); have n3_ := zA ((qS : w.heap.size ≤ gb101)); clear HB; have HB := n0_; have BK101 := n1_; have GW101 := n2_; have GE101 := n3_; clear n0_ n1_ n2_ n3_ hb hbox hg))
  go_loopg [7] k (fun kq v7 w' => ∃ (x7_1 : Int), v7 = .int .i64 x7_1 ∧ Aside0 (backhaulref26_Find.l0 kq a1 x7_1 a0_0 a0_1 l0_2 = some (r1, r2, r3)) ∧ Aside0 (kq ≤ k) ∧ Aside0 (w'.heap[gb101]? = some (.cells #[.int .i64 a0_0, .int .i64 a0_1, (.slice A0_2 l0_2.length c0_2)] 99 (0, 0))) ∧ Aside0 (Below w.heap.size w w'))
  case atStart => exact ⟨(0), (by first | rfl | (simp; done) | (simp [*]; done)), H', ⟨Nat.le_refl _⟩, ⟨by exact BK101.out⟩, ⟨qB⟩⟩
  case round =>
    clear H'; try clear p2
    obtain ⟨x7_1, rfl, HA, HK1, BK101, HB⟩ := hrel; cases gk with
    | zero => exact absurd HA.out (by simp [backhaulref26_Find.l0])
    | succ k1 =>
      have H := HA.out; clear HA; simp only [backhaulref26_Find.l0] at H; have HC4 := zA H; clear H; go_upto_region 2 with (fail)
      go_cut [18] (fun v18 wc => ∃ (kq : Nat) (x18_3 : Bool), v18 = .bool x18_3 ∧ Aside0 (backhaulref26_Find.j1 kq a1 x7_1 x18_3 a0_0 a0_1 l0_2 = some (r1, r2, r3)) ∧ Aside0 (kq ≤ k1) ∧ Aside0 (wc.heap[gb101]? = some (.cells #[.int .i64 a0_0, .int .i64 a0_1, (.slice A0_2 l0_2.length c0_2)] 99 (0, 0))) ∧ Aside0 (Below w.heap.size w wc))
      case first =>
        have H := HC4.out; clear HC4; by_cases c5 : x7_1 < (l0_2.length : Int)
        · rw [if_pos c5] at H
          have c5b0 : decide (x7_1 < (l0_2.length : Int)) = true := zFq c5; clear c5; (first | rw [c5b0] | (simp only [i64_w, i32_w]; rw [c5b0]) | skip)
          replace H := Option.bind_eq_some_iff.mp H; obtain ⟨t102, A60, H⟩ := H; try dsimp only at H
          have A6 := zA A60; clear A60; have H' := zA H; clear H; obtain ⟨_, _, _, _, _, _⟩ := qc3f BK101.out; go_wp2_with (first | (go_at_call 91; (with_reducible refine (backhaulref26_Check.calls k1 a0_0 a0_1 _ _ l0_2 t102 _ ?side1 ?side2 A6.out).mono ?_); (case side1 => exact qC (Kd.C_below HR0_2.out HB.out)); (case side2 => exact HC0_2.out); rintro e w8 ⟨rfl, hb⟩; have n0_ := zA (qX BK101.out hb); have n1_ := zA (zV qB hb); clear BK101 HB; have BK101 := n0_; have HB := n1_; clear n0_ n1_; (try clear hb))); go_meet
          case rel => exact ⟨_, ((t102 == 0)), (by first | rfl | (simp; done) | (simp [*]; done)), H', ⟨by have := HK1.out; first | omega | exact Nat.le_refl _⟩, ⟨by exact BK101.out⟩, ⟨qB⟩⟩
        rw [if_neg c5] at H; have c5b0 : decide (x7_1 < (l0_2.length : Int)) = false := zGq c5; clear c5; (first | rw [c5b0] | (simp only [i64_w, i32_w]; rw [c5b0]) | skip)
        have H' := zA H; clear H; obtain ⟨_, _, _, _, _, _⟩ := qc3f BK101.out; go_wp2; go_meet
        case rel => exact ⟨_, (false), (by first | rfl | (simp; done) | (simp [*]; done)), H', ⟨by have := HK1.out; first | omega | exact Nat.le_refl _⟩, ⟨by exact BK101.out⟩, ⟨qB⟩⟩
      case rest =>
        clear HC4; try clear p2
        try clear c5
        try clear c5b0
        try clear c8
        try clear p2
        obtain ⟨kq, x18_3, rfl, HA, HJ3, BK101, HB⟩ := hcut; cases kq with
        | zero => exact absurd HA.out (by simp [backhaulref26_Find.j1])
        | succ kj3 =>
          have H := HA.out; clear HA; simp only [backhaulref26_Find.j1] at H; by_cases c10 : x18_3 = true
          · subst c10
            have H1 : (backhaulref26_Find.l1 kj3 a1 x7_1 0 a0_0 a0_1 l0_2) = some (r1, r2, r3) := by first | (rw [if_pos rfl] at H; exact H) | rfl
            clear H; have H := H1; clear H1; have H' := zA H; clear H; go_wp2; go_loopg [8] kj3 (fun kq v8 w' => ∃ (x8_3 : Int), v8 = .int .i64 x8_3 ∧ Aside0 (backhaulref26_Find.l1 kq a1 x7_1 x8_3 a0_0 a0_1 l0_2 = some (r1, r2, r3)) ∧ Aside0 (kq ≤ kj3) ∧ Aside0 (w'.heap[gb101]? = some (.cells #[.int .i64 a0_0, .int .i64 a0_1, (.slice A0_2 l0_2.length c0_2)] 99 (0, 0))) ∧ Aside0 (Below w.heap.size w w'))
            case atStart => exact ⟨(0), (by first | rfl | (simp; done) | (simp [*]; done)), H', ⟨Nat.le_refl _⟩, ⟨by exact BK101.out⟩, ⟨qB⟩⟩
            case round =>
              clear H'; try clear c1
              try clear p2
              try clear c5
              try clear c5b0
              try clear c8
              try clear c10
              try clear p2
              obtain ⟨x8_3, rfl, HA, HK3, BK101, HB⟩ := hrel; cases gk with
              | zero => exact absurd HA.out (by simp [backhaulref26_Find.l1])
              | succ k3 =>
                have H := HA.out; clear HA; simp only [backhaulref26_Find.l1] at H; by_cases c11 : 0 ≤ x7_1
                · rw [if_pos c11] at H
                  have c11b0 : decide (0 ≤ x7_1) = true := zFq c11; clear c11; by_cases c12 : x7_1 < (l0_2.length : Int)
                  · rw [if_pos c12] at H
                    have c12b0 : decide (x7_1 < (l0_2.length : Int)) = true := zFq c12; clear c12; by_cases c13 : x8_3 < (((rd_T71 l0_2 x7_1).f4).length : Int)
                    · rw [if_pos c13] at H
                      have c13b0 : decide (x8_3 < (((rd_T71 l0_2 x7_1).f4).length : Int)) = true := zFq c13; clear c13; by_cases c14 : 0 ≤ x8_3
                      · rw [if_pos c14] at H
                        have c14b0 : decide (0 ≤ x8_3) = true := zFq c14; clear c14; by_cases c15 : (rdOf ByteArray.empty ((rd_T71 l0_2 x7_1).f4) x8_3).toList = a1.toList
                        · rw [if_pos c15] at H
                          have c15b0 : ((rdOf ByteArray.empty ((rd_T71 l0_2 x7_1).f4) x8_3).toList == a1.toList) = true := beq_iff_eq.mpr c15; have c15b1 : ((rdOf ByteArray.empty ((rd_T71 l0_2 x7_1).f4) x8_3).toList != a1.toList) = false := bne_eq_false_iff_eq.mpr c15; clear c15; simp only [zNq, zOq] at H; obtain ⟨rfl, rfl, rfl⟩ := H; obtain ⟨_, _, _, _, _, _⟩ := qc3f BK101.out; have p103 : 0 ≤ (x7_1 : Int) := of_decide_eq_true qA; have q103 : x7_1 < (l0_2.length : Int) := of_decide_eq_true qA; obtain ⟨ad103, A103_4, c103_4, e103, hx103_0, hx103_1, hx103_2, hx103_3, hx103_4, hl103_4, hi103_4⟩ := at_T71 HR0_2.out x7_1 p103 q103; cases e103
                          replace hx103_0 := (HB.out.cell (zCq w _ hx103_0)).trans hx103_0; replace hx103_1 := (HB.out.cell (zCq w _ hx103_1)).trans hx103_1; replace hx103_2 := (HB.out.cell (zCq w _ hx103_2)).trans hx103_2; replace hx103_3 := (HB.out.cell (zCq w _ hx103_3)).trans hx103_3; replace hx103_4 := (HB.out.cell (zCq w _ hx103_4)).trans hx103_4; have HR103_4 := zA hi103_4; have HC103_4 := zA hl103_4; clear hi103_4 hl103_4; replace p103 := eq_true p103; replace q103 := eq_true q103; have p104 : 0 ≤ (x7_1 : Int) := of_decide_eq_true qA; have q104 : x7_1 < (l0_2.length : Int) := of_decide_eq_true qA; obtain ⟨ad104, A104_4, c104_4, e104, hx104_0, hx104_1, hx104_2, hx104_3, hx104_4, hl104_4, hi104_4⟩ := at_T71 HR0_2.out x7_1 p104 q104; obtain rfl : ad103 = ad104 := (by injection e104)
                          replace hx104_0 := (HB.out.cell (zCq w _ hx104_0)).trans hx104_0; replace hx104_1 := (HB.out.cell (zCq w _ hx104_1)).trans hx104_1; replace hx104_2 := (HB.out.cell (zCq w _ hx104_2)).trans hx104_2; replace hx104_3 := (HB.out.cell (zCq w _ hx104_3)).trans hx104_3; replace hx104_4 := (HB.out.cell (zCq w _ hx104_4)).trans hx104_4; have HR104_4 := zA hi104_4; have HC104_4 := zA hl104_4; clear hi104_4 hl104_4; replace p104 := eq_true p104; replace q104 := eq_true q104; have ea_ := zKq (hx103_4.symm.trans hx104_4); injection ea_ with ea_ en_ ec_
                          subst ea_; subst ec_; clear en_; have p105 : 0 ≤ (x8_3 : Int) := of_decide_eq_true qA; have q105 : x8_3 < (((rd_T71 l0_2 x7_1).f4).length : Int) := of_decide_eq_true qA; obtain ⟨ad105, e105, hx105_0⟩ := Kd.at_string HR104_4.out x8_3 p105 q105; cases e105
                          replace hx105_0 := (HB.out.cell (zCq w _ hx105_0)).trans hx105_0; replace p105 := eq_true p105; replace q105 := eq_true q105; go_wp2; go_ret3; exact ⟨qE, qB⟩
                        rw [if_neg c15] at H; have c15b0 : ((rdOf ByteArray.empty ((rd_T71 l0_2 x7_1).f4) x8_3).toList == a1.toList) = false := beq_eq_false_iff_ne.mpr c15; have c15b1 : ((rdOf ByteArray.empty ((rd_T71 l0_2 x7_1).f4) x8_3).toList != a1.toList) = true := bne_iff_ne.mpr c15; have H' := zA H; clear H; obtain ⟨_, _, _, _, _, _⟩ := qc3f BK101.out; have p103 : 0 ≤ (x7_1 : Int) := of_decide_eq_true qA; have q103 : x7_1 < (l0_2.length : Int) := of_decide_eq_true qA; obtain ⟨ad103, A103_4, c103_4, e103, hx103_0, hx103_1, hx103_2, hx103_3, hx103_4, hl103_4, hi103_4⟩ := at_T71 HR0_2.out x7_1 p103 q103; cases e103
                        replace hx103_0 := (HB.out.cell (zCq w _ hx103_0)).trans hx103_0; replace hx103_1 := (HB.out.cell (zCq w _ hx103_1)).trans hx103_1; replace hx103_2 := (HB.out.cell (zCq w _ hx103_2)).trans hx103_2; replace hx103_3 := (HB.out.cell (zCq w _ hx103_3)).trans hx103_3; replace hx103_4 := (HB.out.cell (zCq w _ hx103_4)).trans hx103_4; have HR103_4 := zA hi103_4; have HC103_4 := zA hl103_4; clear hi103_4 hl103_4; replace p103 := eq_true p103; replace q103 := eq_true q103; have p104 : 0 ≤ (x7_1 : Int) := of_decide_eq_true qA; have q104 : x7_1 < (l0_2.length : Int) := of_decide_eq_true qA; obtain ⟨ad104, A104_4, c104_4, e104, hx104_0, hx104_1, hx104_2, hx104_3, hx104_4, hl104_4, hi104_4⟩ := at_T71 HR0_2.out x7_1 p104 q104; obtain rfl : ad103 = ad104 := (by injection e104)
                        replace hx104_0 := (HB.out.cell (zCq w _ hx104_0)).trans hx104_0; replace hx104_1 := (HB.out.cell (zCq w _ hx104_1)).trans hx104_1; replace hx104_2 := (HB.out.cell (zCq w _ hx104_2)).trans hx104_2; replace hx104_3 := (HB.out.cell (zCq w _ hx104_3)).trans hx104_3; replace hx104_4 := (HB.out.cell (zCq w _ hx104_4)).trans hx104_4; have HR104_4 := zA hi104_4; have HC104_4 := zA hl104_4; clear hi104_4 hl104_4; replace p104 := eq_true p104; replace q104 := eq_true q104; have ea_ := zKq (hx103_4.symm.trans hx104_4); injection ea_ with ea_ en_ ec_
                        subst ea_; subst ec_; clear en_; have p105 : 0 ≤ (x8_3 : Int) := of_decide_eq_true qA; have q105 : x8_3 < (((rd_T71 l0_2 x7_1).f4).length : Int) := of_decide_eq_true qA; obtain ⟨ad105, e105, hx105_0⟩ := Kd.at_string HR104_4.out x8_3 p105 q105; cases e105
                        replace hx105_0 := (HB.out.cell (zCq w _ hx105_0)).trans hx105_0; replace p105 := eq_true p105; replace q105 := eq_true q105; go_wp2; go_roundg k3
                        case measure => have := HK1.out; have := HJ3.out; have := HK3.out; omega
                        case rel => exact ⟨(wrap64 (x8_3 + 1)), (by first | rfl | (simp; done) | (simp [*]; done)), H', ⟨by have := HK1.out; have := HJ3.out; have := HK3.out; omega⟩, ⟨by exact BK101.out⟩, ⟨qB⟩⟩
                      rw [if_neg c14] at H; exact absurd H (by simp)
                    rw [if_neg c13] at H; have c13b0 : decide (x8_3 < (((rd_T71 l0_2 x7_1).f4).length : Int)) = false := zGq c13; clear c13; have H' := zA H; clear H; obtain ⟨_, _, _, _, _, _⟩ := qc3f BK101.out; have p103 : 0 ≤ (x7_1 : Int) := of_decide_eq_true qA; have q103 : x7_1 < (l0_2.length : Int) := of_decide_eq_true qA; obtain ⟨ad103, A103_4, c103_4, e103, hx103_0, hx103_1, hx103_2, hx103_3, hx103_4, hl103_4, hi103_4⟩ := at_T71 HR0_2.out x7_1 p103 q103; cases e103
                    replace hx103_0 := (HB.out.cell (zCq w _ hx103_0)).trans hx103_0; replace hx103_1 := (HB.out.cell (zCq w _ hx103_1)).trans hx103_1; replace hx103_2 := (HB.out.cell (zCq w _ hx103_2)).trans hx103_2; replace hx103_3 := (HB.out.cell (zCq w _ hx103_3)).trans hx103_3; replace hx103_4 := (HB.out.cell (zCq w _ hx103_4)).trans hx103_4; have HR103_4 := zA hi103_4; have HC103_4 := zA hl103_4; clear hi103_4 hl103_4; replace p103 := eq_true p103; replace q103 := eq_true q103; go_wp2; go_roundg k3
                    case measure => have := HK1.out; have := HJ3.out; have := HK3.out; omega
                    case rel => exact ⟨(wrap64 (x7_1 + 1)), (by first | rfl | (simp; done) | (simp [*]; done)), H', ⟨by have := HK1.out; have := HJ3.out; have := HK3.out; omega⟩, ⟨by exact BK101.out⟩, ⟨qB⟩⟩
                  rw [if_neg c12] at H; exact absurd H (by simp)
                rw [if_neg c11] at H; exact absurd H (by simp)
          replace c10 := Bool.eq_false_iff.mpr c10; subst c10; have H1 : (some (0, 0, false)) = some (r1, r2, r3) := by first | (rw [if_neg (show ¬ (false = true) by decide)] at H; exact H) | rfl
          clear H; have H := H1; clear H1; simp only [zNq, zOq] at H; obtain ⟨rfl, rfl, rfl⟩ := H; go_wp2; go_ret3; exact ⟨qE, qB⟩
def backhaulref26_Paid.f (k : Nat) (a0_0 : Int) (a0_1 : Int) (l0_2 : List (S71)) : Option (Int × Int) := (backhaulref26_Check.f k a0_0 a0_1 l0_2).bind fun t102 => (if t102 = 0 then ((backhaulref26_cost.f k l0_2).bind fun t103 => (some (t103, 0))) else (some (0, 40)))
theorem backhaulref26_Paid.mono : ∀ a0 a1 a2 k, LeO (backhaulref26_Paid.f k a0 a1 a2) (backhaulref26_Paid.f (k + 1) a0 a1 a2) := by
  intro a0 a1 a2 k
  unfold backhaulref26_Paid.f
  repeat' (with_reducible first | exact backhaulref26_Check.mono _ _ _ _ | exact backhaulref26_cost.mono _ _ | exact LeO.refl _ | exact LeO.none _ | refine LeO.ite ?_ ?_ | refine LeO.bind ?_ (fun _ => ?_))
set_option maxHeartbeats 8000000 in
set_option maxRecDepth 100000 in
theorem backhaulref26_Paid.calls (k : Nat) (a0_0 : Int) (a0_1 : Int) (A0_2 : Option Addr) (c0_2 : Nat) (l0_2 : List (S71)) (r1 : Int) (r2 : Int) (w : World) (hr0_2 : Kd.C k71 w A0_2 l0_2.length l0_2) (hc0_2 : l0_2.length ≤ c0_2) (h : backhaulref26_Paid.f k a0_0 a0_1 l0_2 = some (r1, r2)) :
    Calls Try.prog 89 #[.agg #[.int .i64 a0_0, .int .i64 a0_1, .slice A0_2 l0_2.length c0_2]] w fun e w' => e = .returned (.tuple #[.int .i64 r1, .int .i64 r2]) ∧ Below w.heap.size w w' := by
  have hu99 := Try.underlying99
  have HR0_2 := zA hr0_2
  have HC0_2 := zA hc0_2
  clear hr0_2 hc0_2
  have HB := zA (Below.refl w.heap.size w)
  have H : ((backhaulref26_Check.f k a0_0 a0_1 l0_2).bind fun t102 => (if t102 = 0 then ((backhaulref26_cost.f k l0_2).bind fun t103 => (some (t103, 0))) else (some (0, 40)))) = some (r1, r2) := h
  clear h
  replace H := Option.bind_eq_some_iff.mp H
  obtain ⟨t102, A20, H⟩ := H
  try dsimp only at H
  have A2 := zA A20
  clear A20
  by_cases c3 : t102 = 0
  · rw [if_pos c3] at H
    have c3b0 : (t102 == 0) = true := beq_iff_eq.mpr c3; have c3b1 : (t102 != 0) = false := bne_eq_false_iff_eq.mpr c3; clear c3; replace H := Option.bind_eq_some_iff.mp H; obtain ⟨t103, A40, H⟩ := H; try dsimp only at H
    have A4 := zA A40; clear A40; simp only [zNq, zOq] at H; obtain ⟨rfl, rfl⟩ := H; go_enter Try.func89, Try.ntmps89; go_wp2_with (first | ((with_reducible refine gate_dst (N := 1) rfl ?_); refine box_event qr (N := 1) qr (cs := #[.int .i64 a0_0, .int .i64 a0_1, .slice A0_2 l0_2.length c0_2]) (t := 99) qg ?_; intro gb101 hg w5 hbox hb; have n0_ := zA (zV qB hb); have n1_ := zA (hbox); have n2_ := zA ((qS : w.heap.size ≤ gb101)); have n3_ := zA ((qS : w.heap.size ≤ gb101)); clear HB; have HB := n0_; have BK101 := n1_; have GW101 := n2_; have GE101 := n3_; clear n0_ n1_ n2_ n3_ hb hbox hg; obtain ⟨_, _, _, _, _, _⟩ := qc3f BK101.out) | ((with_reducible refine zJq (f := 91) rfl ?_); refine goesL_ (some 5) rfl rfl Try.func91 (by kernel_rfl) rfl #[.agg #[.int .i64 a0_0, .int .i64 a0_1, .slice A0_2 l0_2.length c0_2]] rfl qG ?_; (with_reducible refine (backhaulref26_Check.calls k a0_0 a0_1 _ _ l0_2 t102 _ ?side1 ?side2 A2.out).mono ?_); (case side1 => exact qC (Kd.C_below HR0_2.out HB.out)); (case side2 => exact HC0_2.out); rintro e w7 ⟨rfl, hb⟩; refine ⟨_, rfl, ?_⟩; have n0_ := zA (qX BK101.out hb); have n1_ := zA (zV qB hb); clear BK101 HB; have BK101 := n0_; have HB := n1_; clear n0_ n1_; (try clear hb); obtain ⟨_, _, _, _, _, _⟩ := qc3f BK101.out) | ((with_reducible refine zJq (f := 132) rfl ?_); refine goesL_ (some 9) rfl rfl Try.func132 (by kernel_rfl) rfl #[.slice A0_2 l0_2.length c0_2] rfl qG ?_; (with_reducible refine (backhaulref26_cost.calls k _ _ l0_2 t103 _ ?side1 ?side2 A4.out).mono ?_); (case side1 => exact qC (Kd.C_below HR0_2.out HB.out)); (case side2 => exact HC0_2.out); rintro e w' ⟨rfl, ⟨nd, rfl⟩⟩; refine ⟨_, rfl, ?_⟩)); go_ret2; exact ⟨qE, qB⟩
  rw [if_neg c3] at H
  have c3b0 : (t102 == 0) = false := beq_eq_false_iff_ne.mpr c3
  have c3b1 : (t102 != 0) = true := bne_iff_ne.mpr c3
  simp only [zNq, zOq] at H
  obtain ⟨rfl, rfl⟩ := H
  go_enter Try.func89, Try.ntmps89
  go_wp2_with (first | ((with_reducible refine gate_dst (N := 1) rfl ?_); refine box_event qr (N := 1) qr (cs := #[.int .i64 a0_0, .int .i64 a0_1, .slice A0_2 l0_2.length c0_2]) (t := 99) qg ?_; intro gb101 hg w9 hbox hb; have n0_ := zA (zV qB hb); have n1_ := zA (hbox); have n2_ := zA ((qS : w.heap.size ≤ gb101)); have n3_ := zA ((qS : w.heap.size ≤ gb101)); clear HB; have HB := n0_; have BK101 := n1_; have GW101 := n2_; have GE101 := n3_; clear n0_ n1_ n2_ n3_ hb hbox hg; obtain ⟨_, _, _, _, _, _⟩ := qc3f BK101.out) | ((with_reducible refine zJq (f := 91) rfl ?_); refine goesL_ (some 5) rfl rfl Try.func91 (by kernel_rfl) rfl #[.agg #[.int .i64 a0_0, .int .i64 a0_1, .slice A0_2 l0_2.length c0_2]] rfl qG ?_; (with_reducible refine (backhaulref26_Check.calls k a0_0 a0_1 _ _ l0_2 t102 _ ?side1 ?side2 A2.out).mono ?_); (case side1 => exact qC (Kd.C_below HR0_2.out HB.out)); (case side2 => exact HC0_2.out); rintro e w11 ⟨rfl, hb⟩; refine ⟨_, rfl, ?_⟩; have n0_ := zA (qX BK101.out hb); have n1_ := zA (zV qB hb); clear BK101 HB; have BK101 := n0_; have HB := n1_; clear n0_ n1_; (try clear hb)))
  go_ret2
  exact ⟨qE, qB⟩
end Go.Proofs.Ytefhljhpcpajgaa.F
