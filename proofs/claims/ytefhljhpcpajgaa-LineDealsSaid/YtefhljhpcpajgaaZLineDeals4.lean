-- merged and pruned by prune.py (the session's own program); its words go back to the kit's print
import Derived.Test.YtefhljhpcpajgaaProg
import Derived.Below
import Derived.Deep.Draws
import Derived.Deep.AppendLies
import Derived.Maps.AppendAt
import Derived.OwnWalk
import Derived.Laws.BytesArg
import Derived.Laws.MakeOwn
import Derived.Laws.OwnMore
import Derived.Deep.OwnRows
import Derived.Tactics
import Derived.Lib.ConvBytes
import Derived.Laws.Slices
import Derived.WalkKit
import Derived.KernelRfl
import Derived.RowKit3
import Derived.Deep.LoopGhost
import Derived.Deep.QuietTactic
import Derived.BigQuiet
import Derived.WideLaws
import Derived.Deep.DeepCutAuto
import Derived.Deep.CutBlock
import Derived.Deep.RegionHeld3
import Derived.Laws.Rows
import Derived.Lib.AppendStr
import Derived.ArgAppend
import Derived.Laws.IdiomCopy
import Derived.OrdersHeld
import Derived.Laws.BitsLemmas
import Derived.RowKit
import Derived.Laws.StructEq
import Derived.Deep.RegionLawGrows
import Derived.Lib.SliceRun
import Derived.Shelf.SlSortCmp.Insertion1
import Derived.Shelf.Small.Bits
import Derived.Shelf.Utf8.RuneCount
import Derived.Shelf.Strconv.Itoa0
import Derived.Shelf.Strings.Prefix
import Derived.Shelf.Strings.RuneCount
import Derived.Shelf.Bits.Mul64
import Derived.Ground.Names2Prog
import Derived.Shelf.Slices.SearchI
import Derived.Ground.SlsfProg
import Derived.Shelf.SlSortCmp.Insertion
import Derived.Sort.LotA
import Derived.Sort.OwnSortedInts
import Derived.Lib.OthersKept
import Derived.Lib.RuneCount
import Derived.Laws.Cover4
import Derived.Outline
import Derived.Test.YtefhljhpcpajgaaZLineDeals3
namespace Go.Proofs.Ytefhljhpcpajgaa.F
open Go.RowKit Go.Proofs.YtefhljhpcpajgaaX Go.Proofs.YtefhljhpcpajgaaW.PrintWords Go.Proofs.YtefhljhpcpajgaaW.PrintLast Go.Proofs.YtefhljhpcpajgaaW.PrintMore
attribute [local go_sem] max2_int min2_int max_two min_two max_three min_three max_four min_four   
attribute [local go_sem high] str_geq str_leq str_gtr
set_option linter.unusedVariables false
set_option linter.unusedSimpArgs false
theorem own_len {A : Option Addr} {n m c d k : Nat} (h : some k ≠ (Value.slice A n c).ownBlock) : some k ≠ (Value.slice A m d).ownBlock := by cases A <;> exact h
def share_Out.l0 : Nat → List Int → List Int → Int → Int → Option (List Int × Int)
  | 0, _, _, _, _ => none
  | k + 1, x8, x51, x52, x53 => if x53 < x52 then (if 0 ≤ x53 then (if x53 < (x51.length : Int) then (if 0 ≤ (rd x51 x53) then (if (rd x51 x53) < (x8.length : Int) then (share_Out.l0 k (x8.set ((rd x51 x53) : Int).toNat (wrap64 ((rd x8 (rd x51 x53)) + 1))) x51 x52 (wrap64 (x53 + 1))) else (none)) else (none)) else (none)) else (none)) else (some (x8, 0))
def share_Out.f (k : Nat) (a0 : Int) (l1 : List Int) : Option (List Int × Int) := (share_Whole.f k l1).bind fun bt101 => (if bt101.2 = 0 then (if a0 < 0 then (some (([] : List Int), 8)) else ((cents_In.f a0).bind fun t103 => (if t103 = true then ((slices_Max_int_int.f k l1).bind fun t104 => (if t104 = 0 then ((share_even.f k (l1.length : Int)).bind fun t105 => ((share_parts.f k a0 bt101.1 t105).bind fun bt108 => (if bt108.2.2.2 = 0 then ((share_by_share_Out_1_v22.f (bt108.1.length : Int) bt108.2.1).bind fun t117 => (if 0 ≤ bt108.2.2.1 then (if bt108.2.2.1 ≤ (t117.length : Int) then ((some (t117.take (bt108.2.2.1 : Int).toNat : List Int)).bind fun y120 => (share_Out.l0 k bt108.1 y120 (y120.length : Int) 0)) else (none)) else (none))) else (some (([] : List Int), bt108.2.2.2))))) else ((share_parts.f k a0 bt101.1 l1).bind fun bt126 => (if bt126.2.2.2 = 0 then ((share_by_share_Out_1_v22.f (bt126.1.length : Int) bt126.2.1).bind fun t135 => (if 0 ≤ bt126.2.2.1 then (if bt126.2.2.1 ≤ (t135.length : Int) then ((some (t135.take (bt126.2.2.1 : Int).toNat : List Int)).bind fun y138 => (share_Out.l0 k bt126.1 y138 (y138.length : Int) 0)) else (none)) else (none))) else (some (([] : List Int), bt126.2.2.2)))))) else (some (([] : List Int), 8))))) else (some (([] : List Int), bt101.2)))
theorem share_Out.mono_l : ∀ k, (∀ y0 y1 y2 y3, LeO (share_Out.l0 k y0 y1 y2 y3) (share_Out.l0 (k + 1) y0 y1 y2 y3))
  | 0 => fun _ _ _ _ r h => by simp [share_Out.l0] at h
  | k + 1 => by
    have ih0 := share_Out.mono_l k
    intro y0 y1 y2 y3
    unfold share_Out.l0
    repeat' (with_reducible first | exact ih0 _ _ _ _ | exact share_Whole.mono _ _ | exact share_even.mono _ _ | exact share_parts.mono _ _ _ _ | exact slices_Max_int_int.mono _ _ | exact LeO.refl _ | exact LeO.none _ | refine LeO.ite ?_ ?_ | refine LeO.bind ?_ (fun _ => ?_))
theorem share_Out.mono : ∀ a0 a1 k, LeO (share_Out.f k a0 a1) (share_Out.f (k + 1) a0 a1) := by
  intro a0 a1 k
  have ih0 := share_Out.mono_l k
  unfold share_Out.f
  repeat' (with_reducible first | exact ih0 _ _ _ _ | exact share_Whole.mono _ _ | exact share_even.mono _ _ | exact share_parts.mono _ _ _ _ | exact slices_Max_int_int.mono _ _ | exact LeO.refl _ | exact LeO.none _ | refine LeO.ite ?_ ?_ | refine LeO.bind ?_ (fun _ => ?_))
set_option maxHeartbeats 8000000 in
set_option maxRecDepth 100000 in
theorem share_Out.calls (k : Nat) (a0 : Int) (A1 : Option Addr) (c1 : Nat) (l1 : List Int) (r1 : List Int) (r2 : Int) (w : World) (hr1 : Kd.C (Kd.int .i64) w A1 l1.length l1) (hc1 : l1.length ≤ c1) (h : share_Out.f k a0 l1 = some (r1, r2)) :
    Calls Try.prog 51 #[.int .i64 a0, .slice A1 l1.length c1] w fun e w' => ∃ v0_ : Value, e = .returned (.tuple #[v0_, .int .i64 r2]) ∧ Kd.R (Kd.int .i64) 3 w' w.heap.size (fun _ => True) v0_ r1 ∧ Below w.heap.size w w' := by
  have hmf : ∀ (fn : Fn) (first cap : Array Value) (w : World), (Instr.makeFunc fn first cap).run Try.prog w = .ok (.func fn first cap) w := fun _ _ _ _ => rfl
  have HR1 := zA hr1
  have HC1 := zA hc1
  clear hr1 hc1
  have HB := zA (Below.refl w.heap.size w)
  have H : ((share_Whole.f k l1).bind fun bt101 => (if bt101.2 = 0 then (if a0 < 0 then (some (([] : List Int), 8)) else ((cents_In.f a0).bind fun t103 => (if t103 = true then ((slices_Max_int_int.f k l1).bind fun t104 => (if t104 = 0 then ((share_even.f k (l1.length : Int)).bind fun t105 => ((share_parts.f k a0 bt101.1 t105).bind fun bt108 => (if bt108.2.2.2 = 0 then ((share_by_share_Out_1_v22.f (bt108.1.length : Int) bt108.2.1).bind fun t117 => (if 0 ≤ bt108.2.2.1 then (if bt108.2.2.1 ≤ (t117.length : Int) then ((some (t117.take (bt108.2.2.1 : Int).toNat : List Int)).bind fun y120 => (share_Out.l0 k bt108.1 y120 (y120.length : Int) 0)) else (none)) else (none))) else (some (([] : List Int), bt108.2.2.2))))) else ((share_parts.f k a0 bt101.1 l1).bind fun bt126 => (if bt126.2.2.2 = 0 then ((share_by_share_Out_1_v22.f (bt126.1.length : Int) bt126.2.1).bind fun t135 => (if 0 ≤ bt126.2.2.1 then (if bt126.2.2.1 ≤ (t135.length : Int) then ((some (t135.take (bt126.2.2.1 : Int).toNat : List Int)).bind fun y138 => (share_Out.l0 k bt126.1 y138 (y138.length : Int) 0)) else (none)) else (none))) else (some (([] : List Int), bt126.2.2.2)))))) else (some (([] : List Int), 8))))) else (some (([] : List Int), bt101.2)))) = some (r1, r2) := h
  clear h
  replace H := Option.bind_eq_some_iff.mp H
  obtain ⟨⟨t101, t102⟩, A30, H⟩ := H
  try dsimp only at H
  have A3 := zA A30
  clear A30
  by_cases c4 : t102 = 0
  · rw [if_pos c4] at H
    have c4b0 : (t102 == 0) = true := beq_iff_eq.mpr c4; have c4b1 : (t102 != 0) = false := bne_eq_false_iff_eq.mpr c4; clear c4; by_cases c5 : a0 < 0
    · rw [if_pos c5] at H
      have c5b0 : decide (a0 < 0) = true := zFq c5; clear c5; simp only [zNq, zOq] at H; obtain ⟨rfl, rfl⟩ := H; go_enter Try.func51, Try.ntmps51; go_wp2_with (first | ((with_reducible refine zJq (f := 57) rfl ?_); refine goesL_ (some 15) rfl rfl Try.func57 (by kernel_rfl) rfl #[.slice A1 l1.length c1] rfl qG ?_; (with_reducible refine (share_Whole.calls k _ _ l1 t101 t102 _ ?side1 ?side2 A3.out).mono ?_); (case side1 => repeat (first | exact HR1.out | (with_reducible refine Kd.C_alloc ?_ _) | (with_reducible refine Kd.C_drewN ?_ _) | (with_reducible refine Kd.C_drew ?_))); (case side2 => exact HC1.out); rintro e w' ⟨rfl, ⟨nd, rfl⟩⟩; refine ⟨_, rfl, ?_⟩)); go_ret2; exact ⟨_, qE, qN, qB⟩
    rw [if_neg c5] at H; have c5b0 : decide (a0 < 0) = false := zGq c5; clear c5; replace H := Option.bind_eq_some_iff.mp H; obtain ⟨t103, A60, H⟩ := H; try dsimp only at H
    have A6 := zA A60; clear A60; by_cases c7 : t103 = true
    · subst c7
      have H1 : ((slices_Max_int_int.f k l1).bind fun t104 => (if t104 = 0 then ((share_even.f k (l1.length : Int)).bind fun t105 => ((share_parts.f k a0 t101 t105).bind fun bt108 => (if bt108.2.2.2 = 0 then ((share_by_share_Out_1_v22.f (bt108.1.length : Int) bt108.2.1).bind fun t117 => (if 0 ≤ bt108.2.2.1 then (if bt108.2.2.1 ≤ (t117.length : Int) then ((some (t117.take (bt108.2.2.1 : Int).toNat : List Int)).bind fun y120 => (share_Out.l0 k bt108.1 y120 (y120.length : Int) 0)) else (none)) else (none))) else (some (([] : List Int), bt108.2.2.2))))) else ((share_parts.f k a0 t101 l1).bind fun bt126 => (if bt126.2.2.2 = 0 then ((share_by_share_Out_1_v22.f (bt126.1.length : Int) bt126.2.1).bind fun t135 => (if 0 ≤ bt126.2.2.1 then (if bt126.2.2.1 ≤ (t135.length : Int) then ((some (t135.take (bt126.2.2.1 : Int).toNat : List Int)).bind fun y138 => (share_Out.l0 k bt126.1 y138 (y138.length : Int) 0)) else (none)) else (none))) else (some (([] : List Int), bt126.2.2.2)))))) = some (r1, r2) := by first | (rw [if_pos rfl] at H; exact H) | rfl
      clear H; have H := H1; clear H1; replace H := Option.bind_eq_some_iff.mp H; obtain ⟨t104, A80, H⟩ := H; try dsimp only at H
      have A8 := zA A80; clear A80; by_cases c9 : t104 = 0
      · rw [if_pos c9] at H
        have c9b0 : (t104 == 0) = true := beq_iff_eq.mpr c9; have c9b1 : (t104 != 0) = false := bne_eq_false_iff_eq.mpr c9; clear c9; replace H := Option.bind_eq_some_iff.mp H; obtain ⟨t105, A100, H⟩ := H; try dsimp only at H
        have A10 := zA A100; clear A100; replace H := Option.bind_eq_some_iff.mp H; obtain ⟨⟨t108, t109, t110, t111⟩, A110, H⟩ := H; try dsimp only at H
        have A11 := zA A110; clear A110; by_cases c12 : t111 = 0
        · rw [if_pos c12] at H
          have c12b0 : (t111 == 0) = true := beq_iff_eq.mpr c12; have c12b1 : (t111 != 0) = false := bne_eq_false_iff_eq.mpr c12; clear c12; replace H := Option.bind_eq_some_iff.mp H; obtain ⟨t117, A130, H⟩ := H; try dsimp only at H
          have A13 := zA A130; clear A130; by_cases c14 : 0 ≤ t110
          · rw [if_pos c14] at H
            have c14b0 := eq_true c14; have c14b1 : decide (0 ≤ t110) = true := zFq c14; clear c14; by_cases c15 : t110 ≤ (t117.length : Int)
            · rw [if_pos c15] at H
              have c15b0 := eq_true c15; have c15b1 : decide (t110 ≤ (t117.length : Int)) = true := zFq c15; clear c15; obtain ⟨y120, hy120⟩ : ∃ y_ : List Int, y_ = (t117.take (t110 : Int).toNat) := ⟨_, rfl⟩
              replace H : (share_Out.l0 k t108 y120 (y120.length : Int) 0) = some (r1, r2) := by first | (rw [hy120]; with_reducible exact H) | (have H2_ := (Option.bind_some _ _).symm.trans H; rw [hy120]; with_reducible exact H2_) | (have H2_ := (Option.bind_some _ _).symm.trans H; with_reducible exact H2_) | with_reducible exact H | (rw [hy120]; exact H) | exact H
              have Ny120 := zA hy120; clear hy120; have H' := zA H; clear H; go_enter Try.func51, Try.ntmps51; go_wp2_with (first | ((with_reducible refine zJq (f := 57) rfl ?_); refine goesL_ (some 15) rfl rfl Try.func57 (by kernel_rfl) rfl #[.slice A1 l1.length c1] rfl qG ?_; (with_reducible refine (share_Whole.calls k _ _ l1 t101 t102 _ ?side1 ?side2 A3.out).mono ?_); (case side1 => repeat (first | exact HR1.out | (with_reducible refine Kd.C_alloc ?_ _) | (with_reducible refine Kd.C_drewN ?_ _) | (with_reducible refine Kd.C_drew ?_))); (case side2 => exact HC1.out); rintro e w' ⟨rfl, ⟨nd, rfl⟩⟩; refine ⟨_, rfl, ?_⟩) | (go_at_call 31; (with_reducible refine (cents_In.calls a0 true _ A6.out).mono ?_); rintro e w' ⟨rfl, ⟨nd, rfl⟩⟩) | ((with_reducible refine zJq (f := 105) rfl ?_); refine goesL_ (some 29) rfl rfl Try.func105 (by kernel_rfl) rfl #[.slice A1 l1.length c1] rfl qG ?_; (with_reducible refine (slices_Max_int_int.calls k _ _ l1 t104 _ ?side1 ?side2 A8.out).mono ?_); (case side1 => repeat (first | exact HR1.out | (with_reducible refine Kd.C_alloc ?_ _) | (with_reducible refine Kd.C_drewN ?_ _) | (with_reducible refine Kd.C_drew ?_))); (case side2 => exact HC1.out); rintro e w16 ⟨rfl, hb⟩; refine ⟨_, rfl, ?_⟩; have n0_ := zA (zV qB hb); clear HB; have HB := n0_; clear n0_; (try clear hb)) | ((with_reducible refine zJq (f := 106) rfl ?_); refine goesL_ (some 33) rfl rfl Try.func106 (by kernel_rfl) rfl #[.int .i64 (l1.length : Int)] rfl qG ?_; (with_reducible refine (share_even.calls k (l1.length : Int) t105 _ A10.out).mono ?_); rintro e w17 ⟨v106, rfl, ho0, hb⟩; refine ⟨_, rfl, ?_⟩; have n0_ := zA (Kd.R_lower ho0 (zW qB)); have n1_ := zA (zV qB hb); clear HB; have HO107 := n0_; have HB := n1_; clear n0_ n1_; (try clear hb); (try clear ho0); obtain ⟨Ao18, co18, eo18⟩ := Kd.R_slice HO107.out; subst eo18) | ((with_reducible refine zJq (f := 107) rfl ?_); refine goesL_ (some 38) rfl rfl Try.func107 (by kernel_rfl) rfl #[.int .i64 a0, .int .i64 t101, .slice Ao18 t105.length co18] rfl qG ?_; (with_reducible refine (share_parts.calls k a0 t101 _ _ t105 t108 t109 t110 t111 _ ?side1 ?side2 A11.out).mono ?_); (case side1 => repeat (first | exact (Kd.R_reads' HO107.out).2.2 | (with_reducible refine Kd.C_alloc ?_ _) | (with_reducible refine Kd.C_drewN ?_ _) | (with_reducible refine Kd.C_drew ?_))); (case side2 => exact (Kd.R_reads' HO107.out).2.1); rintro e w19 ⟨v112, v114, rfl, ho0, ho1, hb⟩; refine ⟨_, rfl, ?_⟩; have n0_ := zA (Kd.R_mono (Kd.R_told (Kd.R_told (Kd.R_old (by (with_reducible repeat (first | apply Kd.R_alloc | apply Kd.R_drewN | apply Kd.R_drew)); exact HO107.out) hb) (Kd.R_base ho0)) (Kd.R_base ho1)) (fun _ h_ => h_.1)); have n1_ := zA (Kd.R_lower (Kd.R_new' ho0 (Kd.R_lt (by (with_reducible repeat (first | apply Kd.R_alloc | apply Kd.R_drewN | apply Kd.R_drew)); exact HO107.out))) (zW qB)); have n2_ := zA (Kd.R_lower (Kd.R_new' ho1 (Kd.R_lt (by (with_reducible repeat (first | apply Kd.R_alloc | apply Kd.R_drewN | apply Kd.R_drew)); exact HO107.out))) (zW qB)); have n3_ := zA (zV qB hb); clear HO107 HB; have HO107 := n0_; have HO113 := n1_; have HO115 := n2_; have HB := n3_; clear n0_ n1_ n2_ n3_; (try clear hb); (try clear ho0); (try clear ho1)) | ((with_reducible refine gate_dst (N := 9) rfl ?_); refine box_event qr (N := 9) qr (cs := #[.slice none 0 0]) (t := 22) qg ?_; intro gb116 hg w20 hbox hb; have n0_ := zA (Kd.R_below (by (with_reducible repeat (first | apply Kd.R_alloc | apply Kd.R_drewN | apply Kd.R_drew)); exact HO107.out) hb); have n1_ := zA (Kd.R_below (by (with_reducible repeat (first | apply Kd.R_alloc | apply Kd.R_drewN | apply Kd.R_drew)); exact HO113.out) hb); have n2_ := zA (Kd.R_below (by (with_reducible repeat (first | apply Kd.R_alloc | apply Kd.R_drewN | apply Kd.R_drew)); exact HO115.out) hb); have n3_ := zA (zV qB hb); have n4_ := zA (hbox); have n5_ := zA ((qS : w.heap.size ≤ gb116)); have n6_ := zA ((qS : w.heap.size ≤ gb116)); clear HO107 HO113 HO115 HB; have HO107 := n0_; have HO113 := n1_; have HO115 := n2_; have HB := n3_; have BK116 := n4_; have GW116 := n5_; have GE116 := n6_; clear n0_ n1_ n2_ n3_ n4_ n5_ n6_ hb hbox hg; obtain ⟨Ao21, co21, eo21⟩ := Kd.R_slice HO115.out; subst eo21; have hcz22_0 : w20.cell? ⟨gb116, 0, none⟩ = some (.slice none 0 0) := (zF BK116.out 0).trans rfl; have hfz22_0 := zG BK116.out 0; obtain ⟨Ao23, co23, eo23⟩ := Kd.R_slice HO113.out; subst eo23) | (go_at_call 108; (with_reducible refine (share_by_share_Out_1_v22.calls (t108.length : Int) gb116 Ao21 co21 t109 t117 _ ?side1 ?side2 ?side3 A13.out).mono ?_); (case side1 => exact (by (with_reducible repeat (first | refine zY ?_ _ | refine zAq ?_ | refine zZ ?_ _)); refine blk_put (cs := #[.slice none 0 0]) ?_ 0 _ rfl; exact BK116.out)); (case side2 => refine (Kd.R_reads' (e := 3) (base := w.heap.size) (ok := fun k_ => (some k_ ≠ (.slice Ao23 t108.length co23 : Value).ownBlock ∧ some k_ ≠ (.slice Ao18 t105.length co18 : Value).ownBlock)) (n := t109.length) (c := co21) ?_).2.2; exact (by (with_reducible repeat (first | apply Kd.R_alloc | apply Kd.R_drewN | apply Kd.R_drew)); exact (Kd.R_mono (Kd.R_far (p := ⟨gb116, 0, none⟩) (Kd.R_types HO115.out BK116.out (by decide)) (fun _ hk => hk.2) (.slice Ao21 t109.length co21)) (fun _ h_ => h_.1)))); (case side3 => exact (Kd.R_reads' HO115.out).2.1); rintro e w24 ⟨v118, rfl, ho0, hb⟩; have n0_ := zA (Kd.R_elder' (by (with_reducible repeat (first | apply Kd.R_alloc | apply Kd.R_drewN | apply Kd.R_drew)); exact (Kd.R_mono (Kd.R_far (p := ⟨gb116, 0, none⟩) (Kd.R_types HO107.out BK116.out (by decide)) (fun _ hk => hk.2) (.slice Ao21 t109.length co21)) (fun _ h_ => h_.1))) (Kd.R_base ho0) hb); have n1_ := zA (Kd.R_elder' (by (with_reducible repeat (first | apply Kd.R_alloc | apply Kd.R_drewN | apply Kd.R_drew)); exact (Kd.R_mono (Kd.R_far (p := ⟨gb116, 0, none⟩) (Kd.R_types HO113.out BK116.out (by decide)) (fun _ hk => hk.2) (.slice Ao21 t109.length co21)) (fun _ h_ => h_.1))) (Kd.R_base ho0) hb); have n2_ := zA (Kd.R_elder' (by (with_reducible repeat (first | apply Kd.R_alloc | apply Kd.R_drewN | apply Kd.R_drew)); exact (Kd.R_mono (Kd.R_far (p := ⟨gb116, 0, none⟩) (Kd.R_types HO115.out BK116.out (by decide)) (fun _ hk => hk.2) (.slice Ao21 t109.length co21)) (fun _ h_ => h_.1))) (Kd.R_base ho0) hb); have n3_ := zA (Kd.R_lower (Kd.R_new' (Kd.R_new' (Kd.R_new' ho0 (Kd.R_lt (by (with_reducible repeat (first | apply Kd.R_alloc | apply Kd.R_drewN | apply Kd.R_drew)); exact (Kd.R_mono (Kd.R_far (p := ⟨gb116, 0, none⟩) (Kd.R_types HO107.out BK116.out (by decide)) (fun _ hk => hk.2) (.slice Ao21 t109.length co21)) (fun _ h_ => h_.1))))) (Kd.R_lt (by (with_reducible repeat (first | apply Kd.R_alloc | apply Kd.R_drewN | apply Kd.R_drew)); exact (Kd.R_mono (Kd.R_far (p := ⟨gb116, 0, none⟩) (Kd.R_types HO113.out BK116.out (by decide)) (fun _ hk => hk.2) (.slice Ao21 t109.length co21)) (fun _ h_ => h_.1))))) (Kd.R_lt (by (with_reducible repeat (first | apply Kd.R_alloc | apply Kd.R_drewN | apply Kd.R_drew)); exact (Kd.R_mono (Kd.R_far (p := ⟨gb116, 0, none⟩) (Kd.R_types HO115.out BK116.out (by decide)) (fun _ hk => hk.2) (.slice Ao21 t109.length co21)) (fun _ h_ => h_.1))))) (zW qB)); have n4_ := zA (zX (g := gb116) (o := .cells #[.slice Ao21 t109.length co21] 22 (0, 0)) (by (with_reducible repeat (first | refine zY ?_ _ | refine zAq ?_ | refine zZ ?_ _)); refine blk_put (cs := #[.slice none 0 0]) ?_ 0 _ rfl; exact BK116.out) hb); have n5_ := zA (zV qB hb); clear HO107 HO113 HO115 BK116 HB; have HO107 := n0_; have HO113 := n1_; have HO115 := n2_; have HO119 := n3_; have BK116 := n4_; have HB := n5_; clear n0_ n1_ n2_ n3_ n4_ n5_; (try clear hb); (try clear ho0); obtain ⟨Ao25, co25, eo25⟩ := Kd.R_slice HO119.out; subst eo25; have q26 : (t110 : Int) ≤ ((t117.length : Int) : Int) := of_decide_eq_true qA; obtain ⟨i026, hi026, _, hsz26, _⟩ := info_parts info3; have hcut26 := cut_to (P := Try.prog) 22 3 .i64 Try.underlying22 hi026 Ao25 t117.length co25 t110 (of_decide_eq_true qA) q26 (Kd.R_reads' HO119.out).2.1; have hr26 := Kd.R_take (m := (t110 : Int).toNat) HO119.out (by omega); have hy26 : y120.length = (t110 : Int).toNat := (by rw [Ny120.out, zQ]; omega); rw [← Ny120.out] at hr26; rw [← hy26] at hr26 hcut26; clear hy26 hi026 hsz26 HO119; have HO122 := zA hr26; clear hr26; replace q26 := eq_true q26))
              go_loopg [53] k (fun kq v53 w' => ∃ (x8_1 : List Int) (x53_1 : Int), v53 = .int .i64 x53_1 ∧ Aside0 (share_Out.l0 kq x8_1 y120 (y120.length : Int) x53_1 = some (r1, r2)) ∧ Aside0 (kq ≤ k) ∧ Aside0 (Kd.R (Kd.int .i64) 3 w' w.heap.size (fun k_ => some k_ ≠ ((.slice Ao25 y120.length co25) : Value).ownBlock ∧ some k_ ≠ ((.slice Ao21 t109.length co21) : Value).ownBlock) (.slice Ao23 t108.length co23) x8_1) ∧ Aside0 (Kd.R (Kd.int .i64) 3 w' w.heap.size (fun k_ => some k_ ≠ ((.slice Ao23 t108.length co23) : Value).ownBlock ∧ some k_ ≠ ((.slice Ao21 t109.length co21) : Value).ownBlock) (.slice Ao25 y120.length co25) y120) ∧ Aside0 (Kd.R (Kd.int .i64) 3 w' w.heap.size (fun k_ => some k_ ≠ ((.slice Ao23 t108.length co23) : Value).ownBlock ∧ some k_ ≠ ((.slice Ao25 y120.length co25) : Value).ownBlock) (.slice Ao21 t109.length co21) t109) ∧ Aside0 (w'.heap[gb116]? = some (.cells #[(.slice Ao21 t109.length co21)] 22 (0, 0))) ∧ Aside0 (Below w.heap.size w w'))
              case atStart => exact ⟨(t108), (0), (by first | rfl | (simp; done) | (simp [*]; done)), H', ⟨Nat.le_refl _⟩, ⟨by (with_reducible repeat (first | apply Kd.R_alloc | apply Kd.R_drewN | apply Kd.R_drew)); exact Kd.R_mono HO113.out (fun _ hk => ⟨own_len hk.2, hk.1.1⟩)⟩, ⟨by (with_reducible repeat (first | apply Kd.R_alloc | apply Kd.R_drewN | apply Kd.R_drew)); exact Kd.R_mono HO122.out (fun _ hk => ⟨hk.1.2, hk.2⟩)⟩, ⟨by (with_reducible repeat (first | apply Kd.R_alloc | apply Kd.R_drewN | apply Kd.R_drew)); exact Kd.R_mono HO115.out (fun _ hk => ⟨hk.1.1, own_len hk.2⟩)⟩, ⟨by exact BK116.out⟩, ⟨qB⟩⟩
              case round =>
                clear H'; try clear c1
                try clear p2
                try clear q2
                try clear c4
                try clear c4b0
                try clear c4b1
                try clear c5
                try clear c5b0
                try clear c7
                try clear c9
                try clear c9b0
                try clear c9b1
                try clear c10
                try clear c12
                try clear c12b0
                try clear c12b1
                try clear c14
                try clear c14b0
                try clear c14b1
                try clear c15
                try clear c15b0
                try clear c15b1
                try clear q26
                try clear hcz22_0
                try clear hfz22_0
                try clear q26
                obtain ⟨x8_1, x53_1, rfl, HA, HK1, HO_8, HO_51, HO_117000, BK116, HB⟩ := hrel; have hl8_1 := (Kd.R_reads' HO_8.out).1; rw [hl8_1] at HO_8; (try simp only [hl8_1])
                (try simp only [hl8_1] at BK116)
                (try simp only [hl8_1] at HO_51)
                (try simp only [hl8_1] at HO_117000)
                cases gk with
                | zero => exact absurd HA.out (by simp [share_Out.l0])
                | succ k1 =>
                  have H := HA.out; clear HA; simp only [share_Out.l0] at H; by_cases c27 : x53_1 < (y120.length : Int)
                  · rw [if_pos c27] at H
                    have c27b0 : decide (x53_1 < (y120.length : Int)) = true := zFq c27; clear c27; by_cases c28 : 0 ≤ x53_1
                    · rw [if_pos c28] at H
                      have c28b0 : decide (0 ≤ x53_1) = true := zFq c28; clear c28; by_cases c29 : x53_1 < (y120.length : Int)
                      · rw [if_pos c29] at H
                        have c29b0 : decide (x53_1 < (y120.length : Int)) = true := zFq c29; clear c29; by_cases c30 : 0 ≤ (rd y120 x53_1)
                        · rw [if_pos c30] at H
                          have c30b0 : decide (0 ≤ (rd y120 x53_1)) = true := zFq c30; clear c30; by_cases c31 : (rd y120 x53_1) < (x8_1.length : Int)
                          · rw [if_pos c31] at H
                            have c31b0 : decide ((rd y120 x53_1) < (x8_1.length : Int)) = true := zFq c31; clear c31; obtain ⟨y125, hy125⟩ : ∃ y_ : List Int, y_ = (x8_1.set ((rd y120 x53_1) : Int).toNat (wrap64 ((rd x8_1 (rd y120 x53_1)) + 1))) := ⟨_, rfl⟩
                            replace H : (share_Out.l0 k1 y125 y120 (y120.length : Int) (wrap64 (x53_1 + 1))) = some (r1, r2) := by first | (rw [hy125]; with_reducible exact H) | (have H2_ := (Option.bind_some _ _).symm.trans H; rw [hy125]; with_reducible exact H2_) | (have H2_ := (Option.bind_some _ _).symm.trans H; with_reducible exact H2_) | with_reducible exact H | (rw [hy125]; exact H) | exact H
                            have Ny125 := zA hy125; clear hy125; have H' := zA H; clear H; have p123 : 0 ≤ (x53_1 : Int) := of_decide_eq_true qA; have q123 : x53_1 < (y120.length : Int) := of_decide_eq_true qA; obtain ⟨ad123, e123, hx123_0⟩ := Kd.at_int (Kd.R_reads' HO_51.out).2.2 x53_1 p123 q123; cases e123
                            replace p123 := eq_true p123; replace q123 := eq_true q123; have p124 : 0 ≤ ((rd y120 x53_1) : Int) := of_decide_eq_true qA; have q124 : (rd y120 x53_1) < (x8_1.length : Int) := of_decide_eq_true qA; obtain ⟨ad124, e124, hx124_0⟩ := Kd.at_int (Kd.R_reads' HO_8.out).2.2 (rd y120 x53_1) p124 q124; cases e124
                            replace p124 := eq_true p124; replace q124 := eq_true q124; have p32 : 0 ≤ ((rd y120 x53_1) : Int) := of_decide_eq_true qA; have q32 : ((rd y120 x53_1) : Int) < ((x8_1.length : Int) : Int) := of_decide_eq_true qA; obtain ⟨go32, co32, eo32, gb32, gl32, cl32, HG32⟩ := Kd.R_form HO_8.out (by omega); (first | cases eo32 | (injection eo32 with ea_ en_ ec_; (first | subst ea_ | (injection ea_ with ea_; subst ea_)); subst ec_; clear en_))
                            have GB32 := zA gb32; have GG32 := zA HG32; clear gb32 gl32 HG32; (first | simp only [add_plain] at hx124_0 | skip)
                            obtain ⟨hx32_0, hf32_0⟩ := Kd.R_celln 0 HO_8.out ((rd y120 x53_1) : Int) p32 q32; replace p32 := eq_true p32; replace q32 := eq_true q32; have HP33 := Kd.R_putg HO_8.out ((rd y120 x53_1) : Int) (wrap64 ((rd x8_1 (rd y120 x53_1)) + 1)); go_wp2_with (first | ((with_reducible refine gate_store (t := 3) (p := 62) rfl ?_); refine store_event (t := 3) (p := 62) (v := ?vo_w34) (w1 := (wr.setCell ⟨go32, ((rd y120 x53_1) : Int).toNat, none⟩ (.int .i64 (wrap64 ((rd x8_1 (rd y120 x53_1)) + 1))))) ?hg ?ho ?hn ?hr ?_; (case ho => rfl); (case hg => rfl); (case hn => rfl); (case hr => first | (go_simp; done) | (go_simp; rfl)); intro w34 hw; have hg : wr.grownBy w34 (some go32) := (by rw [hw]; exact HP33.2); have hp_ : Kd.R (Kd.int .i64) 3 w34 w.heap.size (fun k_ => some k_ ≠ (.slice (some ad123) y120.length co25 : Value).ownBlock ∧ some k_ ≠ (.slice Ao21 t109.length co21 : Value).ownBlock) (.slice (some ⟨go32, 0, none⟩) x8_1.length co23) y125 := (by rw [hw, Ny125.out]; exact HP33.1); clear HP33; have n0_ := zA (hp_); have n1_ := zA (Kd.R_after (v := (.slice (some ⟨go32, 0, none⟩) x8_1.length co23)) (v1 := (.slice (some ⟨go32, 0, none⟩) x8_1.length co23)) (ok := (fun k_ => some k_ ≠ (.slice Ao21 t109.length co21 : Value).ownBlock)) (by (with_reducible repeat (first | apply Kd.R_alloc | apply Kd.R_drewN | apply Kd.R_drew)); exact Kd.R_mono HO_51.out (fun _ hk => ⟨hk.2, hk.1⟩)) hg (.inl rfl)); have n2_ := zA (Kd.R_after (v := (.slice (some ⟨go32, 0, none⟩) x8_1.length co23)) (v1 := (.slice (some ⟨go32, 0, none⟩) x8_1.length co23)) (ok := (fun k_ => some k_ ≠ (.slice (some ad123) y120.length co25 : Value).ownBlock)) (by (with_reducible repeat (first | apply Kd.R_alloc | apply Kd.R_drewN | apply Kd.R_drew)); exact Kd.R_mono HO_117000.out (fun _ hk => ⟨hk.2, hk.1⟩)) hg (.inl rfl)); have n3_ := zA (blk_grown (g := gb116) (o := .cells #[.slice Ao21 t109.length co21] 22 (0, 0)) (qW BK116.out) hg (Kd.R_ne HO_8.out BK116.out (by decide))); have n4_ := zA ((by rw [hw]; exact zE (HB.out) GB32.out : Below w.heap.size w w34)); clear HO_8 HO_51 HO_117000 BK116 HB; have HO_8 := n0_; have HO_51 := n1_; have HO_117000 := n2_; have BK116 := n3_; have HB := n4_; clear n0_ n1_ n2_ n3_ n4_ hg hw hp_)); (try simp only [← hl8_1])
                            go_roundg k1
                            case measure => have := HK1.out; omega
                            case rel => exact ⟨(y125), (wrap64 (x53_1 + 1)), (by first | rfl | (simp; done) | (simp [*]; done)), H', ⟨by have := HK1.out; omega⟩, ⟨by (try simp only [hl8_1]); (with_reducible repeat (first | apply Kd.R_alloc | apply Kd.R_drewN | apply Kd.R_drew)); exact HO_8.out⟩, ⟨by (try simp only [hl8_1]); (with_reducible repeat (first | apply Kd.R_alloc | apply Kd.R_drewN | apply Kd.R_drew)); exact Kd.R_mono HO_51.out (fun _ hk => ⟨hk.2, hk.1⟩)⟩, ⟨by (try simp only [hl8_1]); (with_reducible repeat (first | apply Kd.R_alloc | apply Kd.R_drewN | apply Kd.R_drew)); exact Kd.R_mono HO_117000.out (fun _ hk => ⟨hk.2, hk.1⟩)⟩, ⟨by (try simp only [hl8_1]); exact BK116.out⟩, ⟨qB⟩⟩
                          rw [if_neg c31] at H; exact absurd H (by simp)
                        rw [if_neg c30] at H; exact absurd H (by simp)
                      rw [if_neg c29] at H; exact absurd H (by simp)
                    rw [if_neg c28] at H; exact absurd H (by simp)
                  rw [if_neg c27] at H; have c27b0 : decide (x53_1 < (y120.length : Int)) = false := zGq c27; clear c27; simp only [zNq, zOq] at H; obtain ⟨rfl, rfl⟩ := H; go_wp2; go_ret2; exact ⟨_, qE, by (with_reducible repeat (first | apply Kd.R_alloc | apply Kd.R_drewN | apply Kd.R_drew)); exact Kd.R_mono HO_8.out (fun _ hk => trivial), qB⟩
            rw [if_neg c15] at H; exact absurd H (by simp)
          rw [if_neg c14] at H; exact absurd H (by simp)
        rw [if_neg c12] at H; have c12b0 : (t111 == 0) = false := beq_eq_false_iff_ne.mpr c12; have c12b1 : (t111 != 0) = true := bne_iff_ne.mpr c12; simp only [zNq, zOq] at H; obtain ⟨rfl, rfl⟩ := H; go_enter Try.func51, Try.ntmps51; go_wp2_with (first | ((with_reducible refine zJq (f := 57) rfl ?_); refine goesL_ (some 15) rfl rfl Try.func57 (by kernel_rfl) rfl #[.slice A1 l1.length c1] rfl qG ?_; (with_reducible refine (share_Whole.calls k _ _ l1 t101 t102 _ ?side1 ?side2 A3.out).mono ?_); (case side1 => repeat (first | exact HR1.out | (with_reducible refine Kd.C_alloc ?_ _) | (with_reducible refine Kd.C_drewN ?_ _) | (with_reducible refine Kd.C_drew ?_))); (case side2 => exact HC1.out); rintro e w' ⟨rfl, ⟨nd, rfl⟩⟩; refine ⟨_, rfl, ?_⟩) | (go_at_call 31; (with_reducible refine (cents_In.calls a0 true _ A6.out).mono ?_); rintro e w' ⟨rfl, ⟨nd, rfl⟩⟩) | ((with_reducible refine zJq (f := 105) rfl ?_); refine goesL_ (some 29) rfl rfl Try.func105 (by kernel_rfl) rfl #[.slice A1 l1.length c1] rfl qG ?_; (with_reducible refine (slices_Max_int_int.calls k _ _ l1 t104 _ ?side1 ?side2 A8.out).mono ?_); (case side1 => repeat (first | exact HR1.out | (with_reducible refine Kd.C_alloc ?_ _) | (with_reducible refine Kd.C_drewN ?_ _) | (with_reducible refine Kd.C_drew ?_))); (case side2 => exact HC1.out); rintro e w35 ⟨rfl, hb⟩; refine ⟨_, rfl, ?_⟩; have n0_ := zA (zV qB hb); clear HB; have HB := n0_; clear n0_; (try clear hb)) | ((with_reducible refine zJq (f := 106) rfl ?_); refine goesL_ (some 33) rfl rfl Try.func106 (by kernel_rfl) rfl #[.int .i64 (l1.length : Int)] rfl qG ?_; (with_reducible refine (share_even.calls k (l1.length : Int) t105 _ A10.out).mono ?_); rintro e w36 ⟨v106, rfl, ho0, hb⟩; refine ⟨_, rfl, ?_⟩; have n0_ := zA (Kd.R_lower ho0 (zW qB)); have n1_ := zA (zV qB hb); clear HB; have HO107 := n0_; have HB := n1_; clear n0_ n1_; (try clear hb); (try clear ho0); obtain ⟨Ao37, co37, eo37⟩ := Kd.R_slice HO107.out; subst eo37) | ((with_reducible refine zJq (f := 107) rfl ?_); refine goesL_ (some 38) rfl rfl Try.func107 (by kernel_rfl) rfl #[.int .i64 a0, .int .i64 t101, .slice Ao37 t105.length co37] rfl qG ?_; (with_reducible refine (share_parts.calls k a0 t101 _ _ t105 t108 t109 t110 t111 _ ?side1 ?side2 A11.out).mono ?_); (case side1 => repeat (first | exact (Kd.R_reads' HO107.out).2.2 | (with_reducible refine Kd.C_alloc ?_ _) | (with_reducible refine Kd.C_drewN ?_ _) | (with_reducible refine Kd.C_drew ?_))); (case side2 => exact (Kd.R_reads' HO107.out).2.1); rintro e w38 ⟨v112, v114, rfl, ho0, ho1, hb⟩; refine ⟨_, rfl, ?_⟩; have n0_ := zA (Kd.R_mono (Kd.R_told (Kd.R_told (Kd.R_old (by (with_reducible repeat (first | apply Kd.R_alloc | apply Kd.R_drewN | apply Kd.R_drew)); exact HO107.out) hb) (Kd.R_base ho0)) (Kd.R_base ho1)) (fun _ h_ => h_.1)); have n1_ := zA (Kd.R_lower (Kd.R_new' ho0 (Kd.R_lt (by (with_reducible repeat (first | apply Kd.R_alloc | apply Kd.R_drewN | apply Kd.R_drew)); exact HO107.out))) (zW qB)); have n2_ := zA (Kd.R_lower (Kd.R_new' ho1 (Kd.R_lt (by (with_reducible repeat (first | apply Kd.R_alloc | apply Kd.R_drewN | apply Kd.R_drew)); exact HO107.out))) (zW qB)); have n3_ := zA (zV qB hb); clear HO107 HB; have HO107 := n0_; have HO113 := n1_; have HO115 := n2_; have HB := n3_; clear n0_ n1_ n2_ n3_; (try clear hb); (try clear ho0); (try clear ho1)) | ((with_reducible refine gate_dst (N := 9) rfl ?_); refine box_event qr (N := 9) qr (cs := #[.slice none 0 0]) (t := 22) qg ?_; intro gb116 hg w39 hbox hb; have n0_ := zA (Kd.R_below (by (with_reducible repeat (first | apply Kd.R_alloc | apply Kd.R_drewN | apply Kd.R_drew)); exact HO107.out) hb); have n1_ := zA (Kd.R_below (by (with_reducible repeat (first | apply Kd.R_alloc | apply Kd.R_drewN | apply Kd.R_drew)); exact HO113.out) hb); have n2_ := zA (Kd.R_below (by (with_reducible repeat (first | apply Kd.R_alloc | apply Kd.R_drewN | apply Kd.R_drew)); exact HO115.out) hb); have n3_ := zA (zV qB hb); have n4_ := zA (hbox); have n5_ := zA ((qS : w.heap.size ≤ gb116)); have n6_ := zA ((qS : w.heap.size ≤ gb116)); clear HO107 HO113 HO115 HB; have HO107 := n0_; have HO113 := n1_; have HO115 := n2_; have HB := n3_; have BK116 := n4_; have GW116 := n5_; have GE116 := n6_; clear n0_ n1_ n2_ n3_ n4_ n5_ n6_ hb hbox hg; obtain ⟨Ao40, co40, eo40⟩ := Kd.R_slice HO115.out; subst eo40; have hcz41_0 : w39.cell? ⟨gb116, 0, none⟩ = some (.slice none 0 0) := (zF BK116.out 0).trans rfl; have hfz41_0 := zG BK116.out 0))
        go_ret2; exact ⟨_, qE, qN, qB⟩
      rw [if_neg c9] at H; have c9b0 : (t104 == 0) = false := beq_eq_false_iff_ne.mpr c9; have c9b1 : (t104 != 0) = true := bne_iff_ne.mpr c9; replace H := Option.bind_eq_some_iff.mp H; obtain ⟨⟨t126, t127, t128, t129⟩, A420, H⟩ := H; try dsimp only at H
      have A42 := zA A420; clear A420; by_cases c43 : t129 = 0
      · rw [if_pos c43] at H
        have c43b0 : (t129 == 0) = true := beq_iff_eq.mpr c43; have c43b1 : (t129 != 0) = false := bne_eq_false_iff_eq.mpr c43; clear c43; replace H := Option.bind_eq_some_iff.mp H; obtain ⟨t135, A440, H⟩ := H; try dsimp only at H
        have A44 := zA A440; clear A440; by_cases c45 : 0 ≤ t128
        · rw [if_pos c45] at H
          have c45b0 := eq_true c45; have c45b1 : decide (0 ≤ t128) = true := zFq c45; clear c45; by_cases c46 : t128 ≤ (t135.length : Int)
          · rw [if_pos c46] at H
            have c46b0 := eq_true c46; have c46b1 : decide (t128 ≤ (t135.length : Int)) = true := zFq c46; clear c46; obtain ⟨y138, hy138⟩ : ∃ y_ : List Int, y_ = (t135.take (t128 : Int).toNat) := ⟨_, rfl⟩
            replace H : (share_Out.l0 k t126 y138 (y138.length : Int) 0) = some (r1, r2) := by first | (rw [hy138]; with_reducible exact H) | (have H2_ := (Option.bind_some _ _).symm.trans H; rw [hy138]; with_reducible exact H2_) | (have H2_ := (Option.bind_some _ _).symm.trans H; with_reducible exact H2_) | with_reducible exact H | (rw [hy138]; exact H) | exact H
            have Ny138 := zA hy138; clear hy138; have H' := zA H; clear H; go_enter Try.func51, Try.ntmps51; go_wp2_with (first | ((with_reducible refine zJq (f := 57) rfl ?_); refine goesL_ (some 15) rfl rfl Try.func57 (by kernel_rfl) rfl #[.slice A1 l1.length c1] rfl qG ?_; (with_reducible refine (share_Whole.calls k _ _ l1 t101 t102 _ ?side1 ?side2 A3.out).mono ?_); (case side1 => repeat (first | exact HR1.out | (with_reducible refine Kd.C_alloc ?_ _) | (with_reducible refine Kd.C_drewN ?_ _) | (with_reducible refine Kd.C_drew ?_))); (case side2 => exact HC1.out); rintro e w' ⟨rfl, ⟨nd, rfl⟩⟩; refine ⟨_, rfl, ?_⟩) | (go_at_call 31; (with_reducible refine (cents_In.calls a0 true _ A6.out).mono ?_); rintro e w' ⟨rfl, ⟨nd, rfl⟩⟩) | ((with_reducible refine zJq (f := 105) rfl ?_); refine goesL_ (some 29) rfl rfl Try.func105 (by kernel_rfl) rfl #[.slice A1 l1.length c1] rfl qG ?_; (with_reducible refine (slices_Max_int_int.calls k _ _ l1 t104 _ ?side1 ?side2 A8.out).mono ?_); (case side1 => repeat (first | exact HR1.out | (with_reducible refine Kd.C_alloc ?_ _) | (with_reducible refine Kd.C_drewN ?_ _) | (with_reducible refine Kd.C_drew ?_))); (case side2 => exact HC1.out); rintro e w47 ⟨rfl, hb⟩; refine ⟨_, rfl, ?_⟩; have n0_ := zA (zV qB hb); clear HB; have HB := n0_; clear n0_; (try clear hb)) | ((with_reducible refine zJq (f := 107) rfl ?_); refine goesL_ (some 38) rfl rfl Try.func107 (by kernel_rfl) rfl #[.int .i64 a0, .int .i64 t101, .slice A1 l1.length c1] rfl qG ?_; (with_reducible refine (share_parts.calls k a0 t101 _ _ l1 t126 t127 t128 t129 _ ?side1 ?side2 A42.out).mono ?_); (case side1 => exact qC (Kd.C_below HR1.out HB.out)); (case side2 => exact HC1.out); rintro e w48 ⟨v130, v132, rfl, ho0, ho1, hb⟩; refine ⟨_, rfl, ?_⟩; have n0_ := zA (Kd.R_lower ho0 (zW qB)); have n1_ := zA (Kd.R_lower ho1 (zW qB)); have n2_ := zA (zV qB hb); clear HB; have HO131 := n0_; have HO133 := n1_; have HB := n2_; clear n0_ n1_ n2_; (try clear hb); (try clear ho0); (try clear ho1)) | ((with_reducible refine gate_dst (N := 9) rfl ?_); refine box_event qr (N := 9) qr (cs := #[.slice none 0 0]) (t := 22) qg ?_; intro gb134 hg w49 hbox hb; have n0_ := zA (Kd.R_below (by (with_reducible repeat (first | apply Kd.R_alloc | apply Kd.R_drewN | apply Kd.R_drew)); exact HO131.out) hb); have n1_ := zA (Kd.R_below (by (with_reducible repeat (first | apply Kd.R_alloc | apply Kd.R_drewN | apply Kd.R_drew)); exact HO133.out) hb); have n2_ := zA (zV qB hb); have n3_ := zA (hbox); have n4_ := zA ((qS : w.heap.size ≤ gb134)); have n5_ := zA ((qS : w.heap.size ≤ gb134)); clear HO131 HO133 HB; have HO131 := n0_; have HO133 := n1_; have HB := n2_; have BK134 := n3_; have GW134 := n4_; have GE134 := n5_; clear n0_ n1_ n2_ n3_ n4_ n5_ hb hbox hg; obtain ⟨Ao50, co50, eo50⟩ := Kd.R_slice HO133.out; subst eo50; have hcz51_0 : w49.cell? ⟨gb134, 0, none⟩ = some (.slice none 0 0) := (zF BK134.out 0).trans rfl; have hfz51_0 := zG BK134.out 0; obtain ⟨Ao52, co52, eo52⟩ := Kd.R_slice HO131.out; subst eo52) | (go_at_call 108; (with_reducible refine (share_by_share_Out_1_v22.calls (t126.length : Int) gb134 Ao50 co50 t127 t135 _ ?side1 ?side2 ?side3 A44.out).mono ?_); (case side1 => exact (by (with_reducible repeat (first | refine zY ?_ _ | refine zAq ?_ | refine zZ ?_ _)); refine blk_put (cs := #[.slice none 0 0]) ?_ 0 _ rfl; exact BK134.out)); (case side2 => refine (Kd.R_reads' (e := 3) (base := w.heap.size) (ok := fun k_ => some k_ ≠ (.slice Ao52 t126.length co52 : Value).ownBlock) (n := t127.length) (c := co50) ?_).2.2; exact (by (with_reducible repeat (first | apply Kd.R_alloc | apply Kd.R_drewN | apply Kd.R_drew)); exact (Kd.R_mono (Kd.R_far (p := ⟨gb134, 0, none⟩) (Kd.R_types HO133.out BK134.out (by decide)) (fun _ hk => hk.2) (.slice Ao50 t127.length co50)) (fun _ h_ => h_.1)))); (case side3 => exact (Kd.R_reads' HO133.out).2.1); rintro e w53 ⟨v136, rfl, ho0, hb⟩; have n0_ := zA (Kd.R_elder' (by (with_reducible repeat (first | apply Kd.R_alloc | apply Kd.R_drewN | apply Kd.R_drew)); exact (Kd.R_mono (Kd.R_far (p := ⟨gb134, 0, none⟩) (Kd.R_types HO131.out BK134.out (by decide)) (fun _ hk => hk.2) (.slice Ao50 t127.length co50)) (fun _ h_ => h_.1))) (Kd.R_base ho0) hb); have n1_ := zA (Kd.R_elder' (by (with_reducible repeat (first | apply Kd.R_alloc | apply Kd.R_drewN | apply Kd.R_drew)); exact (Kd.R_mono (Kd.R_far (p := ⟨gb134, 0, none⟩) (Kd.R_types HO133.out BK134.out (by decide)) (fun _ hk => hk.2) (.slice Ao50 t127.length co50)) (fun _ h_ => h_.1))) (Kd.R_base ho0) hb); have n2_ := zA (Kd.R_lower (Kd.R_new' (Kd.R_new' ho0 (Kd.R_lt (by (with_reducible repeat (first | apply Kd.R_alloc | apply Kd.R_drewN | apply Kd.R_drew)); exact (Kd.R_mono (Kd.R_far (p := ⟨gb134, 0, none⟩) (Kd.R_types HO131.out BK134.out (by decide)) (fun _ hk => hk.2) (.slice Ao50 t127.length co50)) (fun _ h_ => h_.1))))) (Kd.R_lt (by (with_reducible repeat (first | apply Kd.R_alloc | apply Kd.R_drewN | apply Kd.R_drew)); exact (Kd.R_mono (Kd.R_far (p := ⟨gb134, 0, none⟩) (Kd.R_types HO133.out BK134.out (by decide)) (fun _ hk => hk.2) (.slice Ao50 t127.length co50)) (fun _ h_ => h_.1))))) (zW qB)); have n3_ := zA (zX (g := gb134) (o := .cells #[.slice Ao50 t127.length co50] 22 (0, 0)) (by (with_reducible repeat (first | refine zY ?_ _ | refine zAq ?_ | refine zZ ?_ _)); refine blk_put (cs := #[.slice none 0 0]) ?_ 0 _ rfl; exact BK134.out) hb); have n4_ := zA (zV qB hb); clear HO131 HO133 BK134 HB; have HO131 := n0_; have HO133 := n1_; have HO137 := n2_; have BK134 := n3_; have HB := n4_; clear n0_ n1_ n2_ n3_ n4_; (try clear hb); (try clear ho0); obtain ⟨Ao54, co54, eo54⟩ := Kd.R_slice HO137.out; subst eo54; have q55 : (t128 : Int) ≤ ((t135.length : Int) : Int) := of_decide_eq_true qA; obtain ⟨i055, hi055, _, hsz55, _⟩ := info_parts info3; have hcut55 := cut_to (P := Try.prog) 22 3 .i64 Try.underlying22 hi055 Ao54 t135.length co54 t128 (of_decide_eq_true qA) q55 (Kd.R_reads' HO137.out).2.1; have hr55 := Kd.R_take (m := (t128 : Int).toNat) HO137.out (by omega); have hy55 : y138.length = (t128 : Int).toNat := (by rw [Ny138.out, zQ]; omega); rw [← Ny138.out] at hr55; rw [← hy55] at hr55 hcut55; clear hy55 hi055 hsz55 HO137; have HO140 := zA hr55; clear hr55; replace q55 := eq_true q55))
            go_loopg [53] k (fun kq v53 w' => ∃ (x8_1 : List Int) (x53_1 : Int), v53 = .int .i64 x53_1 ∧ Aside0 (share_Out.l0 kq x8_1 y138 (y138.length : Int) x53_1 = some (r1, r2)) ∧ Aside0 (kq ≤ k) ∧ Aside0 (Kd.R (Kd.int .i64) 3 w' w.heap.size (fun k_ => some k_ ≠ ((.slice Ao54 y138.length co54) : Value).ownBlock) (.slice Ao52 t126.length co52) x8_1) ∧ Aside0 (Kd.R (Kd.int .i64) 3 w' w.heap.size (fun k_ => some k_ ≠ ((.slice Ao52 t126.length co52) : Value).ownBlock) (.slice Ao54 y138.length co54) y138) ∧ Aside0 (Below w.heap.size w w'))
            case atStart => exact ⟨(t126), (0), (by first | rfl | (simp; done) | (simp [*]; done)), H', ⟨Nat.le_refl _⟩, ⟨by (with_reducible repeat (first | apply Kd.R_alloc | apply Kd.R_drewN | apply Kd.R_drew)); exact Kd.R_mono HO131.out (fun _ hk => own_len hk.2)⟩, ⟨by (with_reducible repeat (first | apply Kd.R_alloc | apply Kd.R_drewN | apply Kd.R_drew)); exact Kd.R_mono HO140.out (fun _ hk => hk.1.2)⟩, ⟨qB⟩⟩
            case round =>
              clear H'; try clear c1
              try clear p1
              try clear q1
              try clear hx1
              try clear c2
              try clear p2
              try clear q2
              try clear c3
              try clear p3
              try clear q3
              try clear hx3
              try clear hf3
              try clear c4
              try clear c4b0
              try clear c4b1
              try clear c5
              try clear c5b0
              try clear q5
              try clear p6
              try clear c7
              try clear c9
              try clear c9b0
              try clear c9b1
              try clear c10
              try clear c12
              try clear c12b0
              try clear c12b1
              try clear p12
              try clear q12
              try clear hx12
              try clear c14
              try clear c14b0
              try clear c14b1
              try clear c15
              try clear c15b0
              try clear c15b1
              try clear q26
              try clear c27
              try clear c27b0
              try clear c28
              try clear c28b0
              try clear c29
              try clear c29b0
              try clear c30
              try clear c30b0
              try clear c31
              try clear c31b0
              try clear p32
              try clear q32
              try clear hx32
              try clear hf32
              try clear c43
              try clear c43b0
              try clear c43b1
              try clear c45
              try clear c45b0
              try clear c45b1
              try clear c46
              try clear c46b0
              try clear c46b1
              try clear c51
              try clear q55
              try clear hcz22_0
              try clear hcz41_0
              try clear hcz51_0
              try clear hfz22_0
              try clear hfz41_0
              try clear hfz51_0
              try clear hx123_0
              try clear hx124_0
              try clear hx32_0
              try clear p123
              try clear p124
              try clear p2
              try clear p32
              try clear q123
              try clear q124
              try clear q2
              try clear q26
              try clear q32
              try clear q55
              obtain ⟨x8_1, x53_1, rfl, HA, HK1, HO_8, HO_51, HB⟩ := hrel; have hl8_1 := (Kd.R_reads' HO_8.out).1; rw [hl8_1] at HO_8; (try simp only [hl8_1])
              (try simp only [hl8_1] at HO_51)
              cases gk with
              | zero => exact absurd HA.out (by simp [share_Out.l0])
              | succ k1 =>
                have H := HA.out; clear HA; simp only [share_Out.l0] at H; by_cases c56 : x53_1 < (y138.length : Int)
                · rw [if_pos c56] at H
                  have c56b0 : decide (x53_1 < (y138.length : Int)) = true := zFq c56; clear c56; by_cases c57 : 0 ≤ x53_1
                  · rw [if_pos c57] at H
                    have c57b0 : decide (0 ≤ x53_1) = true := zFq c57; clear c57; by_cases c58 : x53_1 < (y138.length : Int)
                    · rw [if_pos c58] at H
                      have c58b0 : decide (x53_1 < (y138.length : Int)) = true := zFq c58; clear c58; by_cases c59 : 0 ≤ (rd y138 x53_1)
                      · rw [if_pos c59] at H
                        have c59b0 : decide (0 ≤ (rd y138 x53_1)) = true := zFq c59; clear c59; by_cases c60 : (rd y138 x53_1) < (x8_1.length : Int)
                        · rw [if_pos c60] at H
                          have c60b0 : decide ((rd y138 x53_1) < (x8_1.length : Int)) = true := zFq c60; clear c60; obtain ⟨y125, hy125⟩ : ∃ y_ : List Int, y_ = (x8_1.set ((rd y138 x53_1) : Int).toNat (wrap64 ((rd x8_1 (rd y138 x53_1)) + 1))) := ⟨_, rfl⟩
                          replace H : (share_Out.l0 k1 y125 y138 (y138.length : Int) (wrap64 (x53_1 + 1))) = some (r1, r2) := by first | (rw [hy125]; with_reducible exact H) | (have H2_ := (Option.bind_some _ _).symm.trans H; rw [hy125]; with_reducible exact H2_) | (have H2_ := (Option.bind_some _ _).symm.trans H; with_reducible exact H2_) | with_reducible exact H | (rw [hy125]; exact H) | exact H
                          have Ny125 := zA hy125; clear hy125; have H' := zA H; clear H; have p123 : 0 ≤ (x53_1 : Int) := of_decide_eq_true qA; have q123 : x53_1 < (y138.length : Int) := of_decide_eq_true qA; obtain ⟨ad123, e123, hx123_0⟩ := Kd.at_int (Kd.R_reads' HO_51.out).2.2 x53_1 p123 q123; cases e123
                          replace p123 := eq_true p123; replace q123 := eq_true q123; have p124 : 0 ≤ ((rd y138 x53_1) : Int) := of_decide_eq_true qA; have q124 : (rd y138 x53_1) < (x8_1.length : Int) := of_decide_eq_true qA; obtain ⟨ad124, e124, hx124_0⟩ := Kd.at_int (Kd.R_reads' HO_8.out).2.2 (rd y138 x53_1) p124 q124; cases e124
                          replace p124 := eq_true p124; replace q124 := eq_true q124; have p61 : 0 ≤ ((rd y138 x53_1) : Int) := of_decide_eq_true qA; have q61 : ((rd y138 x53_1) : Int) < ((x8_1.length : Int) : Int) := of_decide_eq_true qA; obtain ⟨go61, co61, eo61, gb61, gl61, cl61, HG61⟩ := Kd.R_form HO_8.out (by omega); (first | cases eo61 | (injection eo61 with ea_ en_ ec_; (first | subst ea_ | (injection ea_ with ea_; subst ea_)); subst ec_; clear en_))
                          have GB61 := zA gb61; have GG61 := zA HG61; clear gb61 gl61 HG61; (first | simp only [add_plain] at hx124_0 | skip)
                          obtain ⟨hx61_0, hf61_0⟩ := Kd.R_celln 0 HO_8.out ((rd y138 x53_1) : Int) p61 q61; replace p61 := eq_true p61; replace q61 := eq_true q61; have HP62 := Kd.R_putg HO_8.out ((rd y138 x53_1) : Int) (wrap64 ((rd x8_1 (rd y138 x53_1)) + 1)); go_wp2_with (first | ((with_reducible refine gate_store (t := 3) (p := 62) rfl ?_); refine store_event (t := 3) (p := 62) (v := ?vo_w63) (w1 := (wr.setCell ⟨go61, ((rd y138 x53_1) : Int).toNat, none⟩ (.int .i64 (wrap64 ((rd x8_1 (rd y138 x53_1)) + 1))))) ?hg ?ho ?hn ?hr ?_; (case ho => rfl); (case hg => rfl); (case hn => rfl); (case hr => first | (go_simp; done) | (go_simp; rfl)); intro w63 hw; have hg : wr.grownBy w63 (some go61) := (by rw [hw]; exact HP62.2); have hp_ : Kd.R (Kd.int .i64) 3 w63 w.heap.size (fun k_ => some k_ ≠ (.slice (some ad123) y138.length co54 : Value).ownBlock) (.slice (some ⟨go61, 0, none⟩) x8_1.length co52) y125 := (by rw [hw, Ny125.out]; exact HP62.1); clear HP62; have n0_ := zA (hp_); have n1_ := zA (Kd.R_after (v := (.slice (some ⟨go61, 0, none⟩) x8_1.length co52)) (v1 := (.slice (some ⟨go61, 0, none⟩) x8_1.length co52)) (ok := (fun _ => True)) (by (with_reducible repeat (first | apply Kd.R_alloc | apply Kd.R_drewN | apply Kd.R_drew)); exact Kd.R_mono HO_51.out (fun _ hk => ⟨trivial, hk⟩)) hg (.inl rfl)); have n2_ := zA ((by rw [hw]; exact zE (HB.out) GB61.out : Below w.heap.size w w63)); clear HO_8 HO_51 HB; have HO_8 := n0_; have HO_51 := n1_; have HB := n2_; clear n0_ n1_ n2_ hg hw hp_)); (try simp only [← hl8_1])
                          go_roundg k1
                          case measure => have := HK1.out; omega
                          case rel => exact ⟨(y125), (wrap64 (x53_1 + 1)), (by first | rfl | (simp; done) | (simp [*]; done)), H', ⟨by have := HK1.out; omega⟩, ⟨by (try simp only [hl8_1]); (with_reducible repeat (first | apply Kd.R_alloc | apply Kd.R_drewN | apply Kd.R_drew)); exact HO_8.out⟩, ⟨by (try simp only [hl8_1]); (with_reducible repeat (first | apply Kd.R_alloc | apply Kd.R_drewN | apply Kd.R_drew)); exact Kd.R_mono HO_51.out (fun _ hk => hk.2)⟩, ⟨qB⟩⟩
                        rw [if_neg c60] at H; exact absurd H (by simp)
                      rw [if_neg c59] at H; exact absurd H (by simp)
                    rw [if_neg c58] at H; exact absurd H (by simp)
                  rw [if_neg c57] at H; exact absurd H (by simp)
                rw [if_neg c56] at H; have c56b0 : decide (x53_1 < (y138.length : Int)) = false := zGq c56; clear c56; simp only [zNq, zOq] at H; obtain ⟨rfl, rfl⟩ := H; go_wp2; go_ret2; exact ⟨_, qE, by (with_reducible repeat (first | apply Kd.R_alloc | apply Kd.R_drewN | apply Kd.R_drew)); exact Kd.R_mono HO_8.out (fun _ hk => trivial), qB⟩
          rw [if_neg c46] at H; exact absurd H (by simp)
        rw [if_neg c45] at H; exact absurd H (by simp)
      rw [if_neg c43] at H; have c43b0 : (t129 == 0) = false := beq_eq_false_iff_ne.mpr c43; have c43b1 : (t129 != 0) = true := bne_iff_ne.mpr c43; simp only [zNq, zOq] at H; obtain ⟨rfl, rfl⟩ := H; go_enter Try.func51, Try.ntmps51; go_wp2_with (first | ((with_reducible refine zJq (f := 57) rfl ?_); refine goesL_ (some 15) rfl rfl Try.func57 (by kernel_rfl) rfl #[.slice A1 l1.length c1] rfl qG ?_; (with_reducible refine (share_Whole.calls k _ _ l1 t101 t102 _ ?side1 ?side2 A3.out).mono ?_); (case side1 => repeat (first | exact HR1.out | (with_reducible refine Kd.C_alloc ?_ _) | (with_reducible refine Kd.C_drewN ?_ _) | (with_reducible refine Kd.C_drew ?_))); (case side2 => exact HC1.out); rintro e w' ⟨rfl, ⟨nd, rfl⟩⟩; refine ⟨_, rfl, ?_⟩) | (go_at_call 31; (with_reducible refine (cents_In.calls a0 true _ A6.out).mono ?_); rintro e w' ⟨rfl, ⟨nd, rfl⟩⟩) | ((with_reducible refine zJq (f := 105) rfl ?_); refine goesL_ (some 29) rfl rfl Try.func105 (by kernel_rfl) rfl #[.slice A1 l1.length c1] rfl qG ?_; (with_reducible refine (slices_Max_int_int.calls k _ _ l1 t104 _ ?side1 ?side2 A8.out).mono ?_); (case side1 => repeat (first | exact HR1.out | (with_reducible refine Kd.C_alloc ?_ _) | (with_reducible refine Kd.C_drewN ?_ _) | (with_reducible refine Kd.C_drew ?_))); (case side2 => exact HC1.out); rintro e w64 ⟨rfl, hb⟩; refine ⟨_, rfl, ?_⟩; have n0_ := zA (zV qB hb); clear HB; have HB := n0_; clear n0_; (try clear hb)) | ((with_reducible refine zJq (f := 107) rfl ?_); refine goesL_ (some 38) rfl rfl Try.func107 (by kernel_rfl) rfl #[.int .i64 a0, .int .i64 t101, .slice A1 l1.length c1] rfl qG ?_; (with_reducible refine (share_parts.calls k a0 t101 _ _ l1 t126 t127 t128 t129 _ ?side1 ?side2 A42.out).mono ?_); (case side1 => exact qC (Kd.C_below HR1.out HB.out)); (case side2 => exact HC1.out); rintro e w65 ⟨v130, v132, rfl, ho0, ho1, hb⟩; refine ⟨_, rfl, ?_⟩; have n0_ := zA (Kd.R_lower ho0 (zW qB)); have n1_ := zA (Kd.R_lower ho1 (zW qB)); have n2_ := zA (zV qB hb); clear HB; have HO131 := n0_; have HO133 := n1_; have HB := n2_; clear n0_ n1_ n2_; (try clear hb); (try clear ho0); (try clear ho1)) | ((with_reducible refine gate_dst (N := 9) rfl ?_); refine box_event qr (N := 9) qr (cs := #[.slice none 0 0]) (t := 22) qg ?_; intro gb134 hg w66 hbox hb; have n0_ := zA (Kd.R_below (by (with_reducible repeat (first | apply Kd.R_alloc | apply Kd.R_drewN | apply Kd.R_drew)); exact HO131.out) hb); have n1_ := zA (Kd.R_below (by (with_reducible repeat (first | apply Kd.R_alloc | apply Kd.R_drewN | apply Kd.R_drew)); exact HO133.out) hb); have n2_ := zA (zV qB hb); have n3_ := zA (hbox); have n4_ := zA ((qS : w.heap.size ≤ gb134)); have n5_ := zA ((qS : w.heap.size ≤ gb134)); clear HO131 HO133 HB; have HO131 := n0_; have HO133 := n1_; have HB := n2_; have BK134 := n3_; have GW134 := n4_; have GE134 := n5_; clear n0_ n1_ n2_ n3_ n4_ n5_ hb hbox hg; obtain ⟨Ao67, co67, eo67⟩ := Kd.R_slice HO133.out; subst eo67; have hcz68_0 : w66.cell? ⟨gb134, 0, none⟩ = some (.slice none 0 0) := (zF BK134.out 0).trans rfl; have hfz68_0 := zG BK134.out 0))
      go_ret2; exact ⟨_, qE, qN, qB⟩
    replace c7 := Bool.eq_false_iff.mpr c7; subst c7; have H1 : (some (([] : List Int), 8)) = some (r1, r2) := by first | (rw [if_neg (show ¬ (false = true) by decide)] at H; exact H) | rfl
    clear H; have H := H1; clear H1; simp only [zNq, zOq] at H; obtain ⟨rfl, rfl⟩ := H; go_enter Try.func51, Try.ntmps51; go_wp2_with (first | ((with_reducible refine zJq (f := 57) rfl ?_); refine goesL_ (some 15) rfl rfl Try.func57 (by kernel_rfl) rfl #[.slice A1 l1.length c1] rfl qG ?_; (with_reducible refine (share_Whole.calls k _ _ l1 t101 t102 _ ?side1 ?side2 A3.out).mono ?_); (case side1 => repeat (first | exact HR1.out | (with_reducible refine Kd.C_alloc ?_ _) | (with_reducible refine Kd.C_drewN ?_ _) | (with_reducible refine Kd.C_drew ?_))); (case side2 => exact HC1.out); rintro e w' ⟨rfl, ⟨nd, rfl⟩⟩; refine ⟨_, rfl, ?_⟩) | (go_at_call 31; (with_reducible refine (cents_In.calls a0 false _ A6.out).mono ?_); rintro e w' ⟨rfl, ⟨nd, rfl⟩⟩)); go_ret2; exact ⟨_, qE, qN, qB⟩
  rw [if_neg c4] at H
  have c4b0 : (t102 == 0) = false := beq_eq_false_iff_ne.mpr c4
  have c4b1 : (t102 != 0) = true := bne_iff_ne.mpr c4
  simp only [zNq, zOq] at H
  obtain ⟨rfl, rfl⟩ := H
  go_enter Try.func51, Try.ntmps51
  go_wp2_with (first | ((with_reducible refine zJq (f := 57) rfl ?_); refine goesL_ (some 15) rfl rfl Try.func57 (by kernel_rfl) rfl #[.slice A1 l1.length c1] rfl qG ?_; (with_reducible refine (share_Whole.calls k _ _ l1 t101 t102 _ ?side1 ?side2 A3.out).mono ?_); (case side1 => repeat (first | exact HR1.out | (with_reducible refine Kd.C_alloc ?_ _) | (with_reducible refine Kd.C_drewN ?_ _) | (with_reducible refine Kd.C_drew ?_))); (case side2 => exact HC1.out); rintro e w' ⟨rfl, ⟨nd, rfl⟩⟩; refine ⟨_, rfl, ?_⟩))
  go_ret2
  exact ⟨_, qE, qN, qB⟩
def line_gross.f (a0_0 : Int) (a0_1 : Int) (a0_2 : Int) (a0_3 : Int) (l0_4 : List ByteArray) : Option (Int) := some a0_1
set_option maxHeartbeats 8000000 in
set_option maxRecDepth 100000 in
theorem line_gross.calls (a0_0 : Int) (a0_1 : Int) (a0_2 : Int) (a0_3 : Int) (A0_4 : Option Addr) (c0_4 : Nat) (l0_4 : List ByteArray) (r : Int) (w : World) (hr0_4 : Kd.C Kd.string w A0_4 l0_4.length l0_4) (hc0_4 : l0_4.length ≤ c0_4) (h : line_gross.f a0_0 a0_1 a0_2 a0_3 l0_4 = some r) :
    Calls Try.prog 113 #[.agg #[.int .i64 a0_0, .int .i64 a0_1, .int .i64 a0_2, .int .i64 a0_3, .slice A0_4 l0_4.length c0_4]] w fun e w' => e = .returned (.int .i64 r) ∧ Below w.heap.size w w' := by
  have hu71 := Try.underlying71
  have HR0_4 := zA hr0_4
  have HC0_4 := zA hc0_4
  clear hr0_4 hc0_4
  have HB := zA (Below.refl w.heap.size w)
  have H : (some a0_1) = some r := h
  clear h
  obtain rfl := zKq H
  go_enter Try.func113, Try.ntmps113
  go_wp2_with (first | ((with_reducible refine gate_dst (N := 1) rfl ?_); refine box_event qr (N := 1) qr (cs := #[.int .i64 a0_0, .int .i64 a0_1, .int .i64 a0_2, .int .i64 a0_3, .slice A0_4 l0_4.length c0_4]) (t := 71) qg ?_; intro gb101 hg w2 hbox hb; have n0_ := zA (zV qB hb); have n1_ := zA (hbox); have n2_ := zA ((qS : w.heap.size ≤ gb101)); have n3_ := zA ((qS : w.heap.size ≤ gb101)); clear HB; have HB := n0_; have BK101 := n1_; have GW101 := n2_; have GE101 := n3_; clear n0_ n1_ n2_ n3_ hb hbox hg; obtain ⟨_, _, _, _, _, _, _, _, _, _⟩ := qc5f BK101.out))
  go_ret
  exact ⟨qE, qB⟩
def line_each_line_gross.l0 : Nat → List Int → List (S71) → Int → Int → Option (List Int)
  | 0, _, _, _, _ => none
  | k + 1, x5, x11, x12, x13 => if x13 < x12 then (if 0 ≤ x13 then (if x13 < (x11.length : Int) then ((line_gross.f ((rd_T71 x11 x13).f0) ((rd_T71 x11 x13).f1) ((rd_T71 x11 x13).f2) ((rd_T71 x11 x13).f3) ((rd_T71 x11 x13).f4)).bind fun t106 => (if x13 < (x5.length : Int) then (line_each_line_gross.l0 k (x5.set (x13 : Int).toNat t106) x11 x12 (wrap64 (x13 + 1))) else (none))) else (none)) else (none)) else (some x5)
def line_each_line_gross.f (k : Nat) (l0 : List (S71))  : Option (List Int) := if 0 ≤ (l0.length : Int) then (if ((l0.length : Int) : Int).toNat ≤ 35184372088832 then (line_each_line_gross.l0 k (List.replicate ((l0.length : Int) : Int).toNat 0) l0 (l0.length : Int) 0) else (none)) else (none)
theorem line_each_line_gross.mono_l : ∀ k, (∀ y0 y1 y2 y3, LeO (line_each_line_gross.l0 k y0 y1 y2 y3) (line_each_line_gross.l0 (k + 1) y0 y1 y2 y3))
  | 0 => fun _ _ _ _ r h => by simp [line_each_line_gross.l0] at h
  | k + 1 => by
    have ih0 := line_each_line_gross.mono_l k
    intro y0 y1 y2 y3
    unfold line_each_line_gross.l0
    repeat' (with_reducible first | exact ih0 _ _ _ _ | exact LeO.refl _ | exact LeO.none _ | refine LeO.ite ?_ ?_ | refine LeO.bind ?_ (fun _ => ?_))
theorem line_each_line_gross.mono : ∀ a0 k, LeO (line_each_line_gross.f k a0) (line_each_line_gross.f (k + 1) a0) := by
  intro a0 k
  have ih0 := line_each_line_gross.mono_l k
  unfold line_each_line_gross.f
  repeat' (with_reducible first | exact ih0 _ _ _ _ | exact LeO.refl _ | exact LeO.none _ | refine LeO.ite ?_ ?_ | refine LeO.bind ?_ (fun _ => ?_))
set_option maxHeartbeats 8000000 in
set_option maxRecDepth 100000 in
theorem line_each_line_gross.calls (k : Nat) (A0 : Option Addr) (c0 : Nat) (l0 : List (S71))  (r : List Int) (w : World) (hr0 : Kd.C k71 w A0 l0.length l0) (hc0 : l0.length ≤ c0) (h : line_each_line_gross.f k l0 = some r) :
    Calls Try.prog 112 #[.slice A0 l0.length c0, .func (.func 113) #[] #[]] w fun e w' => ∃ v0_ : Value, e = .returned (v0_) ∧ Kd.R (Kd.int .i64) 3 w' w.heap.size (fun _ => True) v0_ r ∧ Below w.heap.size w w' := by
  have hu71 := Try.underlying71
  have HR0 := zA hr0
  have HC0 := zA hc0
  clear hr0 hc0
  have HB := zA (Below.refl w.heap.size w)
  have H : (if 0 ≤ (l0.length : Int) then (if ((l0.length : Int) : Int).toNat ≤ 35184372088832 then (line_each_line_gross.l0 k (List.replicate ((l0.length : Int) : Int).toNat 0) l0 (l0.length : Int) 0) else (none)) else (none)) = some r := h
  clear h
  by_cases c3 : 0 ≤ (l0.length : Int)
  · rw [if_pos c3] at H
    have c3b0 := eq_true c3; have c3b1 : decide (0 ≤ (l0.length : Int)) = true := zFq c3; clear c3; by_cases c4 : ((l0.length : Int) : Int).toNat ≤ 35184372088832
    · rw [if_pos c4] at H
      have c4b0 := eq_true c4; have c4b1 : decide (((l0.length : Int) : Int).toNat ≤ 35184372088832) = true := zFq c4; clear c4; obtain ⟨y101, hy101⟩ : ∃ y_ : List Int, y_ = (List.replicate ((l0.length : Int) : Int).toNat 0) := ⟨_, rfl⟩
      replace H : (line_each_line_gross.l0 k y101 l0 (l0.length : Int) 0) = some r := by first | (rw [hy101]; with_reducible exact H) | (have H2_ := (Option.bind_some _ _).symm.trans H; rw [hy101]; with_reducible exact H2_) | (have H2_ := (Option.bind_some _ _).symm.trans H; with_reducible exact H2_) | with_reducible exact H | (rw [hy101]; exact H) | exact H
      have Ny101 := zA hy101; clear hy101; have H' := zA H; clear H; go_enter Try.func112, Try.ntmps112; go_wp2_with (first | ((with_reducible refine gate_dst (N := 10) rfl ?_); refine Kd.R_make (Kd.int .i64) _ 3 rfl (N := 10) rfl 22 _ _ rfl (l0.length : Int) rfl rfl Try.underlying22 (.int .i64 0) 8 info3 rfl (by decide) (by omega) 0 (ok := fun _ => True) (okp := fun _ => True) rfl (fun _ hk => hk) trivial (of_decide_eq_true qA) (Nat.le_trans (Nat.mul_le_mul_right _ (of_decide_eq_true qA : (l0.length : Int).toNat ≤ 35184372088832)) (by omega)) (Below.refl _ _) (Nat.le_refl _) ?_; intro v102 w5 ho6 hb hg_ hnew_; clear hg_ hnew_; (first | rw [← Ny101.out] at ho6 | (simp only [Int.reduceToNat] at ho6; rw [← Ny101.out] at ho6)); have n0_ := zA (Kd.R_lower ho6 (zW qB)); have n1_ := zA (zV qB hb); clear HB; have HO103 := n0_; have HB := n1_; clear n0_ n1_ hb ho6)); go_loopg [13] k (fun kq v13 w' => ∃ (x5_1 : List Int) (x13_1 : Int), v13 = .int .i64 x13_1 ∧ Aside0 (line_each_line_gross.l0 kq x5_1 l0 (l0.length : Int) x13_1 = some r) ∧ Aside0 (kq ≤ k) ∧ Aside0 (Kd.R (Kd.int .i64) 3 w' w.heap.size (fun _ => True) v102 x5_1) ∧ Aside0 (Below w.heap.size w w'))
      case atStart => exact ⟨(y101), (0), (by first | rfl | (simp; done) | (simp [*]; done)), H', ⟨Nat.le_refl _⟩, ⟨by (with_reducible repeat (first | apply Kd.R_alloc | apply Kd.R_drewN | apply Kd.R_drew)); exact HO103.out⟩, ⟨qB⟩⟩
      case round =>
        clear H'; try clear p2
        try clear c3
        try clear c3b0
        try clear c3b1
        try clear c4
        try clear c4b0
        try clear c4b1
        obtain ⟨x5_1, x13_1, rfl, HA, HK1, HO_5, HB⟩ := hrel; cases gk with
        | zero => exact absurd HA.out (by simp [line_each_line_gross.l0])
        | succ k1 =>
          have H := HA.out; clear HA; simp only [line_each_line_gross.l0] at H; by_cases c7 : x13_1 < (l0.length : Int)
          · rw [if_pos c7] at H
            have c7b0 : decide (x13_1 < (l0.length : Int)) = true := zFq c7; clear c7; by_cases c8 : 0 ≤ x13_1
            · rw [if_pos c8] at H
              have c8b0 : decide (0 ≤ x13_1) = true := zFq c8; clear c8; by_cases c9 : x13_1 < (l0.length : Int)
              · rw [if_pos c9] at H
                have c9b0 : decide (x13_1 < (l0.length : Int)) = true := zFq c9; clear c9; replace H := Option.bind_eq_some_iff.mp H; obtain ⟨t106, A100, H⟩ := H; try dsimp only at H
                have A10 := zA A100; clear A100; by_cases c11 : x13_1 < (x5_1.length : Int)
                · rw [if_pos c11] at H
                  have c11b0 : decide (x13_1 < (x5_1.length : Int)) = true := zFq c11; clear c11; obtain ⟨y107, hy107⟩ : ∃ y_ : List Int, y_ = (x5_1.set (x13_1 : Int).toNat t106) := ⟨_, rfl⟩
                  replace H : (line_each_line_gross.l0 k1 y107 l0 (l0.length : Int) (wrap64 (x13_1 + 1))) = some r := by first | (rw [hy107]; with_reducible exact H) | (have H2_ := (Option.bind_some _ _).symm.trans H; rw [hy107]; with_reducible exact H2_) | (have H2_ := (Option.bind_some _ _).symm.trans H; with_reducible exact H2_) | with_reducible exact H | (rw [hy107]; exact H) | exact H
                  have Ny107 := zA hy107; clear hy107; have H' := zA H; clear H; have p104 : 0 ≤ (x13_1 : Int) := of_decide_eq_true qA; have q104 : x13_1 < (l0.length : Int) := of_decide_eq_true qA; obtain ⟨ad104, A104_4, c104_4, e104, hx104_0, hx104_1, hx104_2, hx104_3, hx104_4, hl104_4, hi104_4⟩ := at_T71 HR0.out x13_1 p104 q104; cases e104
                  replace hx104_0 := (HB.out.cell (zCq w _ hx104_0)).trans hx104_0; replace hx104_1 := (HB.out.cell (zCq w _ hx104_1)).trans hx104_1; replace hx104_2 := (HB.out.cell (zCq w _ hx104_2)).trans hx104_2; replace hx104_3 := (HB.out.cell (zCq w _ hx104_3)).trans hx104_3; replace hx104_4 := (HB.out.cell (zCq w _ hx104_4)).trans hx104_4; have HR104_4 := zA hi104_4; have HC104_4 := zA hl104_4; clear hi104_4 hl104_4; replace p104 := eq_true p104; replace q104 := eq_true q104; go_wp2_with (first | ((with_reducible refine gate_dst (N := 7) rfl ?_); refine box_event qr (N := 7) qr (cs := #[.int .i64 0, .int .i64 0, .int .i64 0, .int .i64 0, .slice none 0 0]) (t := 71) qg ?_; intro gb105 hg w13 hbox hb; have n0_ := zA (Kd.R_below (by (with_reducible repeat (first | apply Kd.R_alloc | apply Kd.R_drewN | apply Kd.R_drew)); exact HO_5.out) hb); have n1_ := zA (zV qB hb); have n2_ := zA (hbox); have n3_ := zA ((qS : w.heap.size ≤ gb105)); have n4_ := zA ((qS : w.heap.size ≤ gb105)); clear HO_5 HB; have HO_5 := n0_; have HB := n1_; have BK105 := n2_; have GW105 := n3_; have GE105 := n4_; clear n0_ n1_ n2_ n3_ n4_ hb hbox hg; obtain ⟨_, _, _, _, _, _, _, _, _, _⟩ := qc5f BK105.out) | (go_at_call 113; (with_reducible refine (line_gross.calls ((rd_T71 l0 x13_1).f0) ((rd_T71 l0 x13_1).f1) ((rd_T71 l0 x13_1).f2) ((rd_T71 l0 x13_1).f3) _ _ ((rd_T71 l0 x13_1).f4) t106 _ ?side1 ?side2 A10.out).mono ?_); (case side1 => exact Kd.C_below HR104_4.out qB); (case side2 => exact HC104_4.out); rintro e w15 ⟨rfl, hb⟩; have n0_ := zA (Kd.R_below (by (with_reducible repeat (first | apply Kd.R_alloc | apply Kd.R_drewN | apply Kd.R_drew)); exact (Kd.R_mono (Kd.R_far (p := ⟨gb105, 4, none⟩) (Kd.R_far (p := ⟨gb105, 3, none⟩) (Kd.R_far (p := ⟨gb105, 2, none⟩) (Kd.R_far (p := ⟨gb105, 1, none⟩) (Kd.R_far (p := ⟨gb105, 0, none⟩) (Kd.R_types HO_5.out BK105.out (by decide)) (fun _ hk => hk.2) (.int .i64 ((rd_T71 l0 x13_1).f0))) (fun _ hk => hk.2) (.int .i64 ((rd_T71 l0 x13_1).f1))) (fun _ hk => hk.2) (.int .i64 ((rd_T71 l0 x13_1).f2))) (fun _ hk => hk.2) (.int .i64 ((rd_T71 l0 x13_1).f3))) (fun _ hk => hk.2) (.slice A104_4 ((rd_T71 l0 x13_1).f4).length c104_4)) (fun _ h_ => h_.1))) hb); have n1_ := zA (zX (g := gb105) (o := .cells #[.int .i64 ((rd_T71 l0 x13_1).f0), .int .i64 ((rd_T71 l0 x13_1).f1), .int .i64 ((rd_T71 l0 x13_1).f2), .int .i64 ((rd_T71 l0 x13_1).f3), .slice A104_4 ((rd_T71 l0 x13_1).f4).length c104_4] 71 (0, 0)) (qV BK105.out) hb); have n2_ := zA (zV qB hb); clear HO_5 BK105 HB; have HO_5 := n0_; have BK105 := n1_; have HB := n2_; clear n0_ n1_ n2_; (try clear hb); have p12 : 0 ≤ (x13_1 : Int) := of_decide_eq_true qA; have q12 : (x13_1 : Int) < ((x5_1.length : Int) : Int) := of_decide_eq_true qA; obtain ⟨go12, co12, eo12, gb12, gl12, cl12, HG12⟩ := Kd.R_form HO_5.out (by omega); (first | cases eo12 | (injection eo12 with ea_ en_ ec_; (first | subst ea_ | (injection ea_ with ea_; subst ea_)); subst ec_; clear en_)); have GB12 := zA gb12; have GG12 := zA HG12; clear gb12 gl12 HG12; obtain ⟨hx12_0, hf12_0⟩ := Kd.R_celln 0 HO_5.out (x13_1 : Int) p12 q12; replace p12 := eq_true p12; replace q12 := eq_true q12; obtain ⟨hy16_, hz16_⟩ := Kd.R_celln 0 HO_5.out (x13_1 : Int) (of_decide_eq_true qA) (of_decide_eq_true qA); have HP16 := Kd.R_putg HO_5.out (x13_1 : Int) t106) | ((with_reducible refine gate_store (t := 3) (p := 23) rfl ?_); refine store_event (t := 3) (p := 23) (v := ?vo_w17) (w1 := (w15.setCell ⟨go12, (x13_1 : Int).toNat, none⟩ (.int .i64 t106))) ?hg ?ho ?hn ?hr ?_; (case ho => rfl); (case hg => rfl); (case hn => rfl); (case hr => first | (go_simp; done) | (go_simp; rfl)); intro w17 hw; have hg : w15.grownBy w17 (some go12) := (by rw [hw]; exact HP16.2); have hp_ : Kd.R (Kd.int .i64) 3 w17 w.heap.size (fun _ => True) (.slice (some ⟨go12, 0, none⟩) x5_1.length co12) y107 := (by rw [hw, Ny107.out]; exact HP16.1); clear HP16; have n0_ := zA (hp_); have n1_ := zA (blk_grown (g := gb105) (o := .cells #[.int .i64 ((rd_T71 l0 x13_1).f0), .int .i64 ((rd_T71 l0 x13_1).f1), .int .i64 ((rd_T71 l0 x13_1).f2), .int .i64 ((rd_T71 l0 x13_1).f3), .slice A104_4 ((rd_T71 l0 x13_1).f4).length c104_4] 71 (0, 0)) (qW BK105.out) hg (Kd.R_ne HO_5.out BK105.out (by decide))); have n2_ := zA ((by rw [hw]; exact zE (HB.out) GB12.out : Below w.heap.size w w17)); clear HO_5 BK105 HB; have HO_5 := n0_; have BK105 := n1_; have HB := n2_; clear n0_ n1_ n2_ hg hw hp_))
                  go_roundg k1
                  case measure => have := HK1.out; omega
                  case rel => exact ⟨(y107), (wrap64 (x13_1 + 1)), (by first | rfl | (simp; done) | (simp [*]; done)), H', ⟨by have := HK1.out; omega⟩, ⟨by (with_reducible repeat (first | apply Kd.R_alloc | apply Kd.R_drewN | apply Kd.R_drew)); exact HO_5.out⟩, ⟨qB⟩⟩
                rw [if_neg c11] at H; exact absurd H (by simp)
              rw [if_neg c9] at H; exact absurd H (by simp)
            rw [if_neg c8] at H; exact absurd H (by simp)
          rw [if_neg c7] at H; have c7b0 : decide (x13_1 < (l0.length : Int)) = false := zGq c7; clear c7; obtain rfl := zKq H; go_wp2; go_ret; exact ⟨_, qE, by (with_reducible repeat (first | apply Kd.R_alloc | apply Kd.R_drewN | apply Kd.R_drew)); exact HO_5.out, qB⟩
    rw [if_neg c4] at H; exact absurd H (by simp)
  rw [if_neg c3] at H
  exact absurd H (by simp)
def line_net.f (a0_0 : Int) (a0_1 : Int) (a0_2 : Int) (a0_3 : Int) (l0_4 : List ByteArray) : Option (Int) := some a0_2
set_option maxHeartbeats 8000000 in
set_option maxRecDepth 100000 in
theorem line_net.calls (a0_0 : Int) (a0_1 : Int) (a0_2 : Int) (a0_3 : Int) (A0_4 : Option Addr) (c0_4 : Nat) (l0_4 : List ByteArray) (r : Int) (w : World) (hr0_4 : Kd.C Kd.string w A0_4 l0_4.length l0_4) (hc0_4 : l0_4.length ≤ c0_4) (h : line_net.f a0_0 a0_1 a0_2 a0_3 l0_4 = some r) :
    Calls Try.prog 115 #[.agg #[.int .i64 a0_0, .int .i64 a0_1, .int .i64 a0_2, .int .i64 a0_3, .slice A0_4 l0_4.length c0_4]] w fun e w' => e = .returned (.int .i64 r) ∧ Below w.heap.size w w' := by
  have hu71 := Try.underlying71
  have HR0_4 := zA hr0_4
  have HC0_4 := zA hc0_4
  clear hr0_4 hc0_4
  have HB := zA (Below.refl w.heap.size w)
  have H : (some a0_2) = some r := h
  clear h
  obtain rfl := zKq H
  go_enter Try.func115, Try.ntmps115
  go_wp2_with (first | ((with_reducible refine gate_dst (N := 1) rfl ?_); refine box_event qr (N := 1) qr (cs := #[.int .i64 a0_0, .int .i64 a0_1, .int .i64 a0_2, .int .i64 a0_3, .slice A0_4 l0_4.length c0_4]) (t := 71) qg ?_; intro gb101 hg w2 hbox hb; have n0_ := zA (zV qB hb); have n1_ := zA (hbox); have n2_ := zA ((qS : w.heap.size ≤ gb101)); have n3_ := zA ((qS : w.heap.size ≤ gb101)); clear HB; have HB := n0_; have BK101 := n1_; have GW101 := n2_; have GE101 := n3_; clear n0_ n1_ n2_ n3_ hb hbox hg; obtain ⟨_, _, _, _, _, _, _, _, _, _⟩ := qc5f BK101.out))
  go_ret
  exact ⟨qE, qB⟩
def line_each_line_net.l0 : Nat → List Int → List (S71) → Int → Int → Option (List Int)
  | 0, _, _, _, _ => none
  | k + 1, x5, x11, x12, x13 => if x13 < x12 then (if 0 ≤ x13 then (if x13 < (x11.length : Int) then ((line_net.f ((rd_T71 x11 x13).f0) ((rd_T71 x11 x13).f1) ((rd_T71 x11 x13).f2) ((rd_T71 x11 x13).f3) ((rd_T71 x11 x13).f4)).bind fun t106 => (if x13 < (x5.length : Int) then (line_each_line_net.l0 k (x5.set (x13 : Int).toNat t106) x11 x12 (wrap64 (x13 + 1))) else (none))) else (none)) else (none)) else (some x5)
def line_each_line_net.f (k : Nat) (l0 : List (S71))  : Option (List Int) := if 0 ≤ (l0.length : Int) then (if ((l0.length : Int) : Int).toNat ≤ 35184372088832 then (line_each_line_net.l0 k (List.replicate ((l0.length : Int) : Int).toNat 0) l0 (l0.length : Int) 0) else (none)) else (none)
theorem line_each_line_net.mono_l : ∀ k, (∀ y0 y1 y2 y3, LeO (line_each_line_net.l0 k y0 y1 y2 y3) (line_each_line_net.l0 (k + 1) y0 y1 y2 y3))
  | 0 => fun _ _ _ _ r h => by simp [line_each_line_net.l0] at h
  | k + 1 => by
    have ih0 := line_each_line_net.mono_l k
    intro y0 y1 y2 y3
    unfold line_each_line_net.l0
    repeat' (with_reducible first | exact ih0 _ _ _ _ | exact LeO.refl _ | exact LeO.none _ | refine LeO.ite ?_ ?_ | refine LeO.bind ?_ (fun _ => ?_))
theorem line_each_line_net.mono : ∀ a0 k, LeO (line_each_line_net.f k a0) (line_each_line_net.f (k + 1) a0) := by
  intro a0 k
  have ih0 := line_each_line_net.mono_l k
  unfold line_each_line_net.f
  repeat' (with_reducible first | exact ih0 _ _ _ _ | exact LeO.refl _ | exact LeO.none _ | refine LeO.ite ?_ ?_ | refine LeO.bind ?_ (fun _ => ?_))
set_option maxHeartbeats 8000000 in
set_option maxRecDepth 100000 in
theorem line_each_line_net.calls (k : Nat) (A0 : Option Addr) (c0 : Nat) (l0 : List (S71))  (r : List Int) (w : World) (hr0 : Kd.C k71 w A0 l0.length l0) (hc0 : l0.length ≤ c0) (h : line_each_line_net.f k l0 = some r) :
    Calls Try.prog 112 #[.slice A0 l0.length c0, .func (.func 115) #[] #[]] w fun e w' => ∃ v0_ : Value, e = .returned (v0_) ∧ Kd.R (Kd.int .i64) 3 w' w.heap.size (fun _ => True) v0_ r ∧ Below w.heap.size w w' := by
  have hu71 := Try.underlying71
  have HR0 := zA hr0
  have HC0 := zA hc0
  clear hr0 hc0
  have HB := zA (Below.refl w.heap.size w)
  have H : (if 0 ≤ (l0.length : Int) then (if ((l0.length : Int) : Int).toNat ≤ 35184372088832 then (line_each_line_net.l0 k (List.replicate ((l0.length : Int) : Int).toNat 0) l0 (l0.length : Int) 0) else (none)) else (none)) = some r := h
  clear h
  by_cases c3 : 0 ≤ (l0.length : Int)
  · rw [if_pos c3] at H
    have c3b0 := eq_true c3; have c3b1 : decide (0 ≤ (l0.length : Int)) = true := zFq c3; clear c3; by_cases c4 : ((l0.length : Int) : Int).toNat ≤ 35184372088832
    · rw [if_pos c4] at H
      have c4b0 := eq_true c4; have c4b1 : decide (((l0.length : Int) : Int).toNat ≤ 35184372088832) = true := zFq c4; clear c4; obtain ⟨y101, hy101⟩ : ∃ y_ : List Int, y_ = (List.replicate ((l0.length : Int) : Int).toNat 0) := ⟨_, rfl⟩
      replace H : (line_each_line_net.l0 k y101 l0 (l0.length : Int) 0) = some r := by first | (rw [hy101]; with_reducible exact H) | (have H2_ := (Option.bind_some _ _).symm.trans H; rw [hy101]; with_reducible exact H2_) | (have H2_ := (Option.bind_some _ _).symm.trans H; with_reducible exact H2_) | with_reducible exact H | (rw [hy101]; exact H) | exact H
      have Ny101 := zA hy101; clear hy101; have H' := zA H; clear H; go_enter Try.func112, Try.ntmps112; go_wp2_with (first | ((with_reducible refine gate_dst (N := 10) rfl ?_); refine Kd.R_make (Kd.int .i64) _ 3 rfl (N := 10) rfl 22 _ _ rfl (l0.length : Int) rfl rfl Try.underlying22 (.int .i64 0) 8 info3 rfl (by decide) (by omega) 0 (ok := fun _ => True) (okp := fun _ => True) rfl (fun _ hk => hk) trivial (of_decide_eq_true qA) (Nat.le_trans (Nat.mul_le_mul_right _ (of_decide_eq_true qA : (l0.length : Int).toNat ≤ 35184372088832)) (by omega)) (Below.refl _ _) (Nat.le_refl _) ?_; intro v102 w5 ho6 hb hg_ hnew_; clear hg_ hnew_; (first | rw [← Ny101.out] at ho6 | (simp only [Int.reduceToNat] at ho6; rw [← Ny101.out] at ho6)); have n0_ := zA (Kd.R_lower ho6 (zW qB)); have n1_ := zA (zV qB hb); clear HB; have HO103 := n0_; have HB := n1_; clear n0_ n1_ hb ho6)); go_loopg [13] k (fun kq v13 w' => ∃ (x5_1 : List Int) (x13_1 : Int), v13 = .int .i64 x13_1 ∧ Aside0 (line_each_line_net.l0 kq x5_1 l0 (l0.length : Int) x13_1 = some r) ∧ Aside0 (kq ≤ k) ∧ Aside0 (Kd.R (Kd.int .i64) 3 w' w.heap.size (fun _ => True) v102 x5_1) ∧ Aside0 (Below w.heap.size w w'))
      case atStart => exact ⟨(y101), (0), (by first | rfl | (simp; done) | (simp [*]; done)), H', ⟨Nat.le_refl _⟩, ⟨by (with_reducible repeat (first | apply Kd.R_alloc | apply Kd.R_drewN | apply Kd.R_drew)); exact HO103.out⟩, ⟨qB⟩⟩
      case round =>
        clear H'; try clear p2
        try clear c3
        try clear c3b0
        try clear c3b1
        try clear c4
        try clear c4b0
        try clear c4b1
        obtain ⟨x5_1, x13_1, rfl, HA, HK1, HO_5, HB⟩ := hrel; cases gk with
        | zero => exact absurd HA.out (by simp [line_each_line_net.l0])
        | succ k1 =>
          have H := HA.out; clear HA; simp only [line_each_line_net.l0] at H; by_cases c7 : x13_1 < (l0.length : Int)
          · rw [if_pos c7] at H
            have c7b0 : decide (x13_1 < (l0.length : Int)) = true := zFq c7; clear c7; by_cases c8 : 0 ≤ x13_1
            · rw [if_pos c8] at H
              have c8b0 : decide (0 ≤ x13_1) = true := zFq c8; clear c8; by_cases c9 : x13_1 < (l0.length : Int)
              · rw [if_pos c9] at H
                have c9b0 : decide (x13_1 < (l0.length : Int)) = true := zFq c9; clear c9; replace H := Option.bind_eq_some_iff.mp H; obtain ⟨t106, A100, H⟩ := H; try dsimp only at H
                have A10 := zA A100; clear A100; by_cases c11 : x13_1 < (x5_1.length : Int)
                · rw [if_pos c11] at H
                  have c11b0 : decide (x13_1 < (x5_1.length : Int)) = true := zFq c11; clear c11; obtain ⟨y107, hy107⟩ : ∃ y_ : List Int, y_ = (x5_1.set (x13_1 : Int).toNat t106) := ⟨_, rfl⟩
                  replace H : (line_each_line_net.l0 k1 y107 l0 (l0.length : Int) (wrap64 (x13_1 + 1))) = some r := by first | (rw [hy107]; with_reducible exact H) | (have H2_ := (Option.bind_some _ _).symm.trans H; rw [hy107]; with_reducible exact H2_) | (have H2_ := (Option.bind_some _ _).symm.trans H; with_reducible exact H2_) | with_reducible exact H | (rw [hy107]; exact H) | exact H
                  have Ny107 := zA hy107; clear hy107; have H' := zA H; clear H; have p104 : 0 ≤ (x13_1 : Int) := of_decide_eq_true qA; have q104 : x13_1 < (l0.length : Int) := of_decide_eq_true qA; obtain ⟨ad104, A104_4, c104_4, e104, hx104_0, hx104_1, hx104_2, hx104_3, hx104_4, hl104_4, hi104_4⟩ := at_T71 HR0.out x13_1 p104 q104; cases e104
                  replace hx104_0 := (HB.out.cell (zCq w _ hx104_0)).trans hx104_0; replace hx104_1 := (HB.out.cell (zCq w _ hx104_1)).trans hx104_1; replace hx104_2 := (HB.out.cell (zCq w _ hx104_2)).trans hx104_2; replace hx104_3 := (HB.out.cell (zCq w _ hx104_3)).trans hx104_3; replace hx104_4 := (HB.out.cell (zCq w _ hx104_4)).trans hx104_4; have HR104_4 := zA hi104_4; have HC104_4 := zA hl104_4; clear hi104_4 hl104_4; replace p104 := eq_true p104; replace q104 := eq_true q104; go_wp2_with (first | ((with_reducible refine gate_dst (N := 7) rfl ?_); refine box_event qr (N := 7) qr (cs := #[.int .i64 0, .int .i64 0, .int .i64 0, .int .i64 0, .slice none 0 0]) (t := 71) qg ?_; intro gb105 hg w13 hbox hb; have n0_ := zA (Kd.R_below (by (with_reducible repeat (first | apply Kd.R_alloc | apply Kd.R_drewN | apply Kd.R_drew)); exact HO_5.out) hb); have n1_ := zA (zV qB hb); have n2_ := zA (hbox); have n3_ := zA ((qS : w.heap.size ≤ gb105)); have n4_ := zA ((qS : w.heap.size ≤ gb105)); clear HO_5 HB; have HO_5 := n0_; have HB := n1_; have BK105 := n2_; have GW105 := n3_; have GE105 := n4_; clear n0_ n1_ n2_ n3_ n4_ hb hbox hg; obtain ⟨_, _, _, _, _, _, _, _, _, _⟩ := qc5f BK105.out) | (go_at_call 115; (with_reducible refine (line_net.calls ((rd_T71 l0 x13_1).f0) ((rd_T71 l0 x13_1).f1) ((rd_T71 l0 x13_1).f2) ((rd_T71 l0 x13_1).f3) _ _ ((rd_T71 l0 x13_1).f4) t106 _ ?side1 ?side2 A10.out).mono ?_); (case side1 => exact Kd.C_below HR104_4.out qB); (case side2 => exact HC104_4.out); rintro e w15 ⟨rfl, hb⟩; have n0_ := zA (Kd.R_below (by (with_reducible repeat (first | apply Kd.R_alloc | apply Kd.R_drewN | apply Kd.R_drew)); exact (Kd.R_mono (Kd.R_far (p := ⟨gb105, 4, none⟩) (Kd.R_far (p := ⟨gb105, 3, none⟩) (Kd.R_far (p := ⟨gb105, 2, none⟩) (Kd.R_far (p := ⟨gb105, 1, none⟩) (Kd.R_far (p := ⟨gb105, 0, none⟩) (Kd.R_types HO_5.out BK105.out (by decide)) (fun _ hk => hk.2) (.int .i64 ((rd_T71 l0 x13_1).f0))) (fun _ hk => hk.2) (.int .i64 ((rd_T71 l0 x13_1).f1))) (fun _ hk => hk.2) (.int .i64 ((rd_T71 l0 x13_1).f2))) (fun _ hk => hk.2) (.int .i64 ((rd_T71 l0 x13_1).f3))) (fun _ hk => hk.2) (.slice A104_4 ((rd_T71 l0 x13_1).f4).length c104_4)) (fun _ h_ => h_.1))) hb); have n1_ := zA (zX (g := gb105) (o := .cells #[.int .i64 ((rd_T71 l0 x13_1).f0), .int .i64 ((rd_T71 l0 x13_1).f1), .int .i64 ((rd_T71 l0 x13_1).f2), .int .i64 ((rd_T71 l0 x13_1).f3), .slice A104_4 ((rd_T71 l0 x13_1).f4).length c104_4] 71 (0, 0)) (qV BK105.out) hb); have n2_ := zA (zV qB hb); clear HO_5 BK105 HB; have HO_5 := n0_; have BK105 := n1_; have HB := n2_; clear n0_ n1_ n2_; (try clear hb); have p12 : 0 ≤ (x13_1 : Int) := of_decide_eq_true qA; have q12 : (x13_1 : Int) < ((x5_1.length : Int) : Int) := of_decide_eq_true qA; obtain ⟨go12, co12, eo12, gb12, gl12, cl12, HG12⟩ := Kd.R_form HO_5.out (by omega); (first | cases eo12 | (injection eo12 with ea_ en_ ec_; (first | subst ea_ | (injection ea_ with ea_; subst ea_)); subst ec_; clear en_)); have GB12 := zA gb12; have GG12 := zA HG12; clear gb12 gl12 HG12; obtain ⟨hx12_0, hf12_0⟩ := Kd.R_celln 0 HO_5.out (x13_1 : Int) p12 q12; replace p12 := eq_true p12; replace q12 := eq_true q12; obtain ⟨hy16_, hz16_⟩ := Kd.R_celln 0 HO_5.out (x13_1 : Int) (of_decide_eq_true qA) (of_decide_eq_true qA); have HP16 := Kd.R_putg HO_5.out (x13_1 : Int) t106) | ((with_reducible refine gate_store (t := 3) (p := 23) rfl ?_); refine store_event (t := 3) (p := 23) (v := ?vo_w17) (w1 := (w15.setCell ⟨go12, (x13_1 : Int).toNat, none⟩ (.int .i64 t106))) ?hg ?ho ?hn ?hr ?_; (case ho => rfl); (case hg => rfl); (case hn => rfl); (case hr => first | (go_simp; done) | (go_simp; rfl)); intro w17 hw; have hg : w15.grownBy w17 (some go12) := (by rw [hw]; exact HP16.2); have hp_ : Kd.R (Kd.int .i64) 3 w17 w.heap.size (fun _ => True) (.slice (some ⟨go12, 0, none⟩) x5_1.length co12) y107 := (by rw [hw, Ny107.out]; exact HP16.1); clear HP16; have n0_ := zA (hp_); have n1_ := zA (blk_grown (g := gb105) (o := .cells #[.int .i64 ((rd_T71 l0 x13_1).f0), .int .i64 ((rd_T71 l0 x13_1).f1), .int .i64 ((rd_T71 l0 x13_1).f2), .int .i64 ((rd_T71 l0 x13_1).f3), .slice A104_4 ((rd_T71 l0 x13_1).f4).length c104_4] 71 (0, 0)) (qW BK105.out) hg (Kd.R_ne HO_5.out BK105.out (by decide))); have n2_ := zA ((by rw [hw]; exact zE (HB.out) GB12.out : Below w.heap.size w w17)); clear HO_5 BK105 HB; have HO_5 := n0_; have BK105 := n1_; have HB := n2_; clear n0_ n1_ n2_ hg hw hp_))
                  go_roundg k1
                  case measure => have := HK1.out; omega
                  case rel => exact ⟨(y107), (wrap64 (x13_1 + 1)), (by first | rfl | (simp; done) | (simp [*]; done)), H', ⟨by have := HK1.out; omega⟩, ⟨by (with_reducible repeat (first | apply Kd.R_alloc | apply Kd.R_drewN | apply Kd.R_drew)); exact HO_5.out⟩, ⟨qB⟩⟩
                rw [if_neg c11] at H; exact absurd H (by simp)
              rw [if_neg c9] at H; exact absurd H (by simp)
            rw [if_neg c8] at H; exact absurd H (by simp)
          rw [if_neg c7] at H; have c7b0 : decide (x13_1 < (l0.length : Int)) = false := zGq c7; clear c7; obtain rfl := zKq H; go_wp2; go_ret; exact ⟨_, qE, by (with_reducible repeat (first | apply Kd.R_alloc | apply Kd.R_drewN | apply Kd.R_drew)); exact HO_5.out, qB⟩
    rw [if_neg c4] at H; exact absurd H (by simp)
  rw [if_neg c3] at H
  exact absurd H (by simp)
mutual
def line_Deal.j0 : Nat → Int → Int → List (S71) → Int → Bool → Option ((List (S71)) × Int)
  | 0, _, _, _, _, _ => none
  | k + 1, x1, x2, x8, x10, x34 => if x34 = true then (some (([] : List (S71)), 8)) else (if x1 > x10 then (some (([] : List (S71)), 34)) else ((line_each_line_gross.f k x8).bind fun t112 => ((share_Out.f k x1 t112).bind fun bt115 => (if bt115.2 = 0 then (line_Deal.l0 k x2 x8 bt115.1 (x8.length : Int) 0) else (some (([] : List (S71)), bt115.2))))))
def line_Deal.l0 : Nat → Int → List (S71) → List Int → Int → Int → Option ((List (S71)) × Int)
  | 0, _, _, _, _, _ => none
  | k + 1, x2, x8, x11, x58, x59 => if x59 < x58 then (if 0 ≤ x59 then (if x59 < (x8.length : Int) then (if x59 < (x11.length : Int) then (line_Deal.l0 k x2 (x8.set (x59 : Int).toNat (⟨(rd_T71 x8 x59).f0, (rd_T71 x8 x59).f1, wrap64 (((rd_T71 x8 x59).f1) - (rd x11 x59)), (rd_T71 x8 x59).f3, (rd_T71 x8 x59).f4⟩ : S71)) x11 x58 (wrap64 (x59 + 1))) else (none)) else (none)) else (none)) else ((line_each_line_net.f k x8).bind fun t122 => ((share_Out.f k x2 t122).bind fun bt125 => (if bt125.2 = 0 then (line_Deal.l1 k x8 bt125.1 (x8.length : Int) 0) else (some (([] : List (S71)), bt125.2)))))
def line_Deal.l1 : Nat → List (S71) → List Int → Int → Int → Option ((List (S71)) × Int)
  | 0, _, _, _, _ => none
  | k + 1, x8, x13, x88, x89 => if x89 < x88 then (if 0 ≤ x89 then (if x89 < (x13.length : Int) then (if x89 < (x8.length : Int) then ((some (x8.set (x89 : Int).toNat (⟨(rd_T71 x8 x89).f0, (rd_T71 x8 x89).f1, (rd_T71 x8 x89).f2, rd x13 x89, (rd_T71 x8 x89).f4⟩ : S71) : List (S71))).bind fun y130 => ((line_Check.f k ((rd_T71 y130 x89).f0) ((rd_T71 y130 x89).f1) ((rd_T71 y130 x89).f2) ((rd_T71 y130 x89).f3) ((rd_T71 y130 x89).f4)).bind fun t132 => (if t132 = 0 then (line_Deal.l1 k y130 x13 x88 (wrap64 (x89 + 1))) else (some (([] : List (S71)), t132))))) else (none)) else (none)) else (none)) else (some (x8, 0))
end
def line_Deal.f (k : Nat) (l0 : List (S71)) (a1 : Int) (a2 : Int) : Option ((List (S71)) × Int) := (line_bare.f k l0).bind fun bt101 => (if bt101.2 = 0 then ((line_each_line_gross.f k bt101.1).bind fun t105 => ((cents_Add.f k t105).bind fun bt108 => (if bt108.2 = 0 then ((line_paid.f a1).bind fun t110 => (if t110 = true then ((line_paid.f a2).bind fun t111 => (line_Deal.j0 k a1 a2 bt101.1 bt108.1 (!t111))) else (line_Deal.j0 k a1 a2 bt101.1 bt108.1 true))) else (some (([] : List (S71)), bt108.2))))) else (some (([] : List (S71)), bt101.2)))
theorem line_Deal.mono_l : ∀ k, (∀ y0 y1 y2 y3 y4, LeO (line_Deal.j0 k y0 y1 y2 y3 y4) (line_Deal.j0 (k + 1) y0 y1 y2 y3 y4)) ∧ (∀ y0 y1 y2 y3 y4, LeO (line_Deal.l0 k y0 y1 y2 y3 y4) (line_Deal.l0 (k + 1) y0 y1 y2 y3 y4)) ∧ (∀ y0 y1 y2 y3, LeO (line_Deal.l1 k y0 y1 y2 y3) (line_Deal.l1 (k + 1) y0 y1 y2 y3))
  | 0 => ⟨fun _ _ _ _ _ r h => by simp [line_Deal.j0] at h, fun _ _ _ _ _ r h => by simp [line_Deal.l0] at h, fun _ _ _ _ r h => by simp [line_Deal.l1] at h⟩
  | k + 1 => by
    obtain ⟨ih0, ih1, ih2⟩ := line_Deal.mono_l k
    refine ⟨?_, ?_, ?_⟩
    · intro y0 y1 y2 y3 y4
      unfold line_Deal.j0
      repeat' (with_reducible first | exact ih0 _ _ _ _ _ | exact ih1 _ _ _ _ _ | exact ih2 _ _ _ _ | exact cents_Add.mono _ _ | exact line_Check.mono _ _ _ _ _ _ | exact line_bare.mono _ _ | exact line_each_line_gross.mono _ _ | exact line_each_line_net.mono _ _ | exact share_Out.mono _ _ _ | exact LeO.refl _ | exact LeO.none _ | refine LeO.ite ?_ ?_ | refine LeO.bind ?_ (fun _ => ?_))
    · intro y0 y1 y2 y3 y4
      unfold line_Deal.l0
      repeat' (with_reducible first | exact ih0 _ _ _ _ _ | exact ih1 _ _ _ _ _ | exact ih2 _ _ _ _ | exact cents_Add.mono _ _ | exact line_Check.mono _ _ _ _ _ _ | exact line_bare.mono _ _ | exact line_each_line_gross.mono _ _ | exact line_each_line_net.mono _ _ | exact share_Out.mono _ _ _ | exact LeO.refl _ | exact LeO.none _ | refine LeO.ite ?_ ?_ | refine LeO.bind ?_ (fun _ => ?_))
    intro y0 y1 y2 y3
    unfold line_Deal.l1
    repeat' (with_reducible first | exact ih0 _ _ _ _ _ | exact ih1 _ _ _ _ _ | exact ih2 _ _ _ _ | exact cents_Add.mono _ _ | exact line_Check.mono _ _ _ _ _ _ | exact line_bare.mono _ _ | exact line_each_line_gross.mono _ _ | exact line_each_line_net.mono _ _ | exact share_Out.mono _ _ _ | exact LeO.refl _ | exact LeO.none _ | refine LeO.ite ?_ ?_ | refine LeO.bind ?_ (fun _ => ?_))
theorem line_Deal.mono : ∀ a0 a1 a2 k, LeO (line_Deal.f k a0 a1 a2) (line_Deal.f (k + 1) a0 a1 a2) := by
  intro a0 a1 a2 k
  obtain ⟨ih0, ih1, ih2⟩ := line_Deal.mono_l k
  unfold line_Deal.f
  repeat' (with_reducible first | exact ih0 _ _ _ _ _ | exact ih1 _ _ _ _ _ | exact ih2 _ _ _ _ | exact cents_Add.mono _ _ | exact line_Check.mono _ _ _ _ _ _ | exact line_bare.mono _ _ | exact line_each_line_gross.mono _ _ | exact line_each_line_net.mono _ _ | exact share_Out.mono _ _ _ | exact LeO.refl _ | exact LeO.none _ | refine LeO.ite ?_ ?_ | refine LeO.bind ?_ (fun _ => ?_))
def line_Deal.T17 : Bool × List (List Nat × List Nat) := (true, [([], []), ([], []), ([], []), ([], []), ([2, 3], [2, 3]), ([4], [4]), ([5], [5]), ([], []), ([], []), ([7, 8], [7, 8]), ([9], [9]), ([6, 10], [6, 10]), ([0, 1, 0, 1, 2, 3, 4, 5, 6, 7, 8, 9, 10, 11], [0, 1]), ([12, 0, 1, 2, 3, 4, 5, 6, 7, 8, 9, 10, 11], [12]), ([13, 11, 0, 1, 2, 3, 4, 5, 6, 7, 8, 9, 10, 11], [11, 13])])
def line_Deal.B17 : List Nat := [0, 0, 0, 0, 12, 28, 60, 0, 0, 384, 896, 2044, 4095, 8191, 16383]
theorem line_Deal.tab17 : rtab .any (opsOf Try.f62 17) = line_Deal.T17 := by kernel_rfl
theorem line_Deal.bits17 : waitsOk line_Deal.T17.2 line_Deal.B17 = true := by kernel_rfl
set_option maxHeartbeats 8000000 in
set_option maxRecDepth 100000 in
theorem line_Deal.calls (k : Nat) (P0_ : Nat → Prop) (A0 : Option Addr) (c0 : Nat) (l0 : List (S71)) (a1 : Int) (a2 : Int) (r1 : List (S71)) (r2 : Int) (w : World) (hs0 : Kd.V k71 71 w w.heap.size (fun k_ => P0_ k_) (.slice A0 l0.length c0) l0) (h : line_Deal.f k l0 a1 a2 = some (r1, r2)) :
    Calls Try.prog 62 #[.slice A0 l0.length c0, .int .i64 a1, .int .i64 a2] w fun e w' => ∃ v0_ : Value, e = .returned (.tuple #[v0_, .int .i64 r2]) ∧ Kd.N k71 71 w' w.heap.size (fun k_ => (P0_ k_ ∨ w.heap.size ≤ k_)) v0_ r1 ∧ Below w.heap.size w w' := by
  have hu71 := Try.underlying71
  have HO0 := zA (show Kd.V k71 71 w w.heap.size (fun k_ => (P0_ k_ ∨ w.heap.size ≤ k_)) (.slice A0 l0.length c0) l0 from Kd.V_mono hs0 (fun k_ hk => .inl hk))
  have HB := zA (Below.refl w.heap.size w)
  have H : ((line_bare.f k l0).bind fun bt101 => (if bt101.2 = 0 then ((line_each_line_gross.f k bt101.1).bind fun t105 => ((cents_Add.f k t105).bind fun bt108 => (if bt108.2 = 0 then ((line_paid.f a1).bind fun t110 => (if t110 = true then ((line_paid.f a2).bind fun t111 => (line_Deal.j0 k a1 a2 bt101.1 bt108.1 (!t111))) else (line_Deal.j0 k a1 a2 bt101.1 bt108.1 true))) else (some (([] : List (S71)), bt108.2))))) else (some (([] : List (S71)), bt101.2)))) = some (r1, r2) := h
  clear h
  replace H := Option.bind_eq_some_iff.mp H
  obtain ⟨⟨t101, t104⟩, A40, H⟩ := H
  try dsimp only at H
  have A4 := zA A40
  clear A40
  by_cases c5 : t104 = 0
  · rw [if_pos c5] at H
    have c5b0 : (t104 == 0) = true := beq_iff_eq.mpr c5; have c5b1 : (t104 != 0) = false := bne_eq_false_iff_eq.mpr c5; clear c5; replace H := Option.bind_eq_some_iff.mp H; obtain ⟨t105, A60, H⟩ := H; try dsimp only at H
    have A6 := zA A60; clear A60; replace H := Option.bind_eq_some_iff.mp H; obtain ⟨⟨t108, t109⟩, A70, H⟩ := H; try dsimp only at H
    have A7 := zA A70; clear A70; by_cases c8 : t109 = 0
    · rw [if_pos c8] at H
      have c8b0 : (t109 == 0) = true := beq_iff_eq.mpr c8; have c8b1 : (t109 != 0) = false := bne_eq_false_iff_eq.mpr c8; clear c8; have HC9 := zA H; clear H; go_enter Try.func62, Try.ntmps62; go_upto_region 7 with (first | ((with_reducible refine zJq (f := 111) rfl ?_); refine goesL_ (some 18) rfl rfl Try.func111 (by kernel_rfl) rfl #[.slice A0 l0.length c0] rfl qG ?_; (with_reducible refine (line_bare.calls k (fun k_ => (P0_ k_ ∨ w.heap.size ≤ k_)) _ _ l0 t101 t104 _ ?side1 A4.out).mono ?_); (case side1 => exact HO0.out); rintro e w10 ⟨v102, rfl, ho0, hb⟩; refine ⟨_, rfl, ?_⟩; have n0_ := zA (Kd.V_elder' (by (with_reducible repeat (first | apply Kd.V_alloc | apply Kd.V_drewN | apply Kd.V_drew)); exact HO0.out) (Kd.N_base ho0) hb); have n1_ := zA (Kd.N_lower (Kd.N_mono (ok' := fun k_ => (P0_ k_ ∨ w.heap.size ≤ k_)) ho0 (fun k_ hk_ => Or.elim hk_ (fun hs_ => hs_) (fun hn_ => (.inr (Nat.le_trans (zW qB) hn_))))) (zW qB)); have n2_ := zA (zV qB hb); clear HO0 HB; have HO0 := n0_; have HO103 := n1_; have HB := n2_; clear n0_ n1_ n2_; (try clear hb); (try clear ho0); obtain ⟨Ao11, co11, eo11⟩ := Kd.N_slice HO103.out; subst eo11) | (go_at_call 112; (with_reducible refine (line_each_line_gross.calls k _ _ t101  t105 _ ?side1 ?side2 A6.out).mono ?_); (case side1 => repeat (first | exact (Kd.N_reads' HO103.out).2.2 | (with_reducible refine Kd.C_alloc ?_ _) | (with_reducible refine Kd.C_drewN ?_ _) | (with_reducible refine Kd.C_drew ?_))); (case side2 => exact (Kd.N_reads' HO103.out).2.1); rintro e w12 ⟨v106, rfl, ho0, hb⟩; have n0_ := zA (Kd.V_elder' (by (with_reducible repeat (first | apply Kd.V_alloc | apply Kd.V_drewN | apply Kd.V_drew)); exact HO0.out) (Kd.R_base ho0) hb); have n1_ := zA (Kd.N_elder' (by (with_reducible repeat (first | apply Kd.N_alloc | apply Kd.N_drewN | apply Kd.N_drew)); exact HO103.out) (Kd.R_base ho0) hb); have n2_ := zA (Kd.R_lower (Kd.R_newM (M := fun k_ => (w.heap.size ≤ k_)) ho0 (zW qB) (fun k_ h_ => h_)) (zW qB)); have n3_ := zA (zV qB hb); clear HO0 HO103 HB; have HO0 := n0_; have HO103 := n1_; have HO107 := n2_; have HB := n3_; clear n0_ n1_ n2_ n3_; (try clear hb); (try clear ho0); obtain ⟨Ao13, co13, eo13⟩ := Kd.R_slice HO107.out; subst eo13) | ((with_reducible refine zJq (f := 25) rfl ?_); refine goesL_ (some 27) rfl rfl Try.func25 (by kernel_rfl) rfl #[.slice Ao13 t105.length co13] rfl qG ?_; (with_reducible refine (cents_Add.calls k _ _ t105 t108 t109 _ ?side1 ?side2 A7.out).mono ?_); (case side1 => repeat (first | exact (Kd.R_reads' HO107.out).2.2 | (with_reducible refine Kd.C_alloc ?_ _) | (with_reducible refine Kd.C_drewN ?_ _) | (with_reducible refine Kd.C_drew ?_))); (case side2 => exact (Kd.R_reads' HO107.out).2.1); rintro e w' ⟨rfl, ⟨nd, rfl⟩⟩; refine ⟨_, rfl, ?_⟩))
      (try simp only [Act.put, zH, zI, zJ])
      go_cut [34] (fun v34 wc => ∃ (kq : Nat) (x34_8 : Bool), v34 = .bool x34_8 ∧ Aside0 (line_Deal.j0 kq a1 a2 t101 t108 x34_8 = some (r1, r2)) ∧ Aside0 (kq ≤ k) ∧ Aside0 (Kd.N k71 71 wc w.heap.size (fun k_ => (P0_ k_ ∨ w.heap.size ≤ k_)) (.slice Ao11 t101.length co11) t101) ∧ Aside0 (Below w.heap.size w wc))
      case first =>
        have H := HC9.out; clear HC9; replace H := Option.bind_eq_some_iff.mp H; obtain ⟨t110, A140, H⟩ := H; try dsimp only at H
        have A14 := zA A140; clear A140; by_cases c15 : t110 = true
        · subst c15
          have H1 : ((line_paid.f a2).bind fun t111 => (line_Deal.j0 k a1 a2 t101 t108 (!t111))) = some (r1, r2) := by first | (rw [if_pos rfl] at H; exact H) | rfl
          clear H; have H := H1; clear H1; replace H := Option.bind_eq_some_iff.mp H; obtain ⟨t111, A160, H⟩ := H; try dsimp only at H
          have A16 := zA A160; clear A160; have H' := zA H; clear H; go_wp2_with (first | ((with_reducible refine zJq (f := 114) rfl ?_); refine goesL_ (some 36) rfl rfl Try.func114 (by kernel_rfl) rfl #[.int .i64 a1] rfl qG ?_; (with_reducible refine (line_paid.calls a1 true _ A14.out).mono ?_); rintro e w' ⟨rfl, ⟨nd, rfl⟩⟩; refine ⟨_, rfl, ?_⟩) | (go_at_call 114; (with_reducible refine (line_paid.calls a2 t111 _ A16.out).mono ?_); rintro e w' ⟨rfl, ⟨nd, rfl⟩⟩)); go_meet
          case rel => exact ⟨_, (!t111), (by first | rfl | (simp; done) | (simp [*]; done)), H', ⟨by first | omega | exact Nat.le_refl _⟩, ⟨by (with_reducible repeat (first | apply Kd.N_alloc | apply Kd.N_drewN | apply Kd.N_drew)); exact Kd.N_mono HO103.out (fun _ hk => hk.1)⟩, ⟨qB⟩⟩
        replace c15 := Bool.eq_false_iff.mpr c15; subst c15; have H1 : (line_Deal.j0 k a1 a2 t101 t108 true) = some (r1, r2) := by first | (rw [if_neg (show ¬ (false = true) by decide)] at H; exact H) | rfl
        clear H; have H := H1; clear H1; have H' := zA H; clear H; go_wp2_with (first | ((with_reducible refine zJq (f := 114) rfl ?_); refine goesL_ (some 36) rfl rfl Try.func114 (by kernel_rfl) rfl #[.int .i64 a1] rfl qG ?_; (with_reducible refine (line_paid.calls a1 false _ A14.out).mono ?_); rintro e w' ⟨rfl, ⟨nd, rfl⟩⟩; refine ⟨_, rfl, ?_⟩)); go_meet
        case rel => exact ⟨_, (true), (by first | rfl | (simp; done) | (simp [*]; done)), H', ⟨by first | omega | exact Nat.le_refl _⟩, ⟨by (with_reducible repeat (first | apply Kd.N_alloc | apply Kd.N_drewN | apply Kd.N_drew)); exact Kd.N_mono HO103.out (fun _ hk => hk.1)⟩, ⟨qB⟩⟩
      case rest =>
        clear HC9; try clear c1
        try clear c2
        try clear p2
        try clear c5
        try clear c5b0
        try clear c5b1
        try clear c6
        try clear c8
        try clear c8b0
        try clear c8b1
        try clear c11
        try clear c15
        obtain ⟨kq, x34_8, rfl, HA, HJ8, HO_8, HB⟩ := hcut; cases kq with
        | zero => exact absurd HA.out (by simp [line_Deal.j0])
        | succ kj8 =>
          have H := HA.out; clear HA; simp only [line_Deal.j0] at H; by_cases c17 : x34_8 = true
          · subst c17
            have H1 : (some (([] : List (S71)), 8)) = some (r1, r2) := by first | (rw [if_pos rfl] at H; exact H) | rfl
            clear H; have H := H1; clear H1; simp only [zNq, zOq] at H; obtain ⟨rfl, rfl⟩ := H; go_wp2; go_ret2; exact ⟨_, qE, by first | exact Kd.S_nil _ _ _ _ _ | exact Kd.N_nil _ _ _ _ _ | exact Kd.V_nil _ _ _ _ _ | exact Kd.Q_nil _ _ _ _ _ | exact Kd.R_nil _ _ _ _ _, qB⟩
          replace c17 := Bool.eq_false_iff.mpr c17; subst c17; have H1 : (if a1 > t108 then (some (([] : List (S71)), 34)) else ((line_each_line_gross.f kj8 t101).bind fun t112 => ((share_Out.f kj8 a1 t112).bind fun bt115 => (if bt115.2 = 0 then (line_Deal.l0 kj8 a2 t101 bt115.1 (t101.length : Int) 0) else (some (([] : List (S71)), bt115.2)))))) = some (r1, r2) := by first | (rw [if_neg (show ¬ (false = true) by decide)] at H; exact H) | rfl
          clear H; have H := H1; clear H1; by_cases c18 : a1 > t108
          · rw [if_pos c18] at H
            have c18b0 : decide (t108 < a1) = true := zFq c18; clear c18; simp only [zNq, zOq] at H; obtain ⟨rfl, rfl⟩ := H; go_wp2; go_ret2; exact ⟨_, qE, by first | exact Kd.S_nil _ _ _ _ _ | exact Kd.N_nil _ _ _ _ _ | exact Kd.V_nil _ _ _ _ _ | exact Kd.Q_nil _ _ _ _ _ | exact Kd.R_nil _ _ _ _ _, qB⟩
          rw [if_neg c18] at H; have c18b0 : decide (t108 < a1) = false := zGq c18; clear c18; replace H := Option.bind_eq_some_iff.mp H; obtain ⟨t112, A190, H⟩ := H; try dsimp only at H
          have A19 := zA A190; clear A190; replace H := Option.bind_eq_some_iff.mp H; obtain ⟨⟨t115, t116⟩, A200, H⟩ := H; try dsimp only at H
          have A20 := zA A200; clear A200; by_cases c21 : t116 = 0
          · rw [if_pos c21] at H
            have c21b0 : (t116 == 0) = true := beq_iff_eq.mpr c21; have c21b1 : (t116 != 0) = false := bne_eq_false_iff_eq.mpr c21; clear c21; have H' := zA H; clear H; go_wp2_with (first | (go_at_call 112; (with_reducible refine (line_each_line_gross.calls kj8 _ _ t101  t112 _ ?side1 ?side2 A19.out).mono ?_); (case side1 => repeat (first | exact (Kd.N_reads' HO_8.out).2.2 | (with_reducible refine Kd.C_alloc ?_ _) | (with_reducible refine Kd.C_drewN ?_ _) | (with_reducible refine Kd.C_drew ?_))); (case side2 => exact (Kd.N_reads' HO_8.out).2.1); rintro e w22 ⟨v113, rfl, ho0, hb⟩; have n0_ := zA (Kd.N_elder' (by (with_reducible repeat (first | apply Kd.N_alloc | apply Kd.N_drewN | apply Kd.N_drew)); exact HO_8.out) (Kd.R_base ho0) hb); have n1_ := zA (Kd.R_lower (Kd.R_newM (M := fun k_ => (w.heap.size ≤ k_)) ho0 (zW qB) (fun k_ h_ => h_)) (zW qB)); have n2_ := zA (zV qB hb); clear HO_8 HB; have HO_8 := n0_; have HO114 := n1_; have HB := n2_; clear n0_ n1_ n2_; (try clear hb); (try clear ho0); obtain ⟨Ao23, co23, eo23⟩ := Kd.R_slice HO114.out; subst eo23) | ((with_reducible refine zJq (f := 51) rfl ?_); refine goesL_ (some 51) rfl rfl Try.func51 (by kernel_rfl) rfl #[.int .i64 a1, .slice Ao23 t112.length co23] rfl qG ?_; (with_reducible refine (share_Out.calls kj8 a1 _ _ t112 t115 t116 _ ?side1 ?side2 A20.out).mono ?_); (case side1 => repeat (first | exact (Kd.R_reads' HO114.out).2.2 | (with_reducible refine Kd.C_alloc ?_ _) | (with_reducible refine Kd.C_drewN ?_ _) | (with_reducible refine Kd.C_drew ?_))); (case side2 => exact (Kd.R_reads' HO114.out).2.1); rintro e w24 ⟨v117, rfl, ho0, hb⟩; refine ⟨_, rfl, ?_⟩; have n0_ := zA (Kd.N_elder' (by (with_reducible repeat (first | apply Kd.N_alloc | apply Kd.N_drewN | apply Kd.N_drew)); exact HO_8.out) (Kd.R_base ho0) hb); have n1_ := zA (Kd.R_elder' (by (with_reducible repeat (first | apply Kd.R_alloc | apply Kd.R_drewN | apply Kd.R_drew)); exact HO114.out) (Kd.R_base ho0) hb); have n2_ := zA (Kd.R_lower (Kd.R_new' (Kd.R_newM (M := fun k_ => (w.heap.size ≤ k_)) ho0 (zW qB) (fun k_ h_ => h_)) (Kd.R_lt (by (with_reducible repeat (first | apply Kd.R_alloc | apply Kd.R_drewN | apply Kd.R_drew)); exact HO114.out))) (zW qB)); have n3_ := zA (zV qB hb); clear HO_8 HO114 HB; have HO_8 := n0_; have HO114 := n1_; have HO118 := n2_; have HB := n3_; clear n0_ n1_ n2_ n3_; (try clear hb); (try clear ho0))); go_loopg [59] kj8 (fun kq v59 w' => ∃ (x8_2 : List (S71)) (x59_2 : Int), v59 = .int .i64 x59_2 ∧ Aside0 (line_Deal.l0 kq a2 x8_2 t115 (t101.length : Int) x59_2 = some (r1, r2)) ∧ Aside0 (kq ≤ kj8) ∧ Aside0 (Kd.N k71 71 w' w.heap.size (fun k_ => (P0_ k_ ∨ w.heap.size ≤ k_) ∧ some k_ ≠ (v117 : Value).ownBlock) (.slice Ao11 t101.length co11) x8_2) ∧ Aside0 (Kd.R (Kd.int .i64) 3 w' w.heap.size (fun k_ => (w.heap.size ≤ k_)) v117 t115) ∧ Aside0 (Below w.heap.size w w'))
            case atStart => exact ⟨(t101), (0), (by first | rfl | (simp; done) | (simp [*]; done)), H', ⟨Nat.le_refl _⟩, ⟨by (with_reducible repeat (first | apply Kd.N_alloc | apply Kd.N_drewN | apply Kd.N_drew)); exact Kd.N_mono HO_8.out (fun _ hk => ⟨hk.1.1, hk.2⟩)⟩, ⟨by (with_reducible repeat (first | apply Kd.R_alloc | apply Kd.R_drewN | apply Kd.R_drew)); exact Kd.R_mono HO118.out (fun _ hk => hk.1.1)⟩, ⟨qB⟩⟩
            case round =>
              clear H'; try clear c1
              try clear c2
              try clear p2
              try clear c5
              try clear c5b0
              try clear c5b1
              try clear c6
              try clear c8
              try clear c8b0
              try clear c8b1
              try clear c11
              try clear c15
              try clear c17
              try clear c18
              try clear c18b0
              try clear c21
              try clear c21b0
              try clear c21b1
              try clear p2
              obtain ⟨x8_2, x59_2, rfl, HA, HK2, HO_8, HO_11, HB⟩ := hrel; have hl8_2 := (Kd.N_reads' HO_8.out).1; rw [hl8_2] at HO_8; (try simp only [hl8_2])
              (try simp only [hl8_2] at HO_11)
              cases gk with
              | zero => exact absurd HA.out (by simp [line_Deal.l0])
              | succ k2 =>
                have H := HA.out; clear HA; simp only [line_Deal.l0] at H; by_cases c25 : x59_2 < (t101.length : Int)
                · rw [if_pos c25] at H
                  have c25b0 : decide (x59_2 < (t101.length : Int)) = true := zFq c25; try have c25e8_2 : decide (x59_2 < (x8_2.length : Int)) = true := by rw [← hl8_2]; exact c25b0
                  clear c25; by_cases c26 : 0 ≤ x59_2
                  · rw [if_pos c26] at H
                    have c26b0 : decide (0 ≤ x59_2) = true := zFq c26; clear c26; by_cases c27 : x59_2 < (x8_2.length : Int)
                    · rw [if_pos c27] at H
                      have c27b0 : decide (x59_2 < (x8_2.length : Int)) = true := zFq c27; clear c27; by_cases c28 : x59_2 < (t115.length : Int)
                      · rw [if_pos c28] at H
                        have c28b0 : decide (x59_2 < (t115.length : Int)) = true := zFq c28; try have c28e8_2 : decide (x59_2 < (x8_2.length : Int)) = true := by rw [← hl8_2]; exact c28b0
                        clear c28; obtain ⟨y121, hy121⟩ : ∃ y_ : List (S71), y_ = (x8_2.set (x59_2 : Int).toNat (⟨(rd_T71 x8_2 x59_2).f0, (rd_T71 x8_2 x59_2).f1, wrap64 (((rd_T71 x8_2 x59_2).f1) - (rd t115 x59_2)), (rd_T71 x8_2 x59_2).f3, (rd_T71 x8_2 x59_2).f4⟩ : S71)) := ⟨_, rfl⟩
                        replace H : (line_Deal.l0 k2 a2 y121 t115 (t101.length : Int) (wrap64 (x59_2 + 1))) = some (r1, r2) := by first | (rw [hy121]; with_reducible exact H) | (have H2_ := (Option.bind_some _ _).symm.trans H; rw [hy121]; with_reducible exact H2_) | (have H2_ := (Option.bind_some _ _).symm.trans H; with_reducible exact H2_) | with_reducible exact H | (rw [hy121]; exact H) | exact H
                        have Ny121 := zA hy121; clear hy121; have H' := zA H; clear H; try go_wp2
                        have n0_ := zA (Kd.N_drew HO_8.out); have n1_ := zA (Kd.R_drew HO_11.out); have n2_ := zA (zC HB.out); clear HO_8; clear HO_11; clear HB; have HO_8 := n0_; have HO_11 := n1_; have HB := n2_; clear n0_ n1_ n2_; have p119 : 0 ≤ (x59_2 : Int) := of_decide_eq_true qA; have q119 : x59_2 < (x8_2.length : Int) := of_decide_eq_true qA; obtain ⟨ad119, A119_4, c119_4, e119, hx119_0, hx119_1, hx119_2, hx119_3, hx119_4, hl119_4, hi119_4⟩ := at_T71 (Kd.N_reads' HO_8.out).2.2 x59_2 p119 q119; cases e119
                        obtain ⟨ce119, hce119, hMe119, hcc119⟩ := Kd.N_get HO_8.out z71 x59_2 p119 (by first | exact q119 | exact of_decide_eq_true qA | (have e_ := (Kd.N_reads' HO_8.out).1; omega)); obtain ⟨ua119_4, uc119_4, rfl, ul119_4, ge119_4⟩ := k71_openF hMe119; have hv119_4 := hcc119 4 _ rfl; rw [add_field _ _ 4 (by omega)] at hv119_4; replace hv119_4 := zKq (hv119_4.symm.trans hx119_4); injection hv119_4 with hva_ hvn_ hvc_
                        rw [hva_] at ge119_4; rw [hvc_] at ul119_4; have HL119_4 := zA (show Kd.V Kd.string 9 _ w.heap.size _ _ ((rd_T71 x8_2 x59_2).f4) from Kd.V_mk ul119_4 ge119_4); clear hva_ hvn_ hvc_ ge119_4 ul119_4; clear hcc119 hce119; have HR119_4 := zA hi119_4; have HC119_4 := zA hl119_4; clear hi119_4 hl119_4; replace p119 := eq_true p119; replace q119 := eq_true q119; obtain ⟨Ao31, co31, eo31⟩ := Kd.R_slice HO_11.out; (first | subst eo31 | (injection eo31 with f1_ f2_ f3_; have f4_ := f1_.symm; have f5_ := f3_.symm; clear f1_ f2_ f3_; subst f4_; subst f5_))
                        have p120 : 0 ≤ (x59_2 : Int) := of_decide_eq_true qA; have q120 : x59_2 < (t115.length : Int) := of_decide_eq_true qA; obtain ⟨ad120, e120, hx120_0⟩ := Kd.at_int (Kd.R_reads' HO_11.out).2.2 x59_2 p120 q120; cases e120
                        replace p120 := eq_true p120; replace q120 := eq_true q120; have p29 : 0 ≤ (x59_2 : Int) := of_decide_eq_true qA; have q29 : (x59_2 : Int) < ((x8_2.length : Int) : Int) := of_decide_eq_true qA; obtain ⟨go29, co29, eo29, gb29, gl29, cl29, HG29⟩ := Kd.N_form HO_8.out (by omega); (first | cases eo29 | (injection eo29 with ea_ en_ ec_; (first | subst ea_ | (injection ea_ with ea_; subst ea_)); subst ec_; clear en_))
                        have GB29 := zA gb29; have GG29 := zA HG29; clear gb29 gl29 HG29; (first | simp only [add_plain] at hx119_0 | skip)
                        (first | simp only [add_plain] at hx119_1 | skip)
                        (first | simp only [add_plain] at hx119_2 | skip)
                        (first | simp only [add_plain] at hx119_3 | skip)
                        (first | simp only [add_plain] at hx119_4 | skip)
                        obtain ⟨ce29, hcl29, hM29, hcc29, hfr29⟩ := Kd.N_elem HO_8.out z71 (x59_2 : Int) p29 q29; obtain ⟨ua29_4, uc29_4, rfl, ul29_4, ge29_4⟩ := k71_openF hM29; have hx29_0 : World.cell? _ ⟨go29, (x59_2 : Int).toNat * 5, none⟩ = some (.int .i64 ((rd_T71 x8_2 x59_2).f0)) := hcc29 0 _ rfl; have hx29_1 : World.cell? _ ⟨go29, (x59_2 : Int).toNat * 5 + 1, none⟩ = some (.int .i64 ((rd_T71 x8_2 x59_2).f1)) := hcc29 1 _ rfl; have hx29_2 : World.cell? _ ⟨go29, (x59_2 : Int).toNat * 5 + 2, none⟩ = some (.int .i64 ((rd_T71 x8_2 x59_2).f2)) := hcc29 2 _ rfl; have hx29_3 : World.cell? _ ⟨go29, (x59_2 : Int).toNat * 5 + 3, none⟩ = some (.int .i64 ((rd_T71 x8_2 x59_2).f3)) := hcc29 3 _ rfl; have hx29_4 : World.cell? _ ⟨go29, (x59_2 : Int).toNat * 5 + 4, none⟩ = some (.slice ua29_4 ((rd_T71 x8_2 x59_2).f4).length uc29_4) := hcc29 4 _ rfl; have hf29_0 : World.frozen? _ ⟨go29, (x59_2 : Int).toNat * 5, none⟩ = false := hfr29 0; have hf29_1 : World.frozen? _ ⟨go29, (x59_2 : Int).toNat * 5 + 1, none⟩ = false := hfr29 1; have hf29_2 : World.frozen? _ ⟨go29, (x59_2 : Int).toNat * 5 + 2, none⟩ = false := hfr29 2; have hf29_3 : World.frozen? _ ⟨go29, (x59_2 : Int).toNat * 5 + 3, none⟩ = false := hfr29 3; have hf29_4 : World.frozen? _ ⟨go29, (x59_2 : Int).toNat * 5 + 4, none⟩ = false := hfr29 4; clear hcl29 hcc29 hfr29 hM29; replace p29 := eq_true p29; replace q29 := eq_true q29; have HX32 := zA (show Kd.N k71 71 _ w.heap.size (fun k_ => (P0_ k_ ∨ w.heap.size ≤ k_) ∧ some k_ ≠ (.slice (some ad120) t115.length co31 : Value).ownBlock) (.slice (some ⟨go29, 0, none⟩) x8_2.length co11) x8_2 from (Kd.N_mono (HO_8.out) (fun k_ hk => ⟨hk.1, hk.2⟩))); obtain ⟨ce32, hcl32, hM32, hcc32, hfr32⟩ := Kd.N_elem HX32.out z71 (x59_2 : Int) (of_decide_eq_true qA) (by have h_ : (x59_2 : Int) < ((x8_2.length : Int) : Int) := of_decide_eq_true qA; first | exact h_ | (have e_ := (Kd.N_reads' HO_8.out).1; omega) | simpa using h_); obtain ⟨ua32_4, uc32_4, rfl, ul32_4, ge32_4⟩ := k71_openF hM32; have HP32 := (Kd.N_seg HX32.out (x59_2 : Int) (of_decide_eq_true qA) (by have h_ : (x59_2 : Int) < ((x8_2.length : Int) : Int) := of_decide_eq_true qA; first | exact h_ | (have e_ := (Kd.N_reads' HO_8.out).1; omega) | simpa using h_) (seg := [.int .i64 (wrap64 (((rd_T71 x8_2 x59_2).f1) - (rd t115 x59_2)))]) (j := 2) hcl32 hcc32 (show 3 ≤ 5 from by decide) (x' := (⟨(rd_T71 x8_2 x59_2).f0, (rd_T71 x8_2 x59_2).f1, wrap64 (((rd_T71 x8_2 x59_2).f1) - (rd t115 x59_2)), (rd_T71 x8_2 x59_2).f3, (rd_T71 x8_2 x59_2).f4⟩ : S71)) (k71_mkF _ _ (⟨(rd_T71 x8_2 x59_2).f0, (rd_T71 x8_2 x59_2).f1, wrap64 (((rd_T71 x8_2 x59_2).f1) - (rd t115 x59_2)), (rd_T71 x8_2 x59_2).f3, (rd_T71 x8_2 x59_2).f4⟩ : S71) ul32_4 ge32_4) (fun _ hk => hk)).1; rw [← Ny121.out] at HP32; have HQ32 := zA HP32; clear hcl32 hcc32 hfr32 hM32 HP32; refine start_ (n := 15) (S := fun w' => w'.cell? ⟨go29, ((x59_2).toNat * 5), none⟩ = some (.int .i64 ((rd_T71 x8_2 x59_2).f0)) ∧ w'.cell? ⟨go29, ((x59_2).toNat * 5) + 1, none⟩ = some (.int .i64 ((rd_T71 x8_2 x59_2).f1)) ∧ w'.cell? ⟨go29, ((x59_2).toNat * 5) + 2, none⟩ = some (.int .i64 ((rd_T71 x8_2 x59_2).f2)) ∧ w'.cell? ⟨go29, ((x59_2).toNat * 5) + 3, none⟩ = some (.int .i64 ((rd_T71 x8_2 x59_2).f3)) ∧ w'.cell? ⟨go29, ((x59_2).toNat * 5) + 4, none⟩ = some (.slice A119_4 ((rd_T71 x8_2 x59_2).f4).length c119_4) ∧ w'.cell? (ad120.add (x59_2).toNat) = some (.int .i64 (rd t115 x59_2))) (ds := [14]) #[o0, o0, o0, o0, o0, o0, o0, o0, o0, o0, o0, o0, o0, o0, o0] (by kernel_rfl) rfl rfl ⟨hx119_0, hx119_1, hx119_2, hx119_3, hx119_4, hx120_0⟩ (fun hHeld => ?_); refine with_tabW line_Deal.tab17 line_Deal.bits17 (fun HT_ HW_ => ?_)
                        generalize wr.drew = w30 at HO_8 HO_11 HB GG29 HL119_4 HQ32 HR119_4 hf29_0 hf29_1 hf29_2 hf29_3 hf29_4 hx119_0 hx119_1 hx119_2 hx119_3 hx119_4 hx120_0 hx29_0 hx29_1 hx29_2 hx29_3 hx29_4 hHeld ⊢; refine pure_ (i := 0) (N := some 62) #[o1, o0, o0, o0, o0, o0, o0, o0, o0, o0, o0, o0, o0, o0, o0] rfl rfl (any_of HT_.out (by kernel_rfl)) (fun _ _ _ h => h) (Or.inl ⟨by rfl, qy⟩) qz ?_; refine pure_ (i := 1) (N := some 63) #[o1, o1, o0, o0, o0, o0, o0, o0, o0, o0, o0, o0, o0, o0, o0] rfl rfl (any_of HT_.out (by kernel_rfl)) (fun _ _ _ h => h) (Or.inl ⟨by rfl, qy⟩) qz ?_; refine pure_ (i := 2) (N := some 64) #[o1, o1, o1, o0, o0, o0, o0, o0, o0, o0, o0, o0, o0, o0, o0] rfl rfl (any_of HT_.out (by kernel_rfl)) (fun _ _ _ h => h) (Or.inl ⟨by rfl, qy⟩) qz ?_; refine pure_ (i := 3) (N := some 65) #[o1, o1, o1, o1, o0, o0, o0, o0, o0, o0, o0, o0, o0, o0, o0] rfl rfl (any_of HT_.out (by kernel_rfl)) (fun _ _ _ h => h) (Or.inl ⟨by rfl, qy⟩) qz ?_; refine pure_ (i := 4) (N := some 66) #[o1, o1, o1, o1, o1, o0, o0, o0, o0, o0, o0, o0, o0, o0, o0] rfl rfl (any_of HT_.out (by kernel_rfl)) (fun _ _ _ h => h) (Or.inl ⟨by rfl, qy⟩) qz ?_; refine pure_ (i := 5) (N := some 67) #[o1, o1, o1, o1, o1, o1, o0, o0, o0, o0, o0, o0, o0, o0, o0] rfl rfl (any_of HT_.out (by kernel_rfl)) (fun _ _ _ h => h) (Or.inl ⟨by rfl, qy⟩) qz ?_; refine pure_ (i := 7) (N := some 69) #[o1, o1, o1, o1, o1, o1, o0, o1, o0, o0, o0, o0, o0, o0, o0] rfl rfl (any_of HT_.out (by kernel_rfl)) (fun _ _ _ h => h) (Or.inl ⟨by rfl, qy⟩) qz ?_; refine pure_ (i := 8) (N := some 70) #[o1, o1, o1, o1, o1, o1, o0, o1, o1, o0, o0, o0, o0, o0, o0] rfl rfl (any_of HT_.out (by kernel_rfl)) (fun _ _ _ h => h) (Or.inl ⟨by rfl, qy⟩) qz ?_; refine pure_ (i := 9) (N := some 71) #[o1, o1, o1, o1, o1, o1, o0, o1, o1, o1, o0, o0, o0, o0, o0] rfl rfl (any_of HT_.out (by kernel_rfl)) (fun _ _ _ h => h) (Or.inl ⟨by rfl, qy⟩) qz ?_; refine take_ (i := 6) (N := some 68) (v := ?_) (a' := ?_) #[o1, o1, o1, o1, o1, o1, o1, o1, o1, o1, o0, o0, o0, o0, o0] rfl rfl (take_ofW HT_.out HW_.out (by kernel_rfl)) (fun _ _ _ h => h) (Or.inl ⟨by rfl, ?_⟩) hHeld ?_ ?_; rotate_left
                        · rintro w' ⟨s0, s1, s2, s3, s4, s5⟩
                          go_simp; with_reducible rfl
                        rotate_left
                        · simp only [Act.put, zH, zI, zJ, i64_w, i32_w]
                          rfl
                        refine take_ (i := 10) (N := some 72) (v := ?_) (a' := ?_) #[o1, o1, o1, o1, o1, o1, o1, o1, o1, o1, o1, o0, o0, o0, o0] rfl rfl (take_ofW HT_.out HW_.out (by kernel_rfl)) (fun _ _ _ h => h) (Or.inl ⟨by rfl, ?_⟩) hHeld ?_ ?_; rotate_left
                        · rintro w' ⟨s0, s1, s2, s3, s4, s5⟩
                          go_simp; with_reducible rfl
                        rotate_left
                        · simp only [Act.put, zH, zI, zJ, i64_w, i32_w]
                          rfl
                        refine pure_ (i := 11) (N := some 73) #[o1, o1, o1, o1, o1, o1, o1, o1, o1, o1, o1, o1, o0, o0, o0] rfl rfl (any_of HT_.out (by kernel_rfl)) (fun _ _ _ h => h) (Or.inl ⟨by rfl, qy⟩) qz ?_; refine pure_ (i := 12) (N := some 74) #[o1, o1, o1, o1, o1, o1, o1, o1, o1, o1, o1, o1, o1, o0, o0] rfl rfl (any_of HT_.out (by kernel_rfl)) (fun _ _ _ h => h) (Or.inl ⟨by rfl, qy⟩) qz ?_; refine pure_ (i := 13) (N := some 75) #[o1, o1, o1, o1, o1, o1, o1, o1, o1, o1, o1, o1, o1, o1, o0] rfl rfl (any_of HT_.out (by kernel_rfl)) (fun _ _ _ h => h) (Or.inl ⟨by rfl, qy⟩) qz ?_; refine last_ (i := 14) (N := none) #[o1, o1, o1, o1, o1, o1, o1, o1, o1, o1, o1, o1, o1, o1, o1] rfl rfl (one_of HT_.out (by kernel_rfl)) (by decide) (fun K hK => ?_); refine skip_ (w1 := ?_) (by rfl) rfl ?_ ?_; rotate_left
                        · go_simp
                          rfl
                        refine hK.out _ _ ?_; clear hK K; refine done_ (done_of HT_.out (by kernel_rfl)) ?_; try go_wp2
                        (try simp only [← hl8_2])
                        go_roundg k2
                        case measure => have := HJ8.out; have := HK2.out; omega
                        case rel => exact ⟨(y121), (wrap64 (x59_2 + 1)), (by first | rfl | (simp; done) | (simp [*]; done)), H', ⟨by have := HJ8.out; have := HK2.out; omega⟩, ⟨by (try simp only [hl8_2]); (with_reducible repeat (first | apply Kd.N_alloc | apply Kd.N_drewN | apply Kd.N_drew)); exact HQ32.out⟩, ⟨by (try simp only [hl8_2]); (with_reducible repeat (first | apply Kd.R_alloc | apply Kd.R_drewN | apply Kd.R_drew)); exact Kd.R_mono (Kd.R_far (p := ⟨go29, (x59_2 : Int).toNat * 5 + 2, none⟩) (Kd.R_types HO_11.out GG29.out (by decide)) (fun _ hk => hk.2) (.int .i64 (wrap64 (((rd_T71 x8_2 x59_2).f1) - (rd t115 x59_2))))) (fun _ hk => hk.1)⟩, ⟨by repeat (first | (with_reducible first | exact HB.out | apply zD | apply zB | apply zC | refine zE ?_ GB29.out) | exact HB.out)⟩⟩
                      rw [if_neg c28] at H; exact absurd H (by simp)
                    rw [if_neg c27] at H; exact absurd H (by simp)
                  rw [if_neg c26] at H; exact absurd H (by simp)
                rw [if_neg c25] at H; have c25b0 : decide (x59_2 < (t101.length : Int)) = false := zGq c25; try have c25e8_2 : decide (x59_2 < (x8_2.length : Int)) = false := by rw [← hl8_2]; exact c25b0
                clear c25; replace H := Option.bind_eq_some_iff.mp H; obtain ⟨t122, A330, H⟩ := H; try dsimp only at H
                have A33 := zA A330; clear A330; replace H := Option.bind_eq_some_iff.mp H; obtain ⟨⟨t125, t126⟩, A340, H⟩ := H; try dsimp only at H
                have A34 := zA A340; clear A340; by_cases c35 : t126 = 0
                · rw [if_pos c35] at H
                  have c35b0 : (t126 == 0) = true := beq_iff_eq.mpr c35; have c35b1 : (t126 != 0) = false := bne_eq_false_iff_eq.mpr c35; clear c35; have H' := zA H; clear H; go_wp2_with (first | (go_at_call 112; (with_reducible refine (line_each_line_net.calls k2 _ _ x8_2  t122 _ ?side1 ?side2 A33.out).mono ?_); (case side1 => repeat (first | exact (Kd.N_reads' HO_8.out).2.2 | (with_reducible refine Kd.C_alloc ?_ _) | (with_reducible refine Kd.C_drewN ?_ _) | (with_reducible refine Kd.C_drew ?_))); (case side2 => exact (Kd.N_reads' HO_8.out).2.1); rintro e w36 ⟨v123, rfl, ho0, hb⟩; have n0_ := zA (Kd.N_elder' (by (with_reducible repeat (first | apply Kd.N_alloc | apply Kd.N_drewN | apply Kd.N_drew)); exact HO_8.out) (Kd.R_base ho0) hb); have n1_ := zA (Kd.R_elder' (by (with_reducible repeat (first | apply Kd.R_alloc | apply Kd.R_drewN | apply Kd.R_drew)); exact HO_11.out) (Kd.R_base ho0) hb); have n2_ := zA (Kd.R_lower (Kd.R_new' (Kd.R_newM (M := fun k_ => (w.heap.size ≤ k_)) ho0 (zW qB) (fun k_ h_ => h_)) (Kd.R_lt (by (with_reducible repeat (first | apply Kd.R_alloc | apply Kd.R_drewN | apply Kd.R_drew)); exact HO_11.out))) (zW qB)); have n3_ := zA (zV qB hb); clear HO_8 HO_11 HB; have HO_8 := n0_; have HO_11 := n1_; have HO124 := n2_; have HB := n3_; clear n0_ n1_ n2_ n3_; (try clear hb); (try clear ho0); obtain ⟨Ao37, co37, eo37⟩ := Kd.R_slice HO124.out; subst eo37) | ((with_reducible refine zJq (f := 51) rfl ?_); refine goesL_ (some 81) rfl rfl Try.func51 (by kernel_rfl) rfl #[.int .i64 a2, .slice Ao37 t122.length co37] rfl qG ?_; (with_reducible refine (share_Out.calls k2 a2 _ _ t122 t125 t126 _ ?side1 ?side2 A34.out).mono ?_); (case side1 => repeat (first | exact (Kd.R_reads' HO124.out).2.2 | (with_reducible refine Kd.C_alloc ?_ _) | (with_reducible refine Kd.C_drewN ?_ _) | (with_reducible refine Kd.C_drew ?_))); (case side2 => exact (Kd.R_reads' HO124.out).2.1); rintro e w38 ⟨v127, rfl, ho0, hb⟩; refine ⟨_, rfl, ?_⟩; have n0_ := zA (Kd.N_elder' (by (with_reducible repeat (first | apply Kd.N_alloc | apply Kd.N_drewN | apply Kd.N_drew)); exact HO_8.out) (Kd.R_base ho0) hb); have n1_ := zA (Kd.R_elder' (by (with_reducible repeat (first | apply Kd.R_alloc | apply Kd.R_drewN | apply Kd.R_drew)); exact HO_11.out) (Kd.R_base ho0) hb); have n2_ := zA (Kd.R_elder' (by (with_reducible repeat (first | apply Kd.R_alloc | apply Kd.R_drewN | apply Kd.R_drew)); exact HO124.out) (Kd.R_base ho0) hb); have n3_ := zA (Kd.R_lower (Kd.R_new' (Kd.R_new' (Kd.R_newM (M := fun k_ => (w.heap.size ≤ k_)) ho0 (zW qB) (fun k_ h_ => h_)) (Kd.R_lt (by (with_reducible repeat (first | apply Kd.R_alloc | apply Kd.R_drewN | apply Kd.R_drew)); exact HO_11.out))) (Kd.R_lt (by (with_reducible repeat (first | apply Kd.R_alloc | apply Kd.R_drewN | apply Kd.R_drew)); exact HO124.out))) (zW qB)); have n4_ := zA (zV qB hb); clear HO_8 HO_11 HO124 HB; have HO_8 := n0_; have HO_11 := n1_; have HO124 := n2_; have HO128 := n3_; have HB := n4_; clear n0_ n1_ n2_ n3_ n4_; (try clear hb); (try clear ho0)))
                  go_loopg [89] k2 (fun kq v89 w' => ∃ (x8_3 : List (S71)) (x89_3 : Int), v89 = .int .i64 x89_3 ∧ Aside0 (line_Deal.l1 kq x8_3 t125 (x8_2.length : Int) x89_3 = some (r1, r2)) ∧ Aside0 (kq ≤ k2) ∧ Aside0 (Kd.N k71 71 w' w.heap.size (fun k_ => (P0_ k_ ∨ w.heap.size ≤ k_) ∧ some k_ ≠ (v127 : Value).ownBlock) (.slice Ao11 x8_2.length co11) x8_3) ∧ Aside0 (Kd.R (Kd.int .i64) 3 w' w.heap.size (fun k_ => (w.heap.size ≤ k_)) v127 t125) ∧ Aside0 (Below w.heap.size w w'))
                  case atStart => exact ⟨(x8_2), (0), (by first | rfl | (simp; done) | (simp [*]; done)), H', ⟨Nat.le_refl _⟩, ⟨by (try simp only [hl8_2]); (with_reducible repeat (first | apply Kd.N_alloc | apply Kd.N_drewN | apply Kd.N_drew)); exact Kd.N_mono HO_8.out (fun _ hk => ⟨hk.1.1.1, hk.2⟩)⟩, ⟨by (try simp only [hl8_2]); (with_reducible repeat (first | apply Kd.R_alloc | apply Kd.R_drewN | apply Kd.R_drew)); exact Kd.R_mono HO128.out (fun _ hk => hk.1.1.1)⟩, ⟨qB⟩⟩
                  case round =>
                    clear H'; try clear c1
                    try clear p1
                    try clear q1
                    try clear hx1
                    try clear c2
                    try clear p2
                    try clear q2
                    try clear hx2
                    try clear c3
                    try clear c5
                    try clear c5b0
                    try clear c5b1
                    try clear c6
                    try clear p6
                    try clear c8
                    try clear c8b0
                    try clear c8b1
                    try clear c11
                    try clear p11
                    try clear q11
                    try clear hx11
                    try clear p12
                    try clear q12
                    try clear hx12
                    try clear c15
                    try clear c17
                    try clear c18
                    try clear c18b0
                    try clear c21
                    try clear c21b0
                    try clear c21b1
                    try clear c25
                    try clear c25b0
                    try clear c26
                    try clear c26b0
                    try clear c27
                    try clear c27b0
                    try clear c28
                    try clear c28b0
                    try clear c29
                    try clear p29
                    try clear q29
                    try clear hx29
                    try clear hf29
                    try clear c32
                    try clear c35
                    try clear c35b0
                    try clear c35b1
                    try clear hx119_0
                    try clear hx119_1
                    try clear hx119_2
                    try clear hx119_3
                    try clear hx119_4
                    try clear hx120_0
                    try clear hx29_0
                    try clear hx29_1
                    try clear hx29_2
                    try clear hx29_3
                    try clear hx29_4
                    try clear p119
                    try clear p120
                    try clear p2
                    try clear p29
                    try clear q119
                    try clear q120
                    try clear q29
                    obtain ⟨x8_3, x89_3, rfl, HA, HK3, HO_8, HO_13, HB⟩ := hrel; have hl8_3 := (Kd.N_reads' HO_8.out).1; rw [hl8_3] at HO_8; (try simp only [hl8_3])
                    (try simp only [hl8_3] at HO_13)
                    cases gk with
                    | zero => exact absurd HA.out (by simp [line_Deal.l1])
                    | succ k3 =>
                      have H := HA.out; clear HA; simp only [line_Deal.l1] at H; by_cases c39 : x89_3 < (x8_2.length : Int)
                      · rw [if_pos c39] at H
                        have c39b0 : decide (x89_3 < (x8_2.length : Int)) = true := zFq c39; try have c39e8_3 : decide (x89_3 < (x8_3.length : Int)) = true := by rw [← hl8_3]; exact c39b0
                        clear c39; by_cases c40 : 0 ≤ x89_3
                        · rw [if_pos c40] at H
                          have c40b0 : decide (0 ≤ x89_3) = true := zFq c40; clear c40; by_cases c41 : x89_3 < (t125.length : Int)
                          · rw [if_pos c41] at H
                            have c41b0 : decide (x89_3 < (t125.length : Int)) = true := zFq c41; try have c41e8_2 : decide (x89_3 < (x8_2.length : Int)) = true := by rw [← hl8_2]; exact c41b0
                            try have c41e8_3 : decide (x89_3 < (x8_3.length : Int)) = true := by rw [← hl8_3]; exact c41b0
                            clear c41; by_cases c42 : x89_3 < (x8_3.length : Int)
                            · rw [if_pos c42] at H
                              have c42b0 : decide (x89_3 < (x8_3.length : Int)) = true := zFq c42; try have c42e8_2 : decide (x89_3 < (x8_2.length : Int)) = true := by rw [← hl8_2]; exact c42b0
                              clear c42; obtain ⟨y130, hy130⟩ : ∃ y_ : List (S71), y_ = (x8_3.set (x89_3 : Int).toNat (⟨(rd_T71 x8_3 x89_3).f0, (rd_T71 x8_3 x89_3).f1, (rd_T71 x8_3 x89_3).f2, rd t125 x89_3, (rd_T71 x8_3 x89_3).f4⟩ : S71)) := ⟨_, rfl⟩
                              replace H : ((line_Check.f k3 ((rd_T71 y130 x89_3).f0) ((rd_T71 y130 x89_3).f1) ((rd_T71 y130 x89_3).f2) ((rd_T71 y130 x89_3).f3) ((rd_T71 y130 x89_3).f4)).bind fun t132 => (if t132 = 0 then (line_Deal.l1 k3 y130 t125 (x8_2.length : Int) (wrap64 (x89_3 + 1))) else (some (([] : List (S71)), t132)))) = some (r1, r2) := by first | (rw [hy130]; with_reducible exact H) | (have H2_ := (Option.bind_some _ _).symm.trans H; rw [hy130]; with_reducible exact H2_) | (have H2_ := (Option.bind_some _ _).symm.trans H; with_reducible exact H2_) | with_reducible exact H | (rw [hy130]; exact H) | exact H
                              have Ny130 := zA hy130; clear hy130; replace H := Option.bind_eq_some_iff.mp H; obtain ⟨t132, A440, H⟩ := H; try dsimp only at H
                              have A44 := zA A440; clear A440; by_cases c45 : t132 = 0
                              · rw [if_pos c45] at H
                                have c45b0 : (t132 == 0) = true := beq_iff_eq.mpr c45; have c45b1 : (t132 != 0) = false := bne_eq_false_iff_eq.mpr c45; clear c45; have H' := zA H; clear H; obtain ⟨Ao46, co46, eo46⟩ := Kd.R_slice HO_13.out; subst eo46; have p129 : 0 ≤ (x89_3 : Int) := of_decide_eq_true qA; have q129 : x89_3 < (t125.length : Int) := of_decide_eq_true qA; obtain ⟨ad129, e129, hx129_0⟩ := Kd.at_int (Kd.R_reads' HO_13.out).2.2 x89_3 p129 q129; cases e129
                                replace p129 := eq_true p129; replace q129 := eq_true q129; have p43 : 0 ≤ (x89_3 : Int) := of_decide_eq_true qA; have q43 : (x89_3 : Int) < ((x8_3.length : Int) : Int) := of_decide_eq_true qA; obtain ⟨go43, co43, eo43, gb43, gl43, cl43, HG43⟩ := Kd.N_form HO_8.out (by omega); (first | cases eo43 | (injection eo43 with ea_ en_ ec_; (first | subst ea_ | (injection ea_ with ea_; subst ea_)); subst ec_; clear en_))
                                have GB43 := zA gb43; have GG43 := zA HG43; clear gb43 gl43 HG43; obtain ⟨ce43, hcl43, hM43, hcc43, hfr43⟩ := Kd.N_elem HO_8.out z71 (x89_3 : Int) p43 q43; obtain ⟨ua43_4, uc43_4, rfl, ul43_4, ge43_4⟩ := k71_openF hM43; have hx43_0 : wr.cell? ⟨go43, (x89_3 : Int).toNat * 5, none⟩ = some (.int .i64 ((rd_T71 x8_3 x89_3).f0)) := hcc43 0 _ rfl; have hx43_1 : wr.cell? ⟨go43, (x89_3 : Int).toNat * 5 + 1, none⟩ = some (.int .i64 ((rd_T71 x8_3 x89_3).f1)) := hcc43 1 _ rfl; have hx43_2 : wr.cell? ⟨go43, (x89_3 : Int).toNat * 5 + 2, none⟩ = some (.int .i64 ((rd_T71 x8_3 x89_3).f2)) := hcc43 2 _ rfl; have hx43_3 : wr.cell? ⟨go43, (x89_3 : Int).toNat * 5 + 3, none⟩ = some (.int .i64 ((rd_T71 x8_3 x89_3).f3)) := hcc43 3 _ rfl; have hx43_4 : wr.cell? ⟨go43, (x89_3 : Int).toNat * 5 + 4, none⟩ = some (.slice ua43_4 ((rd_T71 x8_3 x89_3).f4).length uc43_4) := hcc43 4 _ rfl; have hf43_0 : wr.frozen? ⟨go43, (x89_3 : Int).toNat * 5, none⟩ = false := hfr43 0; have hf43_1 : wr.frozen? ⟨go43, (x89_3 : Int).toNat * 5 + 1, none⟩ = false := hfr43 1; have hf43_2 : wr.frozen? ⟨go43, (x89_3 : Int).toNat * 5 + 2, none⟩ = false := hfr43 2; have hf43_3 : wr.frozen? ⟨go43, (x89_3 : Int).toNat * 5 + 3, none⟩ = false := hfr43 3; have hf43_4 : wr.frozen? ⟨go43, (x89_3 : Int).toNat * 5 + 4, none⟩ = false := hfr43 4; clear hcl43 hcc43 hfr43 hM43; replace p43 := eq_true p43; replace q43 := eq_true q43; have HX47 := zA (show Kd.N k71 71 wr w.heap.size (fun k_ => (P0_ k_ ∨ w.heap.size ≤ k_) ∧ some k_ ≠ (.slice (some ad129) t125.length co46 : Value).ownBlock) (.slice (some ⟨go43, 0, none⟩) x8_3.length co11) x8_3 from (by (with_reducible repeat (first | apply Kd.N_alloc | apply Kd.N_drewN | apply Kd.N_drew)); exact HO_8.out)); obtain ⟨ce47, hcl47, hM47, hcc47, hfr47⟩ := Kd.N_elem HX47.out z71 (x89_3 : Int) (of_decide_eq_true qA) (by have h_ : (x89_3 : Int) < ((x8_3.length : Int) : Int) := of_decide_eq_true qA; first | exact h_ | (have e_ := (Kd.N_reads' HO_8.out).1; omega) | simpa using h_); obtain ⟨ua47_4, uc47_4, rfl, ul47_4, ge47_4⟩ := k71_openF hM47; have HP47 := Kd.N_seg HX47.out (x89_3 : Int) (of_decide_eq_true qA) (by have h_ : (x89_3 : Int) < ((x8_3.length : Int) : Int) := of_decide_eq_true qA; first | exact h_ | (have e_ := (Kd.N_reads' HO_8.out).1; omega) | simpa using h_) (seg := [.int .i64 (rd t125 x89_3)]) (j := 3) hcl47 hcc47 (show 4 ≤ 5 from by decide) (x' := (⟨(rd_T71 x8_3 x89_3).f0, (rd_T71 x8_3 x89_3).f1, (rd_T71 x8_3 x89_3).f2, rd t125 x89_3, (rd_T71 x8_3 x89_3).f4⟩ : S71)) (k71_mkF _ _ (⟨(rd_T71 x8_3 x89_3).f0, (rd_T71 x8_3 x89_3).f1, (rd_T71 x8_3 x89_3).f2, rd t125 x89_3, (rd_T71 x8_3 x89_3).f4⟩ : S71) ul47_4 ge47_4) (fun _ hk => hk); have hx47_3 := hcc47 3 _ rfl; (try simp only [show (k71).sz = 5 from rfl, Nat.mul_one, Nat.add_zero] at hx47_3)
                                have hf47_3 := hfr47 3; (try simp only [show (k71).sz = 5 from rfl, Nat.mul_one, Nat.add_zero] at hf47_3)
                                clear hcl47 hcc47 hfr47 hM47; go_wp2_with (first | ((with_reducible refine gate_store (t := 3) (p := 99) rfl ?_); refine store_event (t := 3) (p := 99) (v := ?vo_w48) (w1 := (wr.setCell ⟨go43, (x89_3 : Int).toNat * 5 + 3, none⟩ (.int .i64 (rd t125 x89_3)))) ?hg ?ho ?hn ?hr ?_; (case ho => rfl); (case hg => rfl); (case hn => rfl); (case hr => first | (go_simp; done) | (go_simp; rfl)); intro w48 hw; have hg : wr.grownBy w48 (some go43) := (by rw [hw]; exact HP47.2); have hp_ : Kd.N k71 71 w48 w.heap.size (fun k_ => (P0_ k_ ∨ w.heap.size ≤ k_) ∧ some k_ ≠ (.slice (some ad129) t125.length co46 : Value).ownBlock) (.slice (some ⟨go43, 0, none⟩) x8_3.length co11) y130 := (by rw [hw, Ny130.out]; exact HP47.1); clear HP47; have n0_ := zA (hp_); have n1_ := zA (Kd.R_over' (v := (.slice (some ⟨go43, 0, none⟩) x8_3.length co11)) (by (with_reducible repeat (first | apply Kd.R_alloc | apply Kd.R_drewN | apply Kd.R_drew)); exact HO_13.out) (Kd.N_typed HO_8.out) (by decide) hg); have n2_ := zA ((by rw [hw]; exact zE (HB.out) GB43.out : Below w.heap.size w w48)); clear HO_8 HO_13 HB; have HO_8 := n0_; have HO_13 := n1_; have HB := n2_; clear n0_ n1_ n2_ hg hw hp_; have p131 : 0 ≤ (x89_3 : Int) := of_decide_eq_true qA; have q131 : x89_3 < (y130.length : Int) := (by have h_ : (x89_3 : Int) < ((x8_3.length : Int) : Int) := of_decide_eq_true qA; first | (have e_ := (Kd.N_reads' HO_8.out).1; omega) | simpa only [Ny130.out, List.length_set] using h_); have ql131 : ((x89_3 : Int) < ((x8_3.length : Int) : Int)) = True := eq_true (of_decide_eq_true qA); obtain ⟨ad131, A131_4, c131_4, e131, hx131_0, hx131_1, hx131_2, hx131_3, hx131_4, hl131_4, hi131_4⟩ := at_T71 (Kd.N_reads' HO_8.out).2.2 x89_3 p131 q131; obtain rfl : (⟨go43, 0, none⟩ : Addr) = ad131 := (by injection e131); obtain ⟨ce131, hce131, hMe131, hcc131⟩ := Kd.N_get HO_8.out z71 x89_3 p131 (by first | exact q131 | exact of_decide_eq_true qA | (have e_ := (Kd.N_reads' HO_8.out).1; omega)); obtain ⟨ua131_4, uc131_4, rfl, ul131_4, ge131_4⟩ := k71_openF hMe131; have hv131_4 := hcc131 4 _ rfl; rw [add_field _ _ 4 (by omega)] at hv131_4; replace hv131_4 := zKq (hv131_4.symm.trans hx131_4); injection hv131_4 with hva_ hvn_ hvc_; rw [hva_] at ge131_4; rw [hvc_] at ul131_4; have HL131_4 := zA (show Kd.V Kd.string 9 _ w.heap.size _ _ ((rd_T71 y130 x89_3).f4) from Kd.V_mk ul131_4 ge131_4); clear hva_ hvn_ hvc_ ge131_4 ul131_4 hcc131 hce131; (first | simp only [add_plain] at hx131_0 | simp only [add_at] at hx131_0 | simp only [Addr.add, Nat.zero_add] at hx131_0 | skip); (first | simp only [add_plain] at hx131_1 | simp only [add_at] at hx131_1 | simp only [Addr.add, Nat.zero_add] at hx131_1 | skip); (first | simp only [add_plain] at hx131_2 | simp only [add_at] at hx131_2 | simp only [Addr.add, Nat.zero_add] at hx131_2 | skip); (first | simp only [add_plain] at hx131_3 | simp only [add_at] at hx131_3 | simp only [Addr.add, Nat.zero_add] at hx131_3 | skip); (first | simp only [add_plain] at hx131_4 | simp only [add_at] at hx131_4 | simp only [Addr.add, Nat.zero_add] at hx131_4 | skip); have HR131_4 := zA hi131_4; have HC131_4 := zA hl131_4; clear hi131_4 hl131_4; replace p131 := eq_true p131; replace q131 := eq_true q131) | ((with_reducible refine zJq (f := 69) rfl ?_); refine goesL_ (some 104) rfl rfl Try.func69 (by kernel_rfl) rfl #[.agg #[.int .i64 ((rd_T71 y130 x89_3).f0), .int .i64 ((rd_T71 y130 x89_3).f1), .int .i64 ((rd_T71 y130 x89_3).f2), .int .i64 ((rd_T71 y130 x89_3).f3), .slice A131_4 ((rd_T71 y130 x89_3).f4).length c131_4]] rfl qG ?_; (with_reducible refine (line_Check.calls k3 ((rd_T71 y130 x89_3).f0) ((rd_T71 y130 x89_3).f1) ((rd_T71 y130 x89_3).f2) ((rd_T71 y130 x89_3).f3) _ _ ((rd_T71 y130 x89_3).f4) t132 _ ?side1 ?side2 A44.out).mono ?_); (case side1 => repeat (first | exact (by repeat (first | (with_reducible exact HR131_4.out) | (with_reducible refine Kd.C_alloc ?_ _) | (with_reducible refine Kd.C_drewN ?_ _) | (with_reducible refine Kd.C_drew ?_) | exact HR131_4.out)) | (with_reducible refine Kd.C_alloc ?_ _) | (with_reducible refine Kd.C_drewN ?_ _) | (with_reducible refine Kd.C_drew ?_))); (case side2 => exact HC131_4.out); rintro e w49 ⟨rfl, hb⟩; refine ⟨_, rfl, ?_⟩; have n0_ := zA (Kd.N_below (by (with_reducible repeat (first | apply Kd.N_alloc | apply Kd.N_drewN | apply Kd.N_drew)); exact HO_8.out) hb); have n1_ := zA (Kd.R_below (by (with_reducible repeat (first | apply Kd.R_alloc | apply Kd.R_drewN | apply Kd.R_drew)); exact HO_13.out) hb); have n2_ := zA (Kd.V_below (by (with_reducible repeat (first | apply Kd.V_alloc | apply Kd.V_drewN | apply Kd.V_drew)); exact HL131_4.out) hb); have n3_ := zA (Kd.C_below (by repeat (first | (with_reducible exact HR131_4.out) | (with_reducible refine Kd.C_alloc ?_ _) | (with_reducible refine Kd.C_drewN ?_ _) | (with_reducible refine Kd.C_drew ?_) | exact HR131_4.out)) hb); have n4_ := zA (zV qB hb); clear HO_8 HO_13 HL131_4 HR131_4 HB; have HO_8 := n0_; have HO_13 := n1_; have HL131_4 := n2_; have HR131_4 := n3_; have HB := n4_; clear n0_ n1_ n2_ n3_ n4_; (try clear hb)))
                                (try simp only [← hl8_3])
                                go_roundg k3
                                case measure => have := HJ8.out; have := HK2.out; have := HK3.out; omega
                                case rel => exact ⟨(y130), (wrap64 (x89_3 + 1)), (by first | rfl | (simp; done) | (simp [*]; done)), H', ⟨by have := HJ8.out; have := HK2.out; have := HK3.out; omega⟩, ⟨by (try simp only [hl8_2]); (try simp only [hl8_3]); (with_reducible repeat (first | apply Kd.N_alloc | apply Kd.N_drewN | apply Kd.N_drew)); exact HO_8.out⟩, ⟨by (try simp only [hl8_2]); (try simp only [hl8_3]); (with_reducible repeat (first | apply Kd.R_alloc | apply Kd.R_drewN | apply Kd.R_drew)); exact HO_13.out⟩, ⟨qB⟩⟩
                              rw [if_neg c45] at H; have c45b0 : (t132 == 0) = false := beq_eq_false_iff_ne.mpr c45; have c45b1 : (t132 != 0) = true := bne_iff_ne.mpr c45; simp only [zNq, zOq] at H; obtain ⟨rfl, rfl⟩ := H; obtain ⟨Ao50, co50, eo50⟩ := Kd.R_slice HO_13.out; subst eo50; have p129 : 0 ≤ (x89_3 : Int) := of_decide_eq_true qA; have q129 : x89_3 < (t125.length : Int) := of_decide_eq_true qA; obtain ⟨ad129, e129, hx129_0⟩ := Kd.at_int (Kd.R_reads' HO_13.out).2.2 x89_3 p129 q129; cases e129
                              replace p129 := eq_true p129; replace q129 := eq_true q129; have p43 : 0 ≤ (x89_3 : Int) := of_decide_eq_true qA; have q43 : (x89_3 : Int) < ((x8_3.length : Int) : Int) := of_decide_eq_true qA; obtain ⟨go43, co43, eo43, gb43, gl43, cl43, HG43⟩ := Kd.N_form HO_8.out (by omega); (first | cases eo43 | (injection eo43 with ea_ en_ ec_; (first | subst ea_ | (injection ea_ with ea_; subst ea_)); subst ec_; clear en_))
                              have GB43 := zA gb43; have GG43 := zA HG43; clear gb43 gl43 HG43; obtain ⟨ce43, hcl43, hM43, hcc43, hfr43⟩ := Kd.N_elem HO_8.out z71 (x89_3 : Int) p43 q43; obtain ⟨ua43_4, uc43_4, rfl, ul43_4, ge43_4⟩ := k71_openF hM43; have hx43_0 : wr.cell? ⟨go43, (x89_3 : Int).toNat * 5, none⟩ = some (.int .i64 ((rd_T71 x8_3 x89_3).f0)) := hcc43 0 _ rfl; have hx43_1 : wr.cell? ⟨go43, (x89_3 : Int).toNat * 5 + 1, none⟩ = some (.int .i64 ((rd_T71 x8_3 x89_3).f1)) := hcc43 1 _ rfl; have hx43_2 : wr.cell? ⟨go43, (x89_3 : Int).toNat * 5 + 2, none⟩ = some (.int .i64 ((rd_T71 x8_3 x89_3).f2)) := hcc43 2 _ rfl; have hx43_3 : wr.cell? ⟨go43, (x89_3 : Int).toNat * 5 + 3, none⟩ = some (.int .i64 ((rd_T71 x8_3 x89_3).f3)) := hcc43 3 _ rfl; have hx43_4 : wr.cell? ⟨go43, (x89_3 : Int).toNat * 5 + 4, none⟩ = some (.slice ua43_4 ((rd_T71 x8_3 x89_3).f4).length uc43_4) := hcc43 4 _ rfl; have hf43_0 : wr.frozen? ⟨go43, (x89_3 : Int).toNat * 5, none⟩ = false := hfr43 0; have hf43_1 : wr.frozen? ⟨go43, (x89_3 : Int).toNat * 5 + 1, none⟩ = false := hfr43 1; have hf43_2 : wr.frozen? ⟨go43, (x89_3 : Int).toNat * 5 + 2, none⟩ = false := hfr43 2; have hf43_3 : wr.frozen? ⟨go43, (x89_3 : Int).toNat * 5 + 3, none⟩ = false := hfr43 3; have hf43_4 : wr.frozen? ⟨go43, (x89_3 : Int).toNat * 5 + 4, none⟩ = false := hfr43 4; clear hcl43 hcc43 hfr43 hM43; replace p43 := eq_true p43; replace q43 := eq_true q43; have HX51 := zA (show Kd.N k71 71 wr w.heap.size (fun k_ => (P0_ k_ ∨ w.heap.size ≤ k_) ∧ some k_ ≠ (.slice (some ad129) t125.length co50 : Value).ownBlock) (.slice (some ⟨go43, 0, none⟩) x8_3.length co11) x8_3 from (by (with_reducible repeat (first | apply Kd.N_alloc | apply Kd.N_drewN | apply Kd.N_drew)); exact HO_8.out)); obtain ⟨ce51, hcl51, hM51, hcc51, hfr51⟩ := Kd.N_elem HX51.out z71 (x89_3 : Int) (of_decide_eq_true qA) (by have h_ : (x89_3 : Int) < ((x8_3.length : Int) : Int) := of_decide_eq_true qA; first | exact h_ | (have e_ := (Kd.N_reads' HO_8.out).1; omega) | simpa using h_); obtain ⟨ua51_4, uc51_4, rfl, ul51_4, ge51_4⟩ := k71_openF hM51; have HP51 := Kd.N_seg HX51.out (x89_3 : Int) (of_decide_eq_true qA) (by have h_ : (x89_3 : Int) < ((x8_3.length : Int) : Int) := of_decide_eq_true qA; first | exact h_ | (have e_ := (Kd.N_reads' HO_8.out).1; omega) | simpa using h_) (seg := [.int .i64 (rd t125 x89_3)]) (j := 3) hcl51 hcc51 (show 4 ≤ 5 from by decide) (x' := (⟨(rd_T71 x8_3 x89_3).f0, (rd_T71 x8_3 x89_3).f1, (rd_T71 x8_3 x89_3).f2, rd t125 x89_3, (rd_T71 x8_3 x89_3).f4⟩ : S71)) (k71_mkF _ _ (⟨(rd_T71 x8_3 x89_3).f0, (rd_T71 x8_3 x89_3).f1, (rd_T71 x8_3 x89_3).f2, rd t125 x89_3, (rd_T71 x8_3 x89_3).f4⟩ : S71) ul51_4 ge51_4) (fun _ hk => hk); have hx51_3 := hcc51 3 _ rfl; (try simp only [show (k71).sz = 5 from rfl, Nat.mul_one, Nat.add_zero] at hx51_3)
                              have hf51_3 := hfr51 3; (try simp only [show (k71).sz = 5 from rfl, Nat.mul_one, Nat.add_zero] at hf51_3)
                              clear hcl51 hcc51 hfr51 hM51; go_wp2_with (first | ((with_reducible refine gate_store (t := 3) (p := 99) rfl ?_); refine store_event (t := 3) (p := 99) (v := ?vo_w52) (w1 := (wr.setCell ⟨go43, (x89_3 : Int).toNat * 5 + 3, none⟩ (.int .i64 (rd t125 x89_3)))) ?hg ?ho ?hn ?hr ?_; (case ho => rfl); (case hg => rfl); (case hn => rfl); (case hr => first | (go_simp; done) | (go_simp; rfl)); intro w52 hw; have hg : wr.grownBy w52 (some go43) := (by rw [hw]; exact HP51.2); have hp_ : Kd.N k71 71 w52 w.heap.size (fun k_ => (P0_ k_ ∨ w.heap.size ≤ k_) ∧ some k_ ≠ (.slice (some ad129) t125.length co50 : Value).ownBlock) (.slice (some ⟨go43, 0, none⟩) x8_3.length co11) y130 := (by rw [hw, Ny130.out]; exact HP51.1); clear HP51; have n0_ := zA (hp_); have n1_ := zA (Kd.R_over' (v := (.slice (some ⟨go43, 0, none⟩) x8_3.length co11)) (by (with_reducible repeat (first | apply Kd.R_alloc | apply Kd.R_drewN | apply Kd.R_drew)); exact HO_13.out) (Kd.N_typed HO_8.out) (by decide) hg); have n2_ := zA ((by rw [hw]; exact zE (HB.out) GB43.out : Below w.heap.size w w52)); clear HO_8 HO_13 HB; have HO_8 := n0_; have HO_13 := n1_; have HB := n2_; clear n0_ n1_ n2_ hg hw hp_; have p131 : 0 ≤ (x89_3 : Int) := of_decide_eq_true qA; have q131 : x89_3 < (y130.length : Int) := (by have h_ : (x89_3 : Int) < ((x8_3.length : Int) : Int) := of_decide_eq_true qA; first | (have e_ := (Kd.N_reads' HO_8.out).1; omega) | simpa only [Ny130.out, List.length_set] using h_); have ql131 : ((x89_3 : Int) < ((x8_3.length : Int) : Int)) = True := eq_true (of_decide_eq_true qA); obtain ⟨ad131, A131_4, c131_4, e131, hx131_0, hx131_1, hx131_2, hx131_3, hx131_4, hl131_4, hi131_4⟩ := at_T71 (Kd.N_reads' HO_8.out).2.2 x89_3 p131 q131; obtain rfl : (⟨go43, 0, none⟩ : Addr) = ad131 := (by injection e131); obtain ⟨ce131, hce131, hMe131, hcc131⟩ := Kd.N_get HO_8.out z71 x89_3 p131 (by first | exact q131 | exact of_decide_eq_true qA | (have e_ := (Kd.N_reads' HO_8.out).1; omega)); obtain ⟨ua131_4, uc131_4, rfl, ul131_4, ge131_4⟩ := k71_openF hMe131; have hv131_4 := hcc131 4 _ rfl; rw [add_field _ _ 4 (by omega)] at hv131_4; replace hv131_4 := zKq (hv131_4.symm.trans hx131_4); injection hv131_4 with hva_ hvn_ hvc_; rw [hva_] at ge131_4; rw [hvc_] at ul131_4; have HL131_4 := zA (show Kd.V Kd.string 9 _ w.heap.size _ _ ((rd_T71 y130 x89_3).f4) from Kd.V_mk ul131_4 ge131_4); clear hva_ hvn_ hvc_ ge131_4 ul131_4 hcc131 hce131; (first | simp only [add_plain] at hx131_0 | simp only [add_at] at hx131_0 | simp only [Addr.add, Nat.zero_add] at hx131_0 | skip); (first | simp only [add_plain] at hx131_1 | simp only [add_at] at hx131_1 | simp only [Addr.add, Nat.zero_add] at hx131_1 | skip); (first | simp only [add_plain] at hx131_2 | simp only [add_at] at hx131_2 | simp only [Addr.add, Nat.zero_add] at hx131_2 | skip); (first | simp only [add_plain] at hx131_3 | simp only [add_at] at hx131_3 | simp only [Addr.add, Nat.zero_add] at hx131_3 | skip); (first | simp only [add_plain] at hx131_4 | simp only [add_at] at hx131_4 | simp only [Addr.add, Nat.zero_add] at hx131_4 | skip); have HR131_4 := zA hi131_4; have HC131_4 := zA hl131_4; clear hi131_4 hl131_4; replace p131 := eq_true p131; replace q131 := eq_true q131) | ((with_reducible refine zJq (f := 69) rfl ?_); refine goesL_ (some 104) rfl rfl Try.func69 (by kernel_rfl) rfl #[.agg #[.int .i64 ((rd_T71 y130 x89_3).f0), .int .i64 ((rd_T71 y130 x89_3).f1), .int .i64 ((rd_T71 y130 x89_3).f2), .int .i64 ((rd_T71 y130 x89_3).f3), .slice A131_4 ((rd_T71 y130 x89_3).f4).length c131_4]] rfl qG ?_; (with_reducible refine (line_Check.calls k3 ((rd_T71 y130 x89_3).f0) ((rd_T71 y130 x89_3).f1) ((rd_T71 y130 x89_3).f2) ((rd_T71 y130 x89_3).f3) _ _ ((rd_T71 y130 x89_3).f4) t132 _ ?side1 ?side2 A44.out).mono ?_); (case side1 => repeat (first | exact (by repeat (first | (with_reducible exact HR131_4.out) | (with_reducible refine Kd.C_alloc ?_ _) | (with_reducible refine Kd.C_drewN ?_ _) | (with_reducible refine Kd.C_drew ?_) | exact HR131_4.out)) | (with_reducible refine Kd.C_alloc ?_ _) | (with_reducible refine Kd.C_drewN ?_ _) | (with_reducible refine Kd.C_drew ?_))); (case side2 => exact HC131_4.out); rintro e w53 ⟨rfl, hb⟩; refine ⟨_, rfl, ?_⟩; have n0_ := zA (Kd.N_below (by (with_reducible repeat (first | apply Kd.N_alloc | apply Kd.N_drewN | apply Kd.N_drew)); exact HO_8.out) hb); have n1_ := zA (Kd.R_below (by (with_reducible repeat (first | apply Kd.R_alloc | apply Kd.R_drewN | apply Kd.R_drew)); exact HO_13.out) hb); have n2_ := zA (Kd.V_below (by (with_reducible repeat (first | apply Kd.V_alloc | apply Kd.V_drewN | apply Kd.V_drew)); exact HL131_4.out) hb); have n3_ := zA (Kd.C_below (by repeat (first | (with_reducible exact HR131_4.out) | (with_reducible refine Kd.C_alloc ?_ _) | (with_reducible refine Kd.C_drewN ?_ _) | (with_reducible refine Kd.C_drew ?_) | exact HR131_4.out)) hb); have n4_ := zA (zV qB hb); clear HO_8 HO_13 HL131_4 HR131_4 HB; have HO_8 := n0_; have HO_13 := n1_; have HL131_4 := n2_; have HR131_4 := n3_; have HB := n4_; clear n0_ n1_ n2_ n3_ n4_; (try clear hb)))
                              go_ret2; exact ⟨_, qE, by first | exact Kd.S_nil _ _ _ _ _ | exact Kd.N_nil _ _ _ _ _ | exact Kd.V_nil _ _ _ _ _ | exact Kd.Q_nil _ _ _ _ _ | exact Kd.R_nil _ _ _ _ _, qB⟩
                            rw [if_neg c42] at H; exact absurd H (by simp)
                          rw [if_neg c41] at H; exact absurd H (by simp)
                        rw [if_neg c40] at H; exact absurd H (by simp)
                      rw [if_neg c39] at H; have c39b0 : decide (x89_3 < (x8_2.length : Int)) = false := zGq c39; try have c39e8_3 : decide (x89_3 < (x8_3.length : Int)) = false := by rw [← hl8_3]; exact c39b0
                      clear c39; simp only [zNq, zOq] at H; obtain ⟨rfl, rfl⟩ := H; go_wp2; go_ret2; exact ⟨_, qE, by (with_reducible repeat (first | apply Kd.N_alloc | apply Kd.N_drewN | apply Kd.N_drew)); exact Kd.N_mono HO_8.out (fun _ hk => hk.1), qB⟩
                rw [if_neg c35] at H; have c35b0 : (t126 == 0) = false := beq_eq_false_iff_ne.mpr c35; have c35b1 : (t126 != 0) = true := bne_iff_ne.mpr c35; simp only [zNq, zOq] at H; obtain ⟨rfl, rfl⟩ := H; go_wp2_with (first | (go_at_call 112; (with_reducible refine (line_each_line_net.calls k2 _ _ x8_2  t122 _ ?side1 ?side2 A33.out).mono ?_); (case side1 => repeat (first | exact (Kd.N_reads' HO_8.out).2.2 | (with_reducible refine Kd.C_alloc ?_ _) | (with_reducible refine Kd.C_drewN ?_ _) | (with_reducible refine Kd.C_drew ?_))); (case side2 => exact (Kd.N_reads' HO_8.out).2.1); rintro e w54 ⟨v123, rfl, ho0, hb⟩; have n0_ := zA (Kd.N_elder' (by (with_reducible repeat (first | apply Kd.N_alloc | apply Kd.N_drewN | apply Kd.N_drew)); exact HO_8.out) (Kd.R_base ho0) hb); have n1_ := zA (Kd.R_elder' (by (with_reducible repeat (first | apply Kd.R_alloc | apply Kd.R_drewN | apply Kd.R_drew)); exact HO_11.out) (Kd.R_base ho0) hb); have n2_ := zA (Kd.R_lower (Kd.R_new' (Kd.R_newM (M := fun k_ => (w.heap.size ≤ k_)) ho0 (zW qB) (fun k_ h_ => h_)) (Kd.R_lt (by (with_reducible repeat (first | apply Kd.R_alloc | apply Kd.R_drewN | apply Kd.R_drew)); exact HO_11.out))) (zW qB)); have n3_ := zA (zV qB hb); clear HO_8 HO_11 HB; have HO_8 := n0_; have HO_11 := n1_; have HO124 := n2_; have HB := n3_; clear n0_ n1_ n2_ n3_; (try clear hb); (try clear ho0); obtain ⟨Ao55, co55, eo55⟩ := Kd.R_slice HO124.out; subst eo55) | ((with_reducible refine zJq (f := 51) rfl ?_); refine goesL_ (some 81) rfl rfl Try.func51 (by kernel_rfl) rfl #[.int .i64 a2, .slice Ao55 t122.length co55] rfl qG ?_; (with_reducible refine (share_Out.calls k2 a2 _ _ t122 t125 t126 _ ?side1 ?side2 A34.out).mono ?_); (case side1 => repeat (first | exact (Kd.R_reads' HO124.out).2.2 | (with_reducible refine Kd.C_alloc ?_ _) | (with_reducible refine Kd.C_drewN ?_ _) | (with_reducible refine Kd.C_drew ?_))); (case side2 => exact (Kd.R_reads' HO124.out).2.1); rintro e w56 ⟨v127, rfl, ho0, hb⟩; refine ⟨_, rfl, ?_⟩; have n0_ := zA (Kd.N_elder' (by (with_reducible repeat (first | apply Kd.N_alloc | apply Kd.N_drewN | apply Kd.N_drew)); exact HO_8.out) (Kd.R_base ho0) hb); have n1_ := zA (Kd.R_elder' (by (with_reducible repeat (first | apply Kd.R_alloc | apply Kd.R_drewN | apply Kd.R_drew)); exact HO_11.out) (Kd.R_base ho0) hb); have n2_ := zA (Kd.R_elder' (by (with_reducible repeat (first | apply Kd.R_alloc | apply Kd.R_drewN | apply Kd.R_drew)); exact HO124.out) (Kd.R_base ho0) hb); have n3_ := zA (Kd.R_lower (Kd.R_new' (Kd.R_new' (Kd.R_newM (M := fun k_ => (w.heap.size ≤ k_)) ho0 (zW qB) (fun k_ h_ => h_)) (Kd.R_lt (by (with_reducible repeat (first | apply Kd.R_alloc | apply Kd.R_drewN | apply Kd.R_drew)); exact HO_11.out))) (Kd.R_lt (by (with_reducible repeat (first | apply Kd.R_alloc | apply Kd.R_drewN | apply Kd.R_drew)); exact HO124.out))) (zW qB)); have n4_ := zA (zV qB hb); clear HO_8 HO_11 HO124 HB; have HO_8 := n0_; have HO_11 := n1_; have HO124 := n2_; have HO128 := n3_; have HB := n4_; clear n0_ n1_ n2_ n3_ n4_; (try clear hb); (try clear ho0)))
                go_ret2; exact ⟨_, qE, by first | exact Kd.S_nil _ _ _ _ _ | exact Kd.N_nil _ _ _ _ _ | exact Kd.V_nil _ _ _ _ _ | exact Kd.Q_nil _ _ _ _ _ | exact Kd.R_nil _ _ _ _ _, qB⟩
          rw [if_neg c21] at H; have c21b0 : (t116 == 0) = false := beq_eq_false_iff_ne.mpr c21; have c21b1 : (t116 != 0) = true := bne_iff_ne.mpr c21; simp only [zNq, zOq] at H; obtain ⟨rfl, rfl⟩ := H; go_wp2_with (first | (go_at_call 112; (with_reducible refine (line_each_line_gross.calls kj8 _ _ t101  t112 _ ?side1 ?side2 A19.out).mono ?_); (case side1 => repeat (first | exact (Kd.N_reads' HO_8.out).2.2 | (with_reducible refine Kd.C_alloc ?_ _) | (with_reducible refine Kd.C_drewN ?_ _) | (with_reducible refine Kd.C_drew ?_))); (case side2 => exact (Kd.N_reads' HO_8.out).2.1); rintro e w57 ⟨v113, rfl, ho0, hb⟩; have n0_ := zA (Kd.N_elder' (by (with_reducible repeat (first | apply Kd.N_alloc | apply Kd.N_drewN | apply Kd.N_drew)); exact HO_8.out) (Kd.R_base ho0) hb); have n1_ := zA (Kd.R_lower (Kd.R_newM (M := fun k_ => (w.heap.size ≤ k_)) ho0 (zW qB) (fun k_ h_ => h_)) (zW qB)); have n2_ := zA (zV qB hb); clear HO_8 HB; have HO_8 := n0_; have HO114 := n1_; have HB := n2_; clear n0_ n1_ n2_; (try clear hb); (try clear ho0); obtain ⟨Ao58, co58, eo58⟩ := Kd.R_slice HO114.out; subst eo58) | ((with_reducible refine zJq (f := 51) rfl ?_); refine goesL_ (some 51) rfl rfl Try.func51 (by kernel_rfl) rfl #[.int .i64 a1, .slice Ao58 t112.length co58] rfl qG ?_; (with_reducible refine (share_Out.calls kj8 a1 _ _ t112 t115 t116 _ ?side1 ?side2 A20.out).mono ?_); (case side1 => repeat (first | exact (Kd.R_reads' HO114.out).2.2 | (with_reducible refine Kd.C_alloc ?_ _) | (with_reducible refine Kd.C_drewN ?_ _) | (with_reducible refine Kd.C_drew ?_))); (case side2 => exact (Kd.R_reads' HO114.out).2.1); rintro e w59 ⟨v117, rfl, ho0, hb⟩; refine ⟨_, rfl, ?_⟩; have n0_ := zA (Kd.N_elder' (by (with_reducible repeat (first | apply Kd.N_alloc | apply Kd.N_drewN | apply Kd.N_drew)); exact HO_8.out) (Kd.R_base ho0) hb); have n1_ := zA (Kd.R_elder' (by (with_reducible repeat (first | apply Kd.R_alloc | apply Kd.R_drewN | apply Kd.R_drew)); exact HO114.out) (Kd.R_base ho0) hb); have n2_ := zA (Kd.R_lower (Kd.R_new' (Kd.R_newM (M := fun k_ => (w.heap.size ≤ k_)) ho0 (zW qB) (fun k_ h_ => h_)) (Kd.R_lt (by (with_reducible repeat (first | apply Kd.R_alloc | apply Kd.R_drewN | apply Kd.R_drew)); exact HO114.out))) (zW qB)); have n3_ := zA (zV qB hb); clear HO_8 HO114 HB; have HO_8 := n0_; have HO114 := n1_; have HO118 := n2_; have HB := n3_; clear n0_ n1_ n2_ n3_; (try clear hb); (try clear ho0))); go_ret2; exact ⟨_, qE, by first | exact Kd.S_nil _ _ _ _ _ | exact Kd.N_nil _ _ _ _ _ | exact Kd.V_nil _ _ _ _ _ | exact Kd.Q_nil _ _ _ _ _ | exact Kd.R_nil _ _ _ _ _, qB⟩
    rw [if_neg c8] at H; have c8b0 : (t109 == 0) = false := beq_eq_false_iff_ne.mpr c8; have c8b1 : (t109 != 0) = true := bne_iff_ne.mpr c8; simp only [zNq, zOq] at H; obtain ⟨rfl, rfl⟩ := H; go_enter Try.func62, Try.ntmps62; go_wp2_with (first | ((with_reducible refine zJq (f := 111) rfl ?_); refine goesL_ (some 18) rfl rfl Try.func111 (by kernel_rfl) rfl #[.slice A0 l0.length c0] rfl qG ?_; (with_reducible refine (line_bare.calls k (fun k_ => (P0_ k_ ∨ w.heap.size ≤ k_)) _ _ l0 t101 t104 _ ?side1 A4.out).mono ?_); (case side1 => exact HO0.out); rintro e w60 ⟨v102, rfl, ho0, hb⟩; refine ⟨_, rfl, ?_⟩; have n0_ := zA (Kd.V_elder' (by (with_reducible repeat (first | apply Kd.V_alloc | apply Kd.V_drewN | apply Kd.V_drew)); exact HO0.out) (Kd.N_base ho0) hb); have n1_ := zA (Kd.N_lower (Kd.N_mono (ok' := fun k_ => (P0_ k_ ∨ w.heap.size ≤ k_)) ho0 (fun k_ hk_ => Or.elim hk_ (fun hs_ => hs_) (fun hn_ => (.inr (Nat.le_trans (zW qB) hn_))))) (zW qB)); have n2_ := zA (zV qB hb); clear HO0 HB; have HO0 := n0_; have HO103 := n1_; have HB := n2_; clear n0_ n1_ n2_; (try clear hb); (try clear ho0); obtain ⟨Ao61, co61, eo61⟩ := Kd.N_slice HO103.out; subst eo61) | (go_at_call 112; (with_reducible refine (line_each_line_gross.calls k _ _ t101  t105 _ ?side1 ?side2 A6.out).mono ?_); (case side1 => repeat (first | exact (Kd.N_reads' HO103.out).2.2 | (with_reducible refine Kd.C_alloc ?_ _) | (with_reducible refine Kd.C_drewN ?_ _) | (with_reducible refine Kd.C_drew ?_))); (case side2 => exact (Kd.N_reads' HO103.out).2.1); rintro e w62 ⟨v106, rfl, ho0, hb⟩; have n0_ := zA (Kd.V_elder' (by (with_reducible repeat (first | apply Kd.V_alloc | apply Kd.V_drewN | apply Kd.V_drew)); exact HO0.out) (Kd.R_base ho0) hb); have n1_ := zA (Kd.N_elder' (by (with_reducible repeat (first | apply Kd.N_alloc | apply Kd.N_drewN | apply Kd.N_drew)); exact HO103.out) (Kd.R_base ho0) hb); have n2_ := zA (Kd.R_lower (Kd.R_newM (M := fun k_ => (w.heap.size ≤ k_)) ho0 (zW qB) (fun k_ h_ => h_)) (zW qB)); have n3_ := zA (zV qB hb); clear HO0 HO103 HB; have HO0 := n0_; have HO103 := n1_; have HO107 := n2_; have HB := n3_; clear n0_ n1_ n2_ n3_; (try clear hb); (try clear ho0); obtain ⟨Ao63, co63, eo63⟩ := Kd.R_slice HO107.out; subst eo63) | ((with_reducible refine zJq (f := 25) rfl ?_); refine goesL_ (some 27) rfl rfl Try.func25 (by kernel_rfl) rfl #[.slice Ao63 t105.length co63] rfl qG ?_; (with_reducible refine (cents_Add.calls k _ _ t105 t108 t109 _ ?side1 ?side2 A7.out).mono ?_); (case side1 => repeat (first | exact (Kd.R_reads' HO107.out).2.2 | (with_reducible refine Kd.C_alloc ?_ _) | (with_reducible refine Kd.C_drewN ?_ _) | (with_reducible refine Kd.C_drew ?_))); (case side2 => exact (Kd.R_reads' HO107.out).2.1); rintro e w' ⟨rfl, ⟨nd, rfl⟩⟩; refine ⟨_, rfl, ?_⟩)); go_ret2; exact ⟨_, qE, by first | exact Kd.S_nil _ _ _ _ _ | exact Kd.N_nil _ _ _ _ _ | exact Kd.V_nil _ _ _ _ _ | exact Kd.Q_nil _ _ _ _ _ | exact Kd.R_nil _ _ _ _ _, qB⟩
  rw [if_neg c5] at H
  have c5b0 : (t104 == 0) = false := beq_eq_false_iff_ne.mpr c5
  have c5b1 : (t104 != 0) = true := bne_iff_ne.mpr c5
  simp only [zNq, zOq] at H
  obtain ⟨rfl, rfl⟩ := H
  go_enter Try.func62, Try.ntmps62
  go_wp2_with (first | ((with_reducible refine zJq (f := 111) rfl ?_); refine goesL_ (some 18) rfl rfl Try.func111 (by kernel_rfl) rfl #[.slice A0 l0.length c0] rfl qG ?_; (with_reducible refine (line_bare.calls k (fun k_ => (P0_ k_ ∨ w.heap.size ≤ k_)) _ _ l0 t101 t104 _ ?side1 A4.out).mono ?_); (case side1 => exact HO0.out); rintro e w64 ⟨v102, rfl, ho0, hb⟩; refine ⟨_, rfl, ?_⟩; have n0_ := zA (Kd.V_elder' (by (with_reducible repeat (first | apply Kd.V_alloc | apply Kd.V_drewN | apply Kd.V_drew)); exact HO0.out) (Kd.N_base ho0) hb); have n1_ := zA (Kd.N_lower (Kd.N_mono (ok' := fun k_ => (P0_ k_ ∨ w.heap.size ≤ k_)) ho0 (fun k_ hk_ => Or.elim hk_ (fun hs_ => hs_) (fun hn_ => (.inr (Nat.le_trans (zW qB) hn_))))) (zW qB)); have n2_ := zA (zV qB hb); clear HO0 HB; have HO0 := n0_; have HO103 := n1_; have HB := n2_; clear n0_ n1_ n2_; (try clear hb); (try clear ho0)))
  go_ret2
  exact ⟨_, qE, by first | exact Kd.S_nil _ _ _ _ _ | exact Kd.N_nil _ _ _ _ _ | exact Kd.V_nil _ _ _ _ _ | exact Kd.Q_nil _ _ _ _ _ | exact Kd.R_nil _ _ _ _ _, qB⟩
def share_Evenly.j0 : Nat → Int → Int → Bool → Option (List Int × Int)
  | 0, _, _, _ => none
  | k + 1, x0, x1, x11 => if x11 = true then (some (([] : List Int), 2)) else ((share_even.f k x1).bind fun t101 => ((share_Out.f k x0 t101).bind fun bt104 => (some (bt104.1, bt104.2))))
def share_Evenly.f (k : Nat) (a0 : Int) (a1 : Int) : Option (List Int × Int) := if a1 < 1 then (share_Evenly.j0 k a0 a1 true) else (share_Evenly.j0 k a0 a1 (decide (a1 > 200)))
theorem share_Evenly.mono_l : ∀ k, (∀ y0 y1 y2, LeO (share_Evenly.j0 k y0 y1 y2) (share_Evenly.j0 (k + 1) y0 y1 y2))
  | 0 => fun _ _ _ r h => by simp [share_Evenly.j0] at h
  | k + 1 => by
    have ih0 := share_Evenly.mono_l k
    intro y0 y1 y2
    unfold share_Evenly.j0
    repeat' (with_reducible first | exact ih0 _ _ _ | exact share_Out.mono _ _ _ | exact share_even.mono _ _ | exact LeO.refl _ | exact LeO.none _ | refine LeO.ite ?_ ?_ | refine LeO.bind ?_ (fun _ => ?_))
theorem share_Evenly.mono : ∀ a0 a1 k, LeO (share_Evenly.f k a0 a1) (share_Evenly.f (k + 1) a0 a1) := by
  intro a0 a1 k
  have ih0 := share_Evenly.mono_l k
  unfold share_Evenly.f
  repeat' (with_reducible first | exact ih0 _ _ _ | exact share_Out.mono _ _ _ | exact share_even.mono _ _ | exact LeO.refl _ | exact LeO.none _ | refine LeO.ite ?_ ?_ | refine LeO.bind ?_ (fun _ => ?_))
set_option maxHeartbeats 8000000 in
set_option maxRecDepth 100000 in
theorem share_Evenly.calls (k : Nat) (a0 : Int) (a1 : Int) (r1 : List Int) (r2 : Int) (w : World) (h : share_Evenly.f k a0 a1 = some (r1, r2)) :
    Calls Try.prog 53 #[.int .i64 a0, .int .i64 a1] w fun e w' => ∃ v0_ : Value, e = .returned (.tuple #[v0_, .int .i64 r2]) ∧ Kd.R (Kd.int .i64) 3 w' w.heap.size (fun _ => True) v0_ r1 ∧ Below w.heap.size w w' := by
  have HB := zA (Below.refl w.heap.size w)
  have H : (if a1 < 1 then (share_Evenly.j0 k a0 a1 true) else (share_Evenly.j0 k a0 a1 (decide (a1 > 200)))) = some (r1, r2) := h
  clear h
  have HC3 := zA H
  clear H
  go_enter Try.func53, Try.ntmps53
  go_upto_region 1 with (fail)
  go_cut [11] (fun v11 wc => ∃ (kq : Nat) (x11_2 : Bool), v11 = .bool x11_2 ∧ Aside0 (share_Evenly.j0 kq a0 a1 x11_2 = some (r1, r2)) ∧ Aside0 (kq ≤ k) ∧ Aside0 (Below w.heap.size w wc))
  case first =>
    have H := HC3.out; clear HC3; by_cases c4 : a1 < 1
    · rw [if_pos c4] at H
      have c4b0 : decide (a1 < 1) = true := zFq c4; clear c4; (first | rw [c4b0] | (simp only [i64_w, i32_w]; rw [c4b0]) | skip)
      have H' := zA H; clear H; go_wp2; go_meet
      case rel => exact ⟨_, (true), (by first | rfl | (simp; done) | (simp [*]; done)), H', ⟨by first | omega | exact Nat.le_refl _⟩, ⟨qB⟩⟩
    rw [if_neg c4] at H; have c4b0 : decide (a1 < 1) = false := zGq c4; clear c4; (first | rw [c4b0] | (simp only [i64_w, i32_w]; rw [c4b0]) | skip)
    have H' := zA H; clear H; go_wp2; go_meet
    case rel => exact ⟨_, (decide (a1 > 200)), (by first | rfl | (simp; done) | (simp [*]; done)), H', ⟨by first | omega | exact Nat.le_refl _⟩, ⟨qB⟩⟩
  case rest =>
    clear HC3; try clear p2
    try clear c4
    try clear c4b0
    obtain ⟨kq, x11_2, rfl, HA, HJ2, HB⟩ := hcut; cases kq with
    | zero => exact absurd HA.out (by simp [share_Evenly.j0])
    | succ kj2 =>
      have H := HA.out; clear HA; simp only [share_Evenly.j0] at H; by_cases c5 : x11_2 = true
      · subst c5
        have H1 : (some (([] : List Int), 2)) = some (r1, r2) := by first | (rw [if_pos rfl] at H; exact H) | rfl
        clear H; have H := H1; clear H1; simp only [zNq, zOq] at H; obtain ⟨rfl, rfl⟩ := H; go_wp2; go_ret2; exact ⟨_, qE, qN, qB⟩
      replace c5 := Bool.eq_false_iff.mpr c5; subst c5; have H1 : ((share_even.f kj2 a1).bind fun t101 => ((share_Out.f kj2 a0 t101).bind fun bt104 => (some (bt104.1, bt104.2)))) = some (r1, r2) := by first | (rw [if_neg (show ¬ (false = true) by decide)] at H; exact H) | rfl
      clear H; have H := H1; clear H1; replace H := Option.bind_eq_some_iff.mp H; obtain ⟨t101, A60, H⟩ := H; try dsimp only at H
      have A6 := zA A60; clear A60; replace H := Option.bind_eq_some_iff.mp H; obtain ⟨⟨t104, t105⟩, A70, H⟩ := H; try dsimp only at H
      have A7 := zA A70; clear A70; simp only [zNq, zOq] at H; obtain ⟨rfl, rfl⟩ := H; go_wp2_with (first | ((with_reducible refine zJq (f := 106) rfl ?_); refine goesL_ (some 14) rfl rfl Try.func106 (by kernel_rfl) rfl #[.int .i64 a1] rfl qG ?_; (with_reducible refine (share_even.calls kj2 a1 t101 _ A6.out).mono ?_); rintro e w8 ⟨v102, rfl, ho0, hb⟩; refine ⟨_, rfl, ?_⟩; have n0_ := zA (Kd.R_lower ho0 (zW qB)); have n1_ := zA (zV qB hb); clear HB; have HO103 := n0_; have HB := n1_; clear n0_ n1_; (try clear hb); (try clear ho0); obtain ⟨Ao9, co9, eo9⟩ := Kd.R_slice HO103.out; subst eo9) | ((with_reducible refine zJq (f := 51) rfl ?_); refine goesL_ (some 15) rfl rfl Try.func51 (by kernel_rfl) rfl #[.int .i64 a0, .slice Ao9 t101.length co9] rfl qG ?_; (with_reducible refine (share_Out.calls kj2 a0 _ _ t101 t104 t105 _ ?side1 ?side2 A7.out).mono ?_); (case side1 => repeat (first | exact (Kd.R_reads' HO103.out).2.2 | (with_reducible refine Kd.C_alloc ?_ _) | (with_reducible refine Kd.C_drewN ?_ _) | (with_reducible refine Kd.C_drew ?_))); (case side2 => exact (Kd.R_reads' HO103.out).2.1); rintro e w10 ⟨v106, rfl, ho0, hb⟩; refine ⟨_, rfl, ?_⟩; have n0_ := zA (Kd.R_elder' (by (with_reducible repeat (first | apply Kd.R_alloc | apply Kd.R_drewN | apply Kd.R_drew)); exact HO103.out) (Kd.R_base ho0) hb); have n1_ := zA (Kd.R_lower (Kd.R_new' ho0 (Kd.R_lt (by (with_reducible repeat (first | apply Kd.R_alloc | apply Kd.R_drewN | apply Kd.R_drew)); exact HO103.out))) (zW qB)); have n2_ := zA (zV qB hb); clear HO103 HB; have HO103 := n0_; have HO107 := n1_; have HB := n2_; clear n0_ n1_ n2_; (try clear hb); (try clear ho0))); go_ret2; exact ⟨_, qE, by (with_reducible repeat (first | apply Kd.R_alloc | apply Kd.R_drewN | apply Kd.R_drew)); exact Kd.R_mono HO107.out (fun _ hk => trivial), qB⟩
def line_Unit_1_v3_v24_v3.f (k : Nat) (a0 : Int) (a1_0 : Int) (a2_0 : Int) (a3_0 : Int) : Option (Int) := (share_Evenly.f k a0 a1_0).bind fun bt104 => (if bt104.2 = 0 then (if 0 ≤ a3_0 then (if a3_0 < (bt104.1.length : Int) then (some (rd bt104.1 a3_0)) else (none)) else (none)) else (none))
theorem line_Unit_1_v3_v24_v3.mono : ∀ a0 a1 a2 a3 k, LeO (line_Unit_1_v3_v24_v3.f k a0 a1 a2 a3) (line_Unit_1_v3_v24_v3.f (k + 1) a0 a1 a2 a3) := by
  intro a0 a1 a2 a3 k
  unfold line_Unit_1_v3_v24_v3.f
  repeat' (with_reducible first | exact share_Evenly.mono _ _ _ | exact LeO.refl _ | exact LeO.none _ | refine LeO.ite ?_ ?_ | refine LeO.bind ?_ (fun _ => ?_))
set_option maxHeartbeats 8000000 in
set_option maxRecDepth 100000 in
theorem line_Unit_1_v3_v24_v3.calls (k : Nat) (a0 : Int) (g1 : Nat) (a1_0 : Int) (g2 : Nat) (a2_0 : Int) (g3 : Nat) (a3_0 : Int) (r : Int) (w : World) (hk1 : w.heap[g1]? = some (.cells #[.int .i64 a1_0] 3 (0, 0))) (hk2 : w.heap[g2]? = some (.cells #[.int .i64 a2_0] 24 (0, 0))) (hk3 : w.heap[g3]? = some (.cells #[.int .i64 a3_0] 3 (0, 0))) (h : line_Unit_1_v3_v24_v3.f k a0 a1_0 a2_0 a3_0 = some r) :
    Calls Try.prog 117 #[.int .i64 a0, .pointer (some ⟨g1, 0, none⟩), .pointer (some ⟨g2, 0, none⟩), .pointer (some ⟨g3, 0, none⟩)] w fun e w' => e = .returned (.int .i64 r) ∧ Below w.heap.size w w' := by
  have BK101 := zA hk1
  clear hk1
  have BK102 := zA hk2
  clear hk2
  have BK103 := zA hk3
  clear hk3
  have HB := zA (Below.refl w.heap.size w)
  have H : ((share_Evenly.f k a0 a1_0).bind fun bt104 => (if bt104.2 = 0 then (if 0 ≤ a3_0 then (if a3_0 < (bt104.1.length : Int) then (some (rd bt104.1 a3_0)) else (none)) else (none)) else (none))) = some r := h
  clear h
  replace H := Option.bind_eq_some_iff.mp H
  obtain ⟨⟨t104, t105⟩, A50, H⟩ := H
  try dsimp only at H
  have A5 := zA A50
  clear A50
  by_cases c6 : t105 = 0
  · rw [if_pos c6] at H
    have c6b0 : (t105 == 0) = true := beq_iff_eq.mpr c6; have c6b1 : (t105 != 0) = false := bne_eq_false_iff_eq.mpr c6; clear c6; by_cases c7 : 0 ≤ a3_0
    · rw [if_pos c7] at H
      have c7b0 : decide (0 ≤ a3_0) = true := zFq c7; clear c7; by_cases c8 : a3_0 < (t104.length : Int)
      · rw [if_pos c8] at H
        have c8b0 : decide (a3_0 < (t104.length : Int)) = true := zFq c8; clear c8; obtain rfl := zKq H; have hcz11_0 : w.cell? ⟨g1, 0, none⟩ = some (.int .i64 a1_0) := (zF BK101.out 0).trans rfl; have hfz11_0 := zG BK101.out 0; go_enter Try.func117, Try.ntmps117; go_wp2_with (first | ((with_reducible refine zJq (f := 53) rfl ?_); refine goesL_ (some 11) rfl rfl Try.func53 (by kernel_rfl) rfl #[.int .i64 a0, .int .i64 a1_0] rfl qG ?_; (with_reducible refine (share_Evenly.calls k a0 a1_0 t104 t105 _ A5.out).mono ?_); rintro e w12 ⟨v106, rfl, ho0, hb⟩; refine ⟨_, rfl, ?_⟩; have n0_ := zA (Kd.R_lower (Kd.R_newB (Kd.R_newB ho0 (g := g1) (o := .cells #[.int .i64 a1_0] 3 (0, 0)) (qW BK101.out)) (g := g3) (o := .cells #[.int .i64 a3_0] 3 (0, 0)) (qW BK103.out)) (zW qB)); have n1_ := zA (qX BK101.out hb); have n2_ := zA (qX BK102.out hb); have n3_ := zA (qX BK103.out hb); have n4_ := zA (zV qB hb); clear BK101 BK102 BK103 HB; have HO107 := n0_; have BK101 := n1_; have BK102 := n2_; have BK103 := n3_; have HB := n4_; clear n0_ n1_ n2_ n3_ n4_; (try clear hb); (try clear ho0); have hcz14_0 : w12.cell? ⟨g3, 0, none⟩ = some (.int .i64 a3_0) := (zF BK103.out 0).trans rfl; have hfz14_0 := zG BK103.out 0; obtain ⟨Ao15, co15, eo15⟩ := Kd.R_slice HO107.out; subst eo15; have p108 : 0 ≤ (a3_0 : Int) := of_decide_eq_true qA; have q108 : a3_0 < (t104.length : Int) := of_decide_eq_true qA; obtain ⟨ad108, e108, hx108_0⟩ := Kd.at_int (Kd.R_reads' HO107.out).2.2 a3_0 p108 q108; cases e108; replace p108 := eq_true p108; replace q108 := eq_true q108)); go_ret; exact ⟨qE, qB⟩
      rw [if_neg c8] at H; exact absurd H (by simp)
    rw [if_neg c7] at H; exact absurd H (by simp)
  rw [if_neg c6] at H
  exact absurd H (by simp)
end Go.Proofs.Ytefhljhpcpajgaa.F
set_option linter.unusedVariables false
set_option linter.unusedSimpArgs false
namespace Go.Proofs.YtefhljhpcpajgaaX
open Go.RowKit Go.Proofs.YtefhljhpcpajgaaW.PrintWords Go.Proofs.YtefhljhpcpajgaaW.PrintLast Go.Proofs.YtefhljhpcpajgaaW.PrintMore
section
variable {P : Program} {ops : Array Oper} {Q : Exit → Act → World → Prop}
theorem goesC_ {oi : Oper} {N : Option Tmp} {a : Act} {w : World} {K : Act → World → Prop} {f : FuncId} {fn : Func} {cal : Operand} {fs cs : Array Value} {ar_ : Array Operand} {ts : Array TypeId} (hf : P.funcs[f]? = some fn) (hname : (fn.name == "runtime.NumGoroutine") = false) (hb : fn.body.isSome = true) (args : Array Value)
    (hw : Region.wanted oi (yielded ops a.tmps) = true) (hN : oi.dst = N) (hop : oi.op = .call { callee := .value cal, args := ar_, argTypes := ts }) (hcal : a.eval cal = .func (.func f) fs cs) (hargs : fs ++ ar_.map a.eval ++ cs = args)
    (h : Calls P f args w fun e w' => ∃ v, e = .returned v ∧ K (a.put N v) w') : if Region.wanted oi (yielded ops a.tmps) = true then Oper.wp P oi a w K Q else K (a.put N undef) w := by
  refine call_ f args hw hN ?_ h
  have he := enters_ hf hname hb args w
  unfold execOp
  subst hargs
  simpa [hop, resolve, Deferred.ofValue, invoke, hcal] using he
end
theorem run_loadVar_one {P : Program} {w : World} {t : TypeId} {g : Nat} {v : Value} (hA : (isAgg t).run P w = .ok false w) (hc : w.cell? ⟨g, 0, none⟩ = some v) : (loadVar t ⟨g, 0, none⟩).run P w = .ok v w := by
  unfold loadVar
  simp [hA, hc]
inductive Vals1 (P : Program) (tmps : Array Value) (w : World) : List ResultVar → List Value → Prop where
  | nil : Vals1 P tmps w [] []
  | tmp {u : Tmp} {rs : List ResultVar} {vs : List Value} (h : Vals1 P tmps w rs vs) : Vals1 P tmps w (.tmp u :: rs) (tmps.getD u undef :: vs)
  | cell1 {p : Tmp} {ty : TypeId} {rs : List ResultVar} {vs : List Value} (g : Nat) {v : Value} (hp : tmps.getD p undef = .pointer (some ⟨g, 0, none⟩)) (hl : (loadVar ty ⟨g, 0, none⟩).run P w = .ok v w) (h : Vals1 P tmps w rs vs) : Vals1 P tmps w (.cell p ty :: rs) (v :: vs)
theorem vals1_run {P : Program} {tmps : Array Value} {w : World} {rs : List ResultVar} {vs : List Value} (hv : Vals1 P tmps w rs vs) (f : ResultVar → Sem Value) (hf : ∀ u, f (.tmp u) = pure (tmps.getD u undef)) (hc : ∀ a t, f (.cell a t) = (do loadVar t (← asAddr (tmps.getD a undef)))) :
    (rs.mapM f).run P w = .ok vs w := by
  induction hv with
  | nil => simp
  | tmp h ih => simp [List.mapM_cons, hf, ih]
  | cell1 g hp hl h ih =>
    rw [List.mapM_cons, hc, hp]
    simp [asAddr, hl, ih]
theorem results_list1 {P : Program} {tmps : Array Value} {w : World} {fn : Func} {rs : List ResultVar} {vs : List Value} (h : fn.results = rs.toArray) (hl : vs.length ≠ 1) (hv : Vals1 P tmps w rs vs) : (results fn tmps).run P w = .ok (.tuple vs.toArray) w := by
  unfold results
  rw [h, List.mapM_toArray]
  simp only [Sem.run_bind, Sem.run_map]
  rw [vals1_run hv]
  · simp [hl]
  · intro u
    rfl
  intro a t
  rfl
end Go.Proofs.YtefhljhpcpajgaaX
namespace Go.Proofs.Ytefhljhpcpajgaa.F
open Go.RowKit Go.Proofs.YtefhljhpcpajgaaX Go.Proofs.YtefhljhpcpajgaaW.PrintWords Go.Proofs.YtefhljhpcpajgaaW.PrintLast Go.Proofs.YtefhljhpcpajgaaW.PrintMore
attribute [local go_sem] max2_int min2_int max_two min_two max_three min_three max_four min_four   
attribute [local go_sem high] str_geq str_leq str_gtr
set_option linter.unusedVariables false
set_option linter.unusedSimpArgs false
def line_Unit.j0 : Nat → Bool → Int → Int → Int → Int → List ByteArray → Int → Int → Int → Option (Int × Int × Int)
  | 0, _, _, _, _, _, _, _, _, _ => none
  | k + 1, x24, x102000, x102001, x102002, x102003, x102004, x103000, x104000, x106000 => if x24 = true then (some (0, 0, 2)) else ((line_Unit_1_v3_v24_v3.f k x102002 x106000 x104000 x103000).bind fun t106 => ((line_Unit_1_v3_v24_v3.f k x102003 x106000 x104000 x103000).bind fun t107 => (some (t106, t107, x104000))))
def line_Unit.f (k : Nat) (a0_0 : Int) (a0_1 : Int) (a0_2 : Int) (a0_3 : Int) (l0_4 : List ByteArray) (a1 : Int) : Option (Int × Int × Int) := (line_Check.f k a0_0 a0_1 a0_2 a0_3 l0_4).bind fun t104 => (if t104 = 0 then (if a1 < 0 then (line_Unit.j0 k true a0_0 a0_1 a0_2 a0_3 l0_4 a1 0 (l0_4.length : Int)) else (line_Unit.j0 k (decide (a1 ≥ (l0_4.length : Int))) a0_0 a0_1 a0_2 a0_3 l0_4 a1 0 (l0_4.length : Int))) else (some (0, 0, t104)))
theorem line_Unit.mono_l : ∀ k, (∀ y0 y1 y2 y3 y4 y5 y6 y7 y8, LeO (line_Unit.j0 k y0 y1 y2 y3 y4 y5 y6 y7 y8) (line_Unit.j0 (k + 1) y0 y1 y2 y3 y4 y5 y6 y7 y8))
  | 0 => fun _ _ _ _ _ _ _ _ _ r h => by simp [line_Unit.j0] at h
  | k + 1 => by
    have ih0 := line_Unit.mono_l k
    intro y0 y1 y2 y3 y4 y5 y6 y7 y8
    unfold line_Unit.j0
    repeat' (with_reducible first | exact ih0 _ _ _ _ _ _ _ _ _ | exact line_Check.mono _ _ _ _ _ _ | exact line_Unit_1_v3_v24_v3.mono _ _ _ _ _ | exact LeO.refl _ | exact LeO.none _ | refine LeO.ite ?_ ?_ | refine LeO.bind ?_ (fun _ => ?_))
theorem line_Unit.mono : ∀ a0 a1 a2 a3 a4 a5 k, LeO (line_Unit.f k a0 a1 a2 a3 a4 a5) (line_Unit.f (k + 1) a0 a1 a2 a3 a4 a5) := by
  intro a0 a1 a2 a3 a4 a5 k
  have ih0 := line_Unit.mono_l k
  unfold line_Unit.f
  repeat' (with_reducible first | exact ih0 _ _ _ _ _ _ _ _ _ | exact line_Check.mono _ _ _ _ _ _ | exact line_Unit_1_v3_v24_v3.mono _ _ _ _ _ | exact LeO.refl _ | exact LeO.none _ | refine LeO.ite ?_ ?_ | refine LeO.bind ?_ (fun _ => ?_))
def line_Unit.T8 : Bool × List (List Nat × List Nat) := (true, [([], []), ([], []), ([1], [1]), ([0, 2], [0, 2]), ([], []), ([], []), ([5], [5]), ([4, 6, 3], [4, 6]), ([3, 7, 0, 1, 2, 3], [3]), ([7, 8, 0, 1, 2, 3, 4, 5, 6, 7, 8], [7])])
def line_Unit.B8 : List Nat := [0, 0, 2, 7, 0, 0, 32, 127, 255, 511]
theorem line_Unit.tab8 : rtab .any (opsOf Try.f65 8) = line_Unit.T8 := by kernel_rfl
theorem line_Unit.bits8 : waitsOk line_Unit.T8.2 line_Unit.B8 = true := by kernel_rfl
set_option maxHeartbeats 8000000 in
set_option maxRecDepth 100000 in
theorem line_Unit.calls (k : Nat) (a0_0 : Int) (a0_1 : Int) (a0_2 : Int) (a0_3 : Int) (A0_4 : Option Addr) (c0_4 : Nat) (l0_4 : List ByteArray) (a1 : Int) (r1 : Int) (r2 : Int) (r3 : Int) (w : World) (hr0_4 : Kd.C Kd.string w A0_4 l0_4.length l0_4) (hc0_4 : l0_4.length ≤ c0_4) (h : line_Unit.f k a0_0 a0_1 a0_2 a0_3 l0_4 a1 = some (r1, r2, r3)) :
    Calls Try.prog 65 #[.agg #[.int .i64 a0_0, .int .i64 a0_1, .int .i64 a0_2, .int .i64 a0_3, .slice A0_4 l0_4.length c0_4], .int .i64 a1] w fun e w' => e = .returned (.tuple #[.int .i64 r1, .int .i64 r2, .int .i64 r3]) ∧ Below w.heap.size w w' := by
  have hu71 := Try.underlying71
  have hmf : ∀ (fn : Fn) (first cap : Array Value) (w : World), (Instr.makeFunc fn first cap).run Try.prog w = .ok (.func fn first cap) w := fun _ _ _ _ => rfl
  have HR0_4 := zA hr0_4
  have HC0_4 := zA hc0_4
  clear hr0_4 hc0_4
  have HB := zA (Below.refl w.heap.size w)
  have H : ((line_Check.f k a0_0 a0_1 a0_2 a0_3 l0_4).bind fun t104 => (if t104 = 0 then (if a1 < 0 then (line_Unit.j0 k true a0_0 a0_1 a0_2 a0_3 l0_4 a1 0 (l0_4.length : Int)) else (line_Unit.j0 k (decide (a1 ≥ (l0_4.length : Int))) a0_0 a0_1 a0_2 a0_3 l0_4 a1 0 (l0_4.length : Int))) else (some (0, 0, t104)))) = some (r1, r2, r3) := h
  clear h
  replace H := Option.bind_eq_some_iff.mp H
  obtain ⟨t104, A30, H⟩ := H
  try dsimp only at H
  have A3 := zA A30
  clear A30
  by_cases c4 : t104 = 0
  · rw [if_pos c4] at H
    have c4b0 : (t104 == 0) = true := beq_iff_eq.mpr c4; have c4b1 : (t104 != 0) = false := bne_eq_false_iff_eq.mpr c4; clear c4; have HC5 := zA H; clear H; go_enter Try.func65, Try.ntmps65; go_upto_region 5 with (first | ((with_reducible refine gate_dst (N := 2) rfl ?_); refine box_event qr (N := 2) qr (cs := #[.int .i64 a0_0, .int .i64 a0_1, .int .i64 a0_2, .int .i64 a0_3, .slice A0_4 l0_4.length c0_4]) (t := 71) qg ?_; intro gb101 hg w6 hbox hb; have n0_ := zA (zV qB hb); have n1_ := zA (hbox); have n2_ := zA ((qS : w.heap.size ≤ gb101)); have n3_ := zA ((qS : w.heap.size ≤ gb101)); clear HB; have HB := n0_; have BK101 := n1_; have GW101 := n2_; have GE101 := n3_; clear n0_ n1_ n2_ n3_ hb hbox hg) | ((with_reducible refine gate_dst (N := 3) rfl ?_); refine box_event qr (N := 3) qr (cs := #[.int .i64 a1]) (t := 3) qg ?_; intro gb102 hg w7 hbox hb; have n0_ := zA (qX BK101.out hb); have n1_ := zA (zV qB hb); have n2_ := zA (hbox); have n3_ := zA ((qS : w.heap.size ≤ gb102)); have n4_ := zA ((qS : w.heap.size ≤ gb102)); have n5_ := zA ((by rw [hg]; exact zLq (qL BK101.out) : gb101 ≠ gb102)); have n6_ := zA ((by rw [hg]; exact zMq (qL BK101.out) : gb102 ≠ gb101)); clear BK101 HB; have BK101 := n0_; have HB := n1_; have BK102 := n2_; have GW102 := n3_; have GE102 := n4_; have NB101_102 := n5_; have NB102_101 := n6_; clear n0_ n1_ n2_ n3_ n4_ n5_ n6_ hb hbox hg) | ((with_reducible refine gate_dst (N := 6) rfl ?_); refine box_event qr (N := 6) qr (cs := #[.int .i64 0]) (t := 24) qg ?_; intro gb103 hg w8 hbox hb; have n0_ := zA (qX BK101.out hb); have n1_ := zA (qX BK102.out hb); have n2_ := zA (zV qB hb); have n3_ := zA (hbox); have n4_ := zA ((qS : w.heap.size ≤ gb103)); have n5_ := zA ((qS : w.heap.size ≤ gb103)); have n6_ := zA ((by rw [hg]; exact zLq (qL BK101.out) : gb101 ≠ gb103)); have n7_ := zA ((by rw [hg]; exact zMq (qL BK101.out) : gb103 ≠ gb101)); have n8_ := zA ((by rw [hg]; exact zLq (qL BK102.out) : gb102 ≠ gb103)); have n9_ := zA ((by rw [hg]; exact zMq (qL BK102.out) : gb103 ≠ gb102)); clear BK101 BK102 HB; have BK101 := n0_; have BK102 := n1_; have HB := n2_; have BK103 := n3_; have GW103 := n4_; have GE103 := n5_; have NB101_103 := n6_; have NB103_101 := n7_; have NB102_103 := n8_; have NB103_102 := n9_; clear n0_ n1_ n2_ n3_ n4_ n5_ n6_ n7_ n8_ n9_ hb hbox hg; have hnb9 := NB101_102.out; have hnc9 := NB102_101.out; have hnb10 := NB101_103.out; have hnc10 := NB103_101.out; obtain ⟨_, _, _, _, _, _, _, _, _, _⟩ := qc5f BK101.out) | ((with_reducible refine zJq (f := 69) rfl ?_); refine goesL_ (some 11) rfl rfl Try.func69 (by kernel_rfl) rfl #[.agg #[.int .i64 a0_0, .int .i64 a0_1, .int .i64 a0_2, .int .i64 a0_3, .slice A0_4 l0_4.length c0_4]] rfl qG ?_; (with_reducible refine (line_Check.calls k a0_0 a0_1 a0_2 a0_3 _ _ l0_4 t104 _ ?side1 ?side2 A3.out).mono ?_); (case side1 => exact qC (Kd.C_below HR0_4.out HB.out)); (case side2 => exact HC0_4.out); rintro e w12 ⟨rfl, hb⟩; refine ⟨_, rfl, ?_⟩; have n0_ := zA (qX BK101.out hb); have n1_ := zA (qX BK102.out hb); have n2_ := zA (qX BK103.out hb); have n3_ := zA (zV qB hb); clear BK101 BK102 BK103 HB; have BK101 := n0_; have BK102 := n1_; have BK103 := n2_; have HB := n3_; clear n0_ n1_ n2_ n3_; (try clear hb); obtain ⟨_, _, _, _, _, _, _, _, _, _⟩ := qc5f BK101.out) | ((with_reducible refine gate_dst (N := 8) rfl ?_); refine box_event qr (N := 8) qr (cs := #[.int .i64 0]) (t := 3) qg ?_; intro gb105 hg w14 hbox hb; have n0_ := zA (qX BK101.out hb); have n1_ := zA (qX BK102.out hb); have n2_ := zA (qX BK103.out hb); have n3_ := zA (zV qB hb); have n4_ := zA (hbox); have n5_ := zA ((qS : w.heap.size ≤ gb105)); have n6_ := zA ((qS : w.heap.size ≤ gb105)); have n7_ := zA ((by rw [hg]; exact zLq (qL BK101.out) : gb101 ≠ gb105)); have n8_ := zA ((by rw [hg]; exact zMq (qL BK101.out) : gb105 ≠ gb101)); have n9_ := zA ((by rw [hg]; exact zLq (qL BK102.out) : gb102 ≠ gb105)); have n10_ := zA ((by rw [hg]; exact zMq (qL BK102.out) : gb105 ≠ gb102)); have n11_ := zA ((by rw [hg]; exact zLq (qL BK103.out) : gb103 ≠ gb105)); have n12_ := zA ((by rw [hg]; exact zMq (qL BK103.out) : gb105 ≠ gb103)); clear BK101 BK102 BK103 HB; have BK101 := n0_; have BK102 := n1_; have BK103 := n2_; have HB := n3_; have BK105 := n4_; have GW105 := n5_; have GE105 := n6_; have NB101_105 := n7_; have NB105_101 := n8_; have NB102_105 := n9_; have NB105_102 := n10_; have NB103_105 := n11_; have NB105_103 := n12_; clear n0_ n1_ n2_ n3_ n4_ n5_ n6_ n7_ n8_ n9_ n10_ n11_ n12_ hb hbox hg; have hnb15 := NB105_101.out; have hnc15 := NB101_105.out; have hnb16 := NB105_102.out; have hnc16 := NB102_105.out; have hnb17 := NB105_103.out; have hnc17 := NB103_105.out; have hcz18_0 : w14.cell? ⟨gb105, 0, none⟩ = some (.int .i64 0) := (zF BK105.out 0).trans rfl; have hfz18_0 := zG BK105.out 0))
    (try simp only [Act.put, zH, zI, zJ])
    go_cut [24] (fun v24 wc => ∃ (kq : Nat) (x24_4 : Bool), v24 = .bool x24_4 ∧ Aside0 (line_Unit.j0 kq x24_4 a0_0 a0_1 a0_2 a0_3 l0_4 a1 0 (l0_4.length : Int) = some (r1, r2, r3)) ∧ Aside0 (kq ≤ k) ∧ Aside0 (wc.heap[gb101]? = some (.cells #[.int .i64 a0_0, .int .i64 a0_1, .int .i64 a0_2, .int .i64 a0_3, (.slice A0_4 l0_4.length c0_4)] 71 (0, 0))) ∧ Aside0 (wc.heap[gb102]? = some (.cells #[.int .i64 a1] 3 (0, 0))) ∧ Aside0 (wc.heap[gb103]? = some (.cells #[.int .i64 0] 24 (0, 0))) ∧ Aside0 (wc.heap[gb105]? = some (.cells #[.int .i64 (l0_4.length : Int)] 3 (0, 0))) ∧ Aside0 (Below w.heap.size w wc))
    case first =>
      have H := HC5.out; clear HC5; by_cases c19 : a1 < 0
      · rw [if_pos c19] at H
        have c19b0 : decide (a1 < 0) = true := zFq c19; clear c19; (first | rw [c19b0] | (simp only [i64_w, i32_w]; rw [c19b0]) | skip)
        have H' := zA H; clear H; have hnb20 := NB102_101.out; have hnc20 := NB101_102.out; have hnb21 := NB102_103.out; have hnc21 := NB103_102.out; have hnb22 := NB102_105.out; have hnc22 := NB105_102.out; have hcz23_0 : w14.cell? ⟨gb102, 0, none⟩ = some (.int .i64 a1) := (zF BK102.out 0).trans rfl; have hfz23_0 := zG BK102.out 0; go_wp2; go_meet
        case rel => exact ⟨_, (true), (by first | rfl | (simp; done) | (simp [*]; done)), H', ⟨by first | omega | exact Nat.le_refl _⟩, ⟨by (with_reducible repeat (first | refine zY ?_ _ | refine zAq ?_ | refine zZ ?_ _)); refine blk_far ?_ NB101_105.out _; exact BK101.out⟩, ⟨by (with_reducible repeat (first | refine zY ?_ _ | refine zAq ?_ | refine zZ ?_ _)); refine blk_far ?_ NB102_105.out _; exact BK102.out⟩, ⟨by (with_reducible repeat (first | refine zY ?_ _ | refine zAq ?_ | refine zZ ?_ _)); refine blk_far ?_ NB103_105.out _; exact BK103.out⟩, ⟨by (with_reducible repeat (first | refine zY ?_ _ | refine zAq ?_ | refine zZ ?_ _)); refine blk_put (cs := #[.int .i64 0]) ?_ 0 _ rfl; exact BK105.out⟩, ⟨qB⟩⟩
      rw [if_neg c19] at H; have c19b0 : decide (a1 < 0) = false := zGq c19; clear c19; (first | rw [c19b0] | (simp only [i64_w, i32_w]; rw [c19b0]) | skip)
      have H' := zA H; clear H; have hnb24 := NB102_101.out; have hnc24 := NB101_102.out; have hnb25 := NB102_103.out; have hnc25 := NB103_102.out; have hnb26 := NB102_105.out; have hnc26 := NB105_102.out; have hcz27_0 : w14.cell? ⟨gb102, 0, none⟩ = some (.int .i64 a1) := (zF BK102.out 0).trans rfl; have hfz27_0 := zG BK102.out 0; have hnb28 := NB105_101.out; have hnc28 := NB101_105.out; have hnb29 := NB105_103.out; have hnc29 := NB103_105.out; have hcz30_0 : w14.cell? ⟨gb105, 0, none⟩ = some (.int .i64 0) := (zF BK105.out 0).trans rfl; have hfz30_0 := zG BK105.out 0; go_wp2; go_meet
      case rel => exact ⟨_, (decide (a1 ≥ (l0_4.length : Int))), (by first | rfl | (simp; done) | (simp [*]; done)), H', ⟨by first | omega | exact Nat.le_refl _⟩, ⟨by (with_reducible repeat (first | refine zY ?_ _ | refine zAq ?_ | refine zZ ?_ _)); refine blk_far ?_ NB101_105.out _; exact BK101.out⟩, ⟨by (with_reducible repeat (first | refine zY ?_ _ | refine zAq ?_ | refine zZ ?_ _)); refine blk_far ?_ NB102_105.out _; exact BK102.out⟩, ⟨by (with_reducible repeat (first | refine zY ?_ _ | refine zAq ?_ | refine zZ ?_ _)); refine blk_far ?_ NB103_105.out _; exact BK103.out⟩, ⟨by (with_reducible repeat (first | refine zY ?_ _ | refine zAq ?_ | refine zZ ?_ _)); refine blk_put (cs := #[.int .i64 0]) ?_ 0 _ rfl; exact BK105.out⟩, ⟨qB⟩⟩
    case rest =>
      clear HC5; try clear c1
      try clear c2
      try clear p2
      try clear c4
      try clear c4b0
      try clear c4b1
      try clear c6
      try clear c9
      try clear c10
      try clear c15
      try clear c16
      try clear c17
      try clear c19
      try clear c19b0
      try clear c20
      try clear c21
      try clear c22
      try clear c24
      try clear c25
      try clear c26
      try clear c28
      try clear c29
      try clear hcz18_0
      try clear hcz23_0
      try clear hcz27_0
      try clear hcz30_0
      try clear hfz18_0
      try clear hfz23_0
      try clear hfz27_0
      try clear hfz30_0
      obtain ⟨kq, x24_4, rfl, HA, HJ4, BK101, BK102, BK103, BK105, HB⟩ := hcut; cases kq with
      | zero => exact absurd HA.out (by simp [line_Unit.j0])
      | succ kj4 =>
        have H := HA.out; clear HA; simp only [line_Unit.j0] at H; by_cases c31 : x24_4 = true
        · subst c31
          have H1 : (some (0, 0, 2)) = some (r1, r2, r3) := by first | (rw [if_pos rfl] at H; exact H) | rfl
          clear H; have H := H1; clear H1; simp only [zNq, zOq] at H; obtain ⟨rfl, rfl, rfl⟩ := H; have hnb32 := NB103_101.out; have hnc32 := NB101_103.out; have hnb33 := NB103_102.out; have hnc33 := NB102_103.out; have hnb34 := NB103_105.out; have hnc34 := NB105_103.out; have hcz35_0 : wc.cell? ⟨gb103, 0, none⟩ = some (.int .i64 0) := (zF BK103.out 0).trans rfl; have hfz35_0 := zG BK103.out 0; go_wp2; refine bodyPost_ret (results_list1 (rs := [.tmp 4, .tmp 5, .cell 6 24]) rfl (by simp) (.tmp (.tmp (.cell1 gb103 rfl (run_loadVar_one (Try.isAgg24 _) ((zF (cs := #[.int .i64 2]) (t := 24) (by (with_reducible repeat (first | refine zY ?_ _ | refine zAq ?_ | refine zZ ?_ _)); refine blk_put (cs := #[.int .i64 0]) ?_ 0 _ rfl; exact BK103.out) 0).trans rfl)) .nil)))) rfl ?_; exact ⟨qE, qB⟩
        replace c31 := Bool.eq_false_iff.mpr c31; subst c31; have H1 : ((line_Unit_1_v3_v24_v3.f kj4 a0_2 (l0_4.length : Int) 0 a1).bind fun t106 => ((line_Unit_1_v3_v24_v3.f kj4 a0_3 (l0_4.length : Int) 0 a1).bind fun t107 => (some (t106, t107, 0)))) = some (r1, r2, r3) := by first | (rw [if_neg (show ¬ (false = true) by decide)] at H; exact H) | rfl
        clear H; have H := H1; clear H1; replace H := Option.bind_eq_some_iff.mp H; obtain ⟨t106, A360, H⟩ := H; try dsimp only at H
        have A36 := zA A360; clear A360; replace H := Option.bind_eq_some_iff.mp H; obtain ⟨t107, A370, H⟩ := H; try dsimp only at H
        have A37 := zA A370; clear A370; simp only [zNq, zOq] at H; obtain ⟨rfl, rfl, rfl⟩ := H; try go_wp2
        have n0_ := zA (zAq BK101.out); have n1_ := zA (zAq BK102.out); have n2_ := zA (zAq BK103.out); have n3_ := zA (zAq BK105.out); have n4_ := zA (zC HB.out); clear BK101; clear BK102; clear BK103; clear BK105; clear HB; have BK101 := n0_; have BK102 := n1_; have BK103 := n2_; have BK105 := n3_; have HB := n4_; clear n0_ n1_ n2_ n3_ n4_; refine start_ (n := 10) (S := fun w' => w'.cell? ⟨gb101, 0, none⟩ = some (.int .i64 a0_0) ∧ w'.cell? ⟨gb101, 1, none⟩ = some (.int .i64 a0_1) ∧ w'.cell? ⟨gb101, 2, none⟩ = some (.int .i64 a0_2) ∧ w'.cell? ⟨gb101, 3, none⟩ = some (.int .i64 a0_3) ∧ w'.cell? ⟨gb101, 4, none⟩ = some (.slice A0_4 l0_4.length c0_4) ∧ w'.cell? ⟨gb102, 0, none⟩ = some (.int .i64 a1) ∧ w'.cell? ⟨gb103, 0, none⟩ = some (.int .i64 0) ∧ w'.cell? ⟨gb105, 0, none⟩ = some (.int .i64 (l0_4.length : Int))) (ds := []) #[o0, o0, o0, o0, o0, o0, o0, o0, o0, o0] (by kernel_rfl) rfl rfl ⟨(zF BK101.out 0).trans rfl, (zF BK101.out 1).trans rfl, (zF BK101.out 2).trans rfl, (zF BK101.out 3).trans rfl, (zF BK101.out 4).trans rfl, (zF BK102.out 0).trans rfl, (zF BK103.out 0).trans rfl, (zF BK105.out 0).trans rfl⟩ (fun hHeld => ?_); refine with_tabW line_Unit.tab8 line_Unit.bits8 (fun HT_ HW_ => ?_); generalize wc.drew = w38 at BK101 BK102 BK103 BK105 HB hHeld ⊢; refine pure_ (i := 0) (N := some 26) #[o1, o0, o0, o0, o0, o0, o0, o0, o0, o0] rfl rfl (any_of HT_.out (by kernel_rfl)) (fun _ _ _ h => h) (Or.inl ⟨by rfl, qy⟩) qz ?_; refine pure_ (i := 1) (N := some 27) #[o1, o1, o0, o0, o0, o0, o0, o0, o0, o0] rfl rfl (any_of HT_.out (by kernel_rfl)) (fun _ _ _ h => h) (Or.inl ⟨by rfl, qy⟩) qz ?_; refine pure_ (i := 4) (N := some 30) #[o1, o1, o0, o0, o1, o0, o0, o0, o0, o0] rfl rfl (any_of HT_.out (by kernel_rfl)) (fun _ _ _ h => h) (Or.inl ⟨by rfl, qy⟩) qz ?_; refine pure_ (i := 5) (N := some 31) #[o1, o1, o0, o0, o1, o1, o0, o0, o0, o0] rfl rfl (any_of HT_.out (by kernel_rfl)) (fun _ _ _ h => h) (Or.inl ⟨by rfl, qy⟩) qz ?_; refine take_ (i := 2) (N := some 28) (v := ?_) (a' := ?_) #[o1, o1, o1, o0, o1, o1, o0, o0, o0, o0] rfl rfl (take_ofW HT_.out HW_.out (by kernel_rfl)) (fun _ _ _ h => h) (Or.inl ⟨by rfl, ?_⟩) hHeld ?_ ?_; rotate_left
        · rintro w' ⟨s0, s1, s2, s3, s4, s5, s6, s7⟩
          go_simp; with_reducible rfl
        rotate_left
        · simp only [Act.put, zH, zI, zJ, i64_w, i32_w]
          rfl
        refine take_ (i := 6) (N := some 32) (v := ?_) (a' := ?_) #[o1, o1, o1, o0, o1, o1, o1, o0, o0, o0] rfl rfl (take_ofW HT_.out HW_.out (by kernel_rfl)) (fun _ _ _ h => h) (Or.inl ⟨by rfl, ?_⟩) hHeld ?_ ?_; rotate_left
        · rintro w' ⟨s0, s1, s2, s3, s4, s5, s6, s7⟩
          go_simp; with_reducible rfl
        rotate_left
        · simp only [Act.put, zH, zI, zJ, i64_w, i32_w]
          rfl
        refine one_ (i := 3) (N := some 29) #[o1, o1, o1, o1, o1, o1, o1, o0, o0, o0] rfl rfl (one_of HT_.out (by kernel_rfl)) (by decide) (fun K hK => ?_); refine goesC_ Try.func117 (by kernel_rfl) rfl #[.int .i64 a0_2, .pointer (some ⟨gb105, 0, none⟩), .pointer (some ⟨gb103, 0, none⟩), .pointer (some ⟨gb102, 0, none⟩)] (by rfl) rfl rfl rfl (by first | rfl | (simp only [zR, zS, zT]; rfl) | (simp only [zR, zS, zT, List.append_toArray, List.nil_append, List.cons_append]; rfl) | (simp [Act.eval]; done)) ?_; with_reducible refine (line_Unit_1_v3_v24_v3.calls kj4 a0_2 gb105 (l0_4.length : Int) gb103 0 gb102 a1 t106 _ ?side1 ?side2 ?side3 A36.out).mono ?_
        (case side1 => exact (qW BK105.out))
        (case side2 => exact (qW BK103.out))
        (case side3 => exact (qW BK102.out))
        rintro e w39 ⟨rfl, hb⟩; refine ⟨_, rfl, ?_⟩; have n0_ := zA (qX BK101.out hb); have n1_ := zA (qX BK102.out hb); have n2_ := zA (qX BK103.out hb); have n3_ := zA (qX BK105.out hb); have n4_ := zA (zV qB hb); clear BK101; clear BK102; clear BK103; clear BK105; clear HB; have BK101 := n0_; have BK102 := n1_; have BK103 := n2_; have BK105 := n3_; have HB := n4_; clear n0_ n1_ n2_ n3_ n4_; (try clear hb); (try clear hb2); (try clear hk); (try clear hi); refine hK.out _ _ ⟨(zF BK101.out 0).trans rfl, (zF BK101.out 1).trans rfl, (zF BK101.out 2).trans rfl, (zF BK101.out 3).trans rfl, (zF BK101.out 4).trans rfl, (zF BK102.out 0).trans rfl, (zF BK103.out 0).trans rfl, (zF BK105.out 0).trans rfl⟩ (fun hHeld => ?_); clear hK K; refine norm_ (a' := ?_) ?_ ?_; rotate_left
        · show Act.put _ (some 29) _ = _
          simp only [Act.put, zH, zI, zJ, i64_w, i32_w]; rfl
        refine one_ (i := 7) (N := some 33) #[o1, o1, o1, o1, o1, o1, o1, o1, o0, o0] rfl rfl (one_of HT_.out (by kernel_rfl)) (by decide) (fun K hK => ?_); refine goesC_ Try.func117 (by kernel_rfl) rfl #[.int .i64 a0_3, .pointer (some ⟨gb105, 0, none⟩), .pointer (some ⟨gb103, 0, none⟩), .pointer (some ⟨gb102, 0, none⟩)] (by rfl) rfl rfl rfl (by first | rfl | (simp only [zR, zS, zT]; rfl) | (simp only [zR, zS, zT, List.append_toArray, List.nil_append, List.cons_append]; rfl) | (simp [Act.eval]; done)) ?_; with_reducible refine (line_Unit_1_v3_v24_v3.calls kj4 a0_3 gb105 (l0_4.length : Int) gb103 0 gb102 a1 t107 _ ?side1 ?side2 ?side3 A37.out).mono ?_
        (case side1 => exact (qW BK105.out))
        (case side2 => exact (qW BK103.out))
        (case side3 => exact (qW BK102.out))
        rintro e w40 ⟨rfl, hb⟩; refine ⟨_, rfl, ?_⟩; have n0_ := zA (qX BK101.out hb); have n1_ := zA (qX BK102.out hb); have n2_ := zA (qX BK103.out hb); have n3_ := zA (qX BK105.out hb); have n4_ := zA (zV qB hb); clear BK101; clear BK102; clear BK103; clear BK105; clear HB; have BK101 := n0_; have BK102 := n1_; have BK103 := n2_; have BK105 := n3_; have HB := n4_; clear n0_ n1_ n2_ n3_ n4_; (try clear hb); (try clear hb2); (try clear hk); (try clear hi); refine hK.out _ _ ⟨(zF BK101.out 0).trans rfl, (zF BK101.out 1).trans rfl, (zF BK101.out 2).trans rfl, (zF BK101.out 3).trans rfl, (zF BK101.out 4).trans rfl, (zF BK102.out 0).trans rfl, (zF BK103.out 0).trans rfl, (zF BK105.out 0).trans rfl⟩ (fun hHeld => ?_); clear hK K; refine norm_ (a' := ?_) ?_ ?_; rotate_left
        · show Act.put _ (some 33) _ = _
          simp only [Act.put, zH, zI, zJ, i64_w, i32_w]; rfl
        refine pure_ (i := 8) (N := some 4) #[o1, o1, o1, o1, o1, o1, o1, o1, o1, o0] rfl rfl (any_of HT_.out (by kernel_rfl)) (fun _ _ _ h => h) (Or.inl ⟨by rfl, qy⟩) qz ?_; refine pure_ (i := 9) (N := some 5) #[o1, o1, o1, o1, o1, o1, o1, o1, o1, o1] rfl rfl (any_of HT_.out (by kernel_rfl)) (fun _ _ _ h => h) (Or.inl ⟨by rfl, qy⟩) qz ?_; refine done_ (done_of HT_.out (by kernel_rfl)) ?_; try go_wp2
        have n0_ := zA (zAq BK101.out); have n1_ := zA (zAq BK102.out); have n2_ := zA (zAq BK103.out); have n3_ := zA (zAq BK105.out); have n4_ := zA (zC HB.out); clear BK101; clear BK102; clear BK103; clear BK105; clear HB; have BK101 := n0_; have BK102 := n1_; have BK103 := n2_; have BK105 := n3_; have HB := n4_; clear n0_ n1_ n2_ n3_ n4_; refine start_ (n := 6) (S := fun w' => w'.cell? ⟨gb103, 0, none⟩ = some (.int .i64 0)) (ds := [5]) #[o0, o0, o0, o0, o0, o0] (by kernel_rfl) rfl rfl ((zF BK103.out 0).trans rfl) (fun hHeld => ?_); generalize w40.drew = w41 at BK101 BK102 BK103 BK105 HB hHeld ⊢; refine pure_ (i := 0) (N := some 34) (v := ?_) (a' := ?_) #[o1, o0, o0, o0, o0, o0] rfl rfl (by kernel_rfl) (fun _ _ _ h => h) (Or.inl ⟨by rfl, ?_⟩) ?_ ?_; rotate_left
        · intro w'
          go_simp; with_reducible rfl
        rotate_left
        · simp only [Act.put, zH, zI, zJ, i64_w, i32_w]
          rfl
        refine pure_ (i := 1) (N := some 35) (v := ?_) (a' := ?_) #[o1, o1, o0, o0, o0, o0] rfl rfl (by kernel_rfl) (fun _ _ _ h => h) (Or.inl ⟨by rfl, ?_⟩) ?_ ?_; rotate_left
        · intro w'
          go_simp; with_reducible rfl
        rotate_left
        · simp only [Act.put, zH, zI, zJ, i64_w, i32_w]
          rfl
        refine pure_ (i := 3) (N := some 4) (v := ?_) (a' := ?_) #[o1, o1, o0, o1, o0, o0] rfl rfl (by kernel_rfl) (fun _ _ _ h => h) (Or.inl ⟨by rfl, ?_⟩) ?_ ?_; rotate_left
        · intro w'
          go_simp; with_reducible rfl
        rotate_left
        · simp only [Act.put, zH, zI, zJ, i64_w, i32_w]
          rfl
        refine pure_ (i := 4) (N := some 5) (v := ?_) (a' := ?_) #[o1, o1, o0, o1, o1, o0] rfl rfl (by kernel_rfl) (fun _ _ _ h => h) (Or.inl ⟨by rfl, ?_⟩) ?_ ?_; rotate_left
        · intro w'
          go_simp; with_reducible rfl
        rotate_left
        · simp only [Act.put, zH, zI, zJ, i64_w, i32_w]
          rfl
        refine take_ (i := 2) (N := some 36) (v := ?_) (a' := ?_) #[o1, o1, o1, o1, o1, o0] rfl rfl (by kernel_rfl) (fun _ _ _ h => h) (Or.inl ⟨by rfl, ?_⟩) hHeld ?_ ?_; rotate_left
        · intro w' s0
          go_simp; with_reducible rfl
        rotate_left
        · simp only [Act.put, zH, zI, zJ, i64_w, i32_w]
          rfl
        refine last_ (i := 5) (N := none) #[o1, o1, o1, o1, o1, o1] rfl rfl (by kernel_rfl) (by decide) (fun K hK => ?_); have hs42 : w41.cell? ⟨gb103, 0, none⟩ = some (.int .i64 0) := (zF BK103.out 0).trans rfl; have hfs42 := zG BK103.out 0; have hns42_0 := NB101_103.out; have hns42_1 := NB102_103.out; have hns42_3 := NB105_103.out; have hms42_0 := NB103_101.out; have hms42_1 := NB103_102.out; have hms42_3 := NB103_105.out; refine skip_ (w1 := ?_) (by rfl) rfl ?_ ?_; rotate_left
        · go_simp
          rfl
        refine hK.out _ _ ?_; clear hK K; refine done_ (by kernel_rfl) ?_; try go_wp2
        refine bodyPost_ret (results_list1 (rs := [.tmp 4, .tmp 5, .cell 6 24]) rfl (by simp) (.tmp (.tmp (.cell1 gb103 rfl (run_loadVar_one (Try.isAgg24 _) ((zF (cs := #[.int .i64 0]) (t := 24) (by (with_reducible repeat (first | refine zY ?_ _ | refine zAq ?_ | refine zZ ?_ _)); refine blk_put (cs := #[.int .i64 0]) ?_ 0 _ rfl; exact BK103.out) 0).trans rfl)) .nil)))) rfl ?_; exact ⟨qE, qB⟩
  rw [if_neg c4] at H
  have c4b0 : (t104 == 0) = false := beq_eq_false_iff_ne.mpr c4
  have c4b1 : (t104 != 0) = true := bne_iff_ne.mpr c4
  simp only [zNq, zOq] at H
  obtain ⟨rfl, rfl, rfl⟩ := H
  go_enter Try.func65, Try.ntmps65
  go_wp2_with (first | ((with_reducible refine gate_dst (N := 2) rfl ?_); refine box_event qr (N := 2) qr (cs := #[.int .i64 a0_0, .int .i64 a0_1, .int .i64 a0_2, .int .i64 a0_3, .slice A0_4 l0_4.length c0_4]) (t := 71) qg ?_; intro gb101 hg w43 hbox hb; have n0_ := zA (zV qB hb); have n1_ := zA (hbox); have n2_ := zA ((qS : w.heap.size ≤ gb101)); have n3_ := zA ((qS : w.heap.size ≤ gb101)); clear HB; have HB := n0_; have BK101 := n1_; have GW101 := n2_; have GE101 := n3_; clear n0_ n1_ n2_ n3_ hb hbox hg) | ((with_reducible refine gate_dst (N := 3) rfl ?_); refine box_event qr (N := 3) qr (cs := #[.int .i64 a1]) (t := 3) qg ?_; intro gb102 hg w44 hbox hb; have n0_ := zA (qX BK101.out hb); have n1_ := zA (zV qB hb); have n2_ := zA (hbox); have n3_ := zA ((qS : w.heap.size ≤ gb102)); have n4_ := zA ((qS : w.heap.size ≤ gb102)); have n5_ := zA ((by rw [hg]; exact zLq (qL BK101.out) : gb101 ≠ gb102)); have n6_ := zA ((by rw [hg]; exact zMq (qL BK101.out) : gb102 ≠ gb101)); clear BK101 HB; have BK101 := n0_; have HB := n1_; have BK102 := n2_; have GW102 := n3_; have GE102 := n4_; have NB101_102 := n5_; have NB102_101 := n6_; clear n0_ n1_ n2_ n3_ n4_ n5_ n6_ hb hbox hg) | ((with_reducible refine gate_dst (N := 6) rfl ?_); refine box_event qr (N := 6) qr (cs := #[.int .i64 0]) (t := 24) qg ?_; intro gb103 hg w45 hbox hb; have n0_ := zA (qX BK101.out hb); have n1_ := zA (qX BK102.out hb); have n2_ := zA (zV qB hb); have n3_ := zA (hbox); have n4_ := zA ((qS : w.heap.size ≤ gb103)); have n5_ := zA ((qS : w.heap.size ≤ gb103)); have n6_ := zA ((by rw [hg]; exact zLq (qL BK101.out) : gb101 ≠ gb103)); have n7_ := zA ((by rw [hg]; exact zMq (qL BK101.out) : gb103 ≠ gb101)); have n8_ := zA ((by rw [hg]; exact zLq (qL BK102.out) : gb102 ≠ gb103)); have n9_ := zA ((by rw [hg]; exact zMq (qL BK102.out) : gb103 ≠ gb102)); clear BK101 BK102 HB; have BK101 := n0_; have BK102 := n1_; have HB := n2_; have BK103 := n3_; have GW103 := n4_; have GE103 := n5_; have NB101_103 := n6_; have NB103_101 := n7_; have NB102_103 := n8_; have NB103_102 := n9_; clear n0_ n1_ n2_ n3_ n4_ n5_ n6_ n7_ n8_ n9_ hb hbox hg; have hnb46 := NB101_102.out; have hnc46 := NB102_101.out; have hnb47 := NB101_103.out; have hnc47 := NB103_101.out; obtain ⟨_, _, _, _, _, _, _, _, _, _⟩ := qc5f BK101.out) | ((with_reducible refine zJq (f := 69) rfl ?_); refine goesL_ (some 11) rfl rfl Try.func69 (by kernel_rfl) rfl #[.agg #[.int .i64 a0_0, .int .i64 a0_1, .int .i64 a0_2, .int .i64 a0_3, .slice A0_4 l0_4.length c0_4]] rfl qG ?_; (with_reducible refine (line_Check.calls k a0_0 a0_1 a0_2 a0_3 _ _ l0_4 t104 _ ?side1 ?side2 A3.out).mono ?_); (case side1 => exact qC (Kd.C_below HR0_4.out HB.out)); (case side2 => exact HC0_4.out); rintro e w49 ⟨rfl, hb⟩; refine ⟨_, rfl, ?_⟩; have n0_ := zA (qX BK101.out hb); have n1_ := zA (qX BK102.out hb); have n2_ := zA (qX BK103.out hb); have n3_ := zA (zV qB hb); clear BK101 BK102 BK103 HB; have BK101 := n0_; have BK102 := n1_; have BK103 := n2_; have HB := n3_; clear n0_ n1_ n2_ n3_; (try clear hb); have hnb50 := NB103_102.out; have hnc50 := NB102_103.out; have hcz51_0 : w49.cell? ⟨gb103, 0, none⟩ = some (.int .i64 0) := (zF BK103.out 0).trans rfl; have hfz51_0 := zG BK103.out 0))
  refine bodyPost_ret (results_list1 (rs := [.tmp 4, .tmp 5, .cell 6 24]) rfl (by simp) (.tmp (.tmp (.cell1 gb103 rfl (run_loadVar_one (Try.isAgg24 _) ((zF (cs := #[.int .i64 t104]) (t := 24) (by (with_reducible repeat (first | refine zY ?_ _ | refine zAq ?_ | refine zZ ?_ _)); refine blk_put (cs := #[.int .i64 0]) ?_ 0 _ rfl; exact BK103.out) 0).trans rfl)) .nil)))) rfl ?_
  exact ⟨qE, qB⟩
def line_Paid.f (k : Nat) (a0_0 : Int) (a0_1 : Int) (a0_2 : Int) (a0_3 : Int) (l0_4 : List ByteArray) : Option (Int × Int) := (line_Check.f k a0_0 a0_1 a0_2 a0_3 l0_4).bind fun t102 => (if t102 = 0 then ((cents_Add.f k (([a0_2, a0_3] : List Int))).bind fun bt106 => (some (bt106.1, bt106.2))) else (some (0, t102)))
theorem line_Paid.mono : ∀ a0 a1 a2 a3 a4 k, LeO (line_Paid.f k a0 a1 a2 a3 a4) (line_Paid.f (k + 1) a0 a1 a2 a3 a4) := by
  intro a0 a1 a2 a3 a4 k
  unfold line_Paid.f
  repeat' (with_reducible first | exact cents_Add.mono _ _ | exact line_Check.mono _ _ _ _ _ _ | exact LeO.refl _ | exact LeO.none _ | refine LeO.ite ?_ ?_ | refine LeO.bind ?_ (fun _ => ?_))
set_option maxHeartbeats 8000000 in
set_option maxRecDepth 100000 in
theorem line_Paid.calls (k : Nat) (a0_0 : Int) (a0_1 : Int) (a0_2 : Int) (a0_3 : Int) (A0_4 : Option Addr) (c0_4 : Nat) (l0_4 : List ByteArray) (r1 : Int) (r2 : Int) (w : World) (hr0_4 : Kd.C Kd.string w A0_4 l0_4.length l0_4) (hc0_4 : l0_4.length ≤ c0_4) (h : line_Paid.f k a0_0 a0_1 a0_2 a0_3 l0_4 = some (r1, r2)) :
    Calls Try.prog 67 #[.agg #[.int .i64 a0_0, .int .i64 a0_1, .int .i64 a0_2, .int .i64 a0_3, .slice A0_4 l0_4.length c0_4]] w fun e w' => e = .returned (.tuple #[.int .i64 r1, .int .i64 r2]) ∧ Below w.heap.size w w' := by
  have hu71 := Try.underlying71
  have HR0_4 := zA hr0_4
  have HC0_4 := zA hc0_4
  clear hr0_4 hc0_4
  have HB := zA (Below.refl w.heap.size w)
  have H : ((line_Check.f k a0_0 a0_1 a0_2 a0_3 l0_4).bind fun t102 => (if t102 = 0 then ((cents_Add.f k (([a0_2, a0_3] : List Int))).bind fun bt106 => (some (bt106.1, bt106.2))) else (some (0, t102)))) = some (r1, r2) := h
  clear h
  replace H := Option.bind_eq_some_iff.mp H
  obtain ⟨t102, A20, H⟩ := H
  try dsimp only at H
  have A2 := zA A20
  clear A20
  by_cases c3 : t102 = 0
  · rw [if_pos c3] at H
    have c3b0 : (t102 == 0) = true := beq_iff_eq.mpr c3; have c3b1 : (t102 != 0) = false := bne_eq_false_iff_eq.mpr c3; clear c3; obtain ⟨y103, hy103⟩ : ∃ y_ : List Int, y_ = (([a0_2, a0_3] : List Int)) := ⟨_, rfl⟩
    replace H : ((cents_Add.f k y103).bind fun bt106 => (some (bt106.1, bt106.2))) = some (r1, r2) := by first | (rw [hy103]; with_reducible exact H) | (have H2_ := (Option.bind_some _ _).symm.trans H; rw [hy103]; with_reducible exact H2_) | (have H2_ := (Option.bind_some _ _).symm.trans H; with_reducible exact H2_) | with_reducible exact H | (rw [hy103]; exact H) | exact H
    have Ny103 := zA hy103; clear hy103; replace H := Option.bind_eq_some_iff.mp H; obtain ⟨⟨t106, t107⟩, A40, H⟩ := H; try dsimp only at H
    have A4 := zA A40; clear A40; simp only [zNq, zOq] at H; obtain ⟨rfl, rfl⟩ := H; go_enter Try.func67, Try.ntmps67; go_wp2_with (first | ((with_reducible refine gate_dst (N := 1) rfl ?_); refine box_event qr (N := 1) qr (cs := #[.int .i64 a0_0, .int .i64 a0_1, .int .i64 a0_2, .int .i64 a0_3, .slice A0_4 l0_4.length c0_4]) (t := 71) qg ?_; intro gb101 hg w5 hbox hb; have n0_ := zA (zV qB hb); have n1_ := zA (hbox); have n2_ := zA ((qS : w.heap.size ≤ gb101)); have n3_ := zA ((qS : w.heap.size ≤ gb101)); clear HB; have HB := n0_; have BK101 := n1_; have GW101 := n2_; have GE101 := n3_; clear n0_ n1_ n2_ n3_ hb hbox hg; obtain ⟨_, _, _, _, _, _, _, _, _, _⟩ := qc5f BK101.out) | ((with_reducible refine zJq (f := 69) rfl ?_); refine goesL_ (some 6) rfl rfl Try.func69 (by kernel_rfl) rfl #[.agg #[.int .i64 a0_0, .int .i64 a0_1, .int .i64 a0_2, .int .i64 a0_3, .slice A0_4 l0_4.length c0_4]] rfl qG ?_; (with_reducible refine (line_Check.calls k a0_0 a0_1 a0_2 a0_3 _ _ l0_4 t102 _ ?side1 ?side2 A2.out).mono ?_); (case side1 => exact qC (Kd.C_below HR0_4.out HB.out)); (case side2 => exact HC0_4.out); rintro e w7 ⟨rfl, hb⟩; refine ⟨_, rfl, ?_⟩; have n0_ := zA (qX BK101.out hb); have n1_ := zA (zV qB hb); clear BK101 HB; have BK101 := n0_; have HB := n1_; clear n0_ n1_; (try clear hb); obtain ⟨_, _, _, _, _, _, _, _, _, _⟩ := qc5f BK101.out) | ((with_reducible refine gate_dst (N := 14) rfl ?_); refine Kd.R_lit (Kd.int .i64) _ 3 ?hg (N := 14) ?hd (xs := ([a0_2, a0_3] : List Int)) (inner := [.int .i64 a0_2, .int .i64 a0_3]) (ok := fun _ => True) (okp := fun _ => True) ?hr ?hp (fun _ hk => hk) trivial (Below.refl _ _) (Nat.le_refl _) (by simp) ?_; (case hd => rfl); (case hg => rfl); (case hr => first | (go_simp; done) | (go_simp; rfl)); (case hp => exact (Reps.one (show Kd.M (Kd.int .i64) _ _ _ a0_2 [.int .i64 a0_2] from rfl) (Reps.one (show Kd.M (Kd.int .i64) _ _ _ a0_3 [.int .i64 a0_3] from rfl) (Reps.none _ _)))); intro v104 w9 ho10 hb hg_ hnew_; clear hg_ hnew_; (first | rw [← Ny103.out] at ho10 | (simp only [Int.reduceToNat] at ho10; rw [← Ny103.out] at ho10)); have n0_ := zA (Kd.R_lower ho10 (zW qB)); have n1_ := zA (qX BK101.out hb); have n2_ := zA (zV qB hb); clear BK101 HB; have HO105 := n0_; have BK101 := n1_; have HB := n2_; clear n0_ n1_ n2_ hb ho10; obtain ⟨Ao11, co11, eo11⟩ := Kd.R_slice HO105.out; subst eo11) | ((with_reducible refine zJq (f := 25) rfl ?_); refine goesL_ (some 15) rfl rfl Try.func25 (by kernel_rfl) rfl #[.slice Ao11 y103.length co11] rfl qG ?_; (with_reducible refine (cents_Add.calls k _ _ y103 t106 t107 _ ?side1 ?side2 A4.out).mono ?_); (case side1 => repeat (first | exact (Kd.R_reads' HO105.out).2.2 | (with_reducible refine Kd.C_alloc ?_ _) | (with_reducible refine Kd.C_drewN ?_ _) | (with_reducible refine Kd.C_drew ?_))); (case side2 => exact (Kd.R_reads' HO105.out).2.1); rintro e w' ⟨rfl, ⟨nd, rfl⟩⟩; refine ⟨_, rfl, ?_⟩))
    go_ret2; exact ⟨qE, qB⟩
  rw [if_neg c3] at H
  have c3b0 : (t102 == 0) = false := beq_eq_false_iff_ne.mpr c3
  have c3b1 : (t102 != 0) = true := bne_iff_ne.mpr c3
  simp only [zNq, zOq] at H
  obtain ⟨rfl, rfl⟩ := H
  go_enter Try.func67, Try.ntmps67
  go_wp2_with (first | ((with_reducible refine gate_dst (N := 1) rfl ?_); refine box_event qr (N := 1) qr (cs := #[.int .i64 a0_0, .int .i64 a0_1, .int .i64 a0_2, .int .i64 a0_3, .slice A0_4 l0_4.length c0_4]) (t := 71) qg ?_; intro gb101 hg w12 hbox hb; have n0_ := zA (zV qB hb); have n1_ := zA (hbox); have n2_ := zA ((qS : w.heap.size ≤ gb101)); have n3_ := zA ((qS : w.heap.size ≤ gb101)); clear HB; have HB := n0_; have BK101 := n1_; have GW101 := n2_; have GE101 := n3_; clear n0_ n1_ n2_ n3_ hb hbox hg; obtain ⟨_, _, _, _, _, _, _, _, _, _⟩ := qc5f BK101.out) | ((with_reducible refine zJq (f := 69) rfl ?_); refine goesL_ (some 6) rfl rfl Try.func69 (by kernel_rfl) rfl #[.agg #[.int .i64 a0_0, .int .i64 a0_1, .int .i64 a0_2, .int .i64 a0_3, .slice A0_4 l0_4.length c0_4]] rfl qG ?_; (with_reducible refine (line_Check.calls k a0_0 a0_1 a0_2 a0_3 _ _ l0_4 t102 _ ?side1 ?side2 A2.out).mono ?_); (case side1 => exact qC (Kd.C_below HR0_4.out HB.out)); (case side2 => exact HC0_4.out); rintro e w14 ⟨rfl, hb⟩; refine ⟨_, rfl, ?_⟩; have n0_ := zA (qX BK101.out hb); have n1_ := zA (zV qB hb); clear BK101 HB; have BK101 := n0_; have HB := n1_; clear n0_ n1_; (try clear hb)))
  go_ret2
  exact ⟨qE, qB⟩
end Go.Proofs.Ytefhljhpcpajgaa.F
