-- merged and pruned by prune.py (the session's own program); its words go back to the kit's print
import Derived.Test.YtefhljhpcpajgaaProg
import Derived.Below
import Derived.Deep.Draws
import Derived.Deep.AppendLies
import Derived.Maps.AppendAt
import Derived.OwnWalk
import Derived.Laws.BytesArg
import Derived.Laws.MakeOwn
import Derived.Laws.OwnMore
import Derived.Deep.OwnRows
import Derived.Tactics
import Derived.Lib.ConvBytes
import Derived.Laws.Slices
import Derived.WalkKit
import Derived.KernelRfl
import Derived.RowKit3
import Derived.Deep.LoopGhost
import Derived.Deep.QuietTactic
import Derived.BigQuiet
import Derived.WideLaws
import Derived.Deep.DeepCutAuto
import Derived.Deep.CutBlock
import Derived.Deep.RegionHeld3
import Derived.Laws.Rows
import Derived.Lib.AppendStr
import Derived.ArgAppend
import Derived.Laws.IdiomCopy
import Derived.OrdersHeld
import Derived.Laws.BitsLemmas
import Derived.RowKit
import Derived.Laws.StructEq
import Derived.Deep.RegionLawGrows
import Derived.Lib.SliceRun
import Derived.Sort.LotA
import Derived.Shelf.SlSortCmp.Insertion1
import Derived.Shelf.Small.Bits
import Derived.Shelf.Utf8.RuneCount
import Derived.Shelf.Strconv.Itoa0
import Derived.Shelf.Strings.Prefix
import Derived.Shelf.Strings.RuneCount
import Derived.Shelf.Bits.Mul64
import Derived.Ground.Names2Prog
import Derived.Shelf.Slices.SearchI
import Derived.Ground.SlsfProg
import Derived.Shelf.SlSortCmp.Insertion
import Derived.Sort.OwnSortedInts
import Derived.Test.YtefhljhpcpajgaaZLineDeals2
namespace Go.Proofs.Ytefhljhpcpajgaa.F
open Go.RowKit Go.Proofs.YtefhljhpcpajgaaX Go.Proofs.YtefhljhpcpajgaaW.PrintWords Go.Proofs.YtefhljhpcpajgaaW.PrintLast Go.Proofs.YtefhljhpcpajgaaW.PrintMore
attribute [local go_sem] max2_int min2_int max_two min_two max_three min_three max_four min_four   
attribute [local go_sem high] str_geq str_leq str_gtr
set_option linter.unusedVariables false
set_option linter.unusedSimpArgs false
def cents_divided.f (k : Nat) (a0 : Int) (a1 : Int) (a2 : Int) : Option (Int × Int × Int) := if a2 < 1 then (some (0, 0, 2)) else (if a0 < 0 then (some (0, 0, 8)) else (if a1 < 0 then (some (0, 0, 8)) else ((cents_In.f a0).bind fun t101 => (if t101 = true then ((cents_In.f a1).bind fun t102 => (if t102 = true then ((cents_In.f a2).bind fun t103 => (if t103 = true then ((cents_product.f (IntKind.u64.wrap (a0)) (IntKind.u64.wrap (a1))).bind fun bt104 => ((cents_product.f (IntKind.u64.wrap (a2)) 1000000000001).bind fun bt107 => ((cents_wide_above.f bt104.1 bt104.2 bt107.1 bt107.2).bind fun t109 => (if t109 = true then (some (0, 0, 8)) else (if bt104.1 ≥ (IntKind.u64.wrap (a2)) then (some (0, 0, 8)) else ((bits_Div64.f k bt104.1 bt104.2 (IntKind.u64.wrap (a2))).bind fun bt110 => (some (wrap64 (bt110.1), wrap64 (bt110.2), 0)))))))) else (some (0, 0, 8)))) else (some (0, 0, 8)))) else (some (0, 0, 8))))))
theorem cents_divided.mono : ∀ a0 a1 a2 k, LeO (cents_divided.f k a0 a1 a2) (cents_divided.f (k + 1) a0 a1 a2) := by
  intro a0 a1 a2 k
  unfold cents_divided.f
  repeat' (with_reducible first | exact bits_Div64.mono _ _ _ _ | exact LeO.refl _ | exact LeO.none _ | refine LeO.ite ?_ ?_ | refine LeO.bind ?_ (fun _ => ?_))
def cents_divided.T6 : Bool × List (List Nat × List Nat) := (true, [([], []), ([], []), ([1], [1]), ([2], [2]), ([0, 3, 3], [0, 3]), ([4, 4], [4]), ([5], [5]), ([6, 5], [5, 6]), ([5], [5]), ([8, 5], [5, 8]), ([7, 9, 5], [5, 7, 9]), ([5, 10], [5, 10])])
def cents_divided.B6 : List Nat := [0, 0, 2, 6, 15, 31, 63, 127, 63, 319, 1023, 2047]
theorem cents_divided.tab6 : rtab .any (opsOf Try.f100 6) = cents_divided.T6 := by kernel_rfl
theorem cents_divided.bits6 : waitsOk cents_divided.T6.2 cents_divided.B6 = true := by kernel_rfl
set_option maxHeartbeats 8000000 in
set_option maxRecDepth 100000 in
theorem cents_divided.calls (k : Nat) (a0 : Int) (a1 : Int) (a2 : Int) (r1 : Int) (r2 : Int) (r3 : Int) (w : World) (h : cents_divided.f k a0 a1 a2 = some (r1, r2, r3)) :
    Calls Try.prog 100 #[.int .i64 a0, .int .i64 a1, .int .i64 a2] w fun e w' => e = .returned (.tuple #[.int .i64 r1, .int .i64 r2, .int .i64 r3]) ∧ Below w.heap.size w w' := by
  have hu121 := Try.underlying121
  have HB := zA (Below.refl w.heap.size w)
  have H : (if a2 < 1 then (some (0, 0, 2)) else (if a0 < 0 then (some (0, 0, 8)) else (if a1 < 0 then (some (0, 0, 8)) else ((cents_In.f a0).bind fun t101 => (if t101 = true then ((cents_In.f a1).bind fun t102 => (if t102 = true then ((cents_In.f a2).bind fun t103 => (if t103 = true then ((cents_product.f (IntKind.u64.wrap (a0)) (IntKind.u64.wrap (a1))).bind fun bt104 => ((cents_product.f (IntKind.u64.wrap (a2)) 1000000000001).bind fun bt107 => ((cents_wide_above.f bt104.1 bt104.2 bt107.1 bt107.2).bind fun t109 => (if t109 = true then (some (0, 0, 8)) else (if bt104.1 ≥ (IntKind.u64.wrap (a2)) then (some (0, 0, 8)) else ((bits_Div64.f k bt104.1 bt104.2 (IntKind.u64.wrap (a2))).bind fun bt110 => (some (wrap64 (bt110.1), wrap64 (bt110.2), 0)))))))) else (some (0, 0, 8)))) else (some (0, 0, 8)))) else (some (0, 0, 8))))))) = some (r1, r2, r3) := h
  clear h
  by_cases c4 : a2 < 1
  · rw [if_pos c4] at H
    have c4b0 : decide (a2 < 1) = true := zFq c4; clear c4; simp only [zNq, zOq] at H; obtain ⟨rfl, rfl, rfl⟩ := H; go_enter Try.func100, Try.ntmps100; go_wp2; go_ret3; exact ⟨qE, qB⟩
  rw [if_neg c4] at H
  have c4b0 : decide (a2 < 1) = false := zGq c4
  clear c4
  by_cases c5 : a0 < 0
  · rw [if_pos c5] at H
    have c5b0 : decide (a0 < 0) = true := zFq c5; clear c5; simp only [zNq, zOq] at H; obtain ⟨rfl, rfl, rfl⟩ := H; go_enter Try.func100, Try.ntmps100; go_wp2; go_ret3; exact ⟨qE, qB⟩
  rw [if_neg c5] at H
  have c5b0 : decide (a0 < 0) = false := zGq c5
  clear c5
  by_cases c6 : a1 < 0
  · rw [if_pos c6] at H
    have c6b0 : decide (a1 < 0) = true := zFq c6; clear c6; simp only [zNq, zOq] at H; obtain ⟨rfl, rfl, rfl⟩ := H; go_enter Try.func100, Try.ntmps100; go_wp2; go_ret3; exact ⟨qE, qB⟩
  rw [if_neg c6] at H
  have c6b0 : decide (a1 < 0) = false := zGq c6
  clear c6
  replace H := Option.bind_eq_some_iff.mp H
  obtain ⟨t101, A70, H⟩ := H
  try dsimp only at H
  have A7 := zA A70
  clear A70
  by_cases c8 : t101 = true
  · subst c8
    have H1 : ((cents_In.f a1).bind fun t102 => (if t102 = true then ((cents_In.f a2).bind fun t103 => (if t103 = true then ((cents_product.f (IntKind.u64.wrap (a0)) (IntKind.u64.wrap (a1))).bind fun bt104 => ((cents_product.f (IntKind.u64.wrap (a2)) 1000000000001).bind fun bt107 => ((cents_wide_above.f bt104.1 bt104.2 bt107.1 bt107.2).bind fun t109 => (if t109 = true then (some (0, 0, 8)) else (if bt104.1 ≥ (IntKind.u64.wrap (a2)) then (some (0, 0, 8)) else ((bits_Div64.f k bt104.1 bt104.2 (IntKind.u64.wrap (a2))).bind fun bt110 => (some (wrap64 (bt110.1), wrap64 (bt110.2), 0)))))))) else (some (0, 0, 8)))) else (some (0, 0, 8)))) = some (r1, r2, r3) := by first | (rw [if_pos rfl] at H; exact H) | rfl
    clear H; have H := H1; clear H1; replace H := Option.bind_eq_some_iff.mp H; obtain ⟨t102, A90, H⟩ := H; try dsimp only at H
    have A9 := zA A90; clear A90; by_cases c10 : t102 = true
    · subst c10
      have H1 : ((cents_In.f a2).bind fun t103 => (if t103 = true then ((cents_product.f (IntKind.u64.wrap (a0)) (IntKind.u64.wrap (a1))).bind fun bt104 => ((cents_product.f (IntKind.u64.wrap (a2)) 1000000000001).bind fun bt107 => ((cents_wide_above.f bt104.1 bt104.2 bt107.1 bt107.2).bind fun t109 => (if t109 = true then (some (0, 0, 8)) else (if bt104.1 ≥ (IntKind.u64.wrap (a2)) then (some (0, 0, 8)) else ((bits_Div64.f k bt104.1 bt104.2 (IntKind.u64.wrap (a2))).bind fun bt110 => (some (wrap64 (bt110.1), wrap64 (bt110.2), 0)))))))) else (some (0, 0, 8)))) = some (r1, r2, r3) := by first | (rw [if_pos rfl] at H; exact H) | rfl
      clear H; have H := H1; clear H1; replace H := Option.bind_eq_some_iff.mp H; obtain ⟨t103, A110, H⟩ := H; try dsimp only at H
      have A11 := zA A110; clear A110; by_cases c12 : t103 = true
      · subst c12
        have H1 : ((cents_product.f (IntKind.u64.wrap (a0)) (IntKind.u64.wrap (a1))).bind fun bt104 => ((cents_product.f (IntKind.u64.wrap (a2)) 1000000000001).bind fun bt107 => ((cents_wide_above.f bt104.1 bt104.2 bt107.1 bt107.2).bind fun t109 => (if t109 = true then (some (0, 0, 8)) else (if bt104.1 ≥ (IntKind.u64.wrap (a2)) then (some (0, 0, 8)) else ((bits_Div64.f k bt104.1 bt104.2 (IntKind.u64.wrap (a2))).bind fun bt110 => (some (wrap64 (bt110.1), wrap64 (bt110.2), 0)))))))) = some (r1, r2, r3) := by first | (rw [if_pos rfl] at H; exact H) | rfl
        clear H; have H := H1; clear H1; replace H := Option.bind_eq_some_iff.mp H; obtain ⟨⟨t104, t105⟩, A130, H⟩ := H; try dsimp only at H
        have A13 := zA A130; clear A130; replace H := Option.bind_eq_some_iff.mp H; obtain ⟨⟨t107, t108⟩, A140, H⟩ := H; try dsimp only at H
        have A14 := zA A140; clear A140; replace H := Option.bind_eq_some_iff.mp H; obtain ⟨t109, A150, H⟩ := H; try dsimp only at H
        have A15 := zA A150; clear A150; by_cases c16 : t109 = true
        · subst c16
          have H1 : (some (0, 0, 8)) = some (r1, r2, r3) := by first | (rw [if_pos rfl] at H; exact H) | rfl
          clear H; have H := H1; clear H1; simp only [zNq, zOq] at H; obtain ⟨rfl, rfl, rfl⟩ := H; go_enter Try.func100, Try.ntmps100; try go_wp2_with (first | (go_at_call 31; (with_reducible refine (cents_In.calls a0 true _ A7.out).mono ?_); rintro e w' ⟨rfl, ⟨nd, rfl⟩⟩) | (go_at_call 31; (with_reducible refine (cents_In.calls a1 true _ A9.out).mono ?_); rintro e w' ⟨rfl, ⟨nd, rfl⟩⟩) | (go_at_call 31; (with_reducible refine (cents_In.calls a2 true _ A11.out).mono ?_); rintro e w' ⟨rfl, ⟨nd, rfl⟩⟩) | ((with_reducible refine zJq (f := 98) rfl ?_); refine goesL_ (some 41) rfl rfl Try.func98 (by kernel_rfl) rfl #[.int .u64 (IntKind.u64.wrap (a0)), .int .u64 (IntKind.u64.wrap (a1))] rfl qG ?_; (with_reducible refine (cents_product.calls (IntKind.u64.wrap (a0)) (IntKind.u64.wrap (a1)) t104 t105 _ A13.out).mono ?_); rintro e w17 ⟨rfl, hb⟩; refine ⟨_, rfl, ?_⟩; have n0_ := zA (zV qB hb); clear HB; have HB := n0_; clear n0_; (try clear hb)) | ((with_reducible refine gate_dst (N := 9) rfl ?_); refine box_event qr (N := 9) qr (cs := #[.int .u64 0, .int .u64 0]) (t := 121) qg ?_; intro gb106 hg w18 hbox hb; have n0_ := zA (zV qB hb); have n1_ := zA (hbox); have n2_ := zA ((qS : w.heap.size ≤ gb106)); have n3_ := zA ((qS : w.heap.size ≤ gb106)); clear HB; have HB := n0_; have BK106 := n1_; have GW106 := n2_; have GE106 := n3_; clear n0_ n1_ n2_ n3_ hb hbox hg; obtain ⟨_, _, _, _⟩ := qc2f BK106.out))
          have n0_ : Aside0 (((w18.setCell ⟨gb106, 0, none⟩ (.int .u64 t104)).setCell ⟨gb106, 1, none⟩ (.int .u64 t105)).heap[gb106]? = some (.cells #[.int .u64 t104, .int .u64 t105] 121 (0, 0))) := ⟨by (with_reducible repeat (first | refine zY ?_ _ | refine zAq ?_ | refine zZ ?_ _)); apply qP2; exact BK106.out⟩
          have n1_ : Aside0 (Below w.heap.size w ((w18.setCell ⟨gb106, 0, none⟩ (.int .u64 t104)).setCell ⟨gb106, 1, none⟩ (.int .u64 t105))) := ⟨qB⟩
          (try clear BK106); (try clear HB)
          generalize ((w18.setCell ⟨gb106, 0, none⟩ (.int .u64 t104)).setCell ⟨gb106, 1, none⟩ (.int .u64 t105)) = w20 at n0_ n1_ ⊢; have BK106 := n0_; have HB := n1_; clear n0_ n1_; have n0_ := zA (zAq BK106.out); have n1_ := zA (zC HB.out); clear BK106; clear HB; have BK106 := n0_; have HB := n1_; clear n0_ n1_; refine start_ (n := 12) (S := fun w' => w'.cell? ⟨gb106, 0, none⟩ = some (.int .u64 t104) ∧ w'.cell? ⟨gb106, 1, none⟩ = some (.int .u64 t105)) (ds := []) #[o0, o0, o0, o0, o0, o0, o0, o0, o0, o0, o0, o0] (by kernel_rfl) rfl rfl ⟨(zF BK106.out 0).trans rfl, (zF BK106.out 1).trans rfl⟩ (fun hHeld => ?_); refine with_tabW cents_divided.tab6 cents_divided.bits6 (fun HT_ HW_ => ?_); generalize w20.drew = w21 at BK106 HB hHeld ⊢; refine pure_ (i := 1) (N := some 43) #[o0, o1, o0, o0, o0, o0, o0, o0, o0, o0, o0, o0] rfl rfl (any_of HT_.out (by kernel_rfl)) (fun _ _ _ h => h) (Or.inl ⟨by rfl, qy⟩) qz ?_; refine pure_ (i := 2) (N := some 44) #[o0, o1, o1, o0, o0, o0, o0, o0, o0, o0, o0, o0] rfl rfl (any_of HT_.out (by kernel_rfl)) (fun _ _ _ h => h) (Or.inl ⟨by rfl, qy⟩) qz ?_; refine take_ (i := 0) (N := some 42) (v := ?_) (a' := ?_) #[o1, o1, o1, o0, o0, o0, o0, o0, o0, o0, o0, o0] rfl rfl (take_ofW HT_.out HW_.out (by kernel_rfl)) (fun _ _ _ h => h) (Or.inl ⟨by rfl, ?_⟩) hHeld ?_ ?_; rotate_left
          · rintro w' ⟨s0, s1⟩
            go_simp; with_reducible rfl
          rotate_left
          · simp only [Act.put, zH, zI, zJ, i64_w, i32_w]
            rfl
          refine one_ (i := 3) (N := some 45) #[o1, o1, o1, o1, o0, o0, o0, o0, o0, o0, o0, o0] rfl rfl (one_of HT_.out (by kernel_rfl)) (by decide) (fun K hK => ?_); refine goes_ Try.func98 (by kernel_rfl) rfl #[.int .u64 (IntKind.u64.wrap (a2)), .int .u64 1000000000001] (by rfl) rfl rfl qG ?_; with_reducible refine (cents_product.calls (IntKind.u64.wrap (a2)) 1000000000001 t107 t108 _ A14.out).mono ?_
          rintro e w22 ⟨rfl, hb⟩; refine ⟨_, rfl, ?_⟩; have n0_ := zA (qX BK106.out hb); have n1_ := zA (zV qB hb); clear BK106; clear HB; have BK106 := n0_; have HB := n1_; clear n0_ n1_; (try clear hb); (try clear hb2); (try clear hk); (try clear hi); refine hK.out _ _ ⟨(zF BK106.out 0).trans rfl, (zF BK106.out 1).trans rfl⟩ (fun hHeld => ?_); clear hK K; refine norm_ (a' := ?_) ?_ ?_; rotate_left
          · show Act.put _ (some 45) _ = _
            simp only [Act.put, zH, zI, zJ, i64_w, i32_w]; rfl
          refine one_ (i := 4) (N := some 46) #[o1, o1, o1, o1, o1, o0, o0, o0, o0, o0, o0, o0] rfl rfl (one_of HT_.out (by kernel_rfl)) (by decide) (fun K hK => ?_); refine goes_ Try.func97 (by kernel_rfl) rfl #[.agg #[.int .u64 t104, .int .u64 t105], .agg #[.int .u64 t107, .int .u64 t108]] (by rfl) rfl rfl qG ?_; with_reducible refine (cents_wide_above.calls t104 t105 t107 t108 true _ A15.out).mono ?_
          rintro e w23 ⟨rfl, hb⟩; refine ⟨_, rfl, ?_⟩; have n0_ := zA (qX BK106.out hb); have n1_ := zA (zV qB hb); clear BK106; clear HB; have BK106 := n0_; have HB := n1_; clear n0_ n1_; (try clear hb); (try clear hb2); (try clear hk); (try clear hi); refine hK.out _ _ ⟨(zF BK106.out 0).trans rfl, (zF BK106.out 1).trans rfl⟩ (fun hHeld => ?_); clear hK K; refine norm_ (a' := ?_) ?_ ?_; rotate_left
          · show Act.put _ (some 46) _ = _
            simp only [Act.put, zH, zI, zJ, i64_w, i32_w]; rfl
          refine pure_ (i := 5) (N := some 47) #[o1, o1, o1, o1, o1, o1, o0, o0, o0, o0, o0, o0] rfl rfl (any_of HT_.out (by kernel_rfl)) (fun _ _ _ h => h) (Or.inl ⟨by rfl, qy⟩) qz ?_; refine pure_ (i := 6) (N := some 48) (v := undef) (a' := ?_) #[o1, o1, o1, o1, o1, o1, o1, o0, o0, o0, o0, o0] rfl rfl (any_of HT_.out (by kernel_rfl)) (fun _ _ _ h => h) (Or.inr ⟨by rfl, rfl⟩) ?_ ?_; rotate_left
          · simp only [Act.put, zH, zI, zJ, i64_w, i32_w]
            rfl
          refine pure_ (i := 7) (N := some 49) (v := undef) (a' := ?_) #[o1, o1, o1, o1, o1, o1, o1, o1, o0, o0, o0, o0] rfl rfl (any_of HT_.out (by kernel_rfl)) (fun _ _ _ h => h) (Or.inr ⟨by rfl, rfl⟩) ?_ ?_; rotate_left
          · simp only [Act.put, zH, zI, zJ, i64_w, i32_w]
            rfl
          refine pure_ (i := 8) (N := some 50) (v := undef) (a' := ?_) #[o1, o1, o1, o1, o1, o1, o1, o1, o1, o0, o0, o0] rfl rfl (any_of HT_.out (by kernel_rfl)) (fun _ _ _ h => h) (Or.inr ⟨by rfl, rfl⟩) ?_ ?_; rotate_left
          · simp only [Act.put, zH, zI, zJ, i64_w, i32_w]
            rfl
          refine pure_ (i := 9) (N := some 51) (v := undef) (a' := ?_) #[o1, o1, o1, o1, o1, o1, o1, o1, o1, o1, o0, o0] rfl rfl (any_of HT_.out (by kernel_rfl)) (fun _ _ _ h => h) (Or.inr ⟨by rfl, rfl⟩) ?_ ?_; rotate_left
          · simp only [Act.put, zH, zI, zJ, i64_w, i32_w]
            rfl
          refine pure_ (i := 10) (N := some 52) (v := undef) (a' := ?_) #[o1, o1, o1, o1, o1, o1, o1, o1, o1, o1, o1, o0] rfl rfl (any_of HT_.out (by kernel_rfl)) (fun _ _ _ h => h) (Or.inr ⟨by rfl, rfl⟩) ?_ ?_; rotate_left
          · simp only [Act.put, zH, zI, zJ, i64_w, i32_w]
            rfl
          refine pure_ (i := 11) (N := some 53) #[o1, o1, o1, o1, o1, o1, o1, o1, o1, o1, o1, o1] rfl rfl (any_of HT_.out (by kernel_rfl)) (fun _ _ _ h => h) (Or.inl ⟨by rfl, qy⟩) qz ?_; refine done_ (done_of HT_.out (by kernel_rfl)) ?_; try go_wp2
          go_ret3; exact ⟨qE, qB⟩
        replace c16 := Bool.eq_false_iff.mpr c16; subst c16; have H1 : (if t104 ≥ (IntKind.u64.wrap (a2)) then (some (0, 0, 8)) else ((bits_Div64.f k t104 t105 (IntKind.u64.wrap (a2))).bind fun bt110 => (some (wrap64 (bt110.1), wrap64 (bt110.2), 0)))) = some (r1, r2, r3) := by first | (rw [if_neg (show ¬ (false = true) by decide)] at H; exact H) | rfl
        clear H; have H := H1; clear H1; by_cases c24 : t104 ≥ (IntKind.u64.wrap (a2))
        · rw [if_pos c24] at H
          have c24b0 : decide ((IntKind.u64.wrap (a2)) ≤ t104) = true := zFq c24; clear c24; simp only [zNq, zOq] at H; obtain ⟨rfl, rfl, rfl⟩ := H; go_enter Try.func100, Try.ntmps100; try go_wp2_with (first | (go_at_call 31; (with_reducible refine (cents_In.calls a0 true _ A7.out).mono ?_); rintro e w' ⟨rfl, ⟨nd, rfl⟩⟩) | (go_at_call 31; (with_reducible refine (cents_In.calls a1 true _ A9.out).mono ?_); rintro e w' ⟨rfl, ⟨nd, rfl⟩⟩) | (go_at_call 31; (with_reducible refine (cents_In.calls a2 true _ A11.out).mono ?_); rintro e w' ⟨rfl, ⟨nd, rfl⟩⟩) | ((with_reducible refine zJq (f := 98) rfl ?_); refine goesL_ (some 41) rfl rfl Try.func98 (by kernel_rfl) rfl #[.int .u64 (IntKind.u64.wrap (a0)), .int .u64 (IntKind.u64.wrap (a1))] rfl qG ?_; (with_reducible refine (cents_product.calls (IntKind.u64.wrap (a0)) (IntKind.u64.wrap (a1)) t104 t105 _ A13.out).mono ?_); rintro e w25 ⟨rfl, hb⟩; refine ⟨_, rfl, ?_⟩; have n0_ := zA (zV qB hb); clear HB; have HB := n0_; clear n0_; (try clear hb)) | ((with_reducible refine gate_dst (N := 9) rfl ?_); refine box_event qr (N := 9) qr (cs := #[.int .u64 0, .int .u64 0]) (t := 121) qg ?_; intro gb106 hg w26 hbox hb; have n0_ := zA (zV qB hb); have n1_ := zA (hbox); have n2_ := zA ((qS : w.heap.size ≤ gb106)); have n3_ := zA ((qS : w.heap.size ≤ gb106)); clear HB; have HB := n0_; have BK106 := n1_; have GW106 := n2_; have GE106 := n3_; clear n0_ n1_ n2_ n3_ hb hbox hg; obtain ⟨_, _, _, _⟩ := qc2f BK106.out))
          have n0_ : Aside0 (((w26.setCell ⟨gb106, 0, none⟩ (.int .u64 t104)).setCell ⟨gb106, 1, none⟩ (.int .u64 t105)).heap[gb106]? = some (.cells #[.int .u64 t104, .int .u64 t105] 121 (0, 0))) := ⟨by (with_reducible repeat (first | refine zY ?_ _ | refine zAq ?_ | refine zZ ?_ _)); apply qP2; exact BK106.out⟩
          have n1_ : Aside0 (Below w.heap.size w ((w26.setCell ⟨gb106, 0, none⟩ (.int .u64 t104)).setCell ⟨gb106, 1, none⟩ (.int .u64 t105))) := ⟨qB⟩
          (try clear BK106); (try clear HB)
          generalize ((w26.setCell ⟨gb106, 0, none⟩ (.int .u64 t104)).setCell ⟨gb106, 1, none⟩ (.int .u64 t105)) = w28 at n0_ n1_ ⊢; have BK106 := n0_; have HB := n1_; clear n0_ n1_; have n0_ := zA (zAq BK106.out); have n1_ := zA (zC HB.out); clear BK106; clear HB; have BK106 := n0_; have HB := n1_; clear n0_ n1_; refine start_ (n := 12) (S := fun w' => w'.cell? ⟨gb106, 0, none⟩ = some (.int .u64 t104) ∧ w'.cell? ⟨gb106, 1, none⟩ = some (.int .u64 t105)) (ds := []) #[o0, o0, o0, o0, o0, o0, o0, o0, o0, o0, o0, o0] (by kernel_rfl) rfl rfl ⟨(zF BK106.out 0).trans rfl, (zF BK106.out 1).trans rfl⟩ (fun hHeld => ?_); refine with_tabW cents_divided.tab6 cents_divided.bits6 (fun HT_ HW_ => ?_); generalize w28.drew = w29 at BK106 HB hHeld ⊢; refine pure_ (i := 1) (N := some 43) #[o0, o1, o0, o0, o0, o0, o0, o0, o0, o0, o0, o0] rfl rfl (any_of HT_.out (by kernel_rfl)) (fun _ _ _ h => h) (Or.inl ⟨by rfl, qy⟩) qz ?_; refine pure_ (i := 2) (N := some 44) #[o0, o1, o1, o0, o0, o0, o0, o0, o0, o0, o0, o0] rfl rfl (any_of HT_.out (by kernel_rfl)) (fun _ _ _ h => h) (Or.inl ⟨by rfl, qy⟩) qz ?_; refine take_ (i := 0) (N := some 42) (v := ?_) (a' := ?_) #[o1, o1, o1, o0, o0, o0, o0, o0, o0, o0, o0, o0] rfl rfl (take_ofW HT_.out HW_.out (by kernel_rfl)) (fun _ _ _ h => h) (Or.inl ⟨by rfl, ?_⟩) hHeld ?_ ?_; rotate_left
          · rintro w' ⟨s0, s1⟩
            go_simp; with_reducible rfl
          rotate_left
          · simp only [Act.put, zH, zI, zJ, i64_w, i32_w]
            rfl
          refine one_ (i := 3) (N := some 45) #[o1, o1, o1, o1, o0, o0, o0, o0, o0, o0, o0, o0] rfl rfl (one_of HT_.out (by kernel_rfl)) (by decide) (fun K hK => ?_); refine goes_ Try.func98 (by kernel_rfl) rfl #[.int .u64 (IntKind.u64.wrap (a2)), .int .u64 1000000000001] (by rfl) rfl rfl qG ?_; with_reducible refine (cents_product.calls (IntKind.u64.wrap (a2)) 1000000000001 t107 t108 _ A14.out).mono ?_
          rintro e w30 ⟨rfl, hb⟩; refine ⟨_, rfl, ?_⟩; have n0_ := zA (qX BK106.out hb); have n1_ := zA (zV qB hb); clear BK106; clear HB; have BK106 := n0_; have HB := n1_; clear n0_ n1_; (try clear hb); (try clear hb2); (try clear hk); (try clear hi); refine hK.out _ _ ⟨(zF BK106.out 0).trans rfl, (zF BK106.out 1).trans rfl⟩ (fun hHeld => ?_); clear hK K; refine norm_ (a' := ?_) ?_ ?_; rotate_left
          · show Act.put _ (some 45) _ = _
            simp only [Act.put, zH, zI, zJ, i64_w, i32_w]; rfl
          refine one_ (i := 4) (N := some 46) #[o1, o1, o1, o1, o1, o0, o0, o0, o0, o0, o0, o0] rfl rfl (one_of HT_.out (by kernel_rfl)) (by decide) (fun K hK => ?_); refine goes_ Try.func97 (by kernel_rfl) rfl #[.agg #[.int .u64 t104, .int .u64 t105], .agg #[.int .u64 t107, .int .u64 t108]] (by rfl) rfl rfl qG ?_; with_reducible refine (cents_wide_above.calls t104 t105 t107 t108 false _ A15.out).mono ?_
          rintro e w31 ⟨rfl, hb⟩; refine ⟨_, rfl, ?_⟩; have n0_ := zA (qX BK106.out hb); have n1_ := zA (zV qB hb); clear BK106; clear HB; have BK106 := n0_; have HB := n1_; clear n0_ n1_; (try clear hb); (try clear hb2); (try clear hk); (try clear hi); refine hK.out _ _ ⟨(zF BK106.out 0).trans rfl, (zF BK106.out 1).trans rfl⟩ (fun hHeld => ?_); clear hK K; refine norm_ (a' := ?_) ?_ ?_; rotate_left
          · show Act.put _ (some 46) _ = _
            simp only [Act.put, zH, zI, zJ, i64_w, i32_w]; rfl
          refine pure_ (i := 5) (N := some 47) #[o1, o1, o1, o1, o1, o1, o0, o0, o0, o0, o0, o0] rfl rfl (any_of HT_.out (by kernel_rfl)) (fun _ _ _ h => h) (Or.inl ⟨by rfl, qy⟩) qz ?_; refine pure_ (i := 6) (N := some 48) #[o1, o1, o1, o1, o1, o1, o1, o0, o0, o0, o0, o0] rfl rfl (any_of HT_.out (by kernel_rfl)) (fun _ _ _ h => h) (Or.inl ⟨by rfl, qy⟩) qz ?_; refine pure_ (i := 8) (N := some 50) #[o1, o1, o1, o1, o1, o1, o1, o0, o1, o0, o0, o0] rfl rfl (any_of HT_.out (by kernel_rfl)) (fun _ _ _ h => h) (Or.inl ⟨by rfl, qy⟩) qz ?_; refine pure_ (i := 9) (N := some 51) #[o1, o1, o1, o1, o1, o1, o1, o0, o1, o1, o0, o0] rfl rfl (any_of HT_.out (by kernel_rfl)) (fun _ _ _ h => h) (Or.inl ⟨by rfl, qy⟩) qz ?_; refine take_ (i := 7) (N := some 49) (v := ?_) (a' := ?_) #[o1, o1, o1, o1, o1, o1, o1, o1, o1, o1, o0, o0] rfl rfl (take_ofW HT_.out HW_.out (by kernel_rfl)) (fun _ _ _ h => h) (Or.inl ⟨by rfl, ?_⟩) hHeld ?_ ?_; rotate_left
          · rintro w' ⟨s0, s1⟩
            go_simp; with_reducible rfl
          rotate_left
          · simp only [Act.put, zH, zI, zJ, i64_w, i32_w]
            rfl
          refine pure_ (i := 10) (N := some 52) #[o1, o1, o1, o1, o1, o1, o1, o1, o1, o1, o1, o0] rfl rfl (any_of HT_.out (by kernel_rfl)) (fun _ _ _ h => h) (Or.inl ⟨by rfl, qy⟩) qz ?_; refine pure_ (i := 11) (N := some 53) #[o1, o1, o1, o1, o1, o1, o1, o1, o1, o1, o1, o1] rfl rfl (any_of HT_.out (by kernel_rfl)) (fun _ _ _ h => h) (Or.inl ⟨by rfl, qy⟩) qz ?_; refine done_ (done_of HT_.out (by kernel_rfl)) ?_; try go_wp2
          go_ret3; exact ⟨qE, qB⟩
        rw [if_neg c24] at H; have c24b0 : decide ((IntKind.u64.wrap (a2)) ≤ t104) = false := zGq c24; clear c24; replace H := Option.bind_eq_some_iff.mp H; obtain ⟨⟨t110, t111⟩, A320, H⟩ := H; try dsimp only at H
        have A32 := zA A320; clear A320; simp only [zNq, zOq] at H; obtain ⟨rfl, rfl, rfl⟩ := H; go_enter Try.func100, Try.ntmps100; try go_wp2_with (first | (go_at_call 31; (with_reducible refine (cents_In.calls a0 true _ A7.out).mono ?_); rintro e w' ⟨rfl, ⟨nd, rfl⟩⟩) | (go_at_call 31; (with_reducible refine (cents_In.calls a1 true _ A9.out).mono ?_); rintro e w' ⟨rfl, ⟨nd, rfl⟩⟩) | (go_at_call 31; (with_reducible refine (cents_In.calls a2 true _ A11.out).mono ?_); rintro e w' ⟨rfl, ⟨nd, rfl⟩⟩) | ((with_reducible refine zJq (f := 98) rfl ?_); refine goesL_ (some 41) rfl rfl Try.func98 (by kernel_rfl) rfl #[.int .u64 (IntKind.u64.wrap (a0)), .int .u64 (IntKind.u64.wrap (a1))] rfl qG ?_; (with_reducible refine (cents_product.calls (IntKind.u64.wrap (a0)) (IntKind.u64.wrap (a1)) t104 t105 _ A13.out).mono ?_); rintro e w33 ⟨rfl, hb⟩; refine ⟨_, rfl, ?_⟩; have n0_ := zA (zV qB hb); clear HB; have HB := n0_; clear n0_; (try clear hb)) | ((with_reducible refine gate_dst (N := 9) rfl ?_); refine box_event qr (N := 9) qr (cs := #[.int .u64 0, .int .u64 0]) (t := 121) qg ?_; intro gb106 hg w34 hbox hb; have n0_ := zA (zV qB hb); have n1_ := zA (hbox); have n2_ := zA ((qS : w.heap.size ≤ gb106)); have n3_ := zA ((qS : w.heap.size ≤ gb106)); clear HB; have HB := n0_; have BK106 := n1_; have GW106 := n2_; have GE106 := n3_; clear n0_ n1_ n2_ n3_ hb hbox hg; obtain ⟨_, _, _, _⟩ := qc2f BK106.out))
        have n0_ : Aside0 (((w34.setCell ⟨gb106, 0, none⟩ (.int .u64 t104)).setCell ⟨gb106, 1, none⟩ (.int .u64 t105)).heap[gb106]? = some (.cells #[.int .u64 t104, .int .u64 t105] 121 (0, 0))) := ⟨by (with_reducible repeat (first | refine zY ?_ _ | refine zAq ?_ | refine zZ ?_ _)); apply qP2; exact BK106.out⟩
        have n1_ : Aside0 (Below w.heap.size w ((w34.setCell ⟨gb106, 0, none⟩ (.int .u64 t104)).setCell ⟨gb106, 1, none⟩ (.int .u64 t105))) := ⟨qB⟩
        (try clear BK106); (try clear HB)
        generalize ((w34.setCell ⟨gb106, 0, none⟩ (.int .u64 t104)).setCell ⟨gb106, 1, none⟩ (.int .u64 t105)) = w36 at n0_ n1_ ⊢; have BK106 := n0_; have HB := n1_; clear n0_ n1_; have n0_ := zA (zAq BK106.out); have n1_ := zA (zC HB.out); clear BK106; clear HB; have BK106 := n0_; have HB := n1_; clear n0_ n1_; refine start_ (n := 12) (S := fun w' => w'.cell? ⟨gb106, 0, none⟩ = some (.int .u64 t104) ∧ w'.cell? ⟨gb106, 1, none⟩ = some (.int .u64 t105)) (ds := []) #[o0, o0, o0, o0, o0, o0, o0, o0, o0, o0, o0, o0] (by kernel_rfl) rfl rfl ⟨(zF BK106.out 0).trans rfl, (zF BK106.out 1).trans rfl⟩ (fun hHeld => ?_); refine with_tabW cents_divided.tab6 cents_divided.bits6 (fun HT_ HW_ => ?_); generalize w36.drew = w37 at BK106 HB hHeld ⊢; refine pure_ (i := 1) (N := some 43) #[o0, o1, o0, o0, o0, o0, o0, o0, o0, o0, o0, o0] rfl rfl (any_of HT_.out (by kernel_rfl)) (fun _ _ _ h => h) (Or.inl ⟨by rfl, qy⟩) qz ?_; refine pure_ (i := 2) (N := some 44) #[o0, o1, o1, o0, o0, o0, o0, o0, o0, o0, o0, o0] rfl rfl (any_of HT_.out (by kernel_rfl)) (fun _ _ _ h => h) (Or.inl ⟨by rfl, qy⟩) qz ?_; refine take_ (i := 0) (N := some 42) (v := ?_) (a' := ?_) #[o1, o1, o1, o0, o0, o0, o0, o0, o0, o0, o0, o0] rfl rfl (take_ofW HT_.out HW_.out (by kernel_rfl)) (fun _ _ _ h => h) (Or.inl ⟨by rfl, ?_⟩) hHeld ?_ ?_; rotate_left
        · rintro w' ⟨s0, s1⟩
          go_simp; with_reducible rfl
        rotate_left
        · simp only [Act.put, zH, zI, zJ, i64_w, i32_w]
          rfl
        refine one_ (i := 3) (N := some 45) #[o1, o1, o1, o1, o0, o0, o0, o0, o0, o0, o0, o0] rfl rfl (one_of HT_.out (by kernel_rfl)) (by decide) (fun K hK => ?_); refine goes_ Try.func98 (by kernel_rfl) rfl #[.int .u64 (IntKind.u64.wrap (a2)), .int .u64 1000000000001] (by rfl) rfl rfl qG ?_; with_reducible refine (cents_product.calls (IntKind.u64.wrap (a2)) 1000000000001 t107 t108 _ A14.out).mono ?_
        rintro e w38 ⟨rfl, hb⟩; refine ⟨_, rfl, ?_⟩; have n0_ := zA (qX BK106.out hb); have n1_ := zA (zV qB hb); clear BK106; clear HB; have BK106 := n0_; have HB := n1_; clear n0_ n1_; (try clear hb); (try clear hb2); (try clear hk); (try clear hi); refine hK.out _ _ ⟨(zF BK106.out 0).trans rfl, (zF BK106.out 1).trans rfl⟩ (fun hHeld => ?_); clear hK K; refine norm_ (a' := ?_) ?_ ?_; rotate_left
        · show Act.put _ (some 45) _ = _
          simp only [Act.put, zH, zI, zJ, i64_w, i32_w]; rfl
        refine one_ (i := 4) (N := some 46) #[o1, o1, o1, o1, o1, o0, o0, o0, o0, o0, o0, o0] rfl rfl (one_of HT_.out (by kernel_rfl)) (by decide) (fun K hK => ?_); refine goes_ Try.func97 (by kernel_rfl) rfl #[.agg #[.int .u64 t104, .int .u64 t105], .agg #[.int .u64 t107, .int .u64 t108]] (by rfl) rfl rfl qG ?_; with_reducible refine (cents_wide_above.calls t104 t105 t107 t108 false _ A15.out).mono ?_
        rintro e w39 ⟨rfl, hb⟩; refine ⟨_, rfl, ?_⟩; have n0_ := zA (qX BK106.out hb); have n1_ := zA (zV qB hb); clear BK106; clear HB; have BK106 := n0_; have HB := n1_; clear n0_ n1_; (try clear hb); (try clear hb2); (try clear hk); (try clear hi); refine hK.out _ _ ⟨(zF BK106.out 0).trans rfl, (zF BK106.out 1).trans rfl⟩ (fun hHeld => ?_); clear hK K; refine norm_ (a' := ?_) ?_ ?_; rotate_left
        · show Act.put _ (some 46) _ = _
          simp only [Act.put, zH, zI, zJ, i64_w, i32_w]; rfl
        refine pure_ (i := 5) (N := some 47) #[o1, o1, o1, o1, o1, o1, o0, o0, o0, o0, o0, o0] rfl rfl (any_of HT_.out (by kernel_rfl)) (fun _ _ _ h => h) (Or.inl ⟨by rfl, qy⟩) qz ?_; refine pure_ (i := 6) (N := some 48) #[o1, o1, o1, o1, o1, o1, o1, o0, o0, o0, o0, o0] rfl rfl (any_of HT_.out (by kernel_rfl)) (fun _ _ _ h => h) (Or.inl ⟨by rfl, qy⟩) qz ?_; refine pure_ (i := 8) (N := some 50) #[o1, o1, o1, o1, o1, o1, o1, o0, o1, o0, o0, o0] rfl rfl (any_of HT_.out (by kernel_rfl)) (fun _ _ _ h => h) (Or.inl ⟨by rfl, qy⟩) qz ?_; refine pure_ (i := 9) (N := some 51) #[o1, o1, o1, o1, o1, o1, o1, o0, o1, o1, o0, o0] rfl rfl (any_of HT_.out (by kernel_rfl)) (fun _ _ _ h => h) (Or.inl ⟨by rfl, qy⟩) qz ?_; refine take_ (i := 7) (N := some 49) (v := ?_) (a' := ?_) #[o1, o1, o1, o1, o1, o1, o1, o1, o1, o1, o0, o0] rfl rfl (take_ofW HT_.out HW_.out (by kernel_rfl)) (fun _ _ _ h => h) (Or.inl ⟨by rfl, ?_⟩) hHeld ?_ ?_; rotate_left
        · rintro w' ⟨s0, s1⟩
          go_simp; with_reducible rfl
        rotate_left
        · simp only [Act.put, zH, zI, zJ, i64_w, i32_w]
          rfl
        refine pure_ (i := 10) (N := some 52) #[o1, o1, o1, o1, o1, o1, o1, o1, o1, o1, o1, o0] rfl rfl (any_of HT_.out (by kernel_rfl)) (fun _ _ _ h => h) (Or.inl ⟨by rfl, qy⟩) qz ?_; refine pure_ (i := 11) (N := some 53) #[o1, o1, o1, o1, o1, o1, o1, o1, o1, o1, o1, o1] rfl rfl (any_of HT_.out (by kernel_rfl)) (fun _ _ _ h => h) (Or.inl ⟨by rfl, qy⟩) qz ?_; refine done_ (done_of HT_.out (by kernel_rfl)) ?_; obtain ⟨_, _, _, _⟩ := qc2f BK106.out; try go_wp2_with (first | ((with_reducible refine zJq (f := 137) rfl ?_); refine goesL_ (some 61) rfl rfl Try.func137 (by kernel_rfl) rfl #[.int .u64 t104, .int .u64 t105, .int .u64 (IntKind.u64.wrap (a2))] rfl qG ?_; (with_reducible refine (bits_Div64.calls k t104 t105 (IntKind.u64.wrap (a2)) t110 t111 _ A32.out).mono ?_); rintro e w' ⟨rfl, ⟨nd, rfl⟩⟩; refine ⟨_, rfl, ?_⟩))
        go_ret3; exact ⟨qE, qB⟩
      replace c12 := Bool.eq_false_iff.mpr c12; subst c12; have H1 : (some (0, 0, 8)) = some (r1, r2, r3) := by first | (rw [if_neg (show ¬ (false = true) by decide)] at H; exact H) | rfl
      clear H; have H := H1; clear H1; simp only [zNq, zOq] at H; obtain ⟨rfl, rfl, rfl⟩ := H; go_enter Try.func100, Try.ntmps100; go_wp2_with (first | (go_at_call 31; (with_reducible refine (cents_In.calls a0 true _ A7.out).mono ?_); rintro e w' ⟨rfl, ⟨nd, rfl⟩⟩) | (go_at_call 31; (with_reducible refine (cents_In.calls a1 true _ A9.out).mono ?_); rintro e w' ⟨rfl, ⟨nd, rfl⟩⟩) | (go_at_call 31; (with_reducible refine (cents_In.calls a2 false _ A11.out).mono ?_); rintro e w' ⟨rfl, ⟨nd, rfl⟩⟩)); go_ret3; exact ⟨qE, qB⟩
    replace c10 := Bool.eq_false_iff.mpr c10; subst c10; have H1 : (some (0, 0, 8)) = some (r1, r2, r3) := by first | (rw [if_neg (show ¬ (false = true) by decide)] at H; exact H) | rfl
    clear H; have H := H1; clear H1; simp only [zNq, zOq] at H; obtain ⟨rfl, rfl, rfl⟩ := H; go_enter Try.func100, Try.ntmps100; go_wp2_with (first | (go_at_call 31; (with_reducible refine (cents_In.calls a0 true _ A7.out).mono ?_); rintro e w' ⟨rfl, ⟨nd, rfl⟩⟩) | (go_at_call 31; (with_reducible refine (cents_In.calls a1 false _ A9.out).mono ?_); rintro e w' ⟨rfl, ⟨nd, rfl⟩⟩)); go_ret3; exact ⟨qE, qB⟩
  replace c8 := Bool.eq_false_iff.mpr c8
  subst c8
  have H1 : (some (0, 0, 8)) = some (r1, r2, r3) := by first | (rw [if_neg (show ¬ (false = true) by decide)] at H; exact H) | rfl
  clear H
  have H := H1
  clear H1
  simp only [zNq, zOq] at H
  obtain ⟨rfl, rfl, rfl⟩ := H
  go_enter Try.func100, Try.ntmps100
  go_wp2_with (first | (go_at_call 31; (with_reducible refine (cents_In.calls a0 false _ A7.out).mono ?_); rintro e w' ⟨rfl, ⟨nd, rfl⟩⟩))
  go_ret3
  exact ⟨qE, qB⟩
def cents_told.f (a0 : Int) : Option (Int × Int) := (cents_In.f a0).bind fun t101 => (if t101 = true then (some (a0, 0)) else (some (0, 8)))
set_option maxHeartbeats 8000000 in
set_option maxRecDepth 100000 in
theorem cents_told.calls (a0 : Int) (r1 : Int) (r2 : Int) (w : World) (h : cents_told.f a0 = some (r1, r2)) :
    Calls Try.prog 96 #[.int .i64 a0] w fun e w' => e = .returned (.tuple #[.int .i64 r1, .int .i64 r2]) ∧ Drawn0 w w' := by
  have H : ((cents_In.f a0).bind fun t101 => (if t101 = true then (some (a0, 0)) else (some (0, 8)))) = some (r1, r2) := h
  clear h
  replace H := Option.bind_eq_some_iff.mp H
  obtain ⟨t101, A20, H⟩ := H
  try dsimp only at H
  have A2 := zA A20
  clear A20
  by_cases c3 : t101 = true
  · subst c3
    have H1 : (some (a0, 0)) = some (r1, r2) := by first | (rw [if_pos rfl] at H; exact H) | rfl
    clear H; have H := H1; clear H1; simp only [zNq, zOq] at H; obtain ⟨rfl, rfl⟩ := H; go_enter Try.func96, Try.ntmps96; go_wp2_with (first | ((with_reducible refine zJq (f := 31) rfl ?_); refine goesL_ (some 5) rfl rfl Try.func31 (by kernel_rfl) rfl #[.int .i64 a0] rfl qG ?_; (with_reducible refine (cents_In.calls a0 true _ A2.out).mono ?_); rintro e w' ⟨rfl, ⟨nd, rfl⟩⟩; refine ⟨_, rfl, ?_⟩)); go_ret2; exact ⟨by first | rfl | (simp; done) | (simp [*]; done), by repeat (first | exact Drawn0.refl _ | apply Drawn0.step)⟩
  replace c3 := Bool.eq_false_iff.mpr c3
  subst c3
  have H1 : (some (0, 8)) = some (r1, r2) := by first | (rw [if_neg (show ¬ (false = true) by decide)] at H; exact H) | rfl
  clear H
  have H := H1
  clear H1
  simp only [zNq, zOq] at H
  obtain ⟨rfl, rfl⟩ := H
  go_enter Try.func96, Try.ntmps96
  go_wp2_with (first | ((with_reducible refine zJq (f := 31) rfl ?_); refine goesL_ (some 5) rfl rfl Try.func31 (by kernel_rfl) rfl #[.int .i64 a0] rfl qG ?_; (with_reducible refine (cents_In.calls a0 false _ A2.out).mono ?_); rintro e w' ⟨rfl, ⟨nd, rfl⟩⟩; refine ⟨_, rfl, ?_⟩))
  go_ret2
  exact ⟨by first | rfl | (simp; done) | (simp [*]; done), by repeat (first | exact Drawn0.refl _ | apply Drawn0.step)⟩
def cents_Floor.f (k : Nat) (a0 : Int) (a1 : Int) (a2 : Int) : Option (Int × Int) := (cents_divided.f k a0 a1 a2).bind fun bt101 => (if bt101.2.2 = 0 then ((cents_told.f bt101.1).bind fun bt104 => (some (bt104.1, bt104.2))) else (some (0, bt101.2.2)))
theorem cents_Floor.mono : ∀ a0 a1 a2 k, LeO (cents_Floor.f k a0 a1 a2) (cents_Floor.f (k + 1) a0 a1 a2) := by
  intro a0 a1 a2 k
  unfold cents_Floor.f
  repeat' (with_reducible first | exact cents_divided.mono _ _ _ _ | exact LeO.refl _ | exact LeO.none _ | refine LeO.ite ?_ ?_ | refine LeO.bind ?_ (fun _ => ?_))
set_option maxHeartbeats 8000000 in
set_option maxRecDepth 100000 in
theorem cents_Floor.calls (k : Nat) (a0 : Int) (a1 : Int) (a2 : Int) (r1 : Int) (r2 : Int) (w : World) (h : cents_Floor.f k a0 a1 a2 = some (r1, r2)) :
    Calls Try.prog 33 #[.int .i64 a0, .int .i64 a1, .int .i64 a2] w fun e w' => e = .returned (.tuple #[.int .i64 r1, .int .i64 r2]) ∧ Below w.heap.size w w' := by
  have HB := zA (Below.refl w.heap.size w)
  have H : ((cents_divided.f k a0 a1 a2).bind fun bt101 => (if bt101.2.2 = 0 then ((cents_told.f bt101.1).bind fun bt104 => (some (bt104.1, bt104.2))) else (some (0, bt101.2.2)))) = some (r1, r2) := h
  clear h
  replace H := Option.bind_eq_some_iff.mp H
  obtain ⟨⟨t101, t102, t103⟩, A40, H⟩ := H
  try dsimp only at H
  have A4 := zA A40
  clear A40
  by_cases c5 : t103 = 0
  · rw [if_pos c5] at H
    have c5b0 : (t103 == 0) = true := beq_iff_eq.mpr c5; have c5b1 : (t103 != 0) = false := bne_eq_false_iff_eq.mpr c5; clear c5; replace H := Option.bind_eq_some_iff.mp H; obtain ⟨⟨t104, t105⟩, A60, H⟩ := H; try dsimp only at H
    have A6 := zA A60; clear A60; simp only [zNq, zOq] at H; obtain ⟨rfl, rfl⟩ := H; go_enter Try.func33, Try.ntmps33; go_wp2_with (first | ((with_reducible refine zJq (f := 100) rfl ?_); refine goesL_ (some 15) rfl rfl Try.func100 (by kernel_rfl) rfl #[.int .i64 a0, .int .i64 a1, .int .i64 a2] rfl qG ?_; (with_reducible refine (cents_divided.calls k a0 a1 a2 t101 t102 t103 _ A4.out).mono ?_); rintro e w7 ⟨rfl, hb⟩; refine ⟨_, rfl, ?_⟩; have n0_ := zA (zV qB hb); clear HB; have HB := n0_; clear n0_; (try clear hb)) | ((with_reducible refine zJq (f := 96) rfl ?_); refine goesL_ (some 23) rfl rfl Try.func96 (by kernel_rfl) rfl #[.int .i64 t101] rfl qG ?_; (with_reducible refine (cents_told.calls t101 t104 t105 _ A6.out).mono ?_); rintro e w' ⟨rfl, ⟨nd, rfl⟩⟩; refine ⟨_, rfl, ?_⟩)); go_ret2; exact ⟨qE, qB⟩
  rw [if_neg c5] at H
  have c5b0 : (t103 == 0) = false := beq_eq_false_iff_ne.mpr c5
  have c5b1 : (t103 != 0) = true := bne_iff_ne.mpr c5
  simp only [zNq, zOq] at H
  obtain ⟨rfl, rfl⟩ := H
  go_enter Try.func33, Try.ntmps33
  go_wp2_with (first | ((with_reducible refine zJq (f := 100) rfl ?_); refine goesL_ (some 15) rfl rfl Try.func100 (by kernel_rfl) rfl #[.int .i64 a0, .int .i64 a1, .int .i64 a2] rfl qG ?_; (with_reducible refine (cents_divided.calls k a0 a1 a2 t101 t102 t103 _ A4.out).mono ?_); rintro e w8 ⟨rfl, hb⟩; refine ⟨_, rfl, ?_⟩; have n0_ := zA (zV qB hb); clear HB; have HB := n0_; clear n0_; (try clear hb)))
  go_ret2
  exact ⟨qE, qB⟩
def cents_Rest.f (k : Nat) (a0 : Int) (a1 : Int) (a2 : Int) : Option (Int × Int) := (cents_divided.f k a0 a1 a2).bind fun bt101 => (if bt101.2.2 = 0 then ((cents_told.f bt101.1).bind fun bt104 => (if bt104.2 = 0 then (some (bt101.2.1, 0)) else (some (0, bt104.2)))) else (some (0, bt101.2.2)))
theorem cents_Rest.mono : ∀ a0 a1 a2 k, LeO (cents_Rest.f k a0 a1 a2) (cents_Rest.f (k + 1) a0 a1 a2) := by
  intro a0 a1 a2 k
  unfold cents_Rest.f
  repeat' (with_reducible first | exact cents_divided.mono _ _ _ _ | exact LeO.refl _ | exact LeO.none _ | refine LeO.ite ?_ ?_ | refine LeO.bind ?_ (fun _ => ?_))
set_option maxHeartbeats 8000000 in
set_option maxRecDepth 100000 in
theorem cents_Rest.calls (k : Nat) (a0 : Int) (a1 : Int) (a2 : Int) (r1 : Int) (r2 : Int) (w : World) (h : cents_Rest.f k a0 a1 a2 = some (r1, r2)) :
    Calls Try.prog 37 #[.int .i64 a0, .int .i64 a1, .int .i64 a2] w fun e w' => e = .returned (.tuple #[.int .i64 r1, .int .i64 r2]) ∧ Below w.heap.size w w' := by
  have HB := zA (Below.refl w.heap.size w)
  have H : ((cents_divided.f k a0 a1 a2).bind fun bt101 => (if bt101.2.2 = 0 then ((cents_told.f bt101.1).bind fun bt104 => (if bt104.2 = 0 then (some (bt101.2.1, 0)) else (some (0, bt104.2)))) else (some (0, bt101.2.2)))) = some (r1, r2) := h
  clear h
  replace H := Option.bind_eq_some_iff.mp H
  obtain ⟨⟨t101, t102, t103⟩, A40, H⟩ := H
  try dsimp only at H
  have A4 := zA A40
  clear A40
  by_cases c5 : t103 = 0
  · rw [if_pos c5] at H
    have c5b0 : (t103 == 0) = true := beq_iff_eq.mpr c5; have c5b1 : (t103 != 0) = false := bne_eq_false_iff_eq.mpr c5; clear c5; replace H := Option.bind_eq_some_iff.mp H; obtain ⟨⟨t104, t105⟩, A60, H⟩ := H; try dsimp only at H
    have A6 := zA A60; clear A60; by_cases c7 : t105 = 0
    · rw [if_pos c7] at H
      have c7b0 : (t105 == 0) = true := beq_iff_eq.mpr c7; have c7b1 : (t105 != 0) = false := bne_eq_false_iff_eq.mpr c7; clear c7; simp only [zNq, zOq] at H; obtain ⟨rfl, rfl⟩ := H; go_enter Try.func37, Try.ntmps37; go_wp2_with (first | ((with_reducible refine zJq (f := 100) rfl ?_); refine goesL_ (some 17) rfl rfl Try.func100 (by kernel_rfl) rfl #[.int .i64 a0, .int .i64 a1, .int .i64 a2] rfl qG ?_; (with_reducible refine (cents_divided.calls k a0 a1 a2 t101 t102 t103 _ A4.out).mono ?_); rintro e w8 ⟨rfl, hb⟩; refine ⟨_, rfl, ?_⟩; have n0_ := zA (zV qB hb); clear HB; have HB := n0_; clear n0_; (try clear hb)) | ((with_reducible refine zJq (f := 96) rfl ?_); refine goesL_ (some 26) rfl rfl Try.func96 (by kernel_rfl) rfl #[.int .i64 t101] rfl qG ?_; (with_reducible refine (cents_told.calls t101 t104 t105 _ A6.out).mono ?_); rintro e w' ⟨rfl, ⟨nd, rfl⟩⟩; refine ⟨_, rfl, ?_⟩)); go_ret2; exact ⟨qE, qB⟩
    rw [if_neg c7] at H; have c7b0 : (t105 == 0) = false := beq_eq_false_iff_ne.mpr c7; have c7b1 : (t105 != 0) = true := bne_iff_ne.mpr c7; simp only [zNq, zOq] at H; obtain ⟨rfl, rfl⟩ := H; go_enter Try.func37, Try.ntmps37; go_wp2_with (first | ((with_reducible refine zJq (f := 100) rfl ?_); refine goesL_ (some 17) rfl rfl Try.func100 (by kernel_rfl) rfl #[.int .i64 a0, .int .i64 a1, .int .i64 a2] rfl qG ?_; (with_reducible refine (cents_divided.calls k a0 a1 a2 t101 t102 t103 _ A4.out).mono ?_); rintro e w9 ⟨rfl, hb⟩; refine ⟨_, rfl, ?_⟩; have n0_ := zA (zV qB hb); clear HB; have HB := n0_; clear n0_; (try clear hb)) | ((with_reducible refine zJq (f := 96) rfl ?_); refine goesL_ (some 26) rfl rfl Try.func96 (by kernel_rfl) rfl #[.int .i64 t101] rfl qG ?_; (with_reducible refine (cents_told.calls t101 t104 t105 _ A6.out).mono ?_); rintro e w' ⟨rfl, ⟨nd, rfl⟩⟩; refine ⟨_, rfl, ?_⟩)); go_ret2; exact ⟨qE, qB⟩
  rw [if_neg c5] at H
  have c5b0 : (t103 == 0) = false := beq_eq_false_iff_ne.mpr c5
  have c5b1 : (t103 != 0) = true := bne_iff_ne.mpr c5
  simp only [zNq, zOq] at H
  obtain ⟨rfl, rfl⟩ := H
  go_enter Try.func37, Try.ntmps37
  go_wp2_with (first | ((with_reducible refine zJq (f := 100) rfl ?_); refine goesL_ (some 17) rfl rfl Try.func100 (by kernel_rfl) rfl #[.int .i64 a0, .int .i64 a1, .int .i64 a2] rfl qG ?_; (with_reducible refine (cents_divided.calls k a0 a1 a2 t101 t102 t103 _ A4.out).mono ?_); rintro e w10 ⟨rfl, hb⟩; refine ⟨_, rfl, ?_⟩; have n0_ := zA (zV qB hb); clear HB; have HB := n0_; clear n0_; (try clear hb)))
  go_ret2
  exact ⟨qE, qB⟩
def share_parts.l0 : Nat → Int → Int → List Int → List Int → Int → List Int → Int → Int → Option (List Int × List Int × Int × Int)
  | 0, _, _, _, _, _, _, _, _ => none
  | k + 1, x0, x1, x6, x7, x8, x16, x17, x18 => if x18 < x17 then (if 0 ≤ x18 then (if x18 < (x16.length : Int) then ((cents_Floor.f k x0 (rd x16 x18) x1).bind fun bt102 => (if bt102.2 = 0 then ((cents_Rest.f k x0 (rd x16 x18) x1).bind fun bt104 => (if bt104.2 = 0 then (if x6.length < 17592186044416 then (if x7.length < 17592186044416 then (share_parts.l0 k x0 x1 (x6 ++ [bt102.1]) (x7 ++ [bt104.1]) (wrap64 (x8 - bt102.1)) x16 x17 (wrap64 (x18 + 1))) else (none)) else (none)) else (some (([] : List Int), ([] : List Int), 0, bt104.2)))) else (some (([] : List Int), ([] : List Int), 0, bt102.2)))) else (none)) else (none)) else (some (x6, x7, x8, 0))
def share_parts.f (k : Nat) (a0 : Int) (a1 : Int) (l2 : List Int) : Option (List Int × List Int × Int × Int) := share_parts.l0 k a0 a1 ([] : List Int) ([] : List Int) a0 l2 (l2.length : Int) 0
theorem share_parts.mono_l : ∀ k, (∀ y0 y1 y2 y3 y4 y5 y6 y7, LeO (share_parts.l0 k y0 y1 y2 y3 y4 y5 y6 y7) (share_parts.l0 (k + 1) y0 y1 y2 y3 y4 y5 y6 y7))
  | 0 => fun _ _ _ _ _ _ _ _ r h => by simp [share_parts.l0] at h
  | k + 1 => by
    have ih0 := share_parts.mono_l k
    intro y0 y1 y2 y3 y4 y5 y6 y7
    unfold share_parts.l0
    repeat' (with_reducible first | exact ih0 _ _ _ _ _ _ _ _ | exact cents_Floor.mono _ _ _ _ | exact cents_Rest.mono _ _ _ _ | exact LeO.refl _ | exact LeO.none _ | refine LeO.ite ?_ ?_ | refine LeO.bind ?_ (fun _ => ?_))
theorem share_parts.mono : ∀ a0 a1 a2 k, LeO (share_parts.f k a0 a1 a2) (share_parts.f (k + 1) a0 a1 a2) := by
  intro a0 a1 a2 k
  have ih0 := share_parts.mono_l k
  unfold share_parts.f
  repeat' (with_reducible first | exact ih0 _ _ _ _ _ _ _ _ | exact cents_Floor.mono _ _ _ _ | exact cents_Rest.mono _ _ _ _ | exact LeO.refl _ | exact LeO.none _ | refine LeO.ite ?_ ?_ | refine LeO.bind ?_ (fun _ => ?_))
set_option maxHeartbeats 8000000 in
set_option maxRecDepth 100000 in
theorem share_parts.calls (k : Nat) (a0 : Int) (a1 : Int) (A2 : Option Addr) (c2 : Nat) (l2 : List Int) (r1 : List Int) (r2 : List Int) (r3 : Int) (r4 : Int) (w : World) (hr2 : Kd.C (Kd.int .i64) w A2 l2.length l2) (hc2 : l2.length ≤ c2) (h : share_parts.f k a0 a1 l2 = some (r1, r2, r3, r4)) :
    Calls Try.prog 107 #[.int .i64 a0, .int .i64 a1, .slice A2 l2.length c2] w fun e w' => ∃ v0_ v1_ : Value, e = .returned (.tuple #[v0_, v1_, .int .i64 r3, .int .i64 r4]) ∧ Kd.R (Kd.int .i64) 3 w' w.heap.size (fun k_ => some k_ ≠ (v1_ : Value).ownBlock) v0_ r1 ∧ Kd.R (Kd.int .i64) 3 w' w.heap.size (fun k_ => some k_ ≠ (v0_ : Value).ownBlock) v1_ r2 ∧ Below w.heap.size w w' := by
  have HR2 := zA hr2
  have HC2 := zA hc2
  clear hr2 hc2
  have HB := zA (Below.refl w.heap.size w)
  have H : (share_parts.l0 k a0 a1 ([] : List Int) ([] : List Int) a0 l2 (l2.length : Int) 0) = some (r1, r2, r3, r4) := h
  clear h
  have H' := zA H
  clear H
  go_enter Try.func107, Try.ntmps107
  go_wp2
  go_loopg [6, 7, 8, 18] k (fun kq v6 v7 v8 v18 w' => ∃ (x6_1 : List Int) (x7_1 : List Int) (x8_1 : Int) (x18_1 : Int), v8 = .int .i64 x8_1 ∧ v18 = .int .i64 x18_1 ∧ Aside0 (share_parts.l0 kq a0 a1 x6_1 x7_1 x8_1 l2 (l2.length : Int) x18_1 = some (r1, r2, r3, r4)) ∧ Aside0 (kq ≤ k) ∧ Aside0 (Kd.R (Kd.int .i64) 3 w' w.heap.size (fun k_ => some k_ ≠ (v7 : Value).ownBlock) v6 x6_1) ∧ Aside0 (Kd.R (Kd.int .i64) 3 w' w.heap.size (fun k_ => some k_ ≠ (v6 : Value).ownBlock) v7 x7_1) ∧ Aside0 (Below w.heap.size w w'))
  case atStart => exact ⟨(([] : List Int)), (([] : List Int)), (a0), (0), (by first | rfl | (simp; done) | (simp [*]; done)), (by first | rfl | (simp; done) | (simp [*]; done)), H', ⟨Nat.le_refl _⟩, ⟨qN⟩, ⟨qN⟩, ⟨qB⟩⟩
  case round =>
    clear H'; try clear c1
    try clear c2
    try clear p2
    obtain ⟨x6_1, x7_1, x8_1, x18_1, rfl, rfl, HA, HK1, HO_6, HO_7, HB⟩ := hrel; cases gk with
    | zero => exact absurd HA.out (by simp [share_parts.l0])
    | succ k1 =>
      have H := HA.out; clear HA; simp only [share_parts.l0] at H; by_cases c4 : x18_1 < (l2.length : Int)
      · rw [if_pos c4] at H
        have c4b0 : decide (x18_1 < (l2.length : Int)) = true := zFq c4; clear c4; by_cases c5 : 0 ≤ x18_1
        · rw [if_pos c5] at H
          have c5b0 : decide (0 ≤ x18_1) = true := zFq c5; clear c5; by_cases c6 : x18_1 < (l2.length : Int)
          · rw [if_pos c6] at H
            have c6b0 : decide (x18_1 < (l2.length : Int)) = true := zFq c6; clear c6; replace H := Option.bind_eq_some_iff.mp H; obtain ⟨⟨t102, t103⟩, A70, H⟩ := H; try dsimp only at H
            have A7 := zA A70; clear A70; by_cases c8 : t103 = 0
            · rw [if_pos c8] at H
              have c8b0 : (t103 == 0) = true := beq_iff_eq.mpr c8; have c8b1 : (t103 != 0) = false := bne_eq_false_iff_eq.mpr c8; clear c8; replace H := Option.bind_eq_some_iff.mp H; obtain ⟨⟨t104, t105⟩, A90, H⟩ := H; try dsimp only at H
              have A9 := zA A90; clear A90; by_cases c10 : t105 = 0
              · rw [if_pos c10] at H
                have c10b0 : (t105 == 0) = true := beq_iff_eq.mpr c10; have c10b1 : (t105 != 0) = false := bne_eq_false_iff_eq.mpr c10; clear c10; by_cases c11 : x6_1.length < 17592186044416
                · rw [if_pos c11] at H
                  have LMc11 := zA c11; clear c11; obtain ⟨y106, hy106⟩ : ∃ y_ : List Int, y_ = (x6_1 ++ [t102]) := ⟨_, rfl⟩
                  replace H : (if x7_1.length < 17592186044416 then (share_parts.l0 k1 a0 a1 y106 (x7_1 ++ [t104]) (wrap64 (x8_1 - t102)) l2 (l2.length : Int) (wrap64 (x18_1 + 1))) else (none)) = some (r1, r2, r3, r4) := by first | (rw [hy106]; with_reducible exact H) | (have H2_ := (Option.bind_some _ _).symm.trans H; rw [hy106]; with_reducible exact H2_) | (have H2_ := (Option.bind_some _ _).symm.trans H; with_reducible exact H2_) | with_reducible exact H | (rw [hy106]; exact H) | exact H
                  have Ny106 := zA hy106; clear hy106; by_cases c12 : x7_1.length < 17592186044416
                  · rw [if_pos c12] at H
                    have LMc12 := zA c12; clear c12; obtain ⟨y109, hy109⟩ : ∃ y_ : List Int, y_ = (x7_1 ++ [t104]) := ⟨_, rfl⟩
                    replace H : (share_parts.l0 k1 a0 a1 y106 y109 (wrap64 (x8_1 - t102)) l2 (l2.length : Int) (wrap64 (x18_1 + 1))) = some (r1, r2, r3, r4) := by first | (rw [hy109]; with_reducible exact H) | (have H2_ := (Option.bind_some _ _).symm.trans H; rw [hy109]; with_reducible exact H2_) | (have H2_ := (Option.bind_some _ _).symm.trans H; with_reducible exact H2_) | with_reducible exact H | (rw [hy109]; exact H) | exact H
                    have Ny109 := zA hy109; clear hy109; have H' := zA H; clear H; have p101 : 0 ≤ (x18_1 : Int) := of_decide_eq_true qA; have q101 : x18_1 < (l2.length : Int) := of_decide_eq_true qA; obtain ⟨ad101, e101, hx101_0⟩ := Kd.at_int HR2.out x18_1 p101 q101; cases e101
                    replace hx101_0 := (HB.out.cell (zCq w _ hx101_0)).trans hx101_0; replace p101 := eq_true p101; replace q101 := eq_true q101; go_wp2_with (first | ((with_reducible refine zJq (f := 33) rfl ?_); refine goesL_ (some 26) rfl rfl Try.func33 (by kernel_rfl) rfl #[.int .i64 a0, .int .i64 (rd l2 x18_1), .int .i64 a1] rfl qG ?_; (with_reducible refine (cents_Floor.calls k1 a0 (rd l2 x18_1) a1 t102 t103 _ A7.out).mono ?_); rintro e w13 ⟨rfl, hb⟩; refine ⟨_, rfl, ?_⟩; have n0_ := zA (Kd.R_below (by (with_reducible repeat (first | apply Kd.R_alloc | apply Kd.R_drewN | apply Kd.R_drew)); exact HO_6.out) hb); have n1_ := zA (Kd.R_below (by (with_reducible repeat (first | apply Kd.R_alloc | apply Kd.R_drewN | apply Kd.R_drew)); exact HO_7.out) hb); have n2_ := zA (zV qB hb); clear HO_6 HO_7 HB; have HO_6 := n0_; have HO_7 := n1_; have HB := n2_; clear n0_ n1_ n2_; (try clear hb)) | ((with_reducible refine zJq (f := 37) rfl ?_); refine goesL_ (some 36) rfl rfl Try.func37 (by kernel_rfl) rfl #[.int .i64 a0, .int .i64 (rd l2 x18_1), .int .i64 a1] rfl qG ?_; (with_reducible refine (cents_Rest.calls k1 a0 (rd l2 x18_1) a1 t104 t105 _ A9.out).mono ?_); rintro e w14 ⟨rfl, hb⟩; refine ⟨_, rfl, ?_⟩; have n0_ := zA (Kd.R_below (by (with_reducible repeat (first | apply Kd.R_alloc | apply Kd.R_drewN | apply Kd.R_drew)); exact HO_6.out) hb); have n1_ := zA (Kd.R_below (by (with_reducible repeat (first | apply Kd.R_alloc | apply Kd.R_drewN | apply Kd.R_drew)); exact HO_7.out) hb); have n2_ := zA (zV qB hb); clear HO_6 HO_7 HB; have HO_6 := n0_; have HO_7 := n1_; have HB := n2_; clear n0_ n1_ n2_; (try clear hb)) | ((with_reducible refine gate_builtin (b := .append) (xs := #[.tmp 42, .tmp 44]) rfl ?_); at_builtin; refine Kd.R_append (Kd.int .i64) (w0 := w) w.heap.size rfl (.tmp 42) (.tmp 44) 22 3 (.int .i64 0) 8 rfl Try.underlying22 info3 rfl (by decide) (by omega) u6 x6_1 t102 [.int .i64 t102] (fun k_ => some k_ ≠ (u7 : Value).ownBlock) (fun _ => False) rfl rfl ?aP (fun _ hk => hk.elim) ?aF ?aO ?aB ?aS ?aL ?_; (case aP => exact rfl); (case aB => exact qB); (case aF => exact (fun k_ hk => Kd.fresh' (Kd.R_lt (by (with_reducible repeat (first | apply Kd.R_alloc | apply Kd.R_drewN | apply Kd.R_drew)); exact HO_7.out)) k_ hk)); (case aO => exact (by (with_reducible repeat (first | apply Kd.R_alloc | apply Kd.R_drewN | apply Kd.R_drew)); exact HO_6.out)); (case aS => exact (zW qB)); (case aL => have := LMc11.out; omega); intro v107 w15 ho hb hg hat; rw [← Ny106.out] at ho; have n0_ := zA (Kd.R_after (ok := (fun _ => True)) (by (with_reducible repeat (first | apply Kd.R_alloc | apply Kd.R_drewN | apply Kd.R_drew)); exact Kd.R_mono HO_7.out (fun _ hk => ⟨trivial, hk⟩)) hg hat); have n1_ := zA (hb); have n2_ := zA (ho); clear HO_7 HB HO_6; have HO_7 := n0_; have HB := n1_; have HO108 := n2_; clear n0_ n1_ n2_ ho hb hg hat) | ((with_reducible refine gate_builtin (b := .append) (xs := #[.tmp 46, .tmp 48]) rfl ?_); at_builtin; refine Kd.R_append (Kd.int .i64) (w0 := w) w.heap.size rfl (.tmp 46) (.tmp 48) 22 3 (.int .i64 0) 8 rfl Try.underlying22 info3 rfl (by decide) (by omega) u7 x7_1 t104 [.int .i64 t104] (fun k_ => some k_ ≠ (v107 : Value).ownBlock) (fun _ => False) rfl rfl ?aP (fun _ hk => hk.elim) ?aF ?aO ?aB ?aS ?aL ?_; (case aP => exact rfl); (case aB => exact qB); (case aF => exact (fun k_ hk => Kd.fresh' (Kd.R_lt (by (with_reducible repeat (first | apply Kd.R_alloc | apply Kd.R_drewN | apply Kd.R_drew)); exact HO108.out)) k_ hk)); (case aO => exact (by (with_reducible repeat (first | apply Kd.R_alloc | apply Kd.R_drewN | apply Kd.R_drew)); exact Kd.R_mono HO_7.out (fun _ hk => hk.2))); (case aS => exact (zW qB)); (case aL => have := LMc12.out; omega); intro v110 w16 ho hb hg hat; rw [← Ny109.out] at ho; have n0_ := zA (Kd.R_after (ok := (fun _ => True)) (by (with_reducible repeat (first | apply Kd.R_alloc | apply Kd.R_drewN | apply Kd.R_drew)); exact Kd.R_mono HO108.out (fun _ hk => ⟨trivial, hk⟩)) hg hat); have n1_ := zA (hb); have n2_ := zA (ho); clear HO108 HB HO_7; have HO108 := n0_; have HB := n1_; have HO111 := n2_; clear n0_ n1_ n2_ ho hb hg hat))
                    go_roundg k1
                    case measure => have := HK1.out; omega
                    case rel => exact ⟨(y106), (y109), (wrap64 (x8_1 - t102)), (wrap64 (x18_1 + 1)), (by first | rfl | (simp; done) | (simp [*]; done)), (by first | rfl | (simp; done) | (simp [*]; done)), H', ⟨by have := HK1.out; omega⟩, ⟨by (with_reducible repeat (first | apply Kd.R_alloc | apply Kd.R_drewN | apply Kd.R_drew)); exact Kd.R_mono HO108.out (fun _ hk => hk.2)⟩, ⟨by (with_reducible repeat (first | apply Kd.R_alloc | apply Kd.R_drewN | apply Kd.R_drew)); exact HO111.out⟩, ⟨qB⟩⟩
                  rw [if_neg c12] at H; exact absurd H (by simp)
                rw [if_neg c11] at H; exact absurd H (by simp)
              rw [if_neg c10] at H; have c10b0 : (t105 == 0) = false := beq_eq_false_iff_ne.mpr c10; have c10b1 : (t105 != 0) = true := bne_iff_ne.mpr c10; simp only [zNq, zOq] at H; obtain ⟨rfl, rfl, rfl, rfl⟩ := H; have p101 : 0 ≤ (x18_1 : Int) := of_decide_eq_true qA; have q101 : x18_1 < (l2.length : Int) := of_decide_eq_true qA; obtain ⟨ad101, e101, hx101_0⟩ := Kd.at_int HR2.out x18_1 p101 q101; cases e101
              replace hx101_0 := (HB.out.cell (zCq w _ hx101_0)).trans hx101_0; replace p101 := eq_true p101; replace q101 := eq_true q101; go_wp2_with (first | ((with_reducible refine zJq (f := 33) rfl ?_); refine goesL_ (some 26) rfl rfl Try.func33 (by kernel_rfl) rfl #[.int .i64 a0, .int .i64 (rd l2 x18_1), .int .i64 a1] rfl qG ?_; (with_reducible refine (cents_Floor.calls k1 a0 (rd l2 x18_1) a1 t102 t103 _ A7.out).mono ?_); rintro e w17 ⟨rfl, hb⟩; refine ⟨_, rfl, ?_⟩; have n0_ := zA (Kd.R_below (by (with_reducible repeat (first | apply Kd.R_alloc | apply Kd.R_drewN | apply Kd.R_drew)); exact HO_6.out) hb); have n1_ := zA (Kd.R_below (by (with_reducible repeat (first | apply Kd.R_alloc | apply Kd.R_drewN | apply Kd.R_drew)); exact HO_7.out) hb); have n2_ := zA (zV qB hb); clear HO_6 HO_7 HB; have HO_6 := n0_; have HO_7 := n1_; have HB := n2_; clear n0_ n1_ n2_; (try clear hb)) | ((with_reducible refine zJq (f := 37) rfl ?_); refine goesL_ (some 36) rfl rfl Try.func37 (by kernel_rfl) rfl #[.int .i64 a0, .int .i64 (rd l2 x18_1), .int .i64 a1] rfl qG ?_; (with_reducible refine (cents_Rest.calls k1 a0 (rd l2 x18_1) a1 t104 t105 _ A9.out).mono ?_); rintro e w18 ⟨rfl, hb⟩; refine ⟨_, rfl, ?_⟩; have n0_ := zA (Kd.R_below (by (with_reducible repeat (first | apply Kd.R_alloc | apply Kd.R_drewN | apply Kd.R_drew)); exact HO_6.out) hb); have n1_ := zA (Kd.R_below (by (with_reducible repeat (first | apply Kd.R_alloc | apply Kd.R_drewN | apply Kd.R_drew)); exact HO_7.out) hb); have n2_ := zA (zV qB hb); clear HO_6 HO_7 HB; have HO_6 := n0_; have HO_7 := n1_; have HB := n2_; clear n0_ n1_ n2_; (try clear hb))); refine bodyPost_ret (results_list (rs := [.tmp 6, .tmp 7, .tmp 8, .tmp 9]) rfl (by simp) (.tmp (.tmp (.tmp (.tmp .nil))))) rfl ?_; exact ⟨_, _, qE, qN, qN, qB⟩
            rw [if_neg c8] at H; have c8b0 : (t103 == 0) = false := beq_eq_false_iff_ne.mpr c8; have c8b1 : (t103 != 0) = true := bne_iff_ne.mpr c8; simp only [zNq, zOq] at H; obtain ⟨rfl, rfl, rfl, rfl⟩ := H; have p101 : 0 ≤ (x18_1 : Int) := of_decide_eq_true qA; have q101 : x18_1 < (l2.length : Int) := of_decide_eq_true qA; obtain ⟨ad101, e101, hx101_0⟩ := Kd.at_int HR2.out x18_1 p101 q101; cases e101
            replace hx101_0 := (HB.out.cell (zCq w _ hx101_0)).trans hx101_0; replace p101 := eq_true p101; replace q101 := eq_true q101; go_wp2_with (first | ((with_reducible refine zJq (f := 33) rfl ?_); refine goesL_ (some 26) rfl rfl Try.func33 (by kernel_rfl) rfl #[.int .i64 a0, .int .i64 (rd l2 x18_1), .int .i64 a1] rfl qG ?_; (with_reducible refine (cents_Floor.calls k1 a0 (rd l2 x18_1) a1 t102 t103 _ A7.out).mono ?_); rintro e w19 ⟨rfl, hb⟩; refine ⟨_, rfl, ?_⟩; have n0_ := zA (Kd.R_below (by (with_reducible repeat (first | apply Kd.R_alloc | apply Kd.R_drewN | apply Kd.R_drew)); exact HO_6.out) hb); have n1_ := zA (Kd.R_below (by (with_reducible repeat (first | apply Kd.R_alloc | apply Kd.R_drewN | apply Kd.R_drew)); exact HO_7.out) hb); have n2_ := zA (zV qB hb); clear HO_6 HO_7 HB; have HO_6 := n0_; have HO_7 := n1_; have HB := n2_; clear n0_ n1_ n2_; (try clear hb))); refine bodyPost_ret (results_list (rs := [.tmp 6, .tmp 7, .tmp 8, .tmp 9]) rfl (by simp) (.tmp (.tmp (.tmp (.tmp .nil))))) rfl ?_; exact ⟨_, _, qE, qN, qN, qB⟩
          rw [if_neg c6] at H; exact absurd H (by simp)
        rw [if_neg c5] at H; exact absurd H (by simp)
      rw [if_neg c4] at H; have c4b0 : decide (x18_1 < (l2.length : Int)) = false := zGq c4; clear c4; simp only [zNq, zOq] at H; obtain ⟨rfl, rfl, rfl, rfl⟩ := H; go_wp2; refine bodyPost_ret (results_list (rs := [.tmp 6, .tmp 7, .tmp 8, .tmp 9]) rfl (by simp) (.tmp (.tmp (.tmp (.tmp .nil))))) rfl ?_; exact ⟨_, _, qE, by (with_reducible repeat (first | apply Kd.R_alloc | apply Kd.R_drewN | apply Kd.R_drew)); exact HO_6.out, by (with_reducible repeat (first | apply Kd.R_alloc | apply Kd.R_drewN | apply Kd.R_drew)); exact HO_7.out, qB⟩
mutual
def share_Whole.j0 : Nat → List Int → Bool → Option (Int × Int)
  | 0, _, _ => none
  | k + 1, x0, x15 => if x15 = true then (some (0, 2)) else (share_Whole.l0 k x0 x0 (x0.length : Int) 0)
def share_Whole.l0 : Nat → List Int → List Int → Int → Int → Option (Int × Int)
  | 0, _, _, _, _ => none
  | k + 1, x0, x16, x17, x18 => if x18 < x17 then (if 0 ≤ x18 then (if x18 < (x16.length : Int) then (if (rd x16 x18) < 0 then (some (0, 8)) else (share_Whole.l0 k x0 x16 x17 (wrap64 (x18 + 1)))) else (none)) else (none)) else ((cents_Add.f k x0).bind fun bt102 => (if bt102.2 = 0 then (if bt102.1 = 0 then (some ((x0.length : Int), 0)) else (some (bt102.1, 0))) else (some (0, bt102.2))))
end
def share_Whole.f (k : Nat) (l0 : List Int) : Option (Int × Int) := if (l0.length : Int) < 1 then (share_Whole.j0 k l0 true) else (share_Whole.j0 k l0 (decide ((l0.length : Int) > 200)))
theorem share_Whole.mono_l : ∀ k, (∀ y0 y1, LeO (share_Whole.j0 k y0 y1) (share_Whole.j0 (k + 1) y0 y1)) ∧ (∀ y0 y1 y2 y3, LeO (share_Whole.l0 k y0 y1 y2 y3) (share_Whole.l0 (k + 1) y0 y1 y2 y3))
  | 0 => ⟨fun _ _ r h => by simp [share_Whole.j0] at h, fun _ _ _ _ r h => by simp [share_Whole.l0] at h⟩
  | k + 1 => by
    obtain ⟨ih0, ih1⟩ := share_Whole.mono_l k
    refine ⟨?_, ?_⟩
    · intro y0 y1
      unfold share_Whole.j0
      repeat' (with_reducible first | exact ih0 _ _ | exact ih1 _ _ _ _ | exact cents_Add.mono _ _ | exact LeO.refl _ | exact LeO.none _ | refine LeO.ite ?_ ?_ | refine LeO.bind ?_ (fun _ => ?_))
    intro y0 y1 y2 y3
    unfold share_Whole.l0
    repeat' (with_reducible first | exact ih0 _ _ | exact ih1 _ _ _ _ | exact cents_Add.mono _ _ | exact LeO.refl _ | exact LeO.none _ | refine LeO.ite ?_ ?_ | refine LeO.bind ?_ (fun _ => ?_))
theorem share_Whole.mono : ∀ a0 k, LeO (share_Whole.f k a0) (share_Whole.f (k + 1) a0) := by
  intro a0 k
  obtain ⟨ih0, ih1⟩ := share_Whole.mono_l k
  unfold share_Whole.f
  repeat' (with_reducible first | exact ih0 _ _ | exact ih1 _ _ _ _ | exact cents_Add.mono _ _ | exact LeO.refl _ | exact LeO.none _ | refine LeO.ite ?_ ?_ | refine LeO.bind ?_ (fun _ => ?_))
set_option maxHeartbeats 8000000 in
set_option maxRecDepth 100000 in
theorem share_Whole.calls (k : Nat) (A0 : Option Addr) (c0 : Nat) (l0 : List Int) (r1 : Int) (r2 : Int) (w : World) (hr0 : Kd.C (Kd.int .i64) w A0 l0.length l0) (hc0 : l0.length ≤ c0) (h : share_Whole.f k l0 = some (r1, r2)) :
    Calls Try.prog 57 #[.slice A0 l0.length c0] w fun e w' => e = .returned (.tuple #[.int .i64 r1, .int .i64 r2]) ∧ Drawn0 w w' := by
  have HR0 := zA hr0
  have HC0 := zA hc0
  clear hr0 hc0
  have H : (if (l0.length : Int) < 1 then (share_Whole.j0 k l0 true) else (share_Whole.j0 k l0 (decide ((l0.length : Int) > 200)))) = some (r1, r2) := h
  clear h
  have HC2 := zA H
  clear H
  go_enter Try.func57, Try.ntmps57
  go_upto_region 1 with (fail)
  go_cut [15] (fun v15 wc => ∃ (kq : Nat) (x15_1 : Bool), v15 = .bool x15_1 ∧ Aside0 (share_Whole.j0 kq l0 x15_1 = some (r1, r2)) ∧ Aside0 (kq ≤ k) ∧ Drawn0 w wc)
  case first =>
    have H := HC2.out; clear HC2; by_cases c3 : (l0.length : Int) < 1
    · rw [if_pos c3] at H
      have c3b0 : decide ((l0.length : Int) < 1) = true := zFq c3; have c3b1 : decide (l0.length < 1) = true := zFq (by omega); clear c3; (first | rw [c3b0] | (simp only [i64_w, i32_w]; rw [c3b0]) | skip)
      have H' := zA H; clear H; go_wp2; go_meet
      case rel => exact ⟨_, (true), (by first | rfl | (simp; done) | (simp [*]; done)), H', ⟨by first | omega | exact Nat.le_refl _⟩, by repeat (first | exact Drawn0.refl _ | apply Drawn0.step)⟩
    rw [if_neg c3] at H; have c3b0 : decide ((l0.length : Int) < 1) = false := zGq c3; have c3b1 : decide (l0.length < 1) = false := zGq (by omega); clear c3; (first | rw [c3b0] | (simp only [i64_w, i32_w]; rw [c3b0]) | skip)
    have H' := zA H; clear H; go_wp2; go_meet
    case rel => exact ⟨_, (decide ((l0.length : Int) > 200)), (by first | rfl | (simp; done) | (simp [*]; done)), H', ⟨by first | omega | exact Nat.le_refl _⟩, by repeat (first | exact Drawn0.refl _ | apply Drawn0.step)⟩
  case rest =>
    clear HC2; try clear p2
    try clear c3
    try clear c3b0
    try clear c3b1
    obtain ⟨kq, x15_1, rfl, HA, HJ1, ⟨mc1, rfl⟩⟩ := hcut; cases kq with
    | zero => exact absurd HA.out (by simp [share_Whole.j0])
    | succ kj1 =>
      have H := HA.out; clear HA; simp only [share_Whole.j0] at H; by_cases c4 : x15_1 = true
      · subst c4
        have H1 : (some (0, 2)) = some (r1, r2) := by first | (rw [if_pos rfl] at H; exact H) | rfl
        clear H; have H := H1; clear H1; simp only [zNq, zOq] at H; obtain ⟨rfl, rfl⟩ := H; go_wp2; go_ret2; exact ⟨by first | rfl | (simp; done) | (simp [*]; done), by repeat (first | exact Drawn0.refl _ | apply Drawn0.step)⟩
      replace c4 := Bool.eq_false_iff.mpr c4; subst c4; have H1 : (share_Whole.l0 kj1 l0 l0 (l0.length : Int) 0) = some (r1, r2) := by first | (rw [if_neg (show ¬ (false = true) by decide)] at H; exact H) | rfl
      clear H; have H := H1; clear H1; have H' := zA H; clear H; go_wp2; go_loopg [18] kj1 (fun kq v18 w' => ∃ (x18_2 : Int), v18 = .int .i64 x18_2 ∧ Aside0 (share_Whole.l0 kq l0 l0 (l0.length : Int) x18_2 = some (r1, r2)) ∧ Aside0 (kq ≤ kj1) ∧ Drawn0 w w')
      case atStart => exact ⟨(0), (by first | rfl | (simp; done) | (simp [*]; done)), H', ⟨Nat.le_refl _⟩, by repeat (first | exact Drawn0.refl _ | apply Drawn0.step)⟩
      case round =>
        clear H'; try clear c1
        try clear p2
        try clear c3
        try clear c3b0
        try clear c3b1
        try clear c4
        try clear p2
        obtain ⟨x18_2, rfl, HA, HK2, ⟨m2, rfl⟩⟩ := hrel; cases gk with
        | zero => exact absurd HA.out (by simp [share_Whole.l0])
        | succ k2 =>
          have H := HA.out; clear HA; simp only [share_Whole.l0] at H; by_cases c5 : x18_2 < (l0.length : Int)
          · rw [if_pos c5] at H
            have c5b0 : decide (x18_2 < (l0.length : Int)) = true := zFq c5; clear c5; by_cases c6 : 0 ≤ x18_2
            · rw [if_pos c6] at H
              have c6b0 : decide (0 ≤ x18_2) = true := zFq c6; clear c6; by_cases c7 : x18_2 < (l0.length : Int)
              · rw [if_pos c7] at H
                have c7b0 : decide (x18_2 < (l0.length : Int)) = true := zFq c7; clear c7; by_cases c8 : (rd l0 x18_2) < 0
                · rw [if_pos c8] at H
                  have c8b0 : decide ((rd l0 x18_2) < 0) = true := zFq c8; clear c8; simp only [zNq, zOq] at H; obtain ⟨rfl, rfl⟩ := H; have p101 : 0 ≤ (x18_2 : Int) := of_decide_eq_true qA; have q101 : x18_2 < (l0.length : Int) := of_decide_eq_true qA; obtain ⟨ad101, e101, hx101_0⟩ := Kd.at_int HR0.out x18_2 p101 q101; cases e101
                  replace p101 := eq_true p101; replace q101 := eq_true q101; go_wp2; go_ret2; exact ⟨by first | rfl | (simp; done) | (simp [*]; done), by repeat (first | exact Drawn0.refl _ | apply Drawn0.step)⟩
                rw [if_neg c8] at H; have c8b0 : decide ((rd l0 x18_2) < 0) = false := zGq c8; clear c8; have H' := zA H; clear H; have p101 : 0 ≤ (x18_2 : Int) := of_decide_eq_true qA; have q101 : x18_2 < (l0.length : Int) := of_decide_eq_true qA; obtain ⟨ad101, e101, hx101_0⟩ := Kd.at_int HR0.out x18_2 p101 q101; cases e101
                replace p101 := eq_true p101; replace q101 := eq_true q101; go_wp2; go_roundg k2
                case measure => have := HJ1.out; have := HK2.out; omega
                case rel => exact ⟨(wrap64 (x18_2 + 1)), (by first | rfl | (simp; done) | (simp [*]; done)), H', ⟨by have := HJ1.out; have := HK2.out; omega⟩, by repeat (first | exact Drawn0.refl _ | apply Drawn0.step)⟩
              rw [if_neg c7] at H; exact absurd H (by simp)
            rw [if_neg c6] at H; exact absurd H (by simp)
          rw [if_neg c5] at H; have c5b0 : decide (x18_2 < (l0.length : Int)) = false := zGq c5; clear c5; replace H := Option.bind_eq_some_iff.mp H; obtain ⟨⟨t102, t103⟩, A90, H⟩ := H; try dsimp only at H
          have A9 := zA A90; clear A90; by_cases c10 : t103 = 0
          · rw [if_pos c10] at H
            have c10b0 : (t103 == 0) = true := beq_iff_eq.mpr c10; have c10b1 : (t103 != 0) = false := bne_eq_false_iff_eq.mpr c10; clear c10; by_cases c11 : t102 = 0
            · rw [if_pos c11] at H
              have c11b0 : (t102 == 0) = true := beq_iff_eq.mpr c11; have c11b1 : (t102 != 0) = false := bne_eq_false_iff_eq.mpr c11; clear c11; simp only [zNq, zOq] at H; obtain ⟨rfl, rfl⟩ := H; go_wp2_with (first | ((with_reducible refine zJq (f := 25) rfl ?_); refine goesL_ (some 27) rfl rfl Try.func25 (by kernel_rfl) rfl #[.slice A0 l0.length c0] rfl qG ?_; (with_reducible refine (cents_Add.calls k2 _ _ l0 t102 t103 _ ?side1 ?side2 A9.out).mono ?_); (case side1 => repeat (first | exact HR0.out | (with_reducible refine Kd.C_alloc ?_ _) | (with_reducible refine Kd.C_drewN ?_ _) | (with_reducible refine Kd.C_drew ?_))); (case side2 => exact HC0.out); rintro e w' ⟨rfl, ⟨nd, rfl⟩⟩; refine ⟨_, rfl, ?_⟩)); go_ret2; exact ⟨by first | rfl | (simp; done) | (simp [*]; done), by repeat (first | exact Drawn0.refl _ | apply Drawn0.step)⟩
            rw [if_neg c11] at H; have c11b0 : (t102 == 0) = false := beq_eq_false_iff_ne.mpr c11; have c11b1 : (t102 != 0) = true := bne_iff_ne.mpr c11; simp only [zNq, zOq] at H; obtain ⟨rfl, rfl⟩ := H; go_wp2_with (first | ((with_reducible refine zJq (f := 25) rfl ?_); refine goesL_ (some 27) rfl rfl Try.func25 (by kernel_rfl) rfl #[.slice A0 l0.length c0] rfl qG ?_; (with_reducible refine (cents_Add.calls k2 _ _ l0 t102 t103 _ ?side1 ?side2 A9.out).mono ?_); (case side1 => repeat (first | exact HR0.out | (with_reducible refine Kd.C_alloc ?_ _) | (with_reducible refine Kd.C_drewN ?_ _) | (with_reducible refine Kd.C_drew ?_))); (case side2 => exact HC0.out); rintro e w' ⟨rfl, ⟨nd, rfl⟩⟩; refine ⟨_, rfl, ?_⟩)); go_ret2; exact ⟨by first | rfl | (simp; done) | (simp [*]; done), by repeat (first | exact Drawn0.refl _ | apply Drawn0.step)⟩
          rw [if_neg c10] at H; have c10b0 : (t103 == 0) = false := beq_eq_false_iff_ne.mpr c10; have c10b1 : (t103 != 0) = true := bne_iff_ne.mpr c10; simp only [zNq, zOq] at H; obtain ⟨rfl, rfl⟩ := H; go_wp2_with (first | ((with_reducible refine zJq (f := 25) rfl ?_); refine goesL_ (some 27) rfl rfl Try.func25 (by kernel_rfl) rfl #[.slice A0 l0.length c0] rfl qG ?_; (with_reducible refine (cents_Add.calls k2 _ _ l0 t102 t103 _ ?side1 ?side2 A9.out).mono ?_); (case side1 => repeat (first | exact HR0.out | (with_reducible refine Kd.C_alloc ?_ _) | (with_reducible refine Kd.C_drewN ?_ _) | (with_reducible refine Kd.C_drew ?_))); (case side2 => exact HC0.out); rintro e w' ⟨rfl, ⟨nd, rfl⟩⟩; refine ⟨_, rfl, ?_⟩)); go_ret2; exact ⟨by first | rfl | (simp; done) | (simp [*]; done), by repeat (first | exact Drawn0.refl _ | apply Drawn0.step)⟩
end Go.Proofs.Ytefhljhpcpajgaa.F
set_option linter.unusedVariables false
namespace Go.Proofs.Ytefhljhpcpajgaa.Stable
open Go.Sort
variable {α : Type} [Inhabited α]
def swr (a b : Nat) : Nat → Nat → Array α → Array α
  | 0, _, d => d
  | k + 1, i, d => swr a b k (i + 1) (swp d (a + i) (b + i))
theorem swr_size (a b : Nat) : ∀ (k i : Nat) (d : Array α), (swr a b k i d).size = d.size
  | 0, _, d => rfl
  | k + 1, i, d => by rw [swr, swr_size a b k, swp_size]
theorem swr_get (a b : Nat) : ∀ (k i : Nat) (d : Array α), a + i + k ≤ b + i → b + i + k ≤ d.size → ∀ p, (swr a b k i d)[p]! = if a + i ≤ p ∧ p < a + i + k then d[p + (b - a)]! else if b + i ≤ p ∧ p < b + i + k then d[p - (b - a)]! else d[p]!
  | 0, i, d, _, _, p => by rw [swr, if_neg (by omega), if_neg (by omega)]
  | k + 1, i, d, h1, h2, p => by
    rw [swr, swr_get a b k (i + 1) _ (by omega) (by rw [swp_size]; omega) p]
    have g := fun q => swp_get d (show a + i < d.size by omega) (show b + i < d.size by omega) q
    simp only [g]
    (repeat' split) <;> first | rfl | (exfalso; omega) | (congr 1; omega)
theorem swr_permIn (lo hi a b : Nat) : ∀ (k i : Nat) (d : Array α), lo ≤ a + i → a + i + k ≤ hi → lo ≤ b + i → b + i + k ≤ hi → hi ≤ d.size → PermIn lo hi d (swr a b k i d)
  | 0, i, d, _, _, _, _, _ => permIn_refl d lo hi
  | k + 1, i, d, h1, h2, h3, h4, h5 => by
    rw [swr]
    exact permIn_trans _ _ _ lo hi (swp_permIn d lo hi (a + i) (b + i) h1 (by omega) h3 (by omega) h5) (swr_permIn lo hi a b k (i + 1) _ (by omega) (by omega) (by omega) (by omega) (by rw [swp_size]; exact h5))
def rot (m : Nat) : Nat → Nat → Nat → Array α → Array α
  | 0, _, _, d => d
  | f + 1, i, j, d => if i = j then swr (m - i) m i 0 d else if j < i then rot m f (i - j) j (swr (m - i) m j 0 d) else rot m f i (j - i) (swr (m - i) (m + j - i) i 0 d)
theorem rot_size (m : Nat) : ∀ (f i j : Nat) (d : Array α), (rot m f i j d).size = d.size
  | 0, _, _, d => rfl
  | f + 1, i, j, d => by rw [rot]; split <;> (try split) <;> simp only [rot_size m f, swr_size]
theorem rot_get (m : Nat) : ∀ (f i j : Nat) (d : Array α), i + j ≤ f → 0 < i → 0 < j → i ≤ m → m + j ≤ d.size → ∀ p, (rot m f i j d)[p]! = if m - i ≤ p ∧ p < m - i + j then d[p + i]! else if m - i + j ≤ p ∧ p < m + j then d[p - j]! else d[p]!
  | 0, i, j, d, h, h1, h2, _, _, _ => by omega
  | f + 1, i, j, d, hf, hi, hj, him, hmj, p => by
    rw [rot]
    by_cases e : i = j
    · subst e
      rw [if_pos rfl, swr_get _ _ _ _ _ (by omega) (by omega)]
      (repeat' split) <;> first | rfl | (exfalso; omega) | (congr 1; omega)
    rw [if_neg e]
    by_cases l : j < i
    · rw [if_pos l, rot_get m f (i - j) j _ (by omega) (by omega) hj (by omega) (by rw [swr_size]; exact hmj) p]
      have g := fun q => swr_get (m - i) m j 0 d (by omega) (by omega) q
      simp only [g]
      (repeat' split) <;> first | rfl | (exfalso; omega) | (congr 1; omega)
    rw [if_neg l, rot_get m f i (j - i) _ (by omega) hi (by omega) him (by rw [swr_size]; omega) p]
    have g := fun q => swr_get (m - i) (m + j - i) i 0 d (by omega) (by omega) q
    simp only [g]
    (repeat' split) <;> first | rfl | (exfalso; omega) | (congr 1; omega)
theorem rot_permIn (lo hi m : Nat) : ∀ (f i j : Nat) (d : Array α), i ≤ m → lo ≤ m - i → m + j ≤ hi → hi ≤ d.size → PermIn lo hi d (rot m f i j d)
  | 0, i, j, d, _, _, _, _ => permIn_refl d lo hi
  | f + 1, i, j, d, h1, h2, h3, h4 => by
    rw [rot]
    split
    · exact swr_permIn lo hi _ _ _ _ d (by omega) (by omega) (by omega) (by omega) h4
    split
    · exact permIn_trans _ _ _ lo hi (swr_permIn lo hi _ _ _ _ d (by omega) (by omega) (by omega) (by omega) h4) (rot_permIn lo hi m f _ _ _ (by omega) (by omega) h3 (by rw [swr_size]; exact h4))
    exact permIn_trans _ _ _ lo hi (swr_permIn lo hi _ _ _ _ d (by omega) (by omega) (by omega) (by omega) h4) (rot_permIn lo hi m f _ _ _ h1 h2 (by omega) (by rw [swr_size]; exact h4))
def bs (p : Nat → Bool) : Nat → Nat → Nat → Nat
  | 0, i, _ => i
  | f + 1, i, j => if i < j then (if p ((i + j) / 2) = true then bs p f ((i + j) / 2 + 1) j else bs p f i ((i + j) / 2)) else i
theorem bs_spec (p : Nat → Bool) (lo hi : Nat) (hm : ∀ x y, lo ≤ x → x ≤ y → y < hi → p y = true → p x = true) : ∀ (f i j : Nat), j - i ≤ f → lo ≤ i → i ≤ j → j ≤ hi → (∀ x, lo ≤ x → x < i → p x = true) → (∀ x, j ≤ x → x < hi → p x = false) → i ≤ bs p f i j ∧ bs p f i j ≤ j ∧ (∀ x, lo ≤ x → x < bs p f i j → p x = true) ∧ (∀ x, bs p f i j ≤ x → x < hi → p x = false)
  | 0, i, j, h0, h1, h2, h3, ht, hf => by
    obtain rfl : i = j := by omega
    exact ⟨Nat.le_refl _, Nat.le_refl _, ht, hf⟩
  | f + 1, i, j, h0, h1, h2, h3, ht, hf => by
    rw [bs]
    by_cases c : i < j
    · rw [if_pos c]
      by_cases g : p ((i + j) / 2) = true
      · rw [if_pos g]
        have := bs_spec p lo hi hm f ((i + j) / 2 + 1) j (by omega) (by omega) (by omega) h3 (fun x hx hx2 => hm x ((i + j) / 2) hx (by omega) (by omega) g) hf
        exact ⟨by omega, this.2.1, this.2.2⟩
      rw [if_neg g]
      have := bs_spec p lo hi hm f i ((i + j) / 2) (by omega) h1 (by omega) (by omega) ht (fun x hx hx2 => by
        cases e : p x with
        | false => rfl
        | true => exact absurd (hm ((i + j) / 2) x (by omega) hx hx2 e) g)
      exact ⟨this.1, by omega, this.2.2⟩
    rw [if_neg c]
    obtain rfl : i = j := by omega
    exact ⟨Nat.le_refl _, Nat.le_refl _, ht, hf⟩
def shU : Nat → Nat → Array α → Array α
  | 0, _, d => d
  | c + 1, k, d => shU c (k + 1) (swp d k (k + 1))
def shD : Nat → Nat → Array α → Array α
  | 0, _, d => d
  | c + 1, k, d => shD c (k - 1) (swp d k (k - 1))
theorem shU_size : ∀ (c k : Nat) (d : Array α), (shU c k d).size = d.size
  | 0, _, _ => rfl
  | c + 1, k, d => by rw [shU, shU_size c, swp_size]
theorem shD_size : ∀ (c k : Nat) (d : Array α), (shD c k d).size = d.size
  | 0, _, _ => rfl
  | c + 1, k, d => by rw [shD, shD_size c, swp_size]
theorem shU_get : ∀ (c k : Nat) (d : Array α), k + c < d.size → ∀ p, (shU c k d)[p]! = if k ≤ p ∧ p < k + c then d[p + 1]! else if p = k + c then d[k]! else d[p]!
  | 0, k, d, h, p => by
    rw [shU, if_neg (by omega)]
    by_cases e : p = k + 0
    · rw [if_pos e]; congr 1
    rw [if_neg e]
  | c + 1, k, d, h, p => by
    rw [shU, shU_get c (k + 1) _ (by rw [swp_size]; omega) p]
    have g := fun q => swp_get d (show k < d.size by omega) (show k + 1 < d.size by omega) q
    simp only [g]
    (repeat' split) <;> first | rfl | (exfalso; omega) | (congr 1; omega) | exact absurd trivial (by assumption)
theorem shD_get : ∀ (c k : Nat) (d : Array α), c ≤ k → k < d.size → ∀ p, (shD c k d)[p]! = if p = k - c then d[k]! else if k - c < p ∧ p ≤ k then d[p - 1]! else d[p]!
  | 0, k, d, h, _, p => by
    rw [shD]
    by_cases e : p = k - 0
    · rw [if_pos e]; congr 1
    rw [if_neg e, if_neg (by omega)]
  | c + 1, k, d, h, hk, p => by
    rw [shD, shD_get c (k - 1) _ (by omega) (by rw [swp_size]; omega) p]
    have g := fun q => swp_get d (show k < d.size by omega) (show k - 1 < d.size by omega) q
    simp only [g]
    (repeat' split) <;> first | rfl | (exfalso; omega) | (congr 1; omega) | exact absurd trivial (by assumption)
theorem shU_permIn (lo hi : Nat) : ∀ (c k : Nat) (d : Array α), lo ≤ k → k + c < hi → hi ≤ d.size → PermIn lo hi d (shU c k d)
  | 0, _, d, _, _, _ => permIn_refl d lo hi
  | c + 1, k, d, h1, h2, h3 => by
    rw [shU]
    exact permIn_trans _ _ _ lo hi (swp_permIn d lo hi k (k + 1) h1 (by omega) (by omega) (by omega) h3) (shU_permIn lo hi c (k + 1) _ (by omega) (by omega) (by rw [swp_size]; exact h3))
theorem shD_permIn (lo hi : Nat) : ∀ (c k : Nat) (d : Array α), lo + c ≤ k → k < hi → hi ≤ d.size → PermIn lo hi d (shD c k d)
  | 0, _, d, _, _, _ => permIn_refl d lo hi
  | c + 1, k, d, h1, h2, h3 => by
    rw [shD]
    exact permIn_trans _ _ _ lo hi (swp_permIn d lo hi k (k - 1) (by omega) h2 (by omega) (by omega) h3) (shD_permIn lo hi c (k - 1) _ (by omega) (by omega) (by rw [swp_size]; exact h3))
def sym (lt : α → α → Bool) : Nat → Nat → Nat → Nat → Array α → Array α
  | 0, _, _, _, d => d
  | f + 1, a, m, b, d =>
    if m - a = 1 then shU (bs (fun h => lt d[h]! d[a]!) (b - m) m b - 1 - a) a d
    else if b - m = 1 then shD (m - bs (fun h => !lt d[m]! d[h]!) (m - a) a m) m d
    else
      let mid := (a + b) / 2
      let n := mid + m
      let lo := if mid < m then n - b else a
      let hi := if mid < m then mid else m
      let s := bs (fun c => !lt d[n - 1 - c]! d[c]!) (hi - lo) lo hi
      let e := n - s
      let d1 := if s < m ∧ m < e then rot m (m - s + (e - m)) (m - s) (e - m) d else d
      let d2 := if a < s ∧ s < mid then sym lt f a s mid d1 else d1
      if mid < e ∧ e < b then sym lt f mid e b d2 else d2
theorem sym_size (lt : α → α → Bool) : ∀ (f a m b : Nat) (d : Array α), (sym lt f a m b d).size = d.size
  | 0, _, _, _, d => rfl
  | f + 1, a, m, b, d => by
    rw [sym]
    split
    · exact shU_size _ _ _
    split
    · exact shD_size _ _ _
    dsimp only
    (repeat' split) <;> simp only [sym_size lt f, rot_size]
def Up (R : α → α → Prop) (a b : Nat) (d : Array α) : Prop := ∀ i j, a ≤ i → i < j → j < b → R d[i]! d[j]!
def Tells (lt : α → α → Bool) (R : α → α → Prop) (a m b : Nat) (d : Array α) : Prop := ∀ i j, a ≤ i → i < m → m ≤ j → j < b → (lt d[j]! d[i]! = true ∧ R d[j]! d[i]!) ∨ (lt d[j]! d[i]! = false ∧ R d[i]! d[j]!)
variable {lt : α → α → Bool} {R : α → α → Prop}
theorem Tells.pos {a m b : Nat} {d : Array α} (h : Tells lt R a m b d) {i j : Nat} (h1 : a ≤ i) (h2 : i < m) (h3 : m ≤ j) (h4 : j < b) (g : lt d[j]! d[i]! = true) : R d[j]! d[i]! := by
  rcases h i j h1 h2 h3 h4 with h | h
  · exact h.2
  rw [h.1] at g; cases g
theorem Tells.neg {a m b : Nat} {d : Array α} (h : Tells lt R a m b d) {i j : Nat} (h1 : a ≤ i) (h2 : i < m) (h3 : m ≤ j) (h4 : j < b) (g : lt d[j]! d[i]! = false) : R d[i]! d[j]! := by
  rcases h i j h1 h2 h3 h4 with h | h
  · rw [h.1] at g; cases g
  exact h.2
theorem Tells.is (hir : ∀ x y, R x y → ¬ R y x) {a m b : Nat} {d : Array α} (h : Tells lt R a m b d) {i j : Nat} (h1 : a ≤ i) (h2 : i < m) (h3 : m ≤ j) (h4 : j < b) (g : R d[j]! d[i]!) : lt d[j]! d[i]! = true := by
  rcases h i j h1 h2 h3 h4 with h | h
  · exact h.1
  exact absurd g (hir _ _ h.2)
theorem Tells.isn (hir : ∀ x y, R x y → ¬ R y x) {a m b : Nat} {d : Array α} (h : Tells lt R a m b d) {i j : Nat} (h1 : a ≤ i) (h2 : i < m) (h3 : m ≤ j) (h4 : j < b) (g : R d[i]! d[j]!) : lt d[j]! d[i]! = false := by
  rcases h i j h1 h2 h3 h4 with h | h
  · exact absurd g (hir _ _ h.2)
  exact h.1
theorem sym_spec (hir : ∀ x y, R x y → ¬ R y x) (htr : ∀ x y z, R x y → R y z → R x z) : ∀ (f a m b : Nat) (d : Array α), b - a ≤ f → a < m → m < b → b ≤ d.size → Up R a m d → Up R m b d → Tells lt R a m b d → PermIn a b d (sym lt f a m b d) ∧ Up R a b (sym lt f a m b d)
  | 0, a, m, b, d, h0, h1, h2, _, _, _, _ => by omega
  | f + 1, a, m, b, d, h0, h1, h2, hb, u1, u2, T => by
    rw [sym]
    by_cases e1 : m - a = 1
    · rw [if_pos e1]
      obtain rfl : m = a + 1 := by omega
      have sp := bs_spec (fun h => lt d[h]! d[a]!) (a + 1) b (fun x y hx hxy hy g => by
        rcases Nat.eq_or_lt_of_le hxy with rfl | hlt
        · exact g
        exact T.is hir (Nat.le_refl _) (by omega) hx (by omega) (htr _ _ _ (u2 x y hx hlt hy) (T.pos (Nat.le_refl _) (by omega) (by omega) hy g))) (b - (a + 1)) (a + 1) b (Nat.le_refl _) (Nat.le_refl _) (by omega) (Nat.le_refl _) (fun x h1 h2 => by omega) (fun x h1 h2 => by omega)
      generalize bs (fun h => lt d[h]! d[a]!) (b - (a + 1)) (a + 1) b = s at sp
      obtain ⟨s1, s2, st, sf⟩ := sp
      refine ⟨shU_permIn a b _ _ d (Nat.le_refl _) (by omega) hb, fun i j hi hij hj => ?_⟩
      rw [shU_get _ _ _ (by omega), shU_get _ _ _ (by omega)]
      by_cases c1 : i < s - 1
      · rw [if_pos (by omega)]
        by_cases c2 : j < s - 1
        · rw [if_pos (by omega)]; exact u2 _ _ (by omega) (by omega) (by omega)
        rw [if_neg (by omega)]
        by_cases c3 : j = s - 1
        · rw [if_pos (by omega)]; exact T.pos (Nat.le_refl _) (by omega) (by omega) (by omega) (st _ (by omega) (by omega))
        rw [if_neg (by omega)]; exact u2 _ _ (by omega) (by omega) (by omega)
      rw [if_neg (by omega)]
      by_cases c2 : i = s - 1
      · rw [if_pos (by omega), if_neg (by omega), if_neg (by omega)]; exact T.neg (Nat.le_refl _) (by omega) (by omega) (by omega) (sf _ (by omega) (by omega))
      rw [if_neg (by omega), if_neg (by omega), if_neg (by omega)]; exact u2 _ _ (by omega) (by omega) (by omega)
    rw [if_neg e1]
    by_cases e2 : b - m = 1
    · rw [if_pos e2]
      obtain rfl : b = m + 1 := by omega
      have sp := bs_spec (fun h => !lt d[m]! d[h]!) a m (fun x y hx hxy hy g => by
        rcases Nat.eq_or_lt_of_le hxy with rfl | hlt
        · exact g
        simp only [Bool.not_eq_true'] at g ⊢
        exact T.isn hir hx (by omega) (Nat.le_refl _) (by omega) (htr _ _ _ (u1 x y hx hlt hy) (T.neg (by omega) hy (Nat.le_refl _) (by omega) g))) (m - a) a m (Nat.le_refl _) (Nat.le_refl _) (by omega) (Nat.le_refl _) (fun x h1 h2 => by omega) (fun x h1 h2 => by omega)
      generalize bs (fun h => !lt d[m]! d[h]!) (m - a) a m = s at sp
      obtain ⟨s1, s2, st, sf⟩ := sp
      simp only [Bool.not_eq_true', Bool.not_eq_false'] at st sf
      refine ⟨shD_permIn a (m + 1) _ _ d (by omega) (by omega) hb, fun i j hi hij hj => ?_⟩
      rw [shD_get _ _ _ (by omega) (by omega), shD_get _ _ _ (by omega) (by omega)]
      by_cases c1 : i = s
      · rw [if_pos (by omega), if_neg (by omega), if_pos (by omega)]; exact T.pos (by omega) (by omega) (Nat.le_refl _) (by omega) (sf _ (by omega) (by omega))
      rw [if_neg (by omega)]
      by_cases c2 : s < i
      · rw [if_pos (by omega), if_neg (by omega), if_pos (by omega)]; exact u1 _ _ (by omega) (by omega) (by omega)
      rw [if_neg (by omega)]
      by_cases c3 : j = s
      · rw [if_pos (by omega)]; exact T.neg hi (by omega) (Nat.le_refl _) (by omega) (st _ hi (by omega))
      rw [if_neg (by omega)]
      by_cases c4 : s < j
      · rw [if_pos (by omega)]; exact u1 _ _ (by omega) (by omega) (by omega)
      rw [if_neg (by omega)]; exact u1 _ _ (by omega) (by omega) (by omega)
    rw [if_neg e2]
    dsimp only
    obtain ⟨mid, hmid⟩ : ∃ x, x = (a + b) / 2 := ⟨_, rfl⟩
    rw [← hmid]
    obtain ⟨lo, hlo⟩ : ∃ x, x = if mid < m then mid + m - b else a := ⟨_, rfl⟩
    obtain ⟨hi, hhi⟩ : ∃ x, x = if mid < m then mid else m := ⟨_, rfl⟩
    rw [← hlo, ← hhi]
    have L : (mid < m ∧ lo = mid + m - b ∧ hi = mid) ∨ (m ≤ mid ∧ lo = a ∧ hi = m) := by
      by_cases c : mid < m
      · rw [if_pos c] at hlo hhi; exact .inl ⟨c, hlo, hhi⟩
      rw [if_neg c] at hlo hhi; exact .inr ⟨by omega, hlo, hhi⟩
    clear hlo hhi
    have sp := bs_spec (fun c => !lt d[mid + m - 1 - c]! d[c]!) lo hi (fun x y hx hxy hy g => by
      rcases Nat.eq_or_lt_of_le hxy with rfl | hlt
      · exact g
      simp only [Bool.not_eq_true'] at g ⊢
      exact T.isn hir (by omega) (by omega) (by omega) (by omega) (htr _ _ _ (u1 x y (by omega) hlt (by omega)) (htr _ _ _ (T.neg (by omega) (by omega) (by omega) (by omega) g) (u2 _ _ (by omega) (by omega) (by omega))))) (hi - lo) lo hi (Nat.le_refl _) (Nat.le_refl _) (by omega) (Nat.le_refl _) (fun x h1 h2 => by omega) (fun x h1 h2 => by omega)
    generalize bs (fun c => !lt d[mid + m - 1 - c]! d[c]!) (hi - lo) lo hi = s at sp
    obtain ⟨s1, s2, st, sf⟩ := sp
    simp only [Bool.not_eq_true', Bool.not_eq_false'] at st sf
    obtain ⟨e, he⟩ : ∃ x, x = mid + m - s := ⟨_, rfl⟩
    rw [← he]
    obtain ⟨d1, hd1⟩ : ∃ x, x = if s < m ∧ m < e then rot m (m - s + (e - m)) (m - s) (e - m) d else d := ⟨_, rfl⟩
    rw [← hd1]
    have hz1 : d1.size = d.size := by rw [hd1]; split <;> simp [rot_size]
    have hg1 : ∀ p, d1[p]! = if s ≤ p ∧ p < mid then d[p + (m - s)]! else if mid ≤ p ∧ p < e then d[p - (e - m)]! else d[p]! := by
      intro p
      rw [hd1]
      by_cases c : s < m ∧ m < e
      · rw [if_pos c, rot_get _ _ _ _ _ (by omega) (by omega) (by omega) (by omega) (by omega)]
        by_cases c1 : s ≤ p ∧ p < mid
        · rw [if_pos (by omega), if_pos c1]
        rw [if_neg (by omega), if_neg c1]
        by_cases c2 : mid ≤ p ∧ p < e
        · rw [if_pos (by omega), if_pos c2]
        rw [if_neg (by omega), if_neg c2]
      rw [if_neg c]
      by_cases c1 : s ≤ p ∧ p < mid
      · rw [if_pos c1]; congr 1; omega
      rw [if_neg c1]
      by_cases c2 : mid ≤ p ∧ p < e
      · rw [if_pos c2]; congr 1; omega
      rw [if_neg c2]
    have hp1 : PermIn a b d d1 := by
      rw [hd1]
      split
      · exact rot_permIn a b m _ _ _ d (by omega) (by omega) (by omega) hb
      exact permIn_refl d a b
    clear hd1
    have ga : ∀ p, p < s → d1[p]! = d[p]! := fun p h => by rw [hg1, if_neg (by omega), if_neg (by omega)]
    have gb : ∀ p, s ≤ p → p < mid → d1[p]! = d[p + (m - s)]! := fun p h g => by rw [hg1, if_pos ⟨h, g⟩]
    have gc : ∀ p, mid ≤ p → p < e → d1[p]! = d[p - (e - m)]! := fun p h g => by rw [hg1, if_neg (by omega), if_pos ⟨h, g⟩]
    have gd : ∀ p, e ≤ p → d1[p]! = d[p]! := fun p h => by rw [hg1, if_neg (by omega), if_neg (by omega)]
    clear hg1
    have X : ∀ i j, a ≤ i → i < mid → mid ≤ j → j < b → R d1[i]! d1[j]! := by
      intro i j hi hi2 hj hj2
      by_cases c1 : i < s
      · rw [ga i c1]
        by_cases c2 : j < e
        · rw [gc j hj c2]; exact u1 _ _ hi (by omega) (by omega)
        rw [gd j (by omega)]
        have q : R d[s - 1]! d[e]! := by
          have := T.neg (i := s - 1) (j := mid + m - 1 - (s - 1)) (by omega) (by omega) (by omega) (by omega) (st (s - 1) (by omega) (by omega))
          rw [show mid + m - 1 - (s - 1) = e by omega] at this
          exact this
        have q1 : i = s - 1 ∨ R d[i]! d[s - 1]! := by
          by_cases c : i = s - 1
          · exact .inl c
          exact .inr (u1 _ _ hi (by omega) (by omega))
        have q2 : j = e ∨ R d[e]! d[j]! := by
          by_cases c : j = e
          · exact .inl c
          exact .inr (u2 _ _ (by omega) (by omega) (by omega))
        have q3 : R d[i]! d[e]! := by
          rcases q1 with rfl | q1
          · exact q
          exact htr _ _ _ q1 q
        rcases q2 with rfl | q2
        · exact q3
        exact htr _ _ _ q3 q2
      rw [gb i (by omega) hi2]
      by_cases c2 : j < e
      · rw [gc j hj c2]
        have q : R d[e - 1]! d[s]! := by
          have := T.pos (i := s) (j := mid + m - 1 - s) (by omega) (by omega) (by omega) (by omega) (sf s (by omega) (by omega))
          rw [show mid + m - 1 - s = e - 1 by omega] at this
          exact this
        have q1 : i + (m - s) = e - 1 ∨ R d[i + (m - s)]! d[e - 1]! := by
          by_cases c : i + (m - s) = e - 1
          · exact .inl c
          exact .inr (u2 _ _ (by omega) (by omega) (by omega))
        have q2 : j - (e - m) = s ∨ R d[s]! d[j - (e - m)]! := by
          by_cases c : j - (e - m) = s
          · exact .inl c
          exact .inr (u1 _ _ (by omega) (by omega) (by omega))
        have q3 : R d[i + (m - s)]! d[s]! := by
          rcases q1 with q1 | q1
          · rw [q1]; exact q
          exact htr _ _ _ q1 q
        rcases q2 with q2 | q2
        · rw [q2]; exact q3
        exact htr _ _ _ q3 q2
      rw [gd j (by omega)]; exact u2 _ _ (by omega) (by omega) (by omega)
    obtain ⟨d2, hd2⟩ : ∃ x, x = if a < s ∧ s < mid then sym lt f a s mid d1 else d1 := ⟨_, rfl⟩
    rw [← hd2]
    have h2 : PermIn a mid d1 d2 ∧ Up R a mid d2 := by
      rw [hd2]
      have v1 : Up R a s d1 := fun i j hi hij hj => by rw [ga i (by omega), ga j hj]; exact u1 _ _ hi hij (by omega)
      have v2 : Up R s mid d1 := fun i j hi hij hj => by rw [gb i hi (by omega), gb j (by omega) hj]; exact u2 _ _ (by omega) (by omega) (by omega)
      by_cases c : a < s ∧ s < mid
      · rw [if_pos c]
        exact sym_spec hir htr f a s mid d1 (by omega) c.1 c.2 (by omega) v1 v2 (fun i j hi hi2 hj hj2 => by rw [ga i hi2, gb j hj hj2]; exact T i (j + (m - s)) hi (by omega) (by omega) (by omega))
      rw [if_neg c]
      refine ⟨permIn_refl d1 a mid, ?_⟩
      by_cases c1 : a < s
      · obtain rfl : s = mid := by omega
        exact v1
      obtain rfl : s = a := by omega
      exact v2
    clear hd2
    obtain ⟨p2, w2⟩ := h2
    have hz2 : d2.size = d.size := by rw [p2.1, hz1]
    have g2 : ∀ p, mid ≤ p → d2[p]! = d1[p]! := fun p h => p2.2.1 p (.inr h)
    have h3 : PermIn mid b d2 (if mid < e ∧ e < b then sym lt f mid e b d2 else d2) ∧ Up R mid b (if mid < e ∧ e < b then sym lt f mid e b d2 else d2) := by
      have v1 : Up R mid e d2 := fun i j hi hij hj => by rw [g2 i hi, g2 j (by omega), gc i hi (by omega), gc j (by omega) hj]; exact u1 _ _ (by omega) (by omega) (by omega)
      have v2 : Up R e b d2 := fun i j hi hij hj => by rw [g2 i (by omega), g2 j (by omega), gd i hi, gd j (by omega)]; exact u2 _ _ (by omega) (by omega) (by omega)
      by_cases c : mid < e ∧ e < b
      · rw [if_pos c]
        exact sym_spec hir htr f mid e b d2 (by omega) c.1 c.2 (by omega) v1 v2 (fun i j hi hi2 hj hj2 => by rw [g2 i hi, g2 j (by omega), gc i hi hi2, gd j hj]; exact T _ j (by omega) (by omega) (by omega) (by omega))
      rw [if_neg c]
      refine ⟨permIn_refl d2 mid b, ?_⟩
      by_cases c1 : mid < e
      · obtain rfl : e = b := by omega
        exact v1
      obtain rfl : e = mid := by omega
      exact v2
    obtain ⟨p3, w3⟩ := h3
    generalize (if mid < e ∧ e < b then sym lt f mid e b d2 else d2) = d3 at p3 w3
    refine ⟨permIn_trans _ _ _ a b hp1 (permIn_trans _ _ _ a b (permIn_mono d1 d2 a mid a b (Nat.le_refl _) (by omega) (by omega) p2) (permIn_mono d2 d3 mid b a b (by omega) (Nat.le_refl _) (by omega) p3)), ?_⟩
    have X3 : ∀ i j, a ≤ i → i < mid → mid ≤ j → j < b → R d3[i]! d3[j]! := by
      intro i j hi hi2 hj hj2
      rw [p3.2.1 i (.inl hi2)]
      refine permIn_all d2 d3 mid b (fun y => R d2[i]! y) (by omega) p3 (fun j hj hj2 => ?_) j hj hj2
      rw [g2 j hj]
      exact permIn_all d1 d2 a mid (fun x => R x d1[j]!) (by omega) p2 (fun i hi hi2 => X i j hi hi2 hj hj2) i hi hi2
    intro i j hi hij hj
    by_cases c1 : j < mid
    · rw [p3.2.1 i (.inl (by omega)), p3.2.1 j (.inl c1)]; exact w2 i j hi hij c1
    by_cases c2 : i < mid
    · exact X3 i j hi c2 (by omega) hj
    exact w3 i j (by omega) hij hj
end Go.Proofs.Ytefhljhpcpajgaa.Stable
namespace Go.Proofs.Ytefhljhpcpajgaa.Stable
open Go.Sort
variable {α : Type} [Inhabited α]
def blk (lt : α → α → Bool) (n : Nat) : Nat → Nat → Array α → Array α
  | 0, _, d => d
  | f + 1, a, d => if a + 20 ≤ n then blk lt n f (a + 20) (insertionSort lt d a (a + 20)) else insertionSort lt d a n
def mrg (lt : α → α → Bool) (n z : Nat) : Nat → Nat → Array α → Array α
  | 0, _, d => d
  | f + 1, a, d => if a + 2 * z ≤ n then mrg lt n z f (a + 2 * z) (sym lt n a (a + z) (a + 2 * z) d) else if a + z < n then sym lt n a (a + z) n d else d
def mrgs (lt : α → α → Bool) (n : Nat) : Nat → Nat → Array α → Array α
  | 0, _, d => d
  | f + 1, z, d => if z < n then mrgs lt n f (z * 2) (mrg lt n z (n + 1) 0 d) else d
def stable (lt : α → α → Bool) (n : Nat) (d : Array α) : Array α := mrgs lt n n 20 (blk lt n (n + 1) 0 d)
theorem ins_size (lt : α → α → Bool) (a : Nat) : ∀ (j : Nat) (d : Array α), (insInner lt a j d).size = d.size
  | 0, d => rfl
  | j + 1, d => by
    simp only [insInner]
    split
    · rw [ins_size lt a j, swp_size]
    rfl
theorem outer_size (lt : α → α → Bool) (a b : Nat) : ∀ (n i : Nat) (d : Array α), b - i = n → (insOuter lt a b i d).size = d.size
  | 0, i, d, h => by rw [insOuter, if_neg (by omega)]
  | n + 1, i, d, h => by rw [insOuter, if_pos (by omega), outer_size lt a b n (i + 1) _ (by omega), ins_size]
theorem insertion_size (lt : α → α → Bool) (a b : Nat) (d : Array α) : (insertionSort lt d a b).size = d.size := by unfold insertionSort; exact outer_size _ _ _ _ _ _ rfl
variable (pl : α → Nat) (key : α → Int)
def ltK (x y : α) : Bool := decide (key y < key x)
def RK (x y : α) : Prop := key y < key x ∨ (key x = key y ∧ pl x < pl y)
omit [Inhabited α] in
theorem RK_asymm (x y : α) (h : RK pl key x y) : ¬ RK pl key y x := by unfold RK at *; omega
omit [Inhabited α] in
theorem RK_trans (x y z : α) (h : RK pl key x y) (g : RK pl key y z) : RK pl key x z := by unfold RK at *; omega
theorem inner_up (a : Nat) : ∀ (j : Nat) (d : Array α) (i : Nat), j ≤ i → a ≤ j → i < d.size → (∀ p q, a ≤ p → p < q → q ≤ i → p ≠ j → q ≠ j → RK pl key d[p]! d[q]!) → (∀ q, j < q → q ≤ i → RK pl key d[j]! d[q]!) → (∀ p, a ≤ p → p < j → pl d[p]! < pl d[j]!) → Up (RK pl key) a (i + 1) (insInner (ltK key) a j d)
  | 0, d, i, h1, h2, h3, hr, hg, hp => by
    rw [insInner]
    intro p q hap hpq hq
    by_cases c : p = 0
    · subst c; exact hg q (by omega) (by omega)
    exact hr p q hap hpq (by omega) c (by omega)
  | j + 1, d, i, h1, h2, h3, hr, hg, hp => by
    rw [insInner]
    by_cases c : (decide (j + 1 > a) && ltK key d[j + 1]! d[j]!) = true
    · rw [if_pos c]
      simp only [Bool.and_eq_true, decide_eq_true_eq, ltK] at c
      have g := fun q => swp_get d (show j + 1 < d.size by omega) (show j < d.size by omega) q
      refine inner_up a j _ i (by omega) (by omega) (by rw [swp_size]; exact h3) ?_ ?_ ?_
      · intro p q hap hpq hq hpj hqj
        rw [g, g, if_neg hpj, if_neg hqj]
        by_cases c1 : q = j + 1
        · subst c1
          rw [if_neg (by omega), if_pos rfl]
          exact hr p j hap (by omega) (by omega) (by omega) (by omega)
        rw [if_neg c1]
        by_cases c2 : p = j + 1
        · subst c2; rw [if_pos rfl]; exact hr j q (by omega) (by omega) hq (by omega) c1
        rw [if_neg c2]; exact hr p q hap hpq hq c2 c1
      · intro q hq hqi
        rw [g, g, if_pos rfl, if_neg (by omega)]
        by_cases c1 : q = j + 1
        · rw [if_pos c1]; exact .inl c.2
        rw [if_neg c1]; exact hg q (by omega) hqi
      intro p hap hpj
      rw [g, g, if_pos rfl, if_neg (by omega), if_neg (by omega)]
      exact hp p hap (by omega)
    rw [if_neg c]
    have hs : a < j + 1 → RK pl key d[j]! d[j + 1]! := fun h => by
      have : ¬ key d[j]! < key d[j + 1]! := fun g => c (by simp [ltK, g, h])
      have := hp j (by omega) (by omega)
      unfold RK; omega
    intro p q hap hpq hq
    by_cases c1 : q = j + 1
    · subst c1
      by_cases c2 : p = j
      · subst c2; exact hs (by omega)
      exact RK_trans pl key _ _ _ (hr p j hap (by omega) (by omega) (by omega) (by omega)) (hs (by omega))
    by_cases c2 : p = j + 1
    · subst c2; exact hg q (by omega) (by omega)
    exact hr p q hap hpq (by omega) c2 c1
theorem inner_permIn (lt : α → α → Bool) (a b : Nat) : ∀ (j : Nat) (d : Array α), a ≤ j → j < b → b ≤ d.size → PermIn a b d (insInner lt a j d)
  | 0, d, _, _, _ => by rw [insInner]; exact permIn_refl d a b
  | j + 1, d, h1, h2, h3 => by
    rw [insInner]
    split
    · rename_i c
      simp only [Bool.and_eq_true, decide_eq_true_eq] at c
      exact permIn_trans _ _ _ a b (swp_permIn d a b (j + 1) j h1 h2 (by omega) (by omega) h3) (inner_permIn lt a b j _ (by omega) (by omega) (by rw [swp_size]; exact h3))
    exact permIn_refl d a b
theorem outer_up (a b : Nat) : ∀ (n i : Nat) (d : Array α), b - i = n → a < i → i ≤ b → b ≤ d.size → Up (RK pl key) a i d → (∀ q, i ≤ q → q < b → ∀ p, a ≤ p → p < q → pl d[p]! < pl d[q]!) → PermIn a b d (insOuter (ltK key) a b i d) ∧ Up (RK pl key) a b (insOuter (ltK key) a b i d)
  | 0, i, d, hn, _, hib, _, hs, _ => by
    obtain rfl : i = b := by omega
    rw [insOuter, if_neg (by omega)]
    exact ⟨permIn_refl d a i, hs⟩
  | n + 1, i, d, hn, hai, hib, hb, hs, hp => by
    have hlt : i < b := by omega
    rw [insOuter, if_pos hlt]
    have p1 : PermIn a (i + 1) d (insInner (ltK key) a i d) := inner_permIn _ a (i + 1) i d (by omega) (by omega) (by omega)
    have u1 := inner_up pl key a i d i (Nat.le_refl _) (by omega) (by omega) (fun p q hap hpq hq _ hqi => hs p q hap hpq (by omega)) (fun q h1 h2 => by omega) (fun p hap hpi => hp i (Nat.le_refl _) hlt p hap hpi)
    have h2 := outer_up a b n (i + 1) (insInner (ltK key) a i d) (by omega) (by omega) (by omega) (by rw [p1.1]; exact hb) u1 (fun q hq hqb p hap hpq => by
      rw [p1.2.1 q (.inr hq)]
      by_cases c : p < i + 1
      · exact permIn_all d _ a (i + 1) (fun x => pl x < pl d[q]!) (by omega) p1 (fun p' h1 h2 => hp q (by omega) hqb p' h1 (by omega)) p hap c
      rw [p1.2.1 p (.inr (by omega))]; exact hp q (by omega) hqb p hap hpq)
    exact ⟨permIn_trans _ _ _ a b (permIn_mono d _ a (i + 1) a b (Nat.le_refl _) hlt hb p1) h2.1, h2.2⟩
theorem insertion_up (a b : Nat) (d : Array α) (hab : a ≤ b) (hb : b ≤ d.size) (hp : ∀ p q, a ≤ p → p < q → q < b → pl d[p]! < pl d[q]!) : PermIn a b d (insertionSort (ltK key) d a b) ∧ Up (RK pl key) a b (insertionSort (ltK key) d a b) := by
  unfold insertionSort
  by_cases h : a = b
  · subst h
    rw [insOuter, if_neg (by omega)]
    exact ⟨permIn_refl d a a, fun i j h1 h2 h3 => by omega⟩
  exact outer_up pl key a b (b - (a + 1)) (a + 1) d rfl (by omega) (by omega) hb (fun i j h1 h2 h3 => by omega) (fun q hq hqb p hap hpq => hp p q hap hpq hqb)
def Home (z n : Nat) (d : Array α) : Prop := ∀ a, z ∣ a → ∀ i, a ≤ i → i < a + z → i < n → a ≤ pl d[i]! ∧ pl d[i]! < a + z
theorem gap {z a b : Nat} (ha : z ∣ a) (hb : z ∣ b) (h : a < b) : a + z ≤ b := by
  have := Nat.le_of_dvd (by omega) (Nat.dvd_sub hb ha)
  omega
theorem home_perm {z n a b : Nat} {d d' : Array α} (hn : n ≤ d.size) (ha : z ∣ a) (hb : b ≤ a + z) (hbn : b ≤ n) (h : Home pl z n d) (hp : PermIn a b d d') : Home pl z n d' := by
  intro x hx i hi hi2 hin
  by_cases c : a ≤ i ∧ i < b
  · have e : x = a := by
      rcases Nat.lt_trichotomy x a with g | g | g
      · have := gap hx ha g; omega
      · exact g
      have := gap ha hx g; omega
    subst e
    exact permIn_all d d' x b (fun y => x ≤ pl y ∧ pl y < x + z) (by omega) hp (fun j h1 h2 => h x hx j h1 (by omega) (by omega)) i c.1 c.2
  rw [hp.2.1 i (by omega)]; exact h x hx i hi hi2 hin
theorem blk_spec (n : Nat) : ∀ (f a : Nat) (d : Array α), n < a + 20 * f → a ≤ n → d.size = n → 20 ∣ a → (∀ i, a ≤ i → i < n → pl d[i]! = i) → Home pl 20 n d → (∀ x, 20 ∣ x → x < a → Up (RK pl key) x (min (x + 20) n) d) → (PermIn 0 n d (blk (ltK key) n f a d)) ∧ Home pl 20 n (blk (ltK key) n f a d) ∧ (∀ x, 20 ∣ x → x < n → Up (RK pl key) x (min (x + 20) n) (blk (ltK key) n f a d))
  | 0, a, d, h0, _, _, _, _, _, _ => by omega
  | f + 1, a, d, h0, han, hz, ha, hpl, hh, hu => by
    rw [blk]
    by_cases c : a + 20 ≤ n
    · rw [if_pos c]
      have s := insertion_up pl key a (a + 20) d (by omega) (by omega) (fun p q h1 h2 h3 => by rw [hpl p h1 (by omega), hpl q (by omega) (by omega)]; exact h2)
      have hz1 : (insertionSort (ltK key) d a (a + 20)).size = n := by rw [insertion_size, hz]
      have hh1 := home_perm pl (by omega) ha (Nat.le_refl _) c hh s.1
      generalize insertionSort (ltK key) d a (a + 20) = d1 at s hz1 hh1
      have r := blk_spec n f (a + 20) d1 (by omega) c hz1 (Nat.dvd_add ha (Nat.dvd_refl 20)) (fun i h1 h2 => by rw [s.1.2.1 i (.inr h1)]; exact hpl i (by omega) h2) hh1 (fun x hx hxa => by
        by_cases e : x = a
        · subst e; rw [Nat.min_eq_left c]; exact s.2
        have hlt : x < a := by
          rcases Nat.lt_or_ge x a with g | g
          · exact g
          have := gap ha hx (by omega); omega
        have := gap hx ha hlt
        intro i j h1 h2 h3
        rw [s.1.2.1 i (.inl (by omega)), s.1.2.1 j (.inl (by omega))]
        exact hu x hx hlt i j h1 h2 h3)
      exact ⟨permIn_trans _ _ _ 0 n (permIn_mono d d1 a (a + 20) 0 n (by omega) c (by omega) s.1) r.1, r.2⟩
    rw [if_neg c]
    have s := insertion_up pl key a n d han (by omega) (fun p q h1 h2 h3 => by rw [hpl p h1 (by omega), hpl q (by omega) (by omega)]; exact h2)
    have hh1 := home_perm pl (by omega) ha (by omega) (Nat.le_refl _) hh s.1
    generalize insertionSort (ltK key) d a n = d1 at s hh1
    refine ⟨permIn_mono d d1 a n 0 n (by omega) (Nat.le_refl _) (by omega) s.1, hh1, fun x hx hxn => ?_⟩
    by_cases e : x = a
    · subst e; rw [Nat.min_eq_right (by omega)]; exact s.2
    have hlt : x < a := by
      rcases Nat.lt_or_ge x a with g | g
      · exact g
      have := gap ha hx (by omega); omega
    have := gap hx ha hlt
    intro i j h1 h2 h3
    rw [s.1.2.1 i (.inl (by omega)), s.1.2.1 j (.inl (by omega))]
    exact hu x hx hlt i j h1 h2 h3
theorem home_twice {z n : Nat} {d : Array α} (h : Home pl z n d) (hz : 0 < z) : Home pl (2 * z) n d := by
  intro a ha i hi hi2 hin
  have h1 : z ∣ a := Nat.dvd_trans (Nat.dvd_mul_left z 2) ha
  by_cases c : i < a + z
  · have := h a h1 i hi c hin; omega
  have := h (a + z) (Nat.dvd_add h1 (Nat.dvd_refl z)) i (by omega) (by omega) hin; omega
theorem sym_home {n z a b : Nat} {d : Array α} (hz : d.size = n) (z0 : 0 < z) (ha : z ∣ a) (hb : a + z < b) (hb2 : b ≤ a + 2 * z) (hbn : b ≤ n) (hh : ∀ x, z ∣ x → a ≤ x → ∀ i, x ≤ i → i < x + z → i < n → x ≤ pl d[i]! ∧ pl d[i]! < x + z) (u1 : Up (RK pl key) a (a + z) d) (u2 : Up (RK pl key) (a + z) b d) : PermIn a b d (sym (ltK key) n a (a + z) b d) ∧ Up (RK pl key) a b (sym (ltK key) n a (a + z) b d) := by
  refine sym_spec (RK_asymm pl key) (RK_trans pl key) n a (a + z) b d (by omega) (by omega) hb (by omega) u1 u2 (fun i j h1 h2 h3 h4 => ?_)
  have q1 := hh a ha (Nat.le_refl _) i h1 h2 (by omega)
  have q2 := hh (a + z) (Nat.dvd_add ha (Nat.dvd_refl z)) (by omega) j h3 (by omega) (by omega)
  by_cases c : key d[i]! < key d[j]!
  · exact .inl ⟨by simp [ltK, c], .inl c⟩
  refine .inr ⟨by simp [ltK, c], ?_⟩
  unfold RK; omega
theorem mrg_spec (n z : Nat) (z0 : 0 < z) : ∀ (f a : Nat) (d : Array α), n < a + f + 1 → a ≤ n → d.size = n → 2 * z ∣ a → Home pl (2 * z) n d → (∀ x, z ∣ x → a ≤ x → ∀ i, x ≤ i → i < x + z → i < n → x ≤ pl d[i]! ∧ pl d[i]! < x + z) → (∀ x, 2 * z ∣ x → x < a → Up (RK pl key) x (min (x + 2 * z) n) d) → (∀ x, z ∣ x → a ≤ x → x < n → Up (RK pl key) x (min (x + z) n) d) → PermIn 0 n d (mrg (ltK key) n z f a d) ∧ Home pl (2 * z) n (mrg (ltK key) n z f a d) ∧ (∀ x, 2 * z ∣ x → x < n → Up (RK pl key) x (min (x + 2 * z) n) (mrg (ltK key) n z f a d))
  | 0, a, d, h0, han, hz, ha, hh, hh1, hu, hv => by
    obtain rfl : a = n := by omega
    rw [mrg]
    exact ⟨permIn_refl d 0 a, hh, hu⟩
  | f + 1, a, d, h0, han, hz, ha, hh, hh1, hu, hv => by
    have ha1 : z ∣ a := Nat.dvd_trans (Nat.dvd_mul_left z 2) ha
    have haz : z ∣ a + z := Nat.dvd_add ha1 (Nat.dvd_refl z)
    rw [mrg]
    have old : ∀ (b : Nat) (d1 : Array α), PermIn a b d d1 → ∀ x, 2 * z ∣ x → x < a → Up (RK pl key) x (min (x + 2 * z) n) d1 := fun b d1 p x hx hxa => by
      have := gap hx ha hxa
      intro i j h1 h2 h3
      rw [p.2.1 i (.inl (by omega)), p.2.1 j (.inl (by omega))]
      exact hu x hx hxa i j h1 h2 h3
    by_cases c : a + 2 * z ≤ n
    · rw [if_pos c]
      have s := sym_home pl key hz z0 ha1 (show a + z < a + 2 * z by omega) (Nat.le_refl _) c hh1 (by have := hv a ha1 (Nat.le_refl _) (by omega); rwa [Nat.min_eq_left (by omega)] at this) (by have := hv (a + z) haz (by omega) (by omega); rwa [Nat.min_eq_left (by omega), show a + z + z = a + 2 * z by omega] at this)
      have hz1 : (sym (ltK key) n a (a + z) (a + 2 * z) d).size = n := by rw [sym_size, hz]
      generalize sym (ltK key) n a (a + z) (a + 2 * z) d = d1 at s hz1
      have hold := old (a + 2 * z) d1 s.1
      have r := mrg_spec n z z0 f (a + 2 * z) d1 (by omega) c hz1 (Nat.dvd_add ha (Nat.dvd_refl _)) (home_perm pl (by omega) ha (Nat.le_refl _) c hh s.1) (fun x hx hax i h1 h2 h3 => by rw [s.1.2.1 i (.inr (by omega))]; exact hh1 x hx (by omega) i h1 h2 h3) (fun x hx hxa => by
          by_cases e : x = a
          · subst e; rw [Nat.min_eq_left c]; exact s.2
          · have hlt : x < a := by
              rcases Nat.lt_or_ge x a with g | g
              · exact g
              have := gap ha hx (by omega); omega
            exact hold x hx hlt) (fun x hx hax hxn => by
          intro i j h1 h2 h3
          rw [s.1.2.1 i (.inr (by omega)), s.1.2.1 j (.inr (by omega))]
          exact hv x hx (by omega) hxn i j h1 h2 h3)
      exact ⟨permIn_trans _ _ _ 0 n (permIn_mono d d1 a (a + 2 * z) 0 n (by omega) c (by omega) s.1) r.1, r.2⟩
    rw [if_neg c]
    have fin : ∀ (d1 : Array α), PermIn a n d d1 → Up (RK pl key) a n d1 → PermIn 0 n d d1 ∧ Home pl (2 * z) n d1 ∧ (∀ x, 2 * z ∣ x → x < n → Up (RK pl key) x (min (x + 2 * z) n) d1) := fun d1 p u => by
      refine ⟨permIn_mono d d1 a n 0 n (by omega) (Nat.le_refl _) (by omega) p, home_perm pl (by omega) ha (by omega) (Nat.le_refl _) hh p, fun x hx hxn => ?_⟩
      by_cases e : x = a
      · subst e; rw [Nat.min_eq_right (by omega)]; exact u
      have hlt : x < a := by
        rcases Nat.lt_or_ge x a with g | g
        · exact g
        have := gap ha hx (by omega); omega
      exact old n d1 p x hx hlt
    by_cases g : a + z < n
    · rw [if_pos g]
      have s := sym_home pl key hz z0 ha1 g (by omega) (Nat.le_refl _) hh1 (by have := hv a ha1 (Nat.le_refl _) (by omega); rwa [Nat.min_eq_left (by omega)] at this) (by have := hv (a + z) haz (by omega) (by omega); rwa [Nat.min_eq_right (by omega)] at this)
      exact fin _ s.1 s.2
    rw [if_neg g]
    refine fin d (permIn_refl d a n) ?_
    by_cases e : a < n
    · have := hv a ha1 (Nat.le_refl _) e; rwa [Nat.min_eq_right (by omega)] at this
    intro i j h1 h2 h3; omega
theorem mrg_size (lt : α → α → Bool) (n z : Nat) : ∀ (f a : Nat) (d : Array α), (mrg lt n z f a d).size = d.size
  | 0, a, d => rfl
  | f + 1, a, d => by
    rw [mrg]
    split
    · rw [mrg_size lt n z f, sym_size]
    split
    · rw [sym_size]
    rfl
theorem blk_size (lt : α → α → Bool) (n : Nat) : ∀ (f a : Nat) (d : Array α), (blk lt n f a d).size = d.size
  | 0, a, d => rfl
  | f + 1, a, d => by
    rw [blk]
    split
    · rw [blk_size lt n f, insertion_size]
    rw [insertion_size]
theorem mrgs_size (lt : α → α → Bool) (n : Nat) : ∀ (f z : Nat) (d : Array α), (mrgs lt n f z d).size = d.size
  | 0, a, d => rfl
  | f + 1, a, d => by
    rw [mrgs]
    split
    · rw [mrgs_size lt n f, mrg_size]
    rfl
theorem mrgs_spec (n : Nat) : ∀ (f z : Nat) (d : Array α), n < z + f + 1 → 0 < z → d.size = n → Home pl z n d → (∀ x, z ∣ x → x < n → Up (RK pl key) x (min (x + z) n) d) → PermIn 0 n d (mrgs (ltK key) n f z d) ∧ Up (RK pl key) 0 n (mrgs (ltK key) n f z d)
  | 0, z, d, h0, z0, hz, hh, hu => by
    rw [mrgs]
    refine ⟨permIn_refl d 0 n, ?_⟩
    by_cases e : 0 < n
    · have := hu 0 (Nat.dvd_zero z) e; rwa [Nat.min_eq_right (by omega)] at this
    intro i j h1 h2 h3; omega
  | f + 1, z, d, h0, z0, hz, hh, hu => by
    rw [mrgs]
    by_cases c : z < n
    · rw [if_pos c]
      have r := mrg_spec pl key n z z0 (n + 1) 0 d (by omega) (by omega) hz (Nat.dvd_zero _) (home_twice pl hh z0) (fun x hx _ => hh x hx) (fun x hx h => by omega) (fun x hx _ hxn => hu x hx hxn)
      have hz1 : (mrg (ltK key) n z (n + 1) 0 d).size = n := by rw [mrg_size, hz]
      generalize mrg (ltK key) n z (n + 1) 0 d = d1 at r hz1
      rw [show z * 2 = 2 * z from Nat.mul_comm z 2]
      have q := mrgs_spec n f (2 * z) d1 (by omega) (by omega) hz1 r.2.1 r.2.2
      exact ⟨permIn_trans _ _ _ 0 n r.1 q.1, q.2⟩
    rw [if_neg c]
    refine ⟨permIn_refl d 0 n, ?_⟩
    by_cases e : 0 < n
    · have := hu 0 (Nat.dvd_zero z) e; rwa [Nat.min_eq_right (by omega)] at this
    intro i j h1 h2 h3; omega
theorem stable_spec (n : Nat) (d : Array α) (hz : d.size = n) (hpl : ∀ i, i < n → pl d[i]! = i) : PermIn 0 n d (stable (ltK key) n d) ∧ Up (RK pl key) 0 n (stable (ltK key) n d) := by
  unfold stable
  by_cases hn : n = 0
  · subst hn
    exact ⟨by rw [mrgs, blk, if_neg (by omega)]; exact (insertion_up pl key 0 0 d (Nat.le_refl _) (by omega) (fun p q h1 h2 h3 => by omega)).1, fun i j h1 h2 h3 => by omega⟩
  have b := blk_spec pl key n (n + 1) 0 d (by omega) (by omega) hz (Nat.dvd_zero _) (fun i _ h => hpl i h) (fun a ha i h1 h2 h3 => by rw [hpl i h3]; omega) (fun x hx h => by omega)
  have hz1 : (blk (ltK key) n (n + 1) 0 d).size = n := by rw [blk_size, hz]
  generalize blk (ltK key) n (n + 1) 0 d = d1 at b hz1
  have m := mrgs_spec pl key n n 20 d1 (by omega) (by omega) hz1 b.2.1 b.2.2
  exact ⟨permIn_trans _ _ _ 0 n b.1 m.1, m.2⟩
end Go.Proofs.Ytefhljhpcpajgaa.Stable
namespace Go.Proofs.Ytefhljhpcpajgaa.F
open Go.Sort Go.Shelf Go.Lib
open Go.RowKit Go.Proofs.YtefhljhpcpajgaaX Go.Proofs.YtefhljhpcpajgaaW.PrintWords Go.Proofs.YtefhljhpcpajgaaW.PrintLast Go.Proofs.YtefhljhpcpajgaaW.PrintMore
set_option maxHeartbeats 8000000 in
set_option maxRecDepth 100000 in
theorem share_key.calls (rb : Nat) (A : Option Addr) (c : Nat) (l : List Int) (i : Nat) (w : World) (hi : i < l.length) (hb : w.cell? ⟨rb, 0, none⟩ = some (.slice A l.length c)) (hr : Kd.C (Kd.int .i64) w A l.length l) :
    Calls Try.prog 109 #[.int .i64 (i : Int), .pointer (some ⟨rb, 0, none⟩)] w fun e w' => e = .returned (.int .i64 l[i]) ∧ ∃ q, w' = w.drewN q := by
  have p101 : 0 ≤ (i : Int) := by omega
  have q101 : (i : Int) < (l.length : Int) := by omega
  obtain ⟨ad101, e101, hx101_0⟩ := Kd.at_int hr (i : Int) p101 q101
  cases e101
  have hrd : rd l (i : Int) = l[i] := by unfold rd; simp [List.getD_eq_getElem?_getD, hi]
  rw [hrd] at hx101_0
  simp only [Int.toNat_natCast] at hx101_0
  replace p101 := eq_true p101
  replace q101 := eq_true q101
  go_enter Try.func109, Try.ntmps109
  go_wp2
  go_ret
  exact ⟨rfl, 0, rfl⟩
set_option maxHeartbeats 8000000 in
set_option maxRecDepth 100000 in
theorem cmp_nan.calls (x : Int) (w : World) : Calls Try.prog 149 #[.int .i64 x] w fun e w' => e = .returned (.bool false) ∧ ∃ q, w' = w.drewN q := by
  go_enter Try.func149, Try.ntmps149
  go_wp2
  go_ret
  exact ⟨by simp, 0, rfl⟩
def cmpI (x y : Int) : Int := if x < y then -1 else if x > y then 1 else 0
set_option maxHeartbeats 8000000 in
set_option maxRecDepth 100000 in
theorem cmp_int.calls (x y : Int) (w : World) : Calls Try.prog 140 #[.int .i64 x, .int .i64 y] w fun e w' => e = .returned (.int .i64 (cmpI x y)) ∧ ∃ q, w' = w.drewN q := by
  unfold cmpI
  go_enter Try.func140, Try.ntmps140
  have hb1 : (if x < y then (-1 : Int) else if x > y then 1 else 0) = if x < y then -1 else if x > y then 1 else 0 := rfl
  by_cases h1 : x < y
  · rw [if_pos h1]
    have h1b : decide (x < y) = true := decide_eq_true h1; go_wp2; repeat (go_quiet (first | (go_at_call 149; (with_reducible refine (cmp_nan.calls _ _).mono ?_); rintro e w' ⟨rfl, ⟨nd, rfl⟩⟩; (try first | exact ⟨rfl, _, World.drewN_drewN _ _ _⟩ | exact ⟨rfl, _, rfl⟩))); try go_wp2)
    go_ret; exact ⟨rfl, 0, rfl⟩
  rw [if_neg h1]
  have h1b : decide (x < y) = false := decide_eq_false h1
  by_cases h2 : y < x
  · rw [if_pos h2]
    have h2b : decide (y < x) = true := decide_eq_true h2; go_wp2; repeat (go_quiet (first | (go_at_call 149; (with_reducible refine (cmp_nan.calls _ _).mono ?_); rintro e w' ⟨rfl, ⟨nd, rfl⟩⟩; (try first | exact ⟨rfl, _, World.drewN_drewN _ _ _⟩ | exact ⟨rfl, _, rfl⟩))); try go_wp2)
    go_ret; exact ⟨rfl, 0, rfl⟩
  rw [if_neg h2]
  have h2b : decide (y < x) = false := decide_eq_false h2
  go_wp2
  repeat (go_quiet (first | (go_at_call 149; (with_reducible refine (cmp_nan.calls _ _).mono ?_); rintro e w' ⟨rfl, ⟨nd, rfl⟩⟩; (try first | exact ⟨rfl, _, World.drewN_drewN _ _ _⟩ | exact ⟨rfl, _, rfl⟩))); try go_wp2)
  go_ret
  exact ⟨rfl, 0, rfl⟩
set_option maxHeartbeats 8000000 in
set_option maxRecDepth 100000 in
theorem share_cmp.calls (kb rb : Nat) (A : Option Addr) (c : Nat) (l : List Int) (x y : Nat) (w : World) (hx : x < l.length) (hy : y < l.length) (hk : w.cell? ⟨kb, 0, none⟩ = some (.func (.func 109) #[] #[.pointer (some ⟨rb, 0, none⟩)])) (hb : w.cell? ⟨rb, 0, none⟩ = some (.slice A l.length c)) (hr : Kd.C (Kd.int .i64) w A l.length l) :
    Calls Try.prog 139 #[.int .i64 (x : Int), .int .i64 (y : Int), .pointer (some ⟨kb, 0, none⟩)] w fun e w' => e = .returned (.int .i64 (cmpI l[y] l[x])) ∧ ∃ q, w' = w.drewN q := by
  have HK := Aside0.mk hk
  have HB := Aside0.mk hb
  have HR := Aside0.mk hr
  clear hb hr
  go_enter Try.func139, Try.ntmps139
  go_wp2
  repeat (go_quiet (first | (go_at_call 109; (with_reducible refine (share_key.calls rb A c l _ _ ?s0 ?s1 ?s2).mono ?_); (case s0 => assumption); (case s1 => exact HB.out); (case s2 => repeat (first | exact HR.out | (with_reducible refine Kd.C_drewN ?_ _) | (with_reducible refine Kd.C_drew ?_))); rintro e w' ⟨rfl, ⟨nd, rfl⟩⟩; (try first | exact ⟨rfl, _, World.drewN_drewN _ _ _⟩ | exact ⟨rfl, _, rfl⟩)) | (go_at_call 140; (with_reducible refine (cmp_int.calls _ _ _).mono ?_); rintro e w' ⟨rfl, ⟨nd, rfl⟩⟩; (try first | exact ⟨rfl, _, World.drewN_drewN _ _ _⟩ | exact ⟨rfl, _, rfl⟩))); try go_wp2)
  go_ret
  exact ⟨rfl, _, rfl⟩
open Go.Sort Go.Shelf Go.Lib in
theorem sorted_heap {α : Type} [Inhabited α] (enc : α → Value) (w : World) (blk off m : Nat) (dk : Array α) (os : Array Obj) (k : Nat) (hk : k < w.heap.size) (hne : k ≠ blk) : (sortWorld enc w blk off m dk os).heap[k]? = w.heap[k]? := by
  unfold sortWorld grow putRow mapBlock
  show ((Array.modify w.heap blk _) ++ os)[k]? = _
  rw [Array.getElem?_append_left (by simpa using hk), Array.getElem?_modify, if_neg (fun e => hne e.symm)]
open Go.Sort Go.Shelf Go.Lib in
theorem sorted_below {α : Type} [Inhabited α] (enc : α → Value) {w0 w : World} {B blk off m : Nat} {dk : Array α} {os : Array Obj} (hB : Below B w0 w) (hb : B ≤ blk) (hs : B ≤ w.heap.size) : Below B w0 (sortWorld enc w blk off m dk os) :=
  ⟨hB.os, hB.tape, hB.output, Nat.le_trans hB.size (by unfold sortWorld; rw [size_grow, Go.Proofs.size_putRow]; show w.heap.size ≤ w.heap.size + _; omega), fun k hk => by rw [sorted_heap enc w blk off m dk os k (by omega) (by omega)]; exact hB.block k hk⟩
def pinN (N i : Nat) : Nat := if i < N then i else 0
def encP (N : Nat) (i : Nat) : Value := .int .i64 ((pinN N i : Nat) : Int)
def keyOf (l : List Int) (i : Nat) : Int := l.getD (pinN l.length i) 0
def cfP (l : List Int) (x y : Nat) : Int := cmpI (keyOf l y) (keyOf l x)
theorem pin_lt {N : Nat} (h : 0 < N) (i : Nat) : pinN N i < N := by unfold pinN; split <;> omega
theorem pin_of {N i : Nat} (h : i < N) : pinN N i = i := by unfold pinN; rw [if_pos h]
theorem share_cmp.lays (kb rb : Nat) (A : Option Addr) (c : Nat) (l : List Int) (hl : 0 < l.length) (blk off size : Nat) (w0 w : World) (hb : w0.cell? ⟨rb, 0, none⟩ = some (.slice A l.length c)) (hr : Kd.C (Kd.int .i64) w0 A l.length l)
    (hB : Below w0.heap.size w0 w) (hblk : w0.heap.size ≤ blk) (hbw : blk ≤ w.heap.size) (hkb : kb < blk) (hk : w.cell? ⟨kb, 0, none⟩ = some (.func (.func 109) #[] #[.pointer (some ⟨rb, 0, none⟩)])) :
    CmpLays1 Try.prog 139 #[.pointer (some ⟨kb, 0, none⟩)] (encP l.length) (cfP l) blk off size w := fun m os dk hs x y => by
  have H1 := sorted_below (encP l.length) (off := off) (m := m) (dk := dk) (os := os) hB hblk hB.size
  have H2 := sorted_below (encP l.length) (off := off) (m := m) (dk := dk) (os := os) (Below.refl blk w) (Nat.le_refl _) hbw
  have := share_cmp.calls kb rb A c l (pinN l.length x) (pinN l.length y) (sortWorld (encP l.length) w blk off m dk os) (pin_lt hl x) (pin_lt hl y) ((H2.cell (p := ⟨kb, 0, none⟩) hkb).trans hk) ((H1.cell (World.block_lt_of_cell? w0 _ hb)).trans hb) (Kd.C_below hr H1)
  refine this.mono ?_
  rintro e w' ⟨he, q, hq⟩
  refine ⟨?_, q, #[], by rw [hq, grow_empty]⟩
  rw [he]
  unfold cfP keyOf
  simp [List.getD_eq_getElem?_getD, pin_lt hl x, pin_lt hl y]
theorem cfP_lt (l : List Int) : ltOf (cfP l) = Stable.ltK (keyOf l) := by
  funext x y
  unfold ltOf cfP cmpI Stable.ltK
  by_cases h1 : keyOf l y < keyOf l x
  · rw [if_pos h1]; simp [h1]
  rw [if_neg h1]
  by_cases h2 : keyOf l y > keyOf l x
  · rw [if_pos h2]; simp; omega
  rw [if_neg h2]; simp; omega
end Go.Proofs.Ytefhljhpcpajgaa.F
set_option linter.unusedVariables false
namespace Go.Proofs.Ytefhljhpcpajgaa.F
open Go.Sort Go.Shelf Go.Lib
open Go.RowKit Go.Proofs.YtefhljhpcpajgaaX Go.Proofs.YtefhljhpcpajgaaW.PrintWords Go.Proofs.YtefhljhpcpajgaaW.PrintLast Go.Proofs.YtefhljhpcpajgaaW.PrintMore
open Go.Proofs.Ytefhljhpcpajgaa.Stable
theorem bs_in (p : Nat → Bool) : ∀ (f i j : Nat), i ≤ j → j ≤ f + i → i ≤ bs p f i j ∧ bs p f i j ≤ j
  | 0, i, j, h, _ => by rw [bs]; omega
  | f + 1, i, j, h, h2 => by
    rw [bs]
    by_cases c : i < j
    · rw [if_pos c]
      by_cases e : p ((i + j) / 2) = true
      · rw [if_pos e]; have := bs_in p f ((i + j) / 2 + 1) j (by omega) (by omega); omega
      rw [if_neg e]; have := bs_in p f i ((i + j) / 2) (by omega) (by omega); omega
    rw [if_neg c]; omega
set_option maxHeartbeats 8000000 in
set_option maxRecDepth 100000 in
theorem swap_range {α : Type} [Inhabited α] (enc : α → Value) (g : Nat) (cb : Array Value) (blk off cap a b n : Nat) (d0 d : Array α) (w0 w : World) (R : Row1 enc w0 blk off d0) (hs : d0.size = d.size) (S : SW enc w0 blk off d w) (ha : a + n ≤ d.size) (hb : b + n ≤ d.size) (hsz : d.size < 4611686018427387904) :
    Calls Try.prog 167 #[.slice (some ⟨blk, off, none⟩) d.size cap, .int .i64 a, .int .i64 b, .int .i64 n, .func (.func g) #[] cb] w fun e w' => e = .returned (.tuple #[]) ∧ SW enc w0 blk off (swr a b n 0 d) w' := by
  have mixed : Try.prog.follows Departure.mixedOrders = true := by kernel_rfl
  have u22 := run_underlying Try.underlying22
  have hcl0 := R.hO.cells
  simp only [Value.cells] at hcl0
  have hst := R.hO.store Try.prog
  have S0 : Aside (SW enc w0 blk off d w) := S
  clear S
  go_enter Try.func167, Try.ntmps167
  go_wp2
  go_loopg [10] n (fun g1 vi wr => ∃ (i : Nat) (dk : Array α), vi = .int .i64 i ∧ i ≤ n ∧ n ≤ g1 + i ∧ dk.size = d.size ∧ Aside (SW enc w0 blk off dk wr) ∧ Hid (swr a b (n - i) i dk = swr a b n 0 d))
  case atStart => exact ⟨0, d, by first | rfl | go_num, by omega, by omega, rfl, S0, rfl⟩
  case round =>
    clear S0
    obtain ⟨i, dk, rfl, hib, hg1, hsk, S1, HO⟩ := hrel
    by_cases hlt : i < n
    · have hltz : (i : Int) < (n : Int) := by omega
      obtain ⟨iN, hiN⟩ : ∃ q, q = a + i := ⟨_, rfl⟩
      obtain ⟨jN, hjN⟩ : ∃ q, q = b + i := ⟨_, rfl⟩
      have ea : ((a : Int) + (i : Int)).toNat = iN := by omega
      have pa : (0 : Int) ≤ (a : Int) + (i : Int) := by omega
      have ba : (a : Int) + (i : Int) < (d.size : Int) := by omega
      have ra : IntKind.i64.wrap ((a : Int) + (i : Int)) = (a : Int) + (i : Int) := by rw [IntKind.wrap_i64]; omega
      have ec : ((b : Int) + (i : Int)).toNat = jN := by omega
      have pc : (0 : Int) ≤ (b : Int) + (i : Int) := by omega
      have bc : (b : Int) + (i : Int) < (d.size : Int) := by omega
      have rc : IntKind.i64.wrap ((b : Int) + (i : Int)) = (b : Int) + (i : Int) := by rw [IntKind.wrap_i64]; omega
      obtain ⟨x, hx⟩ : ∃ x, x = dk[iN]! := ⟨_, rfl⟩
      obtain ⟨y, hy⟩ : ∃ x, x = dk[jN]! := ⟨_, rfl⟩
      have S3 : Aside (SW enc w0 blk off (swp dk iN jN) ((wr.setCell ⟨blk, off + iN, none⟩ (enc y)).setCell ⟨blk, off + jN, none⟩ (enc x)).drew) := by rw [hx, hy]; exact S1.out.swapped R iN jN (by omega) (by omega)
      have ca := S1.out.c1 R (by omega) iN (by omega)
      have cb' := S1.out.c1 R (by omega) jN (by omega)
      have fa := S1.out.f1 R (by omega) iN (by omega)
      have fb := S1.out.f1 R (by omega) jN (by omega)
      obtain ⟨u, cc⟩ := S1.out.c2 R (by omega) iN jN (by omega) (by omega) (enc y)
      rw [← hx] at ca
      rw [← hy] at cb'
      have HX : Hid (swr a b (n - (i + 1)) (i + 1) (swp dk iN jN) = swr a b n 0 d) := by
        show _ = _
        rw [← HO.out, show n - i = n - (i + 1) + 1 by omega, swr, hiN, hjN]
      have hz : (swp dk iN jN).size = d.size := by rw [swp_size]; exact hsk
      clear S1 hx hy hiN hjN HO
      go_wp2_with fail
      go_big_region_o
      clear ca cb' cc fa fb
      generalize ((wr.setCell ⟨blk, off + iN, none⟩ (enc y)).setCell ⟨blk, off + jN, none⟩ (enc x)).drew = w3 at S3 ⊢
      clear ea ec
      go_wp2
      go_roundg (n - (i + 1))
      case measure => omega
      case rel => exact ⟨i + 1, swp dk iN jN, by first | rfl | go_num | (congr 1; omega), by omega, by omega, hz, S3, HX⟩
    have hltz : ¬ (i : Int) < (n : Int) := by omega
    obtain rfl : i = n := by omega
    go_wp2
    go_end0
    exact ⟨rfl, by rw [← HO.out, Nat.sub_self]; exact S1.out⟩
set_option maxHeartbeats 8000000 in
set_option maxRecDepth 100000 in
theorem rotate_calls {α : Type} [Inhabited α] (enc : α → Value) (g : Nat) (cb : Array Value) (blk off cap a m b : Nat) (d0 d : Array α) (w0 w : World) (R : Row1 enc w0 blk off d0) (hs : d0.size = d.size) (S : SW enc w0 blk off d w) (ha : a < m) (hm : m < b) (hb : b ≤ d.size) (hsz : d.size < 4611686018427387904) :
    Calls Try.prog 163 #[.slice (some ⟨blk, off, none⟩) d.size cap, .int .i64 a, .int .i64 m, .int .i64 b, .func (.func g) #[] cb] w fun e w' => e = .returned (.tuple #[]) ∧ SW enc w0 blk off (rot m (m - a + (b - m)) (m - a) (b - m) d) w' := by
  have mixed : Try.prog.follows Departure.mixedOrders = true := by kernel_rfl
  have S0 : Aside (SW enc w0 blk off d w) := S
  have hw1 : IntKind.i64.wrap ((m : Int) - (a : Int)) = (m : Int) - (a : Int) := by rw [IntKind.wrap_i64]; omega
  have hw2 : IntKind.i64.wrap ((b : Int) - (m : Int)) = (b : Int) - (m : Int) := by rw [IntKind.wrap_i64]; omega
  clear S
  go_enter Try.func163, Try.ntmps163
  go_wp2
  go_loopg [10, 11] (b - a) (fun g1 vi vj wr => ∃ (i j f : Nat) (dk : Array α), vi = .int .i64 i ∧ vj = .int .i64 j ∧ 0 < i ∧ 0 < j ∧ i ≤ m ∧ m + j ≤ d.size ∧ i + j ≤ g1 ∧ i + j ≤ f ∧ dk.size = d.size ∧ Aside (SW enc w0 blk off dk wr) ∧ Hid (rot m f i j dk = rot m (m - a + (b - m)) (m - a) (b - m) d))
  case atStart => exact ⟨m - a, b - m, m - a + (b - m), d, by (congr 1; omega), by (congr 1; omega), by omega, by omega, by omega, by omega, by omega, Nat.le_refl _, rfl, S0, rfl⟩
  case round =>
    clear S0
    obtain ⟨i, j, f, dk, rfl, rfl, hi, hj, him, hmj, hg1, hf, hsk, S1, HO⟩ := hrel
    obtain ⟨f, rfl⟩ : ∃ q, f = q + 1 := ⟨f - 1, by omega⟩
    have hwi : IntKind.i64.wrap ((m : Int) - (i : Int)) = (m : Int) - (i : Int) := by rw [IntKind.wrap_i64]; omega
    by_cases hij : i = j
    · subst hij
      have hn : ((i : Int) != (i : Int)) = false := by simp
      have hc : Calls Try.prog 167 #[.slice (some ⟨blk, off, none⟩) d.size cap, .int .i64 ((m : Int) - (i : Int)), .int .i64 m, .int .i64 i, .func (.func g) #[] cb] wr fun e w' => e = .returned (.tuple #[]) ∧ SW enc w0 blk off (rot m (m - a + (b - m)) (m - a) (b - m) d) w' := by
        have := swap_range enc g cb blk off cap (m - i) m i d0 dk w0 wr R (by omega) S1.out (by omega) (by omega) (by omega)
        rw [hsk, show ((m - i : Nat) : Int) = (m : Int) - (i : Int) by omega] at this
        rw [← HO.out, rot, if_pos rfl]
        exact this
      have HC := Aside0.mk hc
      clear hc S1 HO
      go_wp2_with (first | (go_at_call 167; refine HC.out.mono ?_; rintro e w' ⟨rfl, S2⟩; have S3 := Aside0.mk S2; clear S2))
      go_end0
      exact ⟨rfl, S3.out⟩
    have hn : ((i : Int) != (j : Int)) = true := by simp; omega
    by_cases hlt : j < i
    · have hlt' : decide ((j : Int) < (i : Int)) = true := decide_eq_true (by omega)
      have hwj : IntKind.i64.wrap ((i : Int) - (j : Int)) = (i : Int) - (j : Int) := by rw [IntKind.wrap_i64]; omega
      have hc : Calls Try.prog 167 #[.slice (some ⟨blk, off, none⟩) d.size cap, .int .i64 ((m : Int) - (i : Int)), .int .i64 m, .int .i64 j, .func (.func g) #[] cb] wr fun e w' => e = .returned (.tuple #[]) ∧ SW enc w0 blk off (swr (m - i) m j 0 dk) w' := by
        have := swap_range enc g cb blk off cap (m - i) m j d0 dk w0 wr R (by omega) S1.out (by omega) (by omega) (by omega)
        rw [hsk, show ((m - i : Nat) : Int) = (m : Int) - (i : Int) by omega] at this
        exact this
      have HX : Hid (rot m f (i - j) j (swr (m - i) m j 0 dk) = rot m (m - a + (b - m)) (m - a) (b - m) d) := by
        show _ = _
        rw [← HO.out, rot, if_neg hij, if_pos hlt]
      have hz : (swr (m - i) m j 0 dk).size = d.size := by rw [swr_size]; exact hsk
      have HC := Aside0.mk hc
      clear hc S1 HO
      go_wp2_with (first | (go_at_call 167; refine HC.out.mono ?_; rintro e w' ⟨rfl, S2⟩; have S3 := Aside0.mk S2; clear S2))
      go_roundg (i - j + j)
      case measure => omega
      case rel => exact ⟨i - j, j, f, _, by (congr 1; omega), rfl, by omega, hj, by omega, hmj, by omega, by omega, hz, S3.out, HX⟩
    have hlt' : decide ((j : Int) < (i : Int)) = false := decide_eq_false (by omega)
    have hwj : IntKind.i64.wrap ((j : Int) - (i : Int)) = (j : Int) - (i : Int) := by rw [IntKind.wrap_i64]; omega
    have hw3 : IntKind.i64.wrap ((m : Int) + (j : Int)) = (m : Int) + (j : Int) := by rw [IntKind.wrap_i64]; omega
    have hw4 : IntKind.i64.wrap ((m : Int) + (j : Int) - (i : Int)) = (m : Int) + (j : Int) - (i : Int) := by rw [IntKind.wrap_i64]; omega
    have hc : Calls Try.prog 167 #[.slice (some ⟨blk, off, none⟩) d.size cap, .int .i64 ((m : Int) - (i : Int)), .int .i64 ((m : Int) + (j : Int) - (i : Int)), .int .i64 i, .func (.func g) #[] cb] wr fun e w' => e = .returned (.tuple #[]) ∧ SW enc w0 blk off (swr (m - i) (m + j - i) i 0 dk) w' := by
      have := swap_range enc g cb blk off cap (m - i) (m + j - i) i d0 dk w0 wr R (by omega) S1.out (by omega) (by omega) (by omega)
      rw [hsk, show ((m - i : Nat) : Int) = (m : Int) - (i : Int) by omega, show ((m + j - i : Nat) : Int) = (m : Int) + (j : Int) - (i : Int) by omega] at this
      exact this
    have HX : Hid (rot m f i (j - i) (swr (m - i) (m + j - i) i 0 dk) = rot m (m - a + (b - m)) (m - a) (b - m) d) := by
      show _ = _
      rw [← HO.out, rot, if_neg hij, if_neg hlt]
    have hz : (swr (m - i) (m + j - i) i 0 dk).size = d.size := by rw [swr_size]; exact hsk
    have HC := Aside0.mk hc
    clear hc S1 HO
    go_wp2_with (first | (go_at_call 167; refine HC.out.mono ?_; rintro e w' ⟨rfl, S2⟩; have S3 := Aside0.mk S2; clear S2))
    go_roundg (i + (j - i))
    case measure => omega
    case rel => exact ⟨i, j - i, f, _, rfl, by (congr 1; omega), hi, by omega, him, by omega, by omega, by omega, hz, S3.out, HX⟩
end Go.Proofs.Ytefhljhpcpajgaa.F
set_option linter.unusedVariables false
namespace Go.Proofs.Ytefhljhpcpajgaa.F
open Go.Sort Go.Shelf Go.Lib
open Go.RowKit Go.Proofs.YtefhljhpcpajgaaX Go.Proofs.YtefhljhpcpajgaaW.PrintWords Go.Proofs.YtefhljhpcpajgaaW.PrintLast Go.Proofs.YtefhljhpcpajgaaW.PrintMore
open Go.Proofs.Ytefhljhpcpajgaa.Stable
set_option maxHeartbeats 8000000 in
set_option maxRecDepth 100000 in
theorem sym_up {α : Type} [Inhabited α] (enc : α → Value) (cf : α → α → Int) (g : Nat) (cb : Array Value) (blk off cap a M b : Nat) (d0 d : Array α) (w0 w : World) (eg : ∀ args w, (callFunc g args).run Try.prog w = .ok (.enter g args) w) (hcmp : CmpLays1 Try.prog g cb enc cf blk off d0.size w0) (R : Row1 enc w0 blk off d0) (hs : d0.size = d.size) (S : SW enc w0 blk off d w) (ha1 : a < M) (ha2 : M ≤ a + 1) (hm : M < b) (hb : b ≤ d.size) (hsz : d.size < 4611686018427387904) :
    Calls Try.prog 156 #[.slice (some ⟨blk, off, none⟩) d.size cap, .int .i64 a, .int .i64 M, .int .i64 b, .func (.func g) #[] cb] w fun e w' => e = .returned (.tuple #[]) ∧ SW enc w0 blk off (shU (bs (fun h => ltOf cf d[h]! d[a]!) (b - M) M b - 1 - a) a d) w' := by
  have mixed : Try.prog.follows Departure.mixedOrders = true := by kernel_rfl
  have u22 := run_underlying Try.underlying22
  have hcl0 := R.hO.cells
  simp only [Value.cells] at hcl0
  have hst := R.hO.store Try.prog
  have HC : Aside _ := hcmp
  have S0 : Aside (SW enc w0 blk off d w) := S
  have hma : IntKind.i64.wrap ((M : Int) - (a : Int)) = 1 := by rw [IntKind.wrap_i64]; omega
  have hma' : (((1 : Int) == 1) = true) := rfl
  have hspec : M ≤ bs (fun h => ltOf cf d[h]! d[a]!) (b - M) M b ∧ bs (fun h => ltOf cf d[h]! d[a]!) (b - M) M b ≤ b := bs_in _ _ _ _ (by omega) (by omega)
  have HS := Aside0.mk hspec
  clear S hcmp hspec
  go_enter Try.func156, Try.ntmps156
  go_wp2
  go_loopg [10, 11] (b - M) (fun g1 vi vj wr => ∃ (i j f : Nat), vi = .int .i64 i ∧ vj = .int .i64 j ∧ M ≤ i ∧ i ≤ j ∧ j ≤ b ∧ j ≤ g1 + i ∧ j ≤ f + i ∧ Aside (SW enc w0 blk off d wr) ∧ Hid (bs (fun h => ltOf cf d[h]! d[a]!) f i j = bs (fun h => ltOf cf d[h]! d[a]!) (b - M) M b))
  case atStart => exact ⟨M, b, b - M, rfl, rfl, Nat.le_refl _, by omega, Nat.le_refl _, by omega, by omega, S0, rfl⟩
  case round =>
    clear S0
    obtain ⟨i, j, f, rfl, rfl, him, hij, hjb, hg1, hf, S1, HO⟩ := hrel
    by_cases hlt : i < j
    · have hltz : (i : Int) < (j : Int) := by omega
      obtain ⟨f, rfl⟩ : ∃ q, f = q + 1 := ⟨f - 1, by omega⟩
      obtain ⟨h, hh⟩ : ∃ q, q = (i + j) / 2 := ⟨_, rfl⟩
      have ea : (((i : Int) + (j : Int)) / 2).toNat = h := by omega
      have pa : (0 : Int) ≤ ((i : Int) + (j : Int)) / 2 := by omega
      have ba : ((i : Int) + (j : Int)) / 2 < (d.size : Int) := by omega
      have ra : IntKind.i64.wrap (((i : Int) + (j : Int)) / 2 + 1) = ((i : Int) + (j : Int)) / 2 + 1 := by rw [IntKind.wrap_i64]; omega
      have bc : (a : Int) < (d.size : Int) := by omega
      obtain ⟨x, hx⟩ : ∃ x, x = d[h]! := ⟨_, rfl⟩
      obtain ⟨y, hy⟩ : ∃ x, x = d[a]! := ⟨_, rfl⟩
      have la := S1.out.cl R (by omega) h (by omega)
      have lb := S1.out.cl R (by omega) a (by omega)
      rw [← hx, hh] at la
      rw [← hy] at lb
      have hc := S1.out.cmp HC.out (by omega) x y
      cases hlv : ltOf cf d[h]! d[a]! with
      | true =>
        have hd : decide (cf x y < 0) = true := by rw [hx, hy]; exact hlv
        have HX : Hid (bs (fun h => ltOf cf d[h]! d[a]!) f (h + 1) j = bs (fun h => ltOf cf d[h]! d[a]!) (b - M) M b) := by
          show _ = _
          rw [← HO.out, bs, if_pos hlt, if_pos (by rw [← hh]; exact hlv), hh]
        clear hx hy hlv
        go_wp2_with fail
        go_quiet_grown (first | (go_at_fn g; refine Calls.grown_of (hc _ _)))
        have S2 : Aside (SW enc w0 blk off d (grow (wr.drewN nq) osq)) := S1.out.grown nq osq
        clear la lb hc S1
        generalize grow (wr.drewN nq) osq = w2 at S2 ⊢
        clear nq osq
        go_wp2
        go_roundg (j - (h + 1))
        case measure => omega
        case rel => exact ⟨h + 1, j, f, by (congr 1; omega), rfl, by omega, by omega, hjb, by omega, by omega, S2, HX⟩
      | false =>
        have hd : decide (cf x y < 0) = false := by rw [hx, hy]; exact hlv
        have HX : Hid (bs (fun h => ltOf cf d[h]! d[a]!) f i h = bs (fun h => ltOf cf d[h]! d[a]!) (b - M) M b) := by
          show _ = _
          rw [← HO.out, bs, if_pos hlt, if_neg (by rw [← hh]; simp [hlv]), hh]
        clear hx hy hlv
        go_wp2_with fail
        go_quiet_grown (first | (go_at_fn g; refine Calls.grown_of (hc _ _)))
        have S2 : Aside (SW enc w0 blk off d (grow (wr.drewN nq) osq)) := S1.out.grown nq osq
        clear la lb hc S1
        generalize grow (wr.drewN nq) osq = w2 at S2 ⊢
        clear nq osq
        go_wp2
        go_roundg (h - i)
        case measure => omega
        case rel => exact ⟨i, h, f, rfl, by (congr 1; omega), him, by omega, by omega, by omega, by omega, S2, HX⟩
    obtain rfl : i = j := by omega
    obtain ⟨s, hs'⟩ : ∃ q, q = bs (fun h => ltOf cf d[h]! d[a]!) (b - M) M b := ⟨_, rfl⟩
    have hsi : i = s := by
      rw [hs', ← HO.out]
      cases f with
      | zero => rw [bs]
      | succ f => rw [bs, if_neg hlt]
    have HS2 := HS.out
    rw [← hs', ← hsi] at HS2
    rw [← hsi] at hs'
    have HE := Aside0.mk hs'
    clear HS HO hs' hsi
    have rs : IntKind.i64.wrap ((i : Int) - 1) = (i : Int) - 1 := by rw [IntKind.wrap_i64]; omega
    go_wp2
    go_loopg [13] (i - 1 - a) (fun g1 vk wr => ∃ (k : Nat) (dk : Array α), vk = .int .i64 k ∧ a ≤ k ∧ k ≤ i - 1 ∧ i - 1 ≤ g1 + k ∧ dk.size = d.size ∧ Aside (SW enc w0 blk off dk wr) ∧ Hid (shU (i - 1 - k) k dk = shU (i - 1 - a) a d))
    case atStart => exact ⟨a, d, rfl, Nat.le_refl _, by omega, by omega, rfl, S1, rfl⟩
    case round =>
      clear S1
      obtain ⟨k, dk, rfl, hak, hki, hg2, hsk, S1, HO⟩ := hrel
      by_cases hlt : k < i - 1
      · have hltz : (k : Int) < (i : Int) - 1 := by omega
        obtain ⟨jN, hjN⟩ : ∃ q, q = k + 1 := ⟨_, rfl⟩
        have ec : ((k : Int) + 1).toNat = jN := by omega
        have pc : (0 : Int) ≤ (k : Int) + 1 := by omega
        have bc : (k : Int) + 1 < (d.size : Int) := by omega
        have rc : IntKind.i64.wrap ((k : Int) + 1) = (k : Int) + 1 := by rw [IntKind.wrap_i64]; omega
        have ba : (k : Int) < (d.size : Int) := by omega
        obtain ⟨x, hx⟩ : ∃ x, x = dk[k]! := ⟨_, rfl⟩
        obtain ⟨y, hy⟩ : ∃ x, x = dk[jN]! := ⟨_, rfl⟩
        have S3 : Aside (SW enc w0 blk off (swp dk k jN) ((wr.setCell ⟨blk, off + k, none⟩ (enc y)).setCell ⟨blk, off + jN, none⟩ (enc x)).drew) := by rw [hx, hy]; exact S1.out.swapped R k jN (by omega) (by omega)
        have ca := S1.out.c1 R (by omega) k (by omega)
        have cb' := S1.out.c1 R (by omega) jN (by omega)
        have fa := S1.out.f1 R (by omega) k (by omega)
        have fb := S1.out.f1 R (by omega) jN (by omega)
        obtain ⟨u, cc⟩ := S1.out.c2 R (by omega) k jN (by omega) (by omega) (enc y)
        rw [← hx] at ca
        rw [← hy] at cb'
        have HX : Hid (shU (i - 1 - (k + 1)) (k + 1) (swp dk k jN) = shU (i - 1 - a) a d) := by
          show _ = _
          rw [← HO.out, show i - 1 - k = i - 1 - (k + 1) + 1 by omega, shU, hjN]
        have hz : (swp dk k jN).size = d.size := by rw [swp_size]; exact hsk
        clear S1 hx hy hjN HO
        go_wp2_with fail
        go_big_region_o
        clear ca cb' cc fa fb
        generalize ((wr.setCell ⟨blk, off + k, none⟩ (enc y)).setCell ⟨blk, off + jN, none⟩ (enc x)).drew = w3 at S3 ⊢
        clear ec
        go_wp2
        go_roundg (i - 1 - (k + 1))
        case measure => omega
        case rel => exact ⟨k + 1, swp dk k jN, by first | rfl | go_num | (congr 1; omega), by omega, by omega, by omega, hz, S3, HX⟩
      have hltz : ¬ (k : Int) < (i : Int) - 1 := by omega
      obtain rfl : k = i - 1 := by omega
      go_wp2
      (try simp only [Exit.inBlock, Exit.then]); refine bodyPost_ret (results_none rfl _ _ _) rfl ?_
      exact ⟨rfl, by rw [← HE.out, ← HO.out, Nat.sub_self]; exact S1.out⟩
set_option maxHeartbeats 8000000 in
set_option maxRecDepth 100000 in
theorem sym_down {α : Type} [Inhabited α] (enc : α → Value) (cf : α → α → Int) (g : Nat) (cb : Array Value) (blk off cap a M b : Nat) (d0 d : Array α) (w0 w : World) (eg : ∀ args w, (callFunc g args).run Try.prog w = .ok (.enter g args) w) (hcmp : CmpLays1 Try.prog g cb enc cf blk off d0.size w0) (R : Row1 enc w0 blk off d0) (hs : d0.size = d.size) (S : SW enc w0 blk off d w) (ha1 : a < M) (ha2 : a + 1 < M) (hm : M < b) (hm2 : b ≤ M + 1) (hb : b ≤ d.size) (hsz : d.size < 4611686018427387904) :
    Calls Try.prog 156 #[.slice (some ⟨blk, off, none⟩) d.size cap, .int .i64 a, .int .i64 M, .int .i64 b, .func (.func g) #[] cb] w fun e w' => e = .returned (.tuple #[]) ∧ SW enc w0 blk off (shD (M - bs (fun h => !ltOf cf d[M]! d[h]!) (M - a) a M) M d) w' := by
  have mixed : Try.prog.follows Departure.mixedOrders = true := by kernel_rfl
  have u22 := run_underlying Try.underlying22
  have hcl0 := R.hO.cells
  simp only [Value.cells] at hcl0
  have hst := R.hO.store Try.prog
  have HC : Aside _ := hcmp
  have S0 : Aside (SW enc w0 blk off d w) := S
  have hma : IntKind.i64.wrap ((M : Int) - (a : Int)) = (M : Int) - (a : Int) := by rw [IntKind.wrap_i64]; omega
  have hma' : (((M : Int) - (a : Int) == 1) = false) := by simp; omega
  have hmb : IntKind.i64.wrap ((b : Int) - (M : Int)) = 1 := by rw [IntKind.wrap_i64]; omega
  have hspec : a ≤ bs (fun h => !ltOf cf d[M]! d[h]!) (M - a) a M ∧ bs (fun h => !ltOf cf d[M]! d[h]!) (M - a) a M ≤ M := bs_in _ _ _ _ (by omega) (by omega)
  have HS := Aside0.mk hspec
  clear S hcmp hspec
  go_enter Try.func156, Try.ntmps156
  go_wp2
  go_loopg [14, 15] (M - a) (fun g1 vi vj wr => ∃ (i j f : Nat), vi = .int .i64 i ∧ vj = .int .i64 j ∧ a ≤ i ∧ i ≤ j ∧ j ≤ M ∧ j ≤ g1 + i ∧ j ≤ f + i ∧ Aside (SW enc w0 blk off d wr) ∧ Hid (bs (fun h => !ltOf cf d[M]! d[h]!) f i j = bs (fun h => !ltOf cf d[M]! d[h]!) (M - a) a M))
  case atStart => exact ⟨a, M, M - a, rfl, rfl, Nat.le_refl _, by omega, Nat.le_refl _, by omega, by omega, S0, rfl⟩
  case round =>
    clear S0
    obtain ⟨i, j, f, rfl, rfl, him, hij, hjb, hg1, hf, S1, HO⟩ := hrel
    by_cases hlt : i < j
    · have hltz : (i : Int) < (j : Int) := by omega
      obtain ⟨f, rfl⟩ : ∃ q, f = q + 1 := ⟨f - 1, by omega⟩
      obtain ⟨h, hh⟩ : ∃ q, q = (i + j) / 2 := ⟨_, rfl⟩
      have ea : (((i : Int) + (j : Int)) / 2).toNat = h := by omega
      have pa : (0 : Int) ≤ ((i : Int) + (j : Int)) / 2 := by omega
      have ba : ((i : Int) + (j : Int)) / 2 < (d.size : Int) := by omega
      have ra : IntKind.i64.wrap (((i : Int) + (j : Int)) / 2 + 1) = ((i : Int) + (j : Int)) / 2 + 1 := by rw [IntKind.wrap_i64]; omega
      have bc : (M : Int) < (d.size : Int) := by omega
      obtain ⟨x, hx⟩ : ∃ x, x = d[M]! := ⟨_, rfl⟩
      obtain ⟨y, hy⟩ : ∃ x, x = d[h]! := ⟨_, rfl⟩
      have la := S1.out.cl R (by omega) M (by omega)
      have lb := S1.out.cl R (by omega) h (by omega)
      rw [← hx] at la
      rw [← hy, hh] at lb
      have hc := S1.out.cmp HC.out (by omega) x y
      cases hlv : ltOf cf d[M]! d[h]! with
      | false =>
        have hd : decide (cf x y < 0) = false := by rw [hx, hy]; exact hlv
        have HX : Hid (bs (fun h => !ltOf cf d[M]! d[h]!) f (h + 1) j = bs (fun h => !ltOf cf d[M]! d[h]!) (M - a) a M) := by
          show _ = _
          rw [← HO.out, bs, if_pos hlt, if_pos (by rw [← hh]; simp [hlv]), hh]
        clear hx hy hlv
        go_wp2_with fail
        go_quiet_grown (first | (go_at_fn g; refine Calls.grown_of (hc _ _)))
        have S2 : Aside (SW enc w0 blk off d (grow (wr.drewN nq) osq)) := S1.out.grown nq osq
        clear la lb hc S1
        generalize grow (wr.drewN nq) osq = w2 at S2 ⊢
        clear nq osq
        go_wp2
        go_roundg (j - (h + 1))
        case measure => omega
        case rel => exact ⟨h + 1, j, f, by (congr 1; omega), rfl, by omega, by omega, hjb, by omega, by omega, S2, HX⟩
      | true =>
        have hd : decide (cf x y < 0) = true := by rw [hx, hy]; exact hlv
        have HX : Hid (bs (fun h => !ltOf cf d[M]! d[h]!) f i h = bs (fun h => !ltOf cf d[M]! d[h]!) (M - a) a M) := by
          show _ = _
          rw [← HO.out, bs, if_pos hlt, if_neg (by rw [← hh]; simp [hlv]), hh]
        clear hx hy hlv
        go_wp2_with fail
        go_quiet_grown (first | (go_at_fn g; refine Calls.grown_of (hc _ _)))
        have S2 : Aside (SW enc w0 blk off d (grow (wr.drewN nq) osq)) := S1.out.grown nq osq
        clear la lb hc S1
        generalize grow (wr.drewN nq) osq = w2 at S2 ⊢
        clear nq osq
        go_wp2
        go_roundg (h - i)
        case measure => omega
        case rel => exact ⟨i, h, f, rfl, by (congr 1; omega), him, by omega, by omega, by omega, by omega, S2, HX⟩
    obtain rfl : i = j := by omega
    obtain ⟨s, hs'⟩ : ∃ q, q = bs (fun h => !ltOf cf d[M]! d[h]!) (M - a) a M := ⟨_, rfl⟩
    have hsi : i = s := by
      rw [hs', ← HO.out]
      cases f with
      | zero => rw [bs]
      | succ f => rw [bs, if_neg hlt]
    have HS2 := HS.out
    rw [← hs', ← hsi] at HS2
    rw [← hsi] at hs'
    have HE := Aside0.mk hs'
    clear HS HO hs' hsi
    go_wp2
    go_loopg [17] (M - i) (fun g1 vk wr => ∃ (k : Nat) (dk : Array α), vk = .int .i64 k ∧ i ≤ k ∧ k ≤ M ∧ k ≤ g1 + i ∧ dk.size = d.size ∧ Aside (SW enc w0 blk off dk wr) ∧ Hid (shD (k - i) k dk = shD (M - i) M d))
    case atStart => exact ⟨M, d, rfl, by omega, Nat.le_refl _, by omega, rfl, S1, rfl⟩
    case round =>
      clear S1
      obtain ⟨k, dk, rfl, hak, hki, hg2, hsk, S1, HO⟩ := hrel
      by_cases hlt : i < k
      · have hltz : (i : Int) < (k : Int) := by omega
        obtain ⟨kp, rfl⟩ : ∃ q, k = q + 1 := ⟨k - 1, by omega⟩
        obtain ⟨kN, hkN⟩ : ∃ q, q = kp + 1 := ⟨_, rfl⟩
        have ez : ((kp + 1 : Nat) : Int) = (kN : Int) := by omega
        have ec : ((kN : Int) - 1).toNat = kp := by omega
        have pc : (0 : Int) ≤ (kN : Int) - 1 := by omega
        have bc : (kN : Int) - 1 < (d.size : Int) := by omega
        have rc : IntKind.i64.wrap ((kN : Int) - 1) = (kN : Int) - 1 := by rw [IntKind.wrap_i64]; omega
        have ba : (kN : Int) < (d.size : Int) := by omega
        have hltz' : (i : Int) < (kN : Int) := by omega
        have q1 : kN ≤ dk.size := by omega
        have q2 : i < kN := by omega
        obtain ⟨x, hx⟩ : ∃ x, x = dk[kN]! := ⟨_, rfl⟩
        obtain ⟨y, hy⟩ : ∃ x, x = dk[kp]! := ⟨_, rfl⟩
        have S3 : Aside (SW enc w0 blk off (swp dk kN kp) ((wr.setCell ⟨blk, off + kN, none⟩ (enc y)).setCell ⟨blk, off + kp, none⟩ (enc x)).drew) := by rw [hx, hy]; exact S1.out.swapped R kN kp (by omega) (by omega)
        have ca := S1.out.c1 R (by omega) kN (by omega)
        have cb' := S1.out.c1 R (by omega) kp (by omega)
        have fa := S1.out.f1 R (by omega) kN (by omega)
        have fb := S1.out.f1 R (by omega) kp (by omega)
        obtain ⟨u, cc⟩ := S1.out.c2 R (by omega) kN kp (by omega) (by omega) (enc y)
        rw [← hx] at ca
        rw [← hy] at cb'
        have HX : Hid (shD (kp - i) kp (swp dk kN kp) = shD (M - i) M d) := by
          show _ = _
          rw [← HO.out, show kp + 1 - i = kp - i + 1 by omega, shD, hkN, Nat.add_sub_cancel]
        have hz : (swp dk kN kp).size = d.size := by rw [swp_size]; exact hsk
        have q3 := Aside0.mk (And.intro hkN (And.intro hki (And.intro hg2 hak)))
        rw [ez]
        clear S1 hx hy HO hltz hlt hak hki hg2 ez; clear hkN
        go_wp2_with fail
        go_big_region_o
        clear ca cb' cc fa fb
        generalize ((wr.setCell ⟨blk, off + kN, none⟩ (enc y)).setCell ⟨blk, off + kp, none⟩ (enc x)).drew = w3 at S3 ⊢
        clear ec
        go_wp2
        go_roundg (kp - i)
        case measure => have := q3.out; omega
        case rel => have := q3.out; exact ⟨kp, swp dk kN kp, by first | rfl | go_num | (congr 1; omega), by omega, by omega, by omega, hz, S3, HX⟩
      have hltz : ¬ (i : Int) < (k : Int) := by omega
      obtain rfl : k = i := by omega
      go_wp2
      (try simp only [Exit.inBlock, Exit.then]); refine bodyPost_ret (results_none rfl _ _ _) rfl ?_
      exact ⟨rfl, by rw [← HE.out, ← HO.out, Nat.sub_self]; exact S1.out⟩
end Go.Proofs.Ytefhljhpcpajgaa.F
set_option linter.unusedVariables false
namespace Go.Proofs.Ytefhljhpcpajgaa.F
open Go.Sort Go.Shelf Go.Lib
open Go.RowKit Go.Proofs.YtefhljhpcpajgaaX Go.Proofs.YtefhljhpcpajgaaW.PrintWords Go.Proofs.YtefhljhpcpajgaaW.PrintLast Go.Proofs.YtefhljhpcpajgaaW.PrintMore
open Go.Proofs.Ytefhljhpcpajgaa.Stable
set_option maxHeartbeats 16000000 in
set_option maxRecDepth 100000 in
theorem sym_midA {α : Type} [Inhabited α] (enc : α → Value) (cf : α → α → Int) (g : Nat) (cb : Array Value) (blk off cap a m b mid f0 : Nat) (d0 d : Array α) (w0 w : World) (eg : ∀ args w, (callFunc g args).run Try.prog w = .ok (.enter g args) w) (hcmp : CmpLays1 Try.prog g cb enc cf blk off d0.size w0) (R : Row1 enc w0 blk off d0) (hs : d0.size = d.size) (S : SW enc w0 blk off d w)
    (ha1 : a + 1 < m) (hm : m + 1 < b) (hmid : mid = (a + b) / 2) (hA : mid < m) (hb : b ≤ d.size) (hsz : d.size < 4611686018427387904)
    (rec : ∀ (a m b : Nat) (d : Array α) (w : World), a < m → m < b → b - a ≤ f0 → b ≤ d.size → d0.size = d.size → SW enc w0 blk off d w → Calls Try.prog 156 #[.slice (some ⟨blk, off, none⟩) d.size cap, .int .i64 a, .int .i64 m, .int .i64 b, .func (.func g) #[] cb] w fun e w' => e = .returned (.tuple #[]) ∧ SW enc w0 blk off (sym (ltOf cf) f0 a m b d) w') (hf0 : b - a ≤ f0 + 1) :
    Calls Try.prog 156 #[.slice (some ⟨blk, off, none⟩) d.size cap, .int .i64 a, .int .i64 m, .int .i64 b, .func (.func g) #[] cb] w fun e w' => e = .returned (.tuple #[]) ∧ SW enc w0 blk off (sym (ltOf cf) (f0 + 1) a m b d) w' := by
  have mixed : Try.prog.follows Departure.mixedOrders = true := by kernel_rfl
  have u22 := run_underlying Try.underlying22
  have hcl0 := R.hO.cells
  simp only [Value.cells] at hcl0
  have hst := R.hO.store Try.prog
  have HC : Aside _ := hcmp
  have HR : Aside _ := rec
  have S0 : Aside (SW enc w0 blk off d w) := S
  have hma : IntKind.i64.wrap ((m : Int) - (a : Int)) = (m : Int) - (a : Int) := by rw [IntKind.wrap_i64]; omega
  have hma' : (((m : Int) - (a : Int) == 1) = false) := by simp; omega
  have hmb : IntKind.i64.wrap ((b : Int) - (m : Int)) = (b : Int) - (m : Int) := by rw [IntKind.wrap_i64]; omega
  have hmb' : (((b : Int) - (m : Int) == 1) = false) := by simp; omega
  have emid : ((a : Int) + (b : Int)) / 2 = (mid : Int) := by omega
  have hA' : decide ((mid : Int) < (m : Int)) = true := decide_eq_true (by omega)
  have hA2 : ((mid : Int) < (m : Int)) = True := eq_true (by omega)
  have hwn : IntKind.i64.wrap ((mid : Int) + (m : Int)) = (mid : Int) + (m : Int) := by rw [IntKind.wrap_i64]; omega
  have hwb : IntKind.i64.wrap ((mid : Int) + (m : Int) - (b : Int)) = (mid : Int) + (m : Int) - (b : Int) := by rw [IntKind.wrap_i64]; omega
  have hwp : IntKind.i64.wrap ((mid : Int) + (m : Int) - 1) = (mid : Int) + (m : Int) - 1 := by rw [IntKind.wrap_i64]; omega
  have HE : Aside0 (sym (ltOf cf) (f0 + 1) a m b d = (if mid < mid + m - (bs (fun c => !ltOf cf d[mid + m - 1 - c]! d[c]!) (mid - (mid + m - b)) (mid + m - b) mid) ∧ mid + m - (bs (fun c => !ltOf cf d[mid + m - 1 - c]! d[c]!) (mid - (mid + m - b)) (mid + m - b) mid) < b then sym (ltOf cf) f0 mid (mid + m - (bs (fun c => !ltOf cf d[mid + m - 1 - c]! d[c]!) (mid - (mid + m - b)) (mid + m - b) mid)) b (if a < (bs (fun c => !ltOf cf d[mid + m - 1 - c]! d[c]!) (mid - (mid + m - b)) (mid + m - b) mid) ∧ (bs (fun c => !ltOf cf d[mid + m - 1 - c]! d[c]!) (mid - (mid + m - b)) (mid + m - b) mid) < mid then sym (ltOf cf) f0 a (bs (fun c => !ltOf cf d[mid + m - 1 - c]! d[c]!) (mid - (mid + m - b)) (mid + m - b) mid) mid (if (bs (fun c => !ltOf cf d[mid + m - 1 - c]! d[c]!) (mid - (mid + m - b)) (mid + m - b) mid) < m ∧ m < mid + m - (bs (fun c => !ltOf cf d[mid + m - 1 - c]! d[c]!) (mid - (mid + m - b)) (mid + m - b) mid) then rot m (m - (bs (fun c => !ltOf cf d[mid + m - 1 - c]! d[c]!) (mid - (mid + m - b)) (mid + m - b) mid) + (mid + m - (bs (fun c => !ltOf cf d[mid + m - 1 - c]! d[c]!) (mid - (mid + m - b)) (mid + m - b) mid) - m)) (m - (bs (fun c => !ltOf cf d[mid + m - 1 - c]! d[c]!) (mid - (mid + m - b)) (mid + m - b) mid)) (mid + m - (bs (fun c => !ltOf cf d[mid + m - 1 - c]! d[c]!) (mid - (mid + m - b)) (mid + m - b) mid) - m) d else d) else (if (bs (fun c => !ltOf cf d[mid + m - 1 - c]! d[c]!) (mid - (mid + m - b)) (mid + m - b) mid) < m ∧ m < mid + m - (bs (fun c => !ltOf cf d[mid + m - 1 - c]! d[c]!) (mid - (mid + m - b)) (mid + m - b) mid) then rot m (m - (bs (fun c => !ltOf cf d[mid + m - 1 - c]! d[c]!) (mid - (mid + m - b)) (mid + m - b) mid) + (mid + m - (bs (fun c => !ltOf cf d[mid + m - 1 - c]! d[c]!) (mid - (mid + m - b)) (mid + m - b) mid) - m)) (m - (bs (fun c => !ltOf cf d[mid + m - 1 - c]! d[c]!) (mid - (mid + m - b)) (mid + m - b) mid)) (mid + m - (bs (fun c => !ltOf cf d[mid + m - 1 - c]! d[c]!) (mid - (mid + m - b)) (mid + m - b) mid) - m) d else d)) else (if a < (bs (fun c => !ltOf cf d[mid + m - 1 - c]! d[c]!) (mid - (mid + m - b)) (mid + m - b) mid) ∧ (bs (fun c => !ltOf cf d[mid + m - 1 - c]! d[c]!) (mid - (mid + m - b)) (mid + m - b) mid) < mid then sym (ltOf cf) f0 a (bs (fun c => !ltOf cf d[mid + m - 1 - c]! d[c]!) (mid - (mid + m - b)) (mid + m - b) mid) mid (if (bs (fun c => !ltOf cf d[mid + m - 1 - c]! d[c]!) (mid - (mid + m - b)) (mid + m - b) mid) < m ∧ m < mid + m - (bs (fun c => !ltOf cf d[mid + m - 1 - c]! d[c]!) (mid - (mid + m - b)) (mid + m - b) mid) then rot m (m - (bs (fun c => !ltOf cf d[mid + m - 1 - c]! d[c]!) (mid - (mid + m - b)) (mid + m - b) mid) + (mid + m - (bs (fun c => !ltOf cf d[mid + m - 1 - c]! d[c]!) (mid - (mid + m - b)) (mid + m - b) mid) - m)) (m - (bs (fun c => !ltOf cf d[mid + m - 1 - c]! d[c]!) (mid - (mid + m - b)) (mid + m - b) mid)) (mid + m - (bs (fun c => !ltOf cf d[mid + m - 1 - c]! d[c]!) (mid - (mid + m - b)) (mid + m - b) mid) - m) d else d) else (if (bs (fun c => !ltOf cf d[mid + m - 1 - c]! d[c]!) (mid - (mid + m - b)) (mid + m - b) mid) < m ∧ m < mid + m - (bs (fun c => !ltOf cf d[mid + m - 1 - c]! d[c]!) (mid - (mid + m - b)) (mid + m - b) mid) then rot m (m - (bs (fun c => !ltOf cf d[mid + m - 1 - c]! d[c]!) (mid - (mid + m - b)) (mid + m - b) mid) + (mid + m - (bs (fun c => !ltOf cf d[mid + m - 1 - c]! d[c]!) (mid - (mid + m - b)) (mid + m - b) mid) - m)) (m - (bs (fun c => !ltOf cf d[mid + m - 1 - c]! d[c]!) (mid - (mid + m - b)) (mid + m - b) mid)) (mid + m - (bs (fun c => !ltOf cf d[mid + m - 1 - c]! d[c]!) (mid - (mid + m - b)) (mid + m - b) mid) - m) d else d)))) := ⟨by
    rw [sym, if_neg (by omega), if_neg (by omega), ← hmid]
    dsimp only
    rw [if_pos hA, if_pos hA]⟩
  have HS : Aside0 ((mid + m - b) ≤ bs (fun c => !ltOf cf d[mid + m - 1 - c]! d[c]!) (mid - (mid + m - b)) (mid + m - b) mid ∧ bs (fun c => !ltOf cf d[mid + m - 1 - c]! d[c]!) (mid - (mid + m - b)) (mid + m - b) mid ≤ mid) := ⟨bs_in _ _ _ _ (by omega) (by omega)⟩
  have HM := Aside0.mk hmid
  clear S hcmp rec hmid
  go_enter Try.func156, Try.ntmps156
  go_wp2
  go_loopg [20, 21] (mid - (mid + m - b)) (fun g1 vi vj wr => ∃ (i j f : Nat), vi = .int .i64 i ∧ vj = .int .i64 j ∧ (mid + m - b) ≤ i ∧ i ≤ j ∧ j ≤ mid ∧ j ≤ g1 + i ∧ j ≤ f + i ∧ Aside (SW enc w0 blk off d wr) ∧ Hid (bs (fun c => !ltOf cf d[mid + m - 1 - c]! d[c]!) f i j = bs (fun c => !ltOf cf d[mid + m - 1 - c]! d[c]!) (mid - (mid + m - b)) (mid + m - b) mid))
  case atStart => have := HM.out; exact ⟨(mid + m - b), mid, mid - (mid + m - b), by first | rfl | (congr 1; omega), by first | rfl | (congr 1; omega), Nat.le_refl _, by omega, Nat.le_refl _, by omega, by omega, S0, rfl⟩
  case round =>
    clear S0
    obtain ⟨i, j, f, rfl, rfl, him, hij, hjb, hg1, hf, S1, HO⟩ := hrel
    by_cases hlt : i < j
    · have hltz : (i : Int) < (j : Int) := by omega
      obtain ⟨f, rfl⟩ : ∃ q, f = q + 1 := ⟨f - 1, by omega⟩
      have hM := HM.out
      obtain ⟨h, hh⟩ : ∃ q, q = (i + j) / 2 := ⟨_, rfl⟩
      obtain ⟨pN, hpN⟩ : ∃ q, q = mid + m - 1 - h := ⟨_, rfl⟩
      have eh : ((i : Int) + (j : Int)) / 2 = (h : Int) := by omega
      have ba : (h : Int) < (d.size : Int) := by omega
      have rh : IntKind.i64.wrap ((h : Int) + 1) = (h : Int) + 1 := by rw [IntKind.wrap_i64]; omega
      have esub : (mid : Int) + (m : Int) - 1 - (h : Int) = (pN : Int) := by omega
      have bc : (pN : Int) < (d.size : Int) := by omega
      have rc : IntKind.i64.wrap ((pN : Int)) = (pN : Int) := by rw [IntKind.wrap_i64]; omega
      obtain ⟨x, hx⟩ : ∃ x, x = d[pN]! := ⟨_, rfl⟩
      obtain ⟨y, hy⟩ : ∃ x, x = d[h]! := ⟨_, rfl⟩
      have la := S1.out.cl R (by omega) pN (by omega)
      have lb := S1.out.cl R (by omega) h (by omega)
      rw [← hx] at la
      rw [← hy] at lb
      have hc := S1.out.cmp HC.out (by omega) x y
      have qf : i ≤ h ∧ h < j := by omega
      clear hM
      cases hlv : ltOf cf d[pN]! d[h]! with
      | false =>
        have hd : decide (cf x y < 0) = false := by rw [hx, hy]; exact hlv
        have HX : Hid (bs (fun c => !ltOf cf d[mid + m - 1 - c]! d[c]!) f (h + 1) j = bs (fun c => !ltOf cf d[mid + m - 1 - c]! d[c]!) (mid - (mid + m - b)) (mid + m - b) mid) := by
          show _ = _
          rw [← HO.out, bs, if_pos hlt, if_pos (by rw [← hh, ← hpN]; simp [hlv]), hh]
        have HH := Aside0.mk hh
        clear hx hy hlv hh hpN
        go_wp2_with fail
        go_quiet_grown (first | (go_at_fn g; refine Calls.grown_of (hc _ _)))
        have S2 : Aside (SW enc w0 blk off d (grow (wr.drewN nq) osq)) := S1.out.grown nq osq
        clear la lb hc S1
        generalize grow (wr.drewN nq) osq = w2 at S2 ⊢
        clear nq osq
        go_wp2
        go_roundg (j - (h + 1))
        case measure => omega
        case rel => have := HM.out; exact ⟨h + 1, j, f, by first | rfl | (congr 1; omega), rfl, by omega, by omega, hjb, by omega, by omega, S2, HX⟩
      | true =>
        have hd : decide (cf x y < 0) = true := by rw [hx, hy]; exact hlv
        have HX : Hid (bs (fun c => !ltOf cf d[mid + m - 1 - c]! d[c]!) f i h = bs (fun c => !ltOf cf d[mid + m - 1 - c]! d[c]!) (mid - (mid + m - b)) (mid + m - b) mid) := by
          show _ = _
          rw [← HO.out, bs, if_pos hlt, if_neg (by rw [← hh, ← hpN]; simp [hlv]), hh]
        have HH := Aside0.mk hh
        clear hx hy hlv hh hpN
        go_wp2_with fail
        go_quiet_grown (first | (go_at_fn g; refine Calls.grown_of (hc _ _)))
        have S2 : Aside (SW enc w0 blk off d (grow (wr.drewN nq) osq)) := S1.out.grown nq osq
        clear la lb hc S1
        generalize grow (wr.drewN nq) osq = w2 at S2 ⊢
        clear nq osq
        go_wp2
        go_roundg (h - i)
        case measure => omega
        case rel => have := HM.out; exact ⟨i, h, f, rfl, by first | rfl | (congr 1; omega), him, by omega, by omega, by omega, by omega, S2, HX⟩
    obtain rfl : i = j := by omega
    have hsi : i = bs (fun c => !ltOf cf d[mid + m - 1 - c]! d[c]!) (mid - (mid + m - b)) (mid + m - b) mid := by
      rw [← HO.out]
      cases f with
      | zero => rw [bs]
      | succ f => rw [bs, if_neg hlt]
    have hF := HE.out
    rw [← hsi] at hF
    have hS := HS.out
    rw [← hsi] at hS
    have HF := Aside0.mk hF
    clear HO hsi HE hF HS
    have hM := HM.out
    have we : IntKind.i64.wrap ((mid : Int) + (m : Int) - (i : Int)) = (mid : Int) + (m : Int) - (i : Int) := by rw [IntKind.wrap_i64]; omega
    have ce : ((mid + m - i : Nat) : Int) = (mid : Int) + (m : Int) - (i : Int) := by omega
    have h1 : ∀ (wr : World), i < m → m < mid + m - i → Aside (SW enc w0 blk off d wr) → Calls Try.prog 163 #[.slice (some ⟨blk, off, none⟩) d.size cap, .int .i64 i, .int .i64 m, .int .i64 ((mid : Int) + (m : Int) - (i : Int)), .func (.func g) #[] cb] wr fun e w' => e = .returned (.tuple #[]) ∧ SW enc w0 blk off (rot m (m - i + (mid + m - i - m)) (m - i) (mid + m - i - m) d) w' := fun wr q1 q2 S => by
      have := rotate_calls enc g cb blk off cap i m (mid + m - i) d0 d w0 wr R hs S.out q1 q2 (by omega) hsz
      rw [ce] at this
      exact this
    have H1 := Aside0.mk h1
    have h2 : ∀ (dk : Array α) (wr : World), a < i → i < mid → dk.size = d.size → Aside (SW enc w0 blk off dk wr) → Calls Try.prog 156 #[.slice (some ⟨blk, off, none⟩) d.size cap, .int .i64 a, .int .i64 i, .int .i64 mid, .func (.func g) #[] cb] wr fun e w' => e = .returned (.tuple #[]) ∧ SW enc w0 blk off (sym (ltOf cf) f0 a i mid dk) w' := fun dk wr q1 q2 hz S => by
      have := HR.out a i mid dk wr q1 q2 (by omega) (by omega) (by omega) S.out
      rw [hz] at this
      exact this
    have H2 := Aside0.mk h2
    have h3 : ∀ (dk : Array α) (wr : World), mid < mid + m - i → mid + m - i < b → dk.size = d.size → Aside (SW enc w0 blk off dk wr) → Calls Try.prog 156 #[.slice (some ⟨blk, off, none⟩) d.size cap, .int .i64 mid, .int .i64 ((mid : Int) + (m : Int) - (i : Int)), .int .i64 b, .func (.func g) #[] cb] wr fun e w' => e = .returned (.tuple #[]) ∧ SW enc w0 blk off (sym (ltOf cf) f0 mid (mid + m - i) b dk) w' := fun dk wr q1 q2 hz S => by
      have := HR.out mid (mid + m - i) b dk wr q1 q2 (by omega) (by omega) (by omega) S.out
      rw [hz, ce] at this
      exact this
    have H3 := Aside0.mk h3
    clear h1 h2 h3 hM HM HR ce
    have z1 : (rot m (m - i + (mid + m - i - m)) (m - i) (mid + m - i - m) d).size = d.size := rot_size _ _ _ _ _
    by_cases b1 : i < mid
    · by_cases b2 : a < i
      · by_cases b3 : mid + m - i < b
        · have D1 : decide ((i : Int) < (m : Int)) = true := decide_eq_true (by omega)
          have D2 : decide ((m : Int) < (mid : Int) + (m : Int) - (i : Int)) = true := decide_eq_true (by omega)
          have D3 : decide ((a : Int) < (i : Int)) = true := decide_eq_true (by omega)
          have D4 : decide ((i : Int) < (mid : Int)) = true := decide_eq_true (by omega)
          have D5 : decide ((mid : Int) < (mid : Int) + (m : Int) - (i : Int)) = true := decide_eq_true (by omega)
          have D6 : decide ((mid : Int) + (m : Int) - (i : Int) < (b : Int)) = true := decide_eq_true (by omega)
          have q1 : i < m := by omega
          have q2 : m < mid + m - i := by omega
          have q3 : a < i := by omega
          have q4 : i < mid := by omega
          have q5 : mid < mid + m - i := by omega
          have q6 : mid + m - i < b := by omega
          have E := HF.out
          rw [if_pos (And.intro q1 q2), if_pos (And.intro q3 q4), if_pos (And.intro q5 q6)] at E
          have HG := Aside0.mk E
          clear E HF
          have K1 := Aside0.mk (fun (wr : World) S => H1.out wr q1 q2 S)
          have K2 := Aside0.mk (fun (wr : World) S => H2.out (rot m (m - i + (mid + m - i - m)) (m - i) (mid + m - i - m) d) wr q3 q4 z1 S)
          have z2 : (sym (ltOf cf) f0 a i mid (rot m (m - i + (mid + m - i - m)) (m - i) (mid + m - i - m) d)).size = d.size := (sym_size _ _ _ _ _ _).trans z1
          have K3 := Aside0.mk (fun (wr : World) S => H3.out (sym (ltOf cf) f0 a i mid (rot m (m - i + (mid + m - i - m)) (m - i) (mid + m - i - m) d)) wr q5 q6 z2 S)
          clear H1 H2 H3 z1 z2
          go_wp2_with fail
          with_reducible refine (K1.out _ S1).mono ?_
          rintro e1 w1 ⟨rfl, S2⟩
          have T1 : Aside (SW enc w0 blk off (rot m (m - i + (mid + m - i - m)) (m - i) (mid + m - i - m) d) w1) := S2
          clear S2
          go_wp2_with fail
          with_reducible refine (K2.out _ T1).mono ?_
          rintro e2 w2 ⟨rfl, S2⟩
          have T2 : Aside (SW enc w0 blk off (sym (ltOf cf) f0 a i mid (rot m (m - i + (mid + m - i - m)) (m - i) (mid + m - i - m) d)) w2) := S2
          clear S2
          go_wp2_with fail
          with_reducible refine (K3.out _ T2).mono ?_
          rintro e3 w3 ⟨rfl, S2⟩
          have T3 : Aside (SW enc w0 blk off (sym (ltOf cf) f0 mid (mid + m - i) b (sym (ltOf cf) f0 a i mid (rot m (m - i + (mid + m - i - m)) (m - i) (mid + m - i - m) d))) w3) := S2
          clear S2
          go_wp2
          go_end0
          exact ⟨rfl, by rw [HG.out]; exact T3.out⟩
        have D1 : decide ((i : Int) < (m : Int)) = true := decide_eq_true (by omega)
        have D2 : decide ((m : Int) < (mid : Int) + (m : Int) - (i : Int)) = true := decide_eq_true (by omega)
        have D3 : decide ((a : Int) < (i : Int)) = true := decide_eq_true (by omega)
        have D4 : decide ((i : Int) < (mid : Int)) = true := decide_eq_true (by omega)
        have D5 : decide ((mid : Int) < (mid : Int) + (m : Int) - (i : Int)) = true := decide_eq_true (by omega)
        have D6 : decide ((mid : Int) + (m : Int) - (i : Int) < (b : Int)) = false := decide_eq_false (by omega)
        have q1 : i < m := by omega
        have q2 : m < mid + m - i := by omega
        have q3 : a < i := by omega
        have q4 : i < mid := by omega
        have n2 : ¬ (mid < mid + m - i ∧ mid + m - i < b) := by omega
        have E := HF.out
        rw [if_pos (And.intro q1 q2), if_pos (And.intro q3 q4), if_neg n2] at E
        have HG := Aside0.mk E
        clear E HF
        have K1 := Aside0.mk (fun (wr : World) S => H1.out wr q1 q2 S)
        have K2 := Aside0.mk (fun (wr : World) S => H2.out (rot m (m - i + (mid + m - i - m)) (m - i) (mid + m - i - m) d) wr q3 q4 z1 S)
        have z2 : (sym (ltOf cf) f0 a i mid (rot m (m - i + (mid + m - i - m)) (m - i) (mid + m - i - m) d)).size = d.size := (sym_size _ _ _ _ _ _).trans z1
        clear H1 H2 H3 z1 z2
        go_wp2_with fail
        with_reducible refine (K1.out _ S1).mono ?_
        rintro e1 w1 ⟨rfl, S2⟩
        have T1 : Aside (SW enc w0 blk off (rot m (m - i + (mid + m - i - m)) (m - i) (mid + m - i - m) d) w1) := S2
        clear S2
        go_wp2_with fail
        with_reducible refine (K2.out _ T1).mono ?_
        rintro e2 w2 ⟨rfl, S2⟩
        have T2 : Aside (SW enc w0 blk off (sym (ltOf cf) f0 a i mid (rot m (m - i + (mid + m - i - m)) (m - i) (mid + m - i - m) d)) w2) := S2
        clear S2
        go_wp2
        go_end0
        exact ⟨rfl, by rw [HG.out]; exact T2.out⟩
      by_cases b3 : mid + m - i < b
      · have D1 : decide ((i : Int) < (m : Int)) = true := decide_eq_true (by omega)
        have D2 : decide ((m : Int) < (mid : Int) + (m : Int) - (i : Int)) = true := decide_eq_true (by omega)
        have D3 : decide ((a : Int) < (i : Int)) = false := decide_eq_false (by omega)
        have D5 : decide ((mid : Int) < (mid : Int) + (m : Int) - (i : Int)) = true := decide_eq_true (by omega)
        have D6 : decide ((mid : Int) + (m : Int) - (i : Int) < (b : Int)) = true := decide_eq_true (by omega)
        have q1 : i < m := by omega
        have q2 : m < mid + m - i := by omega
        have n1 : ¬ (a < i ∧ i < mid) := by omega
        have q5 : mid < mid + m - i := by omega
        have q6 : mid + m - i < b := by omega
        have E := HF.out
        rw [if_pos (And.intro q1 q2), if_neg n1, if_pos (And.intro q5 q6)] at E
        have HG := Aside0.mk E
        clear E HF
        have K1 := Aside0.mk (fun (wr : World) S => H1.out wr q1 q2 S)
        have K3 := Aside0.mk (fun (wr : World) S => H3.out (rot m (m - i + (mid + m - i - m)) (m - i) (mid + m - i - m) d) wr q5 q6 z1 S)
        clear H1 H2 H3 z1
        go_wp2_with fail
        with_reducible refine (K1.out _ S1).mono ?_
        rintro e1 w1 ⟨rfl, S2⟩
        have T1 : Aside (SW enc w0 blk off (rot m (m - i + (mid + m - i - m)) (m - i) (mid + m - i - m) d) w1) := S2
        clear S2
        go_wp2_with fail
        with_reducible refine (K3.out _ T1).mono ?_
        rintro e3 w3 ⟨rfl, S2⟩
        have T3 : Aside (SW enc w0 blk off (sym (ltOf cf) f0 mid (mid + m - i) b (rot m (m - i + (mid + m - i - m)) (m - i) (mid + m - i - m) d)) w3) := S2
        clear S2
        go_wp2
        go_end0
        exact ⟨rfl, by rw [HG.out]; exact T3.out⟩
      have D1 : decide ((i : Int) < (m : Int)) = true := decide_eq_true (by omega)
      have D2 : decide ((m : Int) < (mid : Int) + (m : Int) - (i : Int)) = true := decide_eq_true (by omega)
      have D3 : decide ((a : Int) < (i : Int)) = false := decide_eq_false (by omega)
      have D5 : decide ((mid : Int) < (mid : Int) + (m : Int) - (i : Int)) = true := decide_eq_true (by omega)
      have D6 : decide ((mid : Int) + (m : Int) - (i : Int) < (b : Int)) = false := decide_eq_false (by omega)
      have q1 : i < m := by omega
      have q2 : m < mid + m - i := by omega
      have n1 : ¬ (a < i ∧ i < mid) := by omega
      have n2 : ¬ (mid < mid + m - i ∧ mid + m - i < b) := by omega
      have E := HF.out
      rw [if_pos (And.intro q1 q2), if_neg n1, if_neg n2] at E
      have HG := Aside0.mk E
      clear E HF
      have K1 := Aside0.mk (fun (wr : World) S => H1.out wr q1 q2 S)
      clear H1 H2 H3 z1
      go_wp2_with fail
      with_reducible refine (K1.out _ S1).mono ?_
      rintro e1 w1 ⟨rfl, S2⟩
      have T1 : Aside (SW enc w0 blk off (rot m (m - i + (mid + m - i - m)) (m - i) (mid + m - i - m) d) w1) := S2
      clear S2
      go_wp2
      go_end0
      exact ⟨rfl, by rw [HG.out]; exact T1.out⟩
    by_cases b2 : a < i
    · by_cases b3 : mid + m - i < b
      · have D1 : decide ((i : Int) < (m : Int)) = true := decide_eq_true (by omega)
        have D2 : decide ((m : Int) < (mid : Int) + (m : Int) - (i : Int)) = false := decide_eq_false (by omega)
        have D3 : decide ((a : Int) < (i : Int)) = true := decide_eq_true (by omega)
        have D4 : decide ((i : Int) < (mid : Int)) = false := decide_eq_false (by omega)
        have D5 : decide ((mid : Int) < (mid : Int) + (m : Int) - (i : Int)) = true := decide_eq_true (by omega)
        have D6 : decide ((mid : Int) + (m : Int) - (i : Int) < (b : Int)) = true := decide_eq_true (by omega)
        have nr : ¬ (i < m ∧ m < mid + m - i) := by omega
        have n1 : ¬ (a < i ∧ i < mid) := by omega
        have q5 : mid < mid + m - i := by omega
        have q6 : mid + m - i < b := by omega
        have E := HF.out
        rw [if_neg nr, if_neg n1, if_pos (And.intro q5 q6)] at E
        have HG := Aside0.mk E
        clear E HF
        have K3 := Aside0.mk (fun (wr : World) S => H3.out d wr q5 q6 rfl S)
        clear H1 H2 H3 z1
        go_wp2_with fail
        with_reducible refine (K3.out _ S1).mono ?_
        rintro e3 w3 ⟨rfl, S2⟩
        have T3 : Aside (SW enc w0 blk off (sym (ltOf cf) f0 mid (mid + m - i) b d) w3) := S2
        clear S2
        go_wp2
        go_end0
        exact ⟨rfl, by rw [HG.out]; exact T3.out⟩
      exfalso; omega
    by_cases b3 : mid + m - i < b
    · exfalso; omega
    exfalso; omega
end Go.Proofs.Ytefhljhpcpajgaa.F
set_option linter.unusedVariables false
namespace Go.Proofs.Ytefhljhpcpajgaa.F
open Go.Sort Go.Shelf Go.Lib
open Go.RowKit Go.Proofs.YtefhljhpcpajgaaX Go.Proofs.YtefhljhpcpajgaaW.PrintWords Go.Proofs.YtefhljhpcpajgaaW.PrintLast Go.Proofs.YtefhljhpcpajgaaW.PrintMore
open Go.Proofs.Ytefhljhpcpajgaa.Stable
set_option maxHeartbeats 16000000 in
set_option maxRecDepth 100000 in
theorem sym_midB {α : Type} [Inhabited α] (enc : α → Value) (cf : α → α → Int) (g : Nat) (cb : Array Value) (blk off cap a m b mid f0 : Nat) (d0 d : Array α) (w0 w : World) (eg : ∀ args w, (callFunc g args).run Try.prog w = .ok (.enter g args) w) (hcmp : CmpLays1 Try.prog g cb enc cf blk off d0.size w0) (R : Row1 enc w0 blk off d0) (hs : d0.size = d.size) (S : SW enc w0 blk off d w)
    (ha1 : a + 1 < m) (hm : m + 1 < b) (hmid : mid = (a + b) / 2) (hA : m ≤ mid) (hb : b ≤ d.size) (hsz : d.size < 4611686018427387904)
    (rec : ∀ (a m b : Nat) (d : Array α) (w : World), a < m → m < b → b - a ≤ f0 → b ≤ d.size → d0.size = d.size → SW enc w0 blk off d w → Calls Try.prog 156 #[.slice (some ⟨blk, off, none⟩) d.size cap, .int .i64 a, .int .i64 m, .int .i64 b, .func (.func g) #[] cb] w fun e w' => e = .returned (.tuple #[]) ∧ SW enc w0 blk off (sym (ltOf cf) f0 a m b d) w') (hf0 : b - a ≤ f0 + 1) :
    Calls Try.prog 156 #[.slice (some ⟨blk, off, none⟩) d.size cap, .int .i64 a, .int .i64 m, .int .i64 b, .func (.func g) #[] cb] w fun e w' => e = .returned (.tuple #[]) ∧ SW enc w0 blk off (sym (ltOf cf) (f0 + 1) a m b d) w' := by
  have mixed : Try.prog.follows Departure.mixedOrders = true := by kernel_rfl
  have u22 := run_underlying Try.underlying22
  have hcl0 := R.hO.cells
  simp only [Value.cells] at hcl0
  have hst := R.hO.store Try.prog
  have HC : Aside _ := hcmp
  have HR : Aside _ := rec
  have S0 : Aside (SW enc w0 blk off d w) := S
  have hma : IntKind.i64.wrap ((m : Int) - (a : Int)) = (m : Int) - (a : Int) := by rw [IntKind.wrap_i64]; omega
  have hma' : (((m : Int) - (a : Int) == 1) = false) := by simp; omega
  have hmb : IntKind.i64.wrap ((b : Int) - (m : Int)) = (b : Int) - (m : Int) := by rw [IntKind.wrap_i64]; omega
  have hmb' : (((b : Int) - (m : Int) == 1) = false) := by simp; omega
  have emid : ((a : Int) + (b : Int)) / 2 = (mid : Int) := by omega
  have hA' : decide ((mid : Int) < (m : Int)) = false := decide_eq_false (by omega)
  have hA2 : ((mid : Int) < (m : Int)) = False := eq_false (by omega)
  have hwn : IntKind.i64.wrap ((mid : Int) + (m : Int)) = (mid : Int) + (m : Int) := by rw [IntKind.wrap_i64]; omega
  have hwb : IntKind.i64.wrap ((mid : Int) + (m : Int) - (b : Int)) = (mid : Int) + (m : Int) - (b : Int) := by rw [IntKind.wrap_i64]; omega
  have hwp : IntKind.i64.wrap ((mid : Int) + (m : Int) - 1) = (mid : Int) + (m : Int) - 1 := by rw [IntKind.wrap_i64]; omega
  have HE : Aside0 (sym (ltOf cf) (f0 + 1) a m b d = (if mid < mid + m - (bs (fun c => !ltOf cf d[mid + m - 1 - c]! d[c]!) (m - a) a m) ∧ mid + m - (bs (fun c => !ltOf cf d[mid + m - 1 - c]! d[c]!) (m - a) a m) < b then sym (ltOf cf) f0 mid (mid + m - (bs (fun c => !ltOf cf d[mid + m - 1 - c]! d[c]!) (m - a) a m)) b (if a < (bs (fun c => !ltOf cf d[mid + m - 1 - c]! d[c]!) (m - a) a m) ∧ (bs (fun c => !ltOf cf d[mid + m - 1 - c]! d[c]!) (m - a) a m) < mid then sym (ltOf cf) f0 a (bs (fun c => !ltOf cf d[mid + m - 1 - c]! d[c]!) (m - a) a m) mid (if (bs (fun c => !ltOf cf d[mid + m - 1 - c]! d[c]!) (m - a) a m) < m ∧ m < mid + m - (bs (fun c => !ltOf cf d[mid + m - 1 - c]! d[c]!) (m - a) a m) then rot m (m - (bs (fun c => !ltOf cf d[mid + m - 1 - c]! d[c]!) (m - a) a m) + (mid + m - (bs (fun c => !ltOf cf d[mid + m - 1 - c]! d[c]!) (m - a) a m) - m)) (m - (bs (fun c => !ltOf cf d[mid + m - 1 - c]! d[c]!) (m - a) a m)) (mid + m - (bs (fun c => !ltOf cf d[mid + m - 1 - c]! d[c]!) (m - a) a m) - m) d else d) else (if (bs (fun c => !ltOf cf d[mid + m - 1 - c]! d[c]!) (m - a) a m) < m ∧ m < mid + m - (bs (fun c => !ltOf cf d[mid + m - 1 - c]! d[c]!) (m - a) a m) then rot m (m - (bs (fun c => !ltOf cf d[mid + m - 1 - c]! d[c]!) (m - a) a m) + (mid + m - (bs (fun c => !ltOf cf d[mid + m - 1 - c]! d[c]!) (m - a) a m) - m)) (m - (bs (fun c => !ltOf cf d[mid + m - 1 - c]! d[c]!) (m - a) a m)) (mid + m - (bs (fun c => !ltOf cf d[mid + m - 1 - c]! d[c]!) (m - a) a m) - m) d else d)) else (if a < (bs (fun c => !ltOf cf d[mid + m - 1 - c]! d[c]!) (m - a) a m) ∧ (bs (fun c => !ltOf cf d[mid + m - 1 - c]! d[c]!) (m - a) a m) < mid then sym (ltOf cf) f0 a (bs (fun c => !ltOf cf d[mid + m - 1 - c]! d[c]!) (m - a) a m) mid (if (bs (fun c => !ltOf cf d[mid + m - 1 - c]! d[c]!) (m - a) a m) < m ∧ m < mid + m - (bs (fun c => !ltOf cf d[mid + m - 1 - c]! d[c]!) (m - a) a m) then rot m (m - (bs (fun c => !ltOf cf d[mid + m - 1 - c]! d[c]!) (m - a) a m) + (mid + m - (bs (fun c => !ltOf cf d[mid + m - 1 - c]! d[c]!) (m - a) a m) - m)) (m - (bs (fun c => !ltOf cf d[mid + m - 1 - c]! d[c]!) (m - a) a m)) (mid + m - (bs (fun c => !ltOf cf d[mid + m - 1 - c]! d[c]!) (m - a) a m) - m) d else d) else (if (bs (fun c => !ltOf cf d[mid + m - 1 - c]! d[c]!) (m - a) a m) < m ∧ m < mid + m - (bs (fun c => !ltOf cf d[mid + m - 1 - c]! d[c]!) (m - a) a m) then rot m (m - (bs (fun c => !ltOf cf d[mid + m - 1 - c]! d[c]!) (m - a) a m) + (mid + m - (bs (fun c => !ltOf cf d[mid + m - 1 - c]! d[c]!) (m - a) a m) - m)) (m - (bs (fun c => !ltOf cf d[mid + m - 1 - c]! d[c]!) (m - a) a m)) (mid + m - (bs (fun c => !ltOf cf d[mid + m - 1 - c]! d[c]!) (m - a) a m) - m) d else d)))) := ⟨by
    rw [sym, if_neg (by omega), if_neg (by omega), ← hmid]
    dsimp only
    rw [if_neg (show ¬ mid < m by omega), if_neg (show ¬ mid < m by omega)]⟩
  have HS : Aside0 (a ≤ bs (fun c => !ltOf cf d[mid + m - 1 - c]! d[c]!) (m - a) a m ∧ bs (fun c => !ltOf cf d[mid + m - 1 - c]! d[c]!) (m - a) a m ≤ m) := ⟨bs_in _ _ _ _ (by omega) (by omega)⟩
  have HM := Aside0.mk hmid
  clear S hcmp rec hmid
  go_enter Try.func156, Try.ntmps156
  go_wp2
  go_loopg [20, 21] (m - a) (fun g1 vi vj wr => ∃ (i j f : Nat), vi = .int .i64 i ∧ vj = .int .i64 j ∧ a ≤ i ∧ i ≤ j ∧ j ≤ m ∧ j ≤ g1 + i ∧ j ≤ f + i ∧ Aside (SW enc w0 blk off d wr) ∧ Hid (bs (fun c => !ltOf cf d[mid + m - 1 - c]! d[c]!) f i j = bs (fun c => !ltOf cf d[mid + m - 1 - c]! d[c]!) (m - a) a m))
  case atStart => have := HM.out; exact ⟨a, m, m - a, by first | rfl | (congr 1; omega), by first | rfl | (congr 1; omega), Nat.le_refl _, by omega, Nat.le_refl _, by omega, by omega, S0, rfl⟩
  case round =>
    clear S0
    obtain ⟨i, j, f, rfl, rfl, him, hij, hjb, hg1, hf, S1, HO⟩ := hrel
    by_cases hlt : i < j
    · have hltz : (i : Int) < (j : Int) := by omega
      obtain ⟨f, rfl⟩ : ∃ q, f = q + 1 := ⟨f - 1, by omega⟩
      have hM := HM.out
      obtain ⟨h, hh⟩ : ∃ q, q = (i + j) / 2 := ⟨_, rfl⟩
      obtain ⟨pN, hpN⟩ : ∃ q, q = mid + m - 1 - h := ⟨_, rfl⟩
      have eh : ((i : Int) + (j : Int)) / 2 = (h : Int) := by omega
      have ba : (h : Int) < (d.size : Int) := by omega
      have rh : IntKind.i64.wrap ((h : Int) + 1) = (h : Int) + 1 := by rw [IntKind.wrap_i64]; omega
      have esub : (mid : Int) + (m : Int) - 1 - (h : Int) = (pN : Int) := by omega
      have bc : (pN : Int) < (d.size : Int) := by omega
      have rc : IntKind.i64.wrap ((pN : Int)) = (pN : Int) := by rw [IntKind.wrap_i64]; omega
      obtain ⟨x, hx⟩ : ∃ x, x = d[pN]! := ⟨_, rfl⟩
      obtain ⟨y, hy⟩ : ∃ x, x = d[h]! := ⟨_, rfl⟩
      have la := S1.out.cl R (by omega) pN (by omega)
      have lb := S1.out.cl R (by omega) h (by omega)
      rw [← hx] at la
      rw [← hy] at lb
      have hc := S1.out.cmp HC.out (by omega) x y
      have qf : i ≤ h ∧ h < j := by omega
      clear hM
      cases hlv : ltOf cf d[pN]! d[h]! with
      | false =>
        have hd : decide (cf x y < 0) = false := by rw [hx, hy]; exact hlv
        have HX : Hid (bs (fun c => !ltOf cf d[mid + m - 1 - c]! d[c]!) f (h + 1) j = bs (fun c => !ltOf cf d[mid + m - 1 - c]! d[c]!) (m - a) a m) := by
          show _ = _
          rw [← HO.out, bs, if_pos hlt, if_pos (by rw [← hh, ← hpN]; simp [hlv]), hh]
        have HH := Aside0.mk hh
        clear hx hy hlv hh hpN
        go_wp2_with fail
        go_quiet_grown (first | (go_at_fn g; refine Calls.grown_of (hc _ _)))
        have S2 : Aside (SW enc w0 blk off d (grow (wr.drewN nq) osq)) := S1.out.grown nq osq
        clear la lb hc S1
        generalize grow (wr.drewN nq) osq = w2 at S2 ⊢
        clear nq osq
        go_wp2
        go_roundg (j - (h + 1))
        case measure => omega
        case rel => have := HM.out; exact ⟨h + 1, j, f, by first | rfl | (congr 1; omega), rfl, by omega, by omega, hjb, by omega, by omega, S2, HX⟩
      | true =>
        have hd : decide (cf x y < 0) = true := by rw [hx, hy]; exact hlv
        have HX : Hid (bs (fun c => !ltOf cf d[mid + m - 1 - c]! d[c]!) f i h = bs (fun c => !ltOf cf d[mid + m - 1 - c]! d[c]!) (m - a) a m) := by
          show _ = _
          rw [← HO.out, bs, if_pos hlt, if_neg (by rw [← hh, ← hpN]; simp [hlv]), hh]
        have HH := Aside0.mk hh
        clear hx hy hlv hh hpN
        go_wp2_with fail
        go_quiet_grown (first | (go_at_fn g; refine Calls.grown_of (hc _ _)))
        have S2 : Aside (SW enc w0 blk off d (grow (wr.drewN nq) osq)) := S1.out.grown nq osq
        clear la lb hc S1
        generalize grow (wr.drewN nq) osq = w2 at S2 ⊢
        clear nq osq
        go_wp2
        go_roundg (h - i)
        case measure => omega
        case rel => have := HM.out; exact ⟨i, h, f, rfl, by first | rfl | (congr 1; omega), him, by omega, by omega, by omega, by omega, S2, HX⟩
    obtain rfl : i = j := by omega
    have hsi : i = bs (fun c => !ltOf cf d[mid + m - 1 - c]! d[c]!) (m - a) a m := by
      rw [← HO.out]
      cases f with
      | zero => rw [bs]
      | succ f => rw [bs, if_neg hlt]
    have hF := HE.out
    rw [← hsi] at hF
    have hS := HS.out
    rw [← hsi] at hS
    have HF := Aside0.mk hF
    clear HO hsi HE hF HS
    have hM := HM.out
    have we : IntKind.i64.wrap ((mid : Int) + (m : Int) - (i : Int)) = (mid : Int) + (m : Int) - (i : Int) := by rw [IntKind.wrap_i64]; omega
    have ce : ((mid + m - i : Nat) : Int) = (mid : Int) + (m : Int) - (i : Int) := by omega
    have h1 : ∀ (wr : World), i < m → m < mid + m - i → Aside (SW enc w0 blk off d wr) → Calls Try.prog 163 #[.slice (some ⟨blk, off, none⟩) d.size cap, .int .i64 i, .int .i64 m, .int .i64 ((mid : Int) + (m : Int) - (i : Int)), .func (.func g) #[] cb] wr fun e w' => e = .returned (.tuple #[]) ∧ SW enc w0 blk off (rot m (m - i + (mid + m - i - m)) (m - i) (mid + m - i - m) d) w' := fun wr q1 q2 S => by
      have := rotate_calls enc g cb blk off cap i m (mid + m - i) d0 d w0 wr R hs S.out q1 q2 (by omega) hsz
      rw [ce] at this
      exact this
    have H1 := Aside0.mk h1
    have h2 : ∀ (dk : Array α) (wr : World), a < i → i < mid → dk.size = d.size → Aside (SW enc w0 blk off dk wr) → Calls Try.prog 156 #[.slice (some ⟨blk, off, none⟩) d.size cap, .int .i64 a, .int .i64 i, .int .i64 mid, .func (.func g) #[] cb] wr fun e w' => e = .returned (.tuple #[]) ∧ SW enc w0 blk off (sym (ltOf cf) f0 a i mid dk) w' := fun dk wr q1 q2 hz S => by
      have := HR.out a i mid dk wr q1 q2 (by omega) (by omega) (by omega) S.out
      rw [hz] at this
      exact this
    have H2 := Aside0.mk h2
    have h3 : ∀ (dk : Array α) (wr : World), mid < mid + m - i → mid + m - i < b → dk.size = d.size → Aside (SW enc w0 blk off dk wr) → Calls Try.prog 156 #[.slice (some ⟨blk, off, none⟩) d.size cap, .int .i64 mid, .int .i64 ((mid : Int) + (m : Int) - (i : Int)), .int .i64 b, .func (.func g) #[] cb] wr fun e w' => e = .returned (.tuple #[]) ∧ SW enc w0 blk off (sym (ltOf cf) f0 mid (mid + m - i) b dk) w' := fun dk wr q1 q2 hz S => by
      have := HR.out mid (mid + m - i) b dk wr q1 q2 (by omega) (by omega) (by omega) S.out
      rw [hz, ce] at this
      exact this
    have H3 := Aside0.mk h3
    clear h1 h2 h3 hM HM HR ce
    have z1 : (rot m (m - i + (mid + m - i - m)) (m - i) (mid + m - i - m) d).size = d.size := rot_size _ _ _ _ _
    by_cases b1 : i < m
    · by_cases b2 : a < i
      · by_cases b4 : i < mid
        · by_cases b3 : mid + m - i < b
          · have D1 : decide ((i : Int) < (m : Int)) = true := decide_eq_true (by omega)
            have D2 : decide ((m : Int) < (mid : Int) + (m : Int) - (i : Int)) = true := decide_eq_true (by omega)
            have D3 : decide ((a : Int) < (i : Int)) = true := decide_eq_true (by omega)
            have D4 : decide ((i : Int) < (mid : Int)) = true := decide_eq_true (by omega)
            have D5 : decide ((mid : Int) < (mid : Int) + (m : Int) - (i : Int)) = true := decide_eq_true (by omega)
            have D6 : decide ((mid : Int) + (m : Int) - (i : Int) < (b : Int)) = true := decide_eq_true (by omega)
            have q1 : i < m := by omega
            have q2 : m < mid + m - i := by omega
            have q3 : a < i := by omega
            have q4 : i < mid := by omega
            have q5 : mid < mid + m - i := by omega
            have q6 : mid + m - i < b := by omega
            have E := HF.out
            rw [if_pos (And.intro q1 q2), if_pos (And.intro q3 q4), if_pos (And.intro q5 q6)] at E
            have HG := Aside0.mk E
            clear E HF
            have K1 := Aside0.mk (fun (wr : World) S => H1.out wr q1 q2 S)
            have K2 := Aside0.mk (fun (wr : World) S => H2.out (rot m (m - i + (mid + m - i - m)) (m - i) (mid + m - i - m) d) wr q3 q4 z1 S)
            have z2 : (sym (ltOf cf) f0 a i mid (rot m (m - i + (mid + m - i - m)) (m - i) (mid + m - i - m) d)).size = d.size := (sym_size _ _ _ _ _ _).trans z1
            have K3 := Aside0.mk (fun (wr : World) S => H3.out (sym (ltOf cf) f0 a i mid (rot m (m - i + (mid + m - i - m)) (m - i) (mid + m - i - m) d)) wr q5 q6 z2 S)
            clear H1 H2 H3 z1 z2
            go_wp2_with fail
            with_reducible refine (K1.out _ S1).mono ?_
            rintro e1 w1 ⟨rfl, S2⟩
            have T1 : Aside (SW enc w0 blk off (rot m (m - i + (mid + m - i - m)) (m - i) (mid + m - i - m) d) w1) := S2
            clear S2
            go_wp2_with fail
            with_reducible refine (K2.out _ T1).mono ?_
            rintro e2 w2 ⟨rfl, S2⟩
            have T2 : Aside (SW enc w0 blk off (sym (ltOf cf) f0 a i mid (rot m (m - i + (mid + m - i - m)) (m - i) (mid + m - i - m) d)) w2) := S2
            clear S2
            go_wp2_with fail
            with_reducible refine (K3.out _ T2).mono ?_
            rintro e3 w3 ⟨rfl, S2⟩
            have T3 : Aside (SW enc w0 blk off (sym (ltOf cf) f0 mid (mid + m - i) b (sym (ltOf cf) f0 a i mid (rot m (m - i + (mid + m - i - m)) (m - i) (mid + m - i - m) d))) w3) := S2
            clear S2
            go_wp2
            go_end0
            exact ⟨rfl, by rw [HG.out]; exact T3.out⟩
          have D1 : decide ((i : Int) < (m : Int)) = true := decide_eq_true (by omega)
          have D2 : decide ((m : Int) < (mid : Int) + (m : Int) - (i : Int)) = true := decide_eq_true (by omega)
          have D3 : decide ((a : Int) < (i : Int)) = true := decide_eq_true (by omega)
          have D4 : decide ((i : Int) < (mid : Int)) = true := decide_eq_true (by omega)
          have D5 : decide ((mid : Int) < (mid : Int) + (m : Int) - (i : Int)) = true := decide_eq_true (by omega)
          have D6 : decide ((mid : Int) + (m : Int) - (i : Int) < (b : Int)) = false := decide_eq_false (by omega)
          have q1 : i < m := by omega
          have q2 : m < mid + m - i := by omega
          have q3 : a < i := by omega
          have q4 : i < mid := by omega
          have n2 : ¬ (mid < mid + m - i ∧ mid + m - i < b) := by omega
          have E := HF.out
          rw [if_pos (And.intro q1 q2), if_pos (And.intro q3 q4), if_neg n2] at E
          have HG := Aside0.mk E
          clear E HF
          have K1 := Aside0.mk (fun (wr : World) S => H1.out wr q1 q2 S)
          have K2 := Aside0.mk (fun (wr : World) S => H2.out (rot m (m - i + (mid + m - i - m)) (m - i) (mid + m - i - m) d) wr q3 q4 z1 S)
          have z2 : (sym (ltOf cf) f0 a i mid (rot m (m - i + (mid + m - i - m)) (m - i) (mid + m - i - m) d)).size = d.size := (sym_size _ _ _ _ _ _).trans z1
          clear H1 H2 H3 z1 z2
          go_wp2_with fail
          with_reducible refine (K1.out _ S1).mono ?_
          rintro e1 w1 ⟨rfl, S2⟩
          have T1 : Aside (SW enc w0 blk off (rot m (m - i + (mid + m - i - m)) (m - i) (mid + m - i - m) d) w1) := S2
          clear S2
          go_wp2_with fail
          with_reducible refine (K2.out _ T1).mono ?_
          rintro e2 w2 ⟨rfl, S2⟩
          have T2 : Aside (SW enc w0 blk off (sym (ltOf cf) f0 a i mid (rot m (m - i + (mid + m - i - m)) (m - i) (mid + m - i - m) d)) w2) := S2
          clear S2
          go_wp2
          go_end0
          exact ⟨rfl, by rw [HG.out]; exact T2.out⟩
        by_cases b3 : mid + m - i < b
        · exfalso; omega
        exfalso; omega
      by_cases b3 : mid + m - i < b
      · have D1 : decide ((i : Int) < (m : Int)) = true := decide_eq_true (by omega)
        have D2 : decide ((m : Int) < (mid : Int) + (m : Int) - (i : Int)) = true := decide_eq_true (by omega)
        have D3 : decide ((a : Int) < (i : Int)) = false := decide_eq_false (by omega)
        have D5 : decide ((mid : Int) < (mid : Int) + (m : Int) - (i : Int)) = true := decide_eq_true (by omega)
        have D6 : decide ((mid : Int) + (m : Int) - (i : Int) < (b : Int)) = true := decide_eq_true (by omega)
        have q1 : i < m := by omega
        have q2 : m < mid + m - i := by omega
        have n1 : ¬ (a < i ∧ i < mid) := by omega
        have q5 : mid < mid + m - i := by omega
        have q6 : mid + m - i < b := by omega
        have E := HF.out
        rw [if_pos (And.intro q1 q2), if_neg n1, if_pos (And.intro q5 q6)] at E
        have HG := Aside0.mk E
        clear E HF
        have K1 := Aside0.mk (fun (wr : World) S => H1.out wr q1 q2 S)
        have K3 := Aside0.mk (fun (wr : World) S => H3.out (rot m (m - i + (mid + m - i - m)) (m - i) (mid + m - i - m) d) wr q5 q6 z1 S)
        clear H1 H2 H3 z1
        go_wp2_with fail
        with_reducible refine (K1.out _ S1).mono ?_
        rintro e1 w1 ⟨rfl, S2⟩
        have T1 : Aside (SW enc w0 blk off (rot m (m - i + (mid + m - i - m)) (m - i) (mid + m - i - m) d) w1) := S2
        clear S2
        go_wp2_with fail
        with_reducible refine (K3.out _ T1).mono ?_
        rintro e3 w3 ⟨rfl, S2⟩
        have T3 : Aside (SW enc w0 blk off (sym (ltOf cf) f0 mid (mid + m - i) b (rot m (m - i + (mid + m - i - m)) (m - i) (mid + m - i - m) d)) w3) := S2
        clear S2
        go_wp2
        go_end0
        exact ⟨rfl, by rw [HG.out]; exact T3.out⟩
      have D1 : decide ((i : Int) < (m : Int)) = true := decide_eq_true (by omega)
      have D2 : decide ((m : Int) < (mid : Int) + (m : Int) - (i : Int)) = true := decide_eq_true (by omega)
      have D3 : decide ((a : Int) < (i : Int)) = false := decide_eq_false (by omega)
      have D5 : decide ((mid : Int) < (mid : Int) + (m : Int) - (i : Int)) = true := decide_eq_true (by omega)
      have D6 : decide ((mid : Int) + (m : Int) - (i : Int) < (b : Int)) = false := decide_eq_false (by omega)
      have q1 : i < m := by omega
      have q2 : m < mid + m - i := by omega
      have n1 : ¬ (a < i ∧ i < mid) := by omega
      have n2 : ¬ (mid < mid + m - i ∧ mid + m - i < b) := by omega
      have E := HF.out
      rw [if_pos (And.intro q1 q2), if_neg n1, if_neg n2] at E
      have HG := Aside0.mk E
      clear E HF
      have K1 := Aside0.mk (fun (wr : World) S => H1.out wr q1 q2 S)
      clear H1 H2 H3 z1
      go_wp2_with fail
      with_reducible refine (K1.out _ S1).mono ?_
      rintro e1 w1 ⟨rfl, S2⟩
      have T1 : Aside (SW enc w0 blk off (rot m (m - i + (mid + m - i - m)) (m - i) (mid + m - i - m) d) w1) := S2
      clear S2
      go_wp2
      go_end0
      exact ⟨rfl, by rw [HG.out]; exact T1.out⟩
    by_cases b2 : a < i
    · by_cases b4 : i < mid
      · by_cases b3 : mid + m - i < b
        · have D1 : decide ((i : Int) < (m : Int)) = false := decide_eq_false (by omega)
          have D3 : decide ((a : Int) < (i : Int)) = true := decide_eq_true (by omega)
          have D4 : decide ((i : Int) < (mid : Int)) = true := decide_eq_true (by omega)
          have D5 : decide ((mid : Int) < (mid : Int) + (m : Int) - (i : Int)) = false := decide_eq_false (by omega)
          have nr : ¬ (i < m ∧ m < mid + m - i) := by omega
          have q3 : a < i := by omega
          have q4 : i < mid := by omega
          have n2 : ¬ (mid < mid + m - i ∧ mid + m - i < b) := by omega
          have E := HF.out
          rw [if_neg nr, if_pos (And.intro q3 q4), if_neg n2] at E
          have HG := Aside0.mk E
          clear E HF
          have K2 := Aside0.mk (fun (wr : World) S => H2.out d wr q3 q4 rfl S)
          have z2 : (sym (ltOf cf) f0 a i mid d).size = d.size := (sym_size _ _ _ _ _ _).trans rfl
          clear H1 H2 H3 z1 z2
          go_wp2_with fail
          with_reducible refine (K2.out _ S1).mono ?_
          rintro e2 w2 ⟨rfl, S2⟩
          have T2 : Aside (SW enc w0 blk off (sym (ltOf cf) f0 a i mid d) w2) := S2
          clear S2
          go_wp2
          go_end0
          exact ⟨rfl, by rw [HG.out]; exact T2.out⟩
        have D1 : decide ((i : Int) < (m : Int)) = false := decide_eq_false (by omega)
        have D3 : decide ((a : Int) < (i : Int)) = true := decide_eq_true (by omega)
        have D4 : decide ((i : Int) < (mid : Int)) = true := decide_eq_true (by omega)
        have D5 : decide ((mid : Int) < (mid : Int) + (m : Int) - (i : Int)) = false := decide_eq_false (by omega)
        have nr : ¬ (i < m ∧ m < mid + m - i) := by omega
        have q3 : a < i := by omega
        have q4 : i < mid := by omega
        have n2 : ¬ (mid < mid + m - i ∧ mid + m - i < b) := by omega
        have E := HF.out
        rw [if_neg nr, if_pos (And.intro q3 q4), if_neg n2] at E
        have HG := Aside0.mk E
        clear E HF
        have K2 := Aside0.mk (fun (wr : World) S => H2.out d wr q3 q4 rfl S)
        have z2 : (sym (ltOf cf) f0 a i mid d).size = d.size := (sym_size _ _ _ _ _ _).trans rfl
        clear H1 H2 H3 z1 z2
        go_wp2_with fail
        with_reducible refine (K2.out _ S1).mono ?_
        rintro e2 w2 ⟨rfl, S2⟩
        have T2 : Aside (SW enc w0 blk off (sym (ltOf cf) f0 a i mid d) w2) := S2
        clear S2
        go_wp2
        go_end0
        exact ⟨rfl, by rw [HG.out]; exact T2.out⟩
      by_cases b3 : mid + m - i < b
      · have D1 : decide ((i : Int) < (m : Int)) = false := decide_eq_false (by omega)
        have D3 : decide ((a : Int) < (i : Int)) = true := decide_eq_true (by omega)
        have D4 : decide ((i : Int) < (mid : Int)) = false := decide_eq_false (by omega)
        have D5 : decide ((mid : Int) < (mid : Int) + (m : Int) - (i : Int)) = false := decide_eq_false (by omega)
        have nr : ¬ (i < m ∧ m < mid + m - i) := by omega
        have n1 : ¬ (a < i ∧ i < mid) := by omega
        have n2 : ¬ (mid < mid + m - i ∧ mid + m - i < b) := by omega
        have E := HF.out
        rw [if_neg nr, if_neg n1, if_neg n2] at E
        have HG := Aside0.mk E
        clear E HF; clear H1 H2 H3 z1
        go_wp2
        go_end0
        exact ⟨rfl, by rw [HG.out]; exact S1.out⟩
      have D1 : decide ((i : Int) < (m : Int)) = false := decide_eq_false (by omega)
      have D3 : decide ((a : Int) < (i : Int)) = true := decide_eq_true (by omega)
      have D4 : decide ((i : Int) < (mid : Int)) = false := decide_eq_false (by omega)
      have D5 : decide ((mid : Int) < (mid : Int) + (m : Int) - (i : Int)) = false := decide_eq_false (by omega)
      have nr : ¬ (i < m ∧ m < mid + m - i) := by omega
      have n1 : ¬ (a < i ∧ i < mid) := by omega
      have n2 : ¬ (mid < mid + m - i ∧ mid + m - i < b) := by omega
      have E := HF.out
      rw [if_neg nr, if_neg n1, if_neg n2] at E
      have HG := Aside0.mk E
      clear E HF; clear H1 H2 H3 z1
      go_wp2
      go_end0
      exact ⟨rfl, by rw [HG.out]; exact S1.out⟩
    by_cases b3 : mid + m - i < b
    · exfalso; omega
    exfalso; omega
end Go.Proofs.Ytefhljhpcpajgaa.F
set_option linter.unusedVariables false
namespace Go.Proofs.Ytefhljhpcpajgaa.F
open Go.Sort Go.Shelf Go.Lib
open Go.RowKit Go.Proofs.YtefhljhpcpajgaaX Go.Proofs.YtefhljhpcpajgaaW.PrintWords Go.Proofs.YtefhljhpcpajgaaW.PrintLast Go.Proofs.YtefhljhpcpajgaaW.PrintMore
open Go.Proofs.Ytefhljhpcpajgaa.Stable
set_option maxHeartbeats 8000000 in
set_option maxRecDepth 100000 in
theorem stable_calls {α : Type} [Inhabited α] (enc : α → Value) (cf : α → α → Int) (g : Nat) (cb : Array Value) (blk0 off cap : Nat) (d : Array α) (w0 w : World) (eg : ∀ args w, (callFunc g args).run Try.prog w = .ok (.enter g args) w) (hcmp : CmpLays1 Try.prog g cb enc cf blk0 off d.size w0) (R : Row1 enc w0 blk0 off d) (S : SW enc w0 blk0 off d w) (hsz : d.size < 1152921504606846976)
    (sym_calls : ∀ (f a m b : Nat) (dk : Array α) (w : World), b - a ≤ f → a < m → m < b → b ≤ dk.size → d.size = dk.size → SW enc w0 blk0 off dk w → Calls Try.prog 156 #[.slice (some ⟨blk0, off, none⟩) dk.size cap, .int .i64 a, .int .i64 m, .int .i64 b, .func (.func g) #[] cb] w fun e w' => e = .returned (.tuple #[]) ∧ SW enc w0 blk0 off (sym (ltOf cf) f a m b dk) w') :
    Calls Try.prog 148 #[.slice (some ⟨blk0, off, none⟩) d.size cap, .int .i64 (d.size : Int), .func (.func g) #[] cb] w fun e w' => e = .returned (.tuple #[]) ∧ SW enc w0 blk0 off (stable (ltOf cf) d.size d) w' := by
  have HC := Aside0.mk hcmp
  have S0 : Aside (SW enc w0 blk0 off d w) := S
  obtain ⟨n, hn⟩ : ∃ q, q = d.size := ⟨_, rfl⟩
  have HN := Aside0.mk hn
  have hI : ∀ (a b : Nat) (dk : Array α) (wr : World), a ≤ b → b ≤ n → dk.size = n → Aside (SW enc w0 blk0 off dk wr) → Calls Try.prog 155 #[.slice (some ⟨blk0, off, none⟩) n cap, .int .i64 a, .int .i64 b, .func (.func g) #[] cb] wr fun e w' => e = .returned (.tuple #[]) ∧ SW enc w0 blk0 off (Sort.insertionSort (ltOf cf) dk a b) w' := fun a b dk wr h1 h2 hz S => by
    have := Try.insertionSortCmpFunc_s enc cf g cb blk0 off cap a b d dk w0 wr eg HC.out R (by omega) S.out h1 (by omega) (by omega)
    rw [hz] at this
    exact this
  have hY : ∀ (a m b : Nat) (dk : Array α) (wr : World), a < m → m < b → b ≤ n → dk.size = n → Aside (SW enc w0 blk0 off dk wr) → Calls Try.prog 156 #[.slice (some ⟨blk0, off, none⟩) n cap, .int .i64 a, .int .i64 m, .int .i64 b, .func (.func g) #[] cb] wr fun e w' => e = .returned (.tuple #[]) ∧ SW enc w0 blk0 off (sym (ltOf cf) n a m b dk) w' := fun a m b dk wr h1 h2 h3 hz S => by
    have := sym_calls n a m b dk wr (by omega) h1 h2 (by omega) (by omega) S.out
    rw [hz] at this
    exact this
  have HI := Aside0.mk hI
  have HY := Aside0.mk hY
  rw [← hn]
  have hsz2 : n < 1152921504606846976 := by omega
  clear hcmp S hI hY sym_calls hn hsz R eg
  go_enter Try.func148, Try.ntmps148
  go_wp2
  go_loopg [7, 8] n (fun g1 v7 v8 wr => ∃ (a f : Nat) (dk : Array α), v7 = .int .i64 a ∧ v8 = .int .i64 ((a : Int) + 20) ∧ a ≤ n ∧ n < a + 20 * f + 20 ∧ n ≤ g1 + a ∧ dk.size = n ∧ Aside (SW enc w0 blk0 off dk wr) ∧ Hid (blk (ltOf cf) n (f + 1) a dk = blk (ltOf cf) n (n + 1) 0 d))
  case atStart => have := HN.out; exact ⟨0, n, d, by first | rfl | go_num, by first | rfl | go_num, by omega, by omega, by omega, by omega, S0, rfl⟩
  case round =>
    clear S0
    obtain ⟨a, f, dk, rfl, rfl, han, hf, hg, hz, S1, HO⟩ := hrel
    by_cases c : a + 20 ≤ n
    · have c' : decide ((a : Int) + 20 ≤ (n : Int)) = true := decide_eq_true (by omega)
      have e1 : (((a + 20 : Nat) : Int)) = (a : Int) + 20 := by omega
      have hw : IntKind.i64.wrap ((a : Int) + 20 + 20) = (a : Int) + 20 + 20 := by rw [IntKind.wrap_i64]; omega
      obtain ⟨f, rfl⟩ : ∃ q, f = q + 1 := ⟨f - 1, by omega⟩
      have h1 := HI.out a (a + 20) dk wr (by omega) c hz S1
      rw [e1] at h1
      have H1 := Aside0.mk h1
      have HX : Hid (blk (ltOf cf) n (f + 1) (a + 20) (Sort.insertionSort (ltOf cf) dk a (a + 20)) = blk (ltOf cf) n (n + 1) 0 d) := by
        show _ = _
        rw [← HO.out, blk, blk, if_pos c]
        rw [blk]
      have hz1 : (Sort.insertionSort (ltOf cf) dk a (a + 20)).size = n := by rw [insertion_size]; exact hz
      clear h1 S1 HO
      go_wp2_with fail
      with_reducible refine H1.out.mono ?_
      rintro e1 w1 ⟨rfl, S2⟩
      have T1 : Aside (SW enc w0 blk0 off (Sort.insertionSort (ltOf cf) dk a (a + 20)) w1) := S2
      clear S2
      go_wp2
      go_roundg (n - (a + 20))
      case measure => omega
      case rel => exact ⟨a + 20, f, _, by first | rfl | (congr 1; omega), by first | rfl | (congr 1; omega), by omega, by omega, by omega, hz1, T1, HX⟩
    have c' : decide ((a : Int) + 20 ≤ (n : Int)) = false := decide_eq_false (by omega)
    have h1 := HI.out a n dk wr han (Nat.le_refl _) hz S1
    have H1 := Aside0.mk h1
    have HX : Hid (Sort.insertionSort (ltOf cf) dk a n = blk (ltOf cf) n (n + 1) 0 d) := by
      show _ = _
      rw [← HO.out, blk, if_neg c]
    have hz1 : (Sort.insertionSort (ltOf cf) dk a n).size = n := by rw [insertion_size]; exact hz
    clear h1 S1 HO
    go_wp2_with fail
    with_reducible refine H1.out.mono ?_
    rintro e1 w1 ⟨rfl, S2⟩
    have T1 : Aside (SW enc w0 blk0 off (Sort.insertionSort (ltOf cf) dk a n) w1) := S2
    clear S2 H1
    generalize Sort.insertionSort (ltOf cf) dk a n = d1 at T1 HX hz1
    clear hz c c' hf hg
    go_wp2
    go_loopg [6] n (fun g1 v6 wr => ∃ (z f : Nat) (dk : Array α), v6 = .int .i64 z ∧ 0 < z ∧ (z ≤ 20 ∨ z < 2 * n) ∧ n ≤ z + f ∧ n ≤ g1 + z ∧ dk.size = n ∧ Aside (SW enc w0 blk0 off dk wr) ∧ Hid (mrgs (ltOf cf) n f z dk = mrgs (ltOf cf) n n 20 d1))
    case atStart => exact ⟨20, n, d1, by first | rfl | go_num, by omega, .inl (Nat.le_refl _), by omega, by omega, hz1, T1, rfl⟩
    case round =>
      clear T1 hz1
      obtain ⟨z, f, dk, rfl, hz0, hzb, hf, hg, hz, S1, HO⟩ := hrel
      by_cases c : z < n
      · have c' : decide ((z : Int) < (n : Int)) = true := decide_eq_true (by omega)
        obtain ⟨f, rfl⟩ : ∃ q, f = q + 1 := ⟨f - 1, by omega⟩
        have hw1 : IntKind.i64.wrap (2 * (z : Int)) = 2 * (z : Int) := by rw [IntKind.wrap_i64]; omega
        have hw2 : IntKind.i64.wrap ((z : Int) * 2) = (z : Int) * 2 := by rw [IntKind.wrap_i64]; omega
        have HO2 : Hid (mrgs (ltOf cf) n f (z * 2) (mrg (ltOf cf) n z (n + 1) 0 dk) = mrgs (ltOf cf) n n 20 d1) := by
          show _ = _
          rw [← HO.out, mrgs, if_pos c]
        clear HO
        go_wp2
        go_loopg [7, 8] n (fun g1 v7 v8 wr => ∃ (a f : Nat) (de : Array α), v7 = .int .i64 a ∧ v8 = .int .i64 ((a : Int) + 2 * (z : Int)) ∧ a ≤ n ∧ n ≤ a + f ∧ n ≤ g1 + a ∧ de.size = n ∧ Aside (SW enc w0 blk0 off de wr) ∧ Hid (mrg (ltOf cf) n z (f + 1) a de = mrg (ltOf cf) n z (n + 1) 0 dk))
        case atStart => exact ⟨0, n, dk, by first | rfl | go_num, by first | rfl | go_num | (congr 1; omega), by omega, by omega, by omega, hz, S1, rfl⟩
        case round =>
          clear S1
          obtain ⟨a, f2, de, rfl, rfl, han, hf2, hg2, hze, S1, HP⟩ := hrel
          have hwa : IntKind.i64.wrap ((a : Int) + (z : Int)) = (a : Int) + (z : Int) := by rw [IntKind.wrap_i64]; omega
          have ez : ((a + z : Nat) : Int) = (a : Int) + (z : Int) := by omega
          by_cases c1 : a + 2 * z ≤ n
          · have c1' : decide ((a : Int) + 2 * (z : Int) ≤ (n : Int)) = true := decide_eq_true (by omega)
            have hwb : IntKind.i64.wrap ((a : Int) + 2 * (z : Int) + 2 * (z : Int)) = (a : Int) + 2 * (z : Int) + 2 * (z : Int) := by rw [IntKind.wrap_i64]; omega
            obtain ⟨f2, rfl⟩ : ∃ q, f2 = q + 1 := ⟨f2 - 1, by omega⟩
            have h1 := HY.out a (a + z) (a + 2 * z) de wr (by omega) (by omega) c1 hze S1
            rw [ez, show ((a + 2 * z : Nat) : Int) = (a : Int) + 2 * (z : Int) by omega] at h1
            have H1 := Aside0.mk h1
            have HX : Hid (mrg (ltOf cf) n z (f2 + 1) (a + 2 * z) (sym (ltOf cf) n a (a + z) (a + 2 * z) de) = mrg (ltOf cf) n z (n + 1) 0 dk) := by
              show _ = _
              rw [← HP.out]
              conv => rhs; rw [mrg, if_pos c1]
            have hz1 : (sym (ltOf cf) n a (a + z) (a + 2 * z) de).size = n := by rw [sym_size]; exact hze
            clear h1 S1 HP
            go_wp2_with fail
            with_reducible refine H1.out.mono ?_
            rintro e1 w1 ⟨rfl, S2⟩
            have T1 : Aside (SW enc w0 blk0 off (sym (ltOf cf) n a (a + z) (a + 2 * z) de) w1) := S2
            clear S2
            go_wp2
            go_roundg (n - (a + 2 * z))
            case measure => omega
            case rel => exact ⟨a + 2 * z, f2, _, by first | rfl | (congr 1; omega), by first | rfl | (congr 1; omega), by omega, by omega, by omega, hz1, T1, HX⟩
          have c1' : decide ((a : Int) + 2 * (z : Int) ≤ (n : Int)) = false := decide_eq_false (by omega)
          by_cases c2 : a + z < n
          · have c2' : decide ((a : Int) + (z : Int) < (n : Int)) = true := decide_eq_true (by omega)
            have h1 := HY.out a (a + z) n de wr (by omega) (by omega) (Nat.le_refl _) hze S1
            rw [ez] at h1
            have H1 := Aside0.mk h1
            have HX : Hid (sym (ltOf cf) n a (a + z) n de = mrg (ltOf cf) n z (n + 1) 0 dk) := by
              show _ = _
              rw [← HP.out, mrg, if_neg c1, if_pos c2]
            have hz1 : (sym (ltOf cf) n a (a + z) n de).size = n := by rw [sym_size]; exact hze
            clear h1 S1 HP
            go_wp2_with fail
            with_reducible refine H1.out.mono ?_
            rintro e1 w1 ⟨rfl, S2⟩
            have T1 : Aside (SW enc w0 blk0 off (sym (ltOf cf) n a (a + z) n de) w1) := S2
            clear S2
            go_wp2
            go_roundg (n - z * 2)
            case measure => omega
            case rel => exact ⟨z * 2, f, _, by first | rfl | (congr 1; omega), by omega, by omega, by omega, by omega, hz1, T1, (by show _ = _; rw [HX.out]; exact HO2.out)⟩
          have c2' : decide ((a : Int) + (z : Int) < (n : Int)) = false := decide_eq_false (by omega)
          have HX : Hid (de = mrg (ltOf cf) n z (n + 1) 0 dk) := by
            show _ = _
            rw [← HP.out, mrg, if_neg c1, if_neg c2]
          clear HP
          go_wp2
          go_roundg (n - z * 2)
          case measure => omega
          case rel => exact ⟨z * 2, f, _, by first | rfl | (congr 1; omega), by omega, by omega, by omega, by omega, hze, S1, (by show _ = _; rw [HX.out]; exact HO2.out)⟩
      have c' : decide ((z : Int) < (n : Int)) = false := decide_eq_false (by omega)
      have HX2 : Hid (dk = mrgs (ltOf cf) n n 20 d1) := by
        show _ = _
        rw [← HO.out]
        cases f with
        | zero => rfl
        | succ f => rw [mrgs, if_neg c]
      clear HO
      go_wp2
      go_end0
      exact ⟨rfl, by unfold stable; rw [← HX.out, ← HX2.out]; exact S1.out⟩
end Go.Proofs.Ytefhljhpcpajgaa.F
set_option linter.unusedVariables false
namespace Go.Proofs.Ytefhljhpcpajgaa.Q
open Go.RowKit Go.Proofs.YtefhljhpcpajgaaW.PrintWords Go.Proofs.YtefhljhpcpajgaaW.PrintLast Go.Proofs.YtefhljhpcpajgaaW.PrintMore
theorem Ev.ite {α : Type} {c : Prop} [Decidable c] {a b : Nat → Option α} {r : α} (h1 : c → Ev a r) (h2 : ¬ c → Ev b r) : Ev (fun k => if c then a k else b k) r := by
  by_cases h : c
  · simp only [if_pos h]; exact h1 h
  simp only [if_neg h]; exact h2 h
theorem Ev.pos {α : Type} {c : Prop} [Decidable c] {a b : Nat → Option α} {r : α} (h : c) (h1 : Ev a r) : Ev (fun k => if c then a k else b k) r := by
  simp only [if_pos h]; exact h1
theorem Ev.neg {α : Type} {c : Prop} [Decidable c] {a b : Nat → Option α} {r : α} (h : ¬ c) (h1 : Ev b r) : Ev (fun k => if c then a k else b k) r := by
  simp only [if_neg h]; exact h1
theorem Ev.ok {α : Type} {a b : α} (h : a = b) : Ev (fun _ => some a) b := ⟨0, fun _ _ => by rw [h]⟩
theorem Ev.const {α : Type} {o : Option α} {r : α} (h : o = some r) : Ev (fun _ => o) r := ⟨0, fun _ _ => h⟩
theorem Ev.bindc {α β : Type} {o : Option α} {f : Nat → α → Option β} {a : α} {r : β} (h : o = some a) (k : Ev (fun n => f n a) r) : Ev (fun n => o.bind (f n)) r := by
  subst h
  exact k
theorem Ev.eq {α : Type} {g : Nat → Option α} {a b : α} (h : Ev g a) (e : a = b) : Ev g b := e ▸ h
theorem wrap_eq {x : Int} (h0 : -9223372036854775808 ≤ x) (h1 : x ≤ 9223372036854775807) : wrap64 x = x := by
  unfold wrap64; omega
theorem u64_eq {x : Int} (h0 : 0 ≤ x) (h1 : x < 18446744073709551616) : IntKind.u64.wrap x = x := by
  simp [IntKind.wrap, IntKind.signed, IntKind.bits]; omega
theorem rd_nat {l : List Int} {i : Nat} (h : i < l.length) : rd l (i : Int) = l[i] := by
  unfold rd; simp [List.getD_eq_getElem?_getD, h]
theorem rdOf_nat {α : Type} {d : α} {l : List α} {i : Nat} (h : i < l.length) : rdOf d l (i : Int) = l[i] := by
  unfold rdOf; simp [List.getD_eq_getElem?_getD, h]
theorem drop_cons {α : Type} {l : List α} {i : Nat} (h : i < l.length) : l.drop i = l[i] :: l.drop (i + 1) := List.drop_eq_getElem_cons h
theorem bytes_ext {a b : ByteArray} : a.toList = b.toList ↔ a = b := by
  constructor
  · intro h
    rw [ByteArray.toList_eq, ByteArray.toList_eq] at h
    cases a; cases b
    simpa [Array.toList_inj] using h
  rintro rfl; rfl
end Go.Proofs.Ytefhljhpcpajgaa.Q
set_option linter.unusedVariables false
namespace Go.Proofs.Ytefhljhpcpajgaa.Q
open Go.RowKit
def bef (r : Nat → Int) (j i : Nat) : Bool := decide (r j > r i) || (decide (r j = r i) && decide (j < i))
theorem bef_iff {r : Nat → Int} {j i : Nat} : bef r j i = true ↔ r j > r i ∨ (r j = r i ∧ j < i) := by simp [bef]
theorem bef_irrefl (r : Nat → Int) (i : Nat) : bef r i i = false := by simp [bef]
theorem bef_trans {r : Nat → Int} {a b c : Nat} (h : bef r a b = true) (g : bef r b c = true) : bef r a c = true := by
  rw [bef_iff] at *; omega
theorem bef_total (r : Nat → Int) {a b : Nat} (h : a ≠ b) : bef r a b = true ∨ bef r b a = true := by
  rw [bef_iff, bef_iff]; omega
theorem bef_asymm {r : Nat → Int} {a b : Nat} (h : bef r a b = true) : bef r b a = false := by
  cases e : bef r b a with
  | false => rfl
  | true => have := bef_trans h e; rw [bef_irrefl] at this; cases this
def rank (r : Nat → Int) (n i : Nat) : Nat := (List.range n).countP (fun j => bef r j i)
theorem countP_lt {α : Type} {p q : α → Bool} {l : List α} (h : ∀ x ∈ l, p x = true → q x = true) {a : α} (ha : a ∈ l) (hp : p a = false) (hq : q a = true) : l.countP p < l.countP q := by
  induction l with
  | nil => cases ha
  | cons x l ih =>
    have hl : l.countP p ≤ l.countP q := List.countP_mono_left (fun y hy => h y (List.mem_cons_of_mem _ hy))
    rcases List.mem_cons.1 ha with rfl | ha
    · rw [List.countP_cons_of_neg (by simp [hp]), List.countP_cons_of_pos hq]; omega
    have := ih (fun y hy => h y (List.mem_cons_of_mem _ hy)) ha
    by_cases hx : p x = true
    · rw [List.countP_cons_of_pos hx, List.countP_cons_of_pos (h x List.mem_cons_self hx)]; omega
    rw [List.countP_cons_of_neg hx]
    by_cases hx2 : q x = true
    · rw [List.countP_cons_of_pos hx2]; omega
    rw [List.countP_cons_of_neg hx2]; omega
theorem rank_lt {r : Nat → Int} {n a b : Nat} (ha : a < n) (h : bef r a b = true) : rank r n a < rank r n b :=
  countP_lt (fun x _ hx => bef_trans hx h) (List.mem_range.2 ha) (bef_irrefl r a) h
theorem rank_inj {r : Nat → Int} {n a b : Nat} (ha : a < n) (hb : b < n) (h : rank r n a = rank r n b) : a = b := by
  apply Classical.byContradiction
  intro hne
  rcases bef_total r hne with g | g
  · have := rank_lt ha g; omega
  have := rank_lt hb g; omega
theorem rank_bef {r : Nat → Int} {n a b : Nat} (ha : a < n) (hb : b < n) : rank r n a < rank r n b ↔ bef r a b = true := by
  constructor
  · intro h
    apply Classical.byContradiction
    intro hn
    by_cases e : a = b
    · subst e; omega
    rcases bef_total r e with g | g
    · exact hn g
    have := rank_lt hb g; omega
  exact rank_lt ha
theorem rank_next {r : Nat → Int} {n t k : Nat} (hc : (List.range n).countP (fun i => decide (rank r n i < t)) = t) (hk : k < n) (hkt : t ≤ rank r n k) (hm : ∀ i, i < n → t ≤ rank r n i → i ≠ k → bef r k i = true) : rank r n k = t := by
  rw [← hc]
  unfold rank
  refine List.countP_congr fun j hj => ?_
  have hj := List.mem_range.1 hj
  rw [decide_eq_true_eq]
  change bef r j k = true ↔ rank r n j < t
  constructor
  · intro h
    apply Classical.byContradiction
    intro hn
    by_cases e : j = k
    · subst e; rw [bef_irrefl] at h; cases h
    have := hm j hj (by omega) e
    rw [bef_asymm h] at this; cases this
  intro h
  exact (rank_bef hj hk).1 (by omega)
theorem countP_succ {n t k : Nat} {f : Nat → Nat} (hf : ∀ a b, a < n → b < n → f a = f b → a = b) (hk : k < n) (hfk : f k = t) : (List.range n).countP (fun i => decide (f i < t + 1)) = (List.range n).countP (fun i => decide (f i < t)) + 1 := by
  have key : ∀ m, m ≤ n → (List.range m).countP (fun i => decide (f i < t + 1)) = (List.range m).countP (fun i => decide (f i < t)) + (if k < m then 1 else 0) := by
    intro m
    induction m with
    | zero => intro _; simp
    | succ m ih =>
      intro hm
      have ih := ih (by omega)
      rw [List.range_succ, List.countP_append, List.countP_append, ih]
      simp only [List.countP_cons, List.countP_nil]
      by_cases e : m = k
      · subst e
        rw [hfk]
        simp
      have h1 : f m ≠ t := fun h => e (hf m k (by omega) hk (by omega))
      have h2 : (f m < t + 1) ↔ (f m < t) := by omega
      simp only [h2]
      (repeat' split) <;> omega
  rw [key n (Nat.le_refl _), if_pos hk]
theorem exists_first (r : Nat → Int) (p : Nat → Prop) [DecidablePred p] : ∀ n, (∃ i, i < n ∧ p i) → ∃ k, k < n ∧ p k ∧ ∀ i, i < n → p i → i ≠ k → bef r k i = true := by
  intro n
  induction n with
  | zero => rintro ⟨i, h, _⟩; omega
  | succ n ih =>
    rintro ⟨i, hi, hp⟩
    by_cases he : ∃ i, i < n ∧ p i
    · obtain ⟨k, hk, hpk, hm⟩ := ih he
      by_cases hn : p n ∧ bef r n k = true
      · refine ⟨n, by omega, hn.1, fun j hj hpj hne => ?_⟩
        by_cases e : j = k
        · subst e; exact hn.2
        exact bef_trans hn.2 (hm j (by omega) hpj e)
      refine ⟨k, by omega, hpk, fun j hj hpj hne => ?_⟩
      by_cases e : j = n
      · subst e
        rcases bef_total r hne with g | g
        · exact absurd ⟨hpj, g⟩ hn
        exact g
      exact hm j (by omega) hpj hne
    have : i = n := by
      apply Classical.byContradiction
      intro h
      exact he ⟨i, by omega, hp⟩
    subst this
    refine ⟨i, hi, hp, fun j hj hpj hne => absurd ⟨j, by omega, hpj⟩ he⟩
theorem rank_count (r : Nat → Int) (n : Nat) : ∀ t, t ≤ n → (List.range n).countP (fun i => decide (rank r n i < t)) = t := by
  intro t
  induction t with
  | zero => intro _; simp
  | succ t ih =>
    intro ht
    have hc := ih (by omega)
    have hex : ∃ i, i < n ∧ t ≤ rank r n i := by
      apply Classical.byContradiction
      intro hn
      have : (List.range n).countP (fun i => decide (rank r n i < t)) = (List.range n).length := by
        rw [List.countP_eq_length]
        intro x hx
        have hx := List.mem_range.1 hx
        rw [decide_eq_true_eq]
        apply Classical.byContradiction
        intro h
        exact hn ⟨x, hx, by omega⟩
      rw [hc, List.length_range] at this
      omega
    obtain ⟨k, hk, hkt, hm⟩ := exists_first r (fun i => t ≤ rank r n i) n hex
    have e := rank_next hc hk hkt hm
    rw [countP_succ (fun a b ha hb => rank_inj ha hb) hk e, hc]
theorem rank_sorted {r : Nat → Int} {n : Nat} {l : List Nat} (hp : l.Perm (List.range n)) (hs : l.Pairwise (fun a b => bef r a b = true)) {p : Nat} (h : p < l.length) : rank r n l[p] = p := by
  have hl : l.length = n := by rw [hp.length_eq, List.length_range]
  have e : rank r n l[p] = l.countP (fun j => bef r j l[p]) := (hp.countP_eq _).symm
  rw [e]
  have hsplit : l = l.take p ++ l.drop p := (List.take_append_drop p l).symm
  have h1 : (l.take p).countP (fun j => bef r j l[p]) = (l.take p).length := by
    rw [List.countP_eq_length]
    intro x hx
    obtain ⟨j, hj, rfl⟩ := List.mem_iff_getElem.1 hx
    rw [List.length_take] at hj
    rw [List.getElem_take]
    exact List.pairwise_iff_getElem.1 hs j p (by omega) h (by omega)
  have h2 : (l.drop p).countP (fun j => bef r j l[p]) = 0 := by
    rw [List.countP_eq_zero]
    intro x hx
    obtain ⟨j, hj, rfl⟩ := List.mem_iff_getElem.1 hx
    rw [List.length_drop] at hj
    rw [List.getElem_drop]
    rcases Nat.eq_zero_or_pos j with h0 | h0
    · subst h0; simp [bef_irrefl]
    rw [bef_asymm (List.pairwise_iff_getElem.1 hs p (p + j) h (by omega) (by omega))]
    decide
  have h3 : l.countP (fun j => bef r j l[p]) = (l.take p ++ l.drop p).countP (fun j => bef r j l[p]) := by rw [List.take_append_drop]
  rw [h3, List.countP_append, h1, h2, List.length_take]
  omega
end Go.Proofs.Ytefhljhpcpajgaa.Q
set_option linter.unusedVariables false
namespace Go.Proofs.Ytefhljhpcpajgaa.F
open Go.Sort Go.Shelf Go.Lib
open Go.RowKit Go.Proofs.YtefhljhpcpajgaaX Go.Proofs.YtefhljhpcpajgaaW.PrintWords Go.Proofs.YtefhljhpcpajgaaW.PrintLast Go.Proofs.YtefhljhpcpajgaaW.PrintMore
open Go.Proofs.Ytefhljhpcpajgaa.Stable
theorem sym_calls {α : Type} [Inhabited α] (enc : α → Value) (cf : α → α → Int) (g : Nat) (cb : Array Value) (blk off cap : Nat) (d0 : Array α) (w0 : World) (eg : ∀ args w, (callFunc g args).run Try.prog w = .ok (.enter g args) w) (hcmp : CmpLays1 Try.prog g cb enc cf blk off d0.size w0) (R : Row1 enc w0 blk off d0) (hsz : d0.size < 4611686018427387904) :
    ∀ (f a m b : Nat) (d : Array α) (w : World), b - a ≤ f → a < m → m < b → b ≤ d.size → d0.size = d.size → SW enc w0 blk off d w → Calls Try.prog 156 #[.slice (some ⟨blk, off, none⟩) d.size cap, .int .i64 a, .int .i64 m, .int .i64 b, .func (.func g) #[] cb] w fun e w' => e = .returned (.tuple #[]) ∧ SW enc w0 blk off (sym (ltOf cf) f a m b d) w'
  | 0, a, m, b, d, w, h0, h1, h2, _, _, _ => by omega
  | f + 1, a, m, b, d, w, h0, h1, h2, hb, hs, S => by
    by_cases e1 : m - a = 1
    · have := sym_up enc cf g cb blk off cap a m b d0 d w0 w eg hcmp R hs S h1 (by omega) h2 hb (by omega)
      rw [sym, if_pos e1]
      exact this
    by_cases e2 : b - m = 1
    · have := sym_down enc cf g cb blk off cap a m b d0 d w0 w eg hcmp R hs S h1 (by omega) h2 (by omega) hb (by omega)
      rw [sym, if_neg e1, if_pos e2]
      exact this
    have ih := sym_calls enc cf g cb blk off cap d0 w0 eg hcmp R hsz f
    by_cases c : (a + b) / 2 < m
    · exact sym_midA enc cf g cb blk off cap a m b ((a + b) / 2) f d0 d w0 w eg hcmp R hs S (by omega) (by omega) rfl c hb (by omega) (fun a m b d w h1 h2 h0 hb hs S => ih a m b d w h0 h1 h2 hb hs S) h0
    exact sym_midB enc cf g cb blk off cap a m b ((a + b) / 2) f d0 d w0 w eg hcmp R hs S (by omega) (by omega) rfl (by omega) hb (by omega) (fun a m b d w h1 h2 h0 hb hs S => ih a m b d w h0 h1 h2 hb hs S) h0
set_option maxHeartbeats 8000000 in
set_option maxRecDepth 100000 in
theorem sort_stable {α : Type} [Inhabited α] (enc : α → Value) (cf : α → α → Int) (g : Nat) (cb : Array Value) (blk off cap : Nat) (d : Array α) (w0 w : World) (eg : ∀ args w, (callFunc g args).run Try.prog w = .ok (.enter g args) w) (hcmp : CmpLays1 Try.prog g cb enc cf blk off d.size w0) (R : Row1 enc w0 blk off d) (S : SW enc w0 blk off d w) (hsz : d.size < 1152921504606846976) :
    Calls Try.prog 138 #[.slice (some ⟨blk, off, none⟩) d.size cap, .func (.func g) #[] cb] w fun e w' => e = .returned (.tuple #[]) ∧ SW enc w0 blk off (stable (ltOf cf) d.size d) w' := by
  have hC := fun (wr : World) (S : SW enc w0 blk off d wr) => stable_calls enc cf g cb blk off cap d w0 wr eg hcmp R S hsz (fun f a m b dk w h0 h1 h2 hb hs S => sym_calls enc cf g cb blk off cap d w0 eg hcmp R (by omega) f a m b dk w h0 h1 h2 hb hs S)
  have HC := Aside0.mk hC
  have S1 : Aside (SW enc w0 blk off d w) := S
  clear hC hcmp S
  go_enter Try.func138, Try.ntmps138
  go_wp2_with fail
  refine (HC.out _ S1.out).mono ?_
  rintro e w' ⟨rfl, S2⟩
  have S3 : Aside (SW enc w0 blk off (stable (ltOf cf) d.size d) w') := S2
  clear S2
  go_wp2
  go_end0
  exact ⟨rfl, S3.out⟩
def byArr (l : List Int) : Array Nat := stable (ltK (keyOf l)) l.length (Array.range l.length)
def byPins (l : List Int) : List Int := (byArr l).toList.map fun i => ((pinN l.length i : Nat) : Int)
theorem byArr_size (l : List Int) : (byArr l).size = l.length := by unfold byArr stable; rw [mrgs_size, blk_size, Array.size_range]
def upTo (n i : Nat) : List Int := (List.range n).map fun j => if j < i then (j : Int) else 0
theorem upTo_zero (n : Nat) : upTo n 0 = List.replicate n 0 := by
  unfold upTo
  apply List.ext_getElem
  · simp
  intro k h1 h2; simp
theorem upTo_set (n i : Nat) (h : i < n) : (upTo n i).set i (i : Int) = upTo n (i + 1) := by
  unfold upTo
  apply List.ext_getElem
  · simp
  intro k h1 h2
  rw [List.getElem_set]
  simp only [List.getElem_map, List.getElem_range]
  by_cases e : i = k
  · subst e; rw [if_pos rfl, if_pos (by omega)]
  rw [if_neg e]
  by_cases c : k < i
  · rw [if_pos c, if_pos (by omega)]
  rw [if_neg c, if_neg (by omega)]
theorem upTo_len (n i : Nat) : (upTo n i).length = n := by unfold upTo; simp
theorem putRow_pin (l : List Int) (w : World) (g : Nat) (d : Array Nat) : putRow (encP l.length) w g 0 d = putRow (Value.int .i64) w g 0 (d.toList.map fun i => ((pinN l.length i : Nat) : Int)).toArray := by
  have e : putCells (encP l.length) 0 d = putCells (Value.int .i64) 0 (d.toList.map fun i => ((pinN l.length i : Nat) : Int)).toArray := by
    funext cur
    unfold putCells
    congr 1
    funext k x
    have hz : (d.toList.map fun i => ((pinN l.length i : Nat) : Int)).toArray.size = d.size := by simp
    rw [hz]
    by_cases c : 0 ≤ k ∧ k < 0 + d.size
    · rw [if_pos c, if_pos c]
      have h1 : k - 0 < d.size := by omega
      rw [getElem!_pos d (k - 0) h1, getElem!_pos _ (k - 0) (by rw [hz]; exact h1)]
      simp [encP]
    rw [if_neg c, if_neg c]
  unfold putRow
  rw [e]
theorem holds_pin {w : World} {g : Nat} {cur : Array Value} {e : TypeId} (l : List Int) (hb : w.heap[g]? = some (.cells cur e (0, 0))) (ht : cur.toList.take l.length = (upTo l.length l.length).map (Value.int .i64)) : Holds (encP l.length) w g 0 (Array.range l.length) := by
  have h := holds_of_blockI (ss := upTo l.length l.length) hb (by rw [upTo_len]; exact ht)
  intro j hj
  have hj' : j < l.length := by simpa using hj
  have := h j (by simpa [upTo_len] using hj')
  refine ⟨?_, this.2⟩
  rw [this.1, getElem!_pos _ j (by simpa [upTo_len] using hj'), getElem!_pos _ j hj]
  simp [upTo, encP, pin_of hj', hj']
theorem byPins_len (l : List Int) : (byPins l).length = l.length := by
  unfold byPins; rw [List.length_map, Array.length_toList, byArr_size]
open Go.Proofs.Ytefhljhpcpajgaa.Q in
def byList (l : List Int) : List Int := (List.range l.length).map fun p => ((((List.range l.length).find? fun i => rank (fun j => l.getD j 0) l.length i == p).getD 0 : Nat) : Int)
open Go.Proofs.Ytefhljhpcpajgaa.Q in
theorem byPins_is (l : List Int) : byPins l = byList l := by
  have hr0 : (Array.range l.length).toList = List.range l.length := by simp
  have sp := stable_spec (fun x => x) (keyOf l) l.length (Array.range l.length) (by simp) (fun i hi => by rw [getElem!_pos _ i (by simpa using hi)]; simp)
  have hz : (byArr l).size = l.length := byArr_size l
  have hL : ∃ L, L = (byArr l).toList := ⟨_, rfl⟩
  obtain ⟨L, hL⟩ := hL
  have hp : L.Perm (List.range l.length) := by
    have := sp.1.2.2
    rw [show ((Array.range l.length).extract 0 l.length) = Array.range l.length by simp, hr0] at this
    rw [hL]
    refine List.Perm.trans ?_ this
    rw [show (stable (ltK (keyOf l)) l.length (Array.range l.length)).extract 0 l.length = byArr l by
      show (byArr l).extract 0 l.length = byArr l
      rw [← hz]; simp]
  have hll : L.length = l.length := by rw [hL, Array.length_toList, hz]
  have hs : L.Pairwise (fun a b => bef (keyOf l) a b = true) := by
    rw [List.pairwise_iff_getElem]
    intro i j hi hj hij
    have := sp.2 i j (Nat.zero_le _) hij (by omega)
    have e : ∀ q (hq : q < L.length), L[q] = (stable (ltK (keyOf l)) l.length (Array.range l.length))[q]! := fun q hq => by
      subst hL
      rw [getElem!_pos _ q (show q < (byArr l).size by simpa using hq)]
      rw [Array.getElem_toList]
      rfl
    rw [e i hi, e j hj, bef_iff]
    unfold RK at this
    omega
  have hk : ∀ i, rank (keyOf l) l.length i = rank (keyOf l) l.length i := fun _ => rfl
  have hrk : ∀ i, i < l.length → rank (keyOf l) l.length i = rank (fun j => l.getD j 0) l.length i := fun i hi => by
    unfold rank
    refine List.countP_congr fun j hj => ?_
    have hj := List.mem_range.1 hj
    rw [bef_iff, bef_iff]
    unfold keyOf
    rw [pin_of hi, pin_of hj]
  unfold byPins byList
  rw [← hL]
  apply List.ext_getElem
  · simp [hll]
  intro p h1 h2
  have hpl : p < L.length := by simpa using h1
  simp only [List.getElem_map, List.getElem_range]
  have hm : L[p] < l.length := List.mem_range.1 (hp.mem_iff.1 (List.getElem_mem hpl))
  have hrp := rank_sorted hp hs hpl
  rw [pin_of hm]
  rw [hrk _ hm] at hrp
  congr 1
  cases hf : (List.range l.length).find? (fun i => rank (fun j => l.getD j 0) l.length i == p) with
  | none =>
    exact absurd (show (rank (fun j => l.getD j 0) l.length L[p] == p) = true by rw [hrp]; exact beq_self_eq_true p) (List.find?_eq_none.1 hf L[p] (List.mem_range.2 hm))
  | some i =>
    have hi1 := List.find?_some hf
    have hi2 := List.mem_range.1 (List.mem_of_find?_eq_some hf)
    have hi3 : rank (fun j => l.getD j 0) l.length i = p := by simpa using hi1
    exact (rank_inj hi2 hm (hi3.trans hrp.symm)).symm
def byF (a0 : Int) (l1_0_0 : List Int) : Option (List Int) := if a0 = (l1_0_0.length : Int) ∧ 0 < l1_0_0.length ∧ l1_0_0.length < 35184372088832 then some (byList l1_0_0) else none
set_option maxHeartbeats 8000000 in
set_option maxRecDepth 100000 in
theorem by_calls (a0 : Int) (g1_0 : Nat) (A1_0_0 : Option Addr) (c1_0_0 : Nat) (l1_0_0 : List Int) (r : List Int) (w : World) (hk1_0 : w.heap[g1_0]? = some (.cells #[.slice A1_0_0 l1_0_0.length c1_0_0] 22 (0, 0))) (hr1_0_0 : Kd.C (Kd.int .i64) w A1_0_0 l1_0_0.length l1_0_0) (hc1_0_0 : l1_0_0.length ≤ c1_0_0) (h : byF a0 l1_0_0 = some r) :
    Calls Try.prog 108 #[.int .i64 a0, .func (.func 109) #[] #[.pointer (some ⟨g1_0, 0, none⟩)]] w fun e w' => ∃ v0_ : Value, e = .returned (v0_) ∧ Kd.R (Kd.int .i64) 3 w' w.heap.size (fun _ => True) v0_ r ∧ Below w.heap.size w w' := by
  unfold byF at h
  by_cases hg : a0 = (l1_0_0.length : Int) ∧ 0 < l1_0_0.length ∧ l1_0_0.length < 35184372088832
  case neg => rw [if_neg hg] at h; cases h
  rw [if_pos hg] at h
  obtain ⟨rfl, hp, hm⟩ := hg
  have hrr := (Option.some.inj h).symm
  have HRR := Aside0.mk hrr
  obtain ⟨n, hn⟩ : ∃ q, q = l1_0_0.length := ⟨_, rfl⟩
  have hp0 : (0 : Int) ≤ (l1_0_0.length : Int) := by omega
  have hp1 : ((l1_0_0.length : Int)).toNat * 8 ≤ 281474976710656 := by omega
  have HK := Aside0.mk hk1_0
  have HR := Aside0.mk hr1_0_0
  have HP := Aside0.mk hp
  have HM := Aside0.mk hm
  have HB0 := Aside0.mk (Below.refl w.heap.size w)
  obtain ⟨WB, hWB⟩ : ∃ x, x = (w.alloc (.cells #[(.func (.func 109) #[] #[.pointer (some ⟨g1_0, 0, none⟩)] : Value)] 131)) := ⟨_, rfl⟩
  have HX := Aside0.mk hWB
  have HY : Aside0 (WB.cell? ⟨w.heap.size, 0, none⟩ = some (.func (.func 109) #[] #[.pointer (some ⟨g1_0, 0, none⟩)] : Value) ∧ Below w.heap.size w WB ∧ WB.heap.size = w.heap.size + 1) := ⟨by rw [hWB]; exact ⟨by simp, below_alloc (Below.refl _ _) _, by simp⟩⟩
  have HN := Aside0.mk hn
  clear h hrr hk1_0 hr1_0_0 hc1_0_0 hp hm hWB
  rw [← hn]
  rw [← hn] at hp0 hp1
  have HL : Aside0 ((List.replicate ((n : Int)).toNat 0 : List Int) = upTo n 0) := ⟨by rw [upTo_zero, Int.toNat_natCast]⟩
  clear hn
  go_enter Try.func108, Try.ntmps108
  go_wp2_with (first | ((with_reducible refine gate_dst (N := 8) rfl ?_); refine Kd.R_make (Kd.int .i64) (w0 := (w.alloc (.cells #[(.func (.func 109) #[] #[.pointer (some ⟨g1_0, 0, none⟩)] : Value)] 131))) ((w.alloc (.cells #[(.func (.func 109) #[] #[.pointer (some ⟨g1_0, 0, none⟩)] : Value)] 131))).heap.size 3 rfl (N := 8) rfl 22 _ _ rfl (n : Int) rfl rfl Try.underlying22 (.int .i64 0) 8 info3 rfl (by decide) (by omega) 0 (ok := fun _ => True) (okp := fun _ => True) rfl (fun _ hk => hk) trivial hp0 hp1 (Below.refl _ _) (Nat.le_refl _) ?_; intro v102 w4 ho5 hb hg_ hnew_; clear hg_ hnew_; rw [← HX.out] at hb ho5; rw [HL.out] at ho5; have HO := Aside0.mk ho5; have HB := Aside0.mk hb; clear ho5 hb; obtain ⟨Ao6, co6, eo6⟩ := Kd.R_slice HO.out; rw [upTo_len] at eo6; subst eo6))
  go_loopg [11] n (fun g1 v11 w' => ∃ (i : Nat), v11 = .int .i64 i ∧ i ≤ n ∧ n ≤ g1 + i ∧ Aside0 (Kd.R (Kd.int .i64) 3 w' WB.heap.size (fun _ => True) (.slice Ao6 n co6) (upTo n i)) ∧ Aside0 (Below WB.heap.size WB w'))
  case atStart => exact ⟨0, by first | rfl | go_num, by omega, by omega, ⟨by (with_reducible repeat (first | apply Kd.R_alloc | apply Kd.R_drewN | apply Kd.R_drew)); exact HO.out⟩, ⟨qB⟩⟩
  case round =>
    clear HO HB HL hp0 hp1
    obtain ⟨i, rfl, hin, hg1, HO, HB⟩ := hrel
    by_cases hlt : i < n
    · have hltz : decide ((i : Int) < (n : Int)) = true := decide_eq_true (by omega)
      have hwr : IntKind.i64.wrap ((i : Int) + 1) = (i : Int) + 1 := by have := HM.out; have := HN.out; rw [IntKind.wrap_i64]; omega
      have p10 : 0 ≤ (i : Int) := by omega
      have q10 : (i : Int) < ((upTo n i).length : Int) := by rw [upTo_len]; omega
      have HO1 : Kd.R (Kd.int .i64) 3 wr WB.heap.size (fun _ => True) (.slice Ao6 (upTo n i).length co6) (upTo n i) := by rw [upTo_len]; exact HO.out
      obtain ⟨go10, co10, eo10, gb10, gl10, cl10, HG10⟩ := Kd.R_form HO1 (by rw [upTo_len]; omega)
      (first | cases eo10 | (injection eo10 with ea_ en_ ec_; (first | subst ea_ | (injection ea_ with ea_; subst ea_)); subst ec_; clear en_))
      have GB10 := Aside0.mk gb10
      clear gb10 gl10 HG10
      obtain ⟨hx10_0, hf10_0⟩ := Kd.R_celln 0 HO1 (i : Int) p10 q10
      rw [upTo_len] at q10
      replace p10 := eq_true p10
      replace q10 := eq_true q10
      have HP11 := Kd.R_putg HO1 (i : Int) (i : Int)
      have HQ : Aside0 ((upTo n i).set ((i : Int)).toNat (i : Int) = upTo n (i + 1)) := ⟨by rw [Int.toNat_natCast]; exact upTo_set n i hlt⟩
      rw [HQ.out, upTo_len] at HP11
      simp only [Int.toNat_natCast] at HP11 hx10_0 hf10_0
      clear HO1
      go_wp2_with (first | ((with_reducible refine gate_store (t := 3) (p := 17) rfl ?_); refine store_event (t := 3) (p := 17) (v := ?vo_w12) (w1 := (wr.setCell ⟨go10, i, none⟩ (.int .i64 (i : Int)))) ?hg ?ho ?hn ?hr ?_; (case ho => rfl); (case hg => rfl); (case hn => rfl); (case hr => first | (go_simp; done) | (go_simp; rfl)); intro w12 hw; have hg : wr.grownBy w12 (some go10) := (by rw [hw]; exact HP11.2); have hp_ : Kd.R (Kd.int .i64) 3 w12 WB.heap.size (fun _ => True) (.slice (some ⟨go10, 0, none⟩) n co6) (upTo n (i + 1)) := (by rw [hw]; exact HP11.1); clear HP11; have n0_ := Aside0.mk (hp_); have n1_ := Aside0.mk ((by rw [hw]; exact below_set (HB.out) GB10.out : Below WB.heap.size WB w12)); clear HO HB; have HO := n0_; have HB := n1_; clear n0_ n1_ hg hw hp_))
      go_roundg (n - (i + 1))
      case measure => omega
      case rel => exact ⟨i + 1, by first | rfl | (congr 1; omega), by omega, by omega, ⟨by (with_reducible repeat (first | apply Kd.R_alloc | apply Kd.R_drewN | apply Kd.R_drew)); exact HO.out⟩, ⟨qB⟩⟩
    have hltz : decide ((i : Int) < (n : Int)) = false := decide_eq_false (by omega)
    obtain rfl : i = n := by omega
    have hN := HN.out
    have hl0 := HP.out
    have hlm := HM.out
    have ho := Kd.own_of_R HO.out
    obtain ⟨gb, cap, cur, hv, hbase, hheap, h1, h2, h3, h4⟩ : ∃ gb cap cur, Value.slice Ao6 i co6 = .slice (some ⟨gb, 0, none⟩) (upTo i i).length cap ∧ WB.heap.size ≤ gb ∧ wr.heap[gb]? = some (.cells cur 3 (0, 0)) ∧ (upTo i i).length ≤ cap ∧ cap ≤ maxLen ∧ cur.size = cap * 1 ∧ cur.toList.take ((upTo i i).length * 1) = encs (Value.int .i64) (upTo i i) := by
      rcases ho.2 with ⟨_, hz⟩ | h
      · rw [upTo_len] at hz; omega
      exact h
    rw [upTo_len] at hv h1 h4
    injection hv with ea_ en_ ec_
    subst ea_ ec_
    have eN : i = l1_0_0.length := hN
    have hh := holds_pin l1_0_0 hheap (by rw [← eN]; rw [Nat.mul_one] at h4; exact h4)
    rw [← eN] at hh
    have hy := HY.out
    have hbw : Below w.heap.size w wr := hy.2.1.trans ⟨HB.out.os, HB.out.tape, HB.out.output, HB.out.size, fun k hk => HB.out.block k (by omega)⟩
    have hgs : gb < wr.heap.size := (Array.getElem?_eq_some_iff.1 hheap).1
    have hcm := share_cmp.lays w.heap.size g1_0 A1_0_0 c1_0_0 l1_0_0 hl0 gb 0 (Array.range i).size w wr (by rw [blk_cell HK.out 0]; rfl) HR.out hbw (by omega) (by omega) (by omega) ((HB.out.cell (p := ⟨w.heap.size, 0, none⟩) (by show w.heap.size < _; omega)).trans hy.1)
    rw [← eN] at hcm
    have hst := sort_stable (encP i) (cfP l1_0_0) 139 #[.pointer (some ⟨w.heap.size, 0, none⟩)] gb 0 co6 (Array.range i) wr wr (enters_of Try.func139 (by kernel_rfl) rfl) hcm ⟨fun _ => rfl, hh, hgs⟩ (SW.start hh) (by rw [Array.size_range]; omega)
    rw [cfP_lt] at hst
    simp only [Array.size_range] at hst
    have HS := Aside0.mk hst
    have hmf : ∀ (fn : Fn) (first cap : Array Value) (w : World), (Instr.makeFunc fn first cap).run Try.prog w = .ok (.func fn first cap) w := fun _ _ _ _ => rfl
    have HF := Aside0.mk (And.intro hbw (And.intro hbase (And.intro hheap (And.intro h1 (And.intro h2 (And.intro h3 (And.intro hgs eN)))))))
    clear hst hcm hh hbw hgs hbase hheap h1 h2 h3 h4 ho hy hN hl0 hlm eN HO HB
    go_wp2_with fail
    refine HS.out.mono ?_
    rintro e1 w1 ⟨rfl, hsw⟩
    have HW : Aside (SW (encP i) wr gb 0 (stable (ltK (keyOf l1_0_0)) i (Array.range i)) w1) := hsw
    clear hsw HS
    go_wp2
    go_ret
    obtain ⟨hbw, hbase, hheap, h1, h2, h3, hgs, eN⟩ := HF.out
    have hy := HY.out.2.2
    obtain ⟨m, os, hw1⟩ := HW.out
    have eA : stable (ltK (keyOf l1_0_0)) i (Array.range i) = byArr l1_0_0 := by unfold byArr; rw [← eN]
    rw [eA] at hw1
    have eP : w1 = grow (putRow (Value.int .i64) (Sort.ahead wr m) gb 0 (byPins l1_0_0).toArray) os := by
      rw [hw1]
      unfold sortWorld
      rw [eN, putRow_pin]
      rfl
    refine ⟨_, rfl, ?_, ?_⟩
    · rw [HRR.out, ← byPins_is, eP]
      have := ownsRow_sortedI (w := wr) (base := w.heap.size) (n := m) (os := os) (ss := upTo i i) (ts := byPins l1_0_0) (by rw [byPins_len, upTo_len, eN]) (by omega) hheap (by rw [upTo_len]; exact h1) h2 h3
      rw [upTo_len] at this
      refine Kd.R_of_own ?_ (fun _ _ => trivial)
      rw [byPins_len, ← eN]
      exact this
    rw [hw1]
    exact sorted_below (encP i) hbw (by omega) hbw.size
def share_by_share_Out_1_v22.f (a0 : Int) (l1_0_0 : List Int) : Option (List Int) := if a0 = (l1_0_0.length : Int) ∧ 0 < l1_0_0.length ∧ l1_0_0.length < 35184372088832 then some (byList l1_0_0) else none
theorem share_by_share_Out_1_v22.calls (a0 : Int) (g1_0 : Nat) (A1_0_0 : Option Addr) (c1_0_0 : Nat) (l1_0_0 : List Int) (r : List Int) (w : World) (hk1_0 : w.heap[g1_0]? = some (.cells #[.slice A1_0_0 l1_0_0.length c1_0_0] 22 (0, 0))) (hr1_0_0 : Kd.C (Kd.int .i64) w A1_0_0 l1_0_0.length l1_0_0) (hc1_0_0 : l1_0_0.length ≤ c1_0_0) (h : share_by_share_Out_1_v22.f a0 l1_0_0 = some r) :
    Calls Try.prog 108 #[.int .i64 a0, .func (.func 109) #[] #[.pointer (some ⟨g1_0, 0, none⟩)]] w fun e w' => ∃ v0_ : Value, e = .returned (v0_) ∧ Kd.R (Kd.int .i64) 3 w' w.heap.size (fun _ => True) v0_ r ∧ Below w.heap.size w w' :=
  by_calls a0 g1_0 A1_0_0 c1_0_0 l1_0_0 r w hk1_0 hr1_0_0 hc1_0_0 h
end Go.Proofs.Ytefhljhpcpajgaa.F
