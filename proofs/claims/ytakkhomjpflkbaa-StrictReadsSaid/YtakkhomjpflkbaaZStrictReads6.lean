-- merged and pruned by prune.py (the session's own program); its words go back to the kit's print
import Derived.Test.YtakkhomjpflkbaaProg
import Derived.Below
import Derived.Deep.Draws
import Derived.Deep.AppendLies
import Derived.Maps.AppendAt
import Derived.OwnWalk
import Derived.Laws.BytesArg
import Derived.Laws.MakeOwn
import Derived.Laws.OwnMore
import Derived.Deep.OwnRows
import Derived.Tactics
import Derived.Lib.ConvBytes
import Derived.Laws.Slices
import Derived.WalkKit
import Derived.KernelRfl
import Derived.RowKit3
import Derived.Deep.LoopGhost
import Derived.Deep.QuietTactic
import Derived.BigQuiet
import Derived.WideLaws
import Derived.Deep.DeepCutAuto
import Derived.Deep.CutBlock
import Derived.Deep.RegionHeld3
import Derived.Laws.Rows
import Derived.Lib.AppendStr
import Derived.ArgAppend
import Derived.Laws.IdiomCopy
import Derived.OrdersHeld
import Derived.Laws.BitsLemmas
import Derived.RowKit
import Derived.Laws.StructEq
import Derived.Deep.RegionLawGrows
import Derived.Lib.SliceRun
import Derived.Lib.OthersKept
import Derived.Lib.RuneCount
import Derived.Laws.Cover4
import Derived.Outline
import Derived.Shelf.Strings.Builder1
import Derived.Shelf.Strings.BuilderF
import Derived.Shelf.Strings.BuilderK
import Derived.Shelf.Utf8.RuneCount
import Derived.Shelf.Strings.Prefix
import Derived.Test.YtakkhomjpflkbaaZStrictReads5
namespace Go.Proofs.Ytakkhomjpflkbaa.F
open Go.RowKit Go.Proofs.YtakkhomjpflkbaaX Go.Proofs.YtakkhomjpflkbaaW.PrintWords Go.Proofs.YtakkhomjpflkbaaW.PrintLast Go.Proofs.YtakkhomjpflkbaaW.PrintMore
attribute [local go_sem] max2_int min2_int max_two min_two max_three min_three max_four min_four   
attribute [local go_sem high] str_geq str_leq str_gtr
set_option linter.unusedVariables false
set_option linter.unusedSimpArgs false
set_option maxHeartbeats 8000000 in
set_option maxRecDepth 100000 in
theorem backhaullaw06_read.calls_b (k : Nat) (g : Nat) (s0_0 : ByteArray) (s0_1 : Int) (s0_2 : Option (Int × Int)) (s0_3 : Bool) (a1_0 : ByteArray) (a1_1 : Int) (a1_2 : Int) (a2_0 : Int) (a2_1 : Int) (a2_2 : Int) (r1 : ByteArray) (r2 : Int) (r3 : Int) (r4 : Bool) (r5 : ByteArray) (r6 : Int) (r7 : Option (Int × Int)) (r8 : Bool) (w0 w : World) (hI : IsS56 w0 w g s0_0 s0_1 s0_2 s0_3) (hB : Below w0.heap.size w0 w) (h : backhaullaw06_read.f k s0_0 s0_1 s0_2 s0_3 a1_0 a1_1 a1_2 a2_0 a2_1 a2_2 = some (r1, r2, r3, r4, r5, r6, r7, r8)) (hz : ¬ (a2_0 = 0 ∨ a2_0 = 1 ∨ a2_0 = 2)) :
    Calls Try.prog 37 #[.pointer (some ⟨g, 0, none⟩), .agg #[.string a1_0, .int .i64 a1_1, .int .i64 a1_2], .agg #[.int .i64 a2_0, .int .i64 a2_1, .int .i64 a2_2]] w fun e w' => e = .returned (.tuple #[.agg #[.string r1, .int .i64 r2, .int .i64 r3], .bool r4]) ∧ IsS56 w0 w' g r5 r6 r7 r8 ∧ Below w0.heap.size w0 w' ∧ KeepBut w w' g none := by
  have HZ := zA hz
  clear hz
  have hu47 := Try.underlying47
  have hu51 := Try.underlying51
  have HI0 := zA hI
  have HK := zA (KeepBut.refl w g none)
  have HL := zA hB.size
  clear hI
  have HW0 := zA hB.size
  have HB := zA hB
  clear hB
  have H : (if a2_0 = 0 then ((backhaulref06_Num.f k a1_0 a1_1 a1_2 a2_1 a2_2).bind fun bt104 => ((strict_Reader_Num.f k s0_0 s0_1 s0_2 s0_3 a2_1 a2_2).bind fun bt109 => (backhaullaw06_read.j0 k (bt109.1 == bt104.2.2.2) bt109.2.1 bt109.2.2.1 bt109.2.2.2.1 bt109.2.2.2.2 bt104.1 bt104.2.1 bt104.2.2.1))) else (if a2_0 = 1 then ((backhaulref06_Text.f k a1_0 a1_1 a1_2 a2_2).bind fun bt114 => ((strict_Reader_Text.f k s0_0 s0_1 s0_2 s0_3 a2_2).bind fun bt119 => (backhaullaw06_read.j0 k (bt119.1.toList == bt114.2.2.2.toList) bt119.2.1 bt119.2.2.1 bt119.2.2.2.1 bt119.2.2.2.2 bt114.1 bt114.2.1 bt114.2.2.1))) else (if a2_0 = 2 then ((backhaulref06_Serial.f k a1_0 a1_1 a1_2).bind fun bt124 => ((strict_Reader_Serial.f k s0_0 s0_1 s0_2 s0_3).bind fun bt129 => (backhaullaw06_read.j0 k (bt129.1.toList == bt124.2.2.2.toList) bt129.2.1 bt129.2.2.1 bt129.2.2.2.1 bt129.2.2.2.2 bt124.1 bt124.2.1 bt124.2.2.1))) else (if a2_0 = 3 then ((backhaulref06_Row.f k a1_0 a1_1 a1_2 a2_1 a2_2).bind fun bt134 => ((strict_Reader_Row.f k s0_0 s0_1 s0_2 s0_3 a2_1 a2_2).bind fun bt141 => ((backhaulref02_SameInts.f k bt141.1 bt134.2.2.2).bind fun t148 => (backhaullaw06_read.j0 k t148 bt141.2.1 bt141.2.2.1 bt141.2.2.2.1 bt141.2.2.2.2 bt134.1 bt134.2.1 bt134.2.2.1)))) else (if a2_0 = 4 then ((backhaulref06_Serials.f k a1_0 a1_1 a1_2 a2_2).bind fun bt149 => ((strict_Reader_Serials.f k s0_0 s0_1 s0_2 s0_3 a2_2).bind fun bt156 => ((backhaulref01_SameTexts.f k bt156.1 bt149.2.2.2).bind fun t163 => (backhaullaw06_read.j0 k t163 bt156.2.1 bt156.2.2.1 bt156.2.2.2.1 bt156.2.2.2.2 bt149.1 bt149.2.1 bt149.2.2.1)))) else (if a2_0 = 5 then ((backhaulref06_Flag.f k a1_0 a1_1 a1_2).bind fun bt164 => ((strict_Reader_Flag.f k s0_0 s0_1 s0_2 s0_3).bind fun bt169 => (backhaullaw06_read.j0 k (bt169.1 == bt164.2.2.2) bt169.2.1 bt169.2.2.1 bt169.2.2.2.1 bt169.2.2.2.2 bt164.1 bt164.2.1 bt164.2.2.1))) else (if a2_0 = 6 then ((backhaulref06_End.f a1_0 a1_1 a1_2).bind fun bt174 => ((strict_Reader_End.f s0_0 s0_1 s0_2 s0_3).bind fun bt177 => (backhaullaw06_read.j0 k true bt177.1 bt177.2.1 bt177.2.2.1 bt177.2.2.2 bt174.1 bt174.2.1 bt174.2.2))) else (backhaullaw06_read.j0 k true s0_0 s0_1 s0_2 s0_3 a1_0 a1_1 a1_2)))))))) = some (r1, r2, r3, r4, r5, r6, r7, r8) := h
  clear h
  have HC4 := zA H
  clear H
  go_enter Try.func37, Try.ntmps37
  go_upto_block 0 with (first | ((with_reducible refine gate_dst (N := 4) rfl ?_); refine box_event qr (N := 4) qr (cs := #[.string a1_0, .int .i64 a1_1, .int .i64 a1_2]) (t := 47) qg ?_; intro gb101 hg w5 hbox hb; have n0_ := zA (IsS56.below (by repeat (first | (with_reducible first | exact HI0.out | apply IsS56.alloc | apply IsS56.drewN | apply IsS56.drew) | exact HI0.out)) hb); have n1_ := zA (zBq (qJ HK.out) (KeepBut.of_below hb g none) (.inl rfl)); have n2_ := zA (zV (qH HI0.out HB.out) hb); have n3_ := zA (hbox); have n4_ := zA ((by rw [hg]; exact (keep_size (w := w) (g := g) (row := none) (qJ HK.out)) : w.heap.size ≤ gb101)); have n5_ := zA ((Nat.le_trans HW0.out (by rw [hg]; exact (keep_size (w := w) (g := g) (row := none) (qJ HK.out)) : w.heap.size ≤ gb101) : w0.heap.size ≤ gb101)); have n6_ := zA ((by rw [hg]; exact zLq (IsS56.lt (show IsS56 w0 _ g s0_0 s0_1 s0_2 s0_3 from by repeat (first | (with_reducible first | exact HI0.out | apply IsS56.alloc | apply IsS56.drewN | apply IsS56.drew) | exact HI0.out))) : g ≠ gb101)); have n7_ := zA ((by rw [hg]; exact zMq (IsS56.lt (show IsS56 w0 _ g s0_0 s0_1 s0_2 s0_3 from by repeat (first | (with_reducible first | exact HI0.out | apply IsS56.alloc | apply IsS56.drewN | apply IsS56.drew) | exact HI0.out))) : gb101 ≠ g)); clear HI0 HK HB; have HI0 := n0_; have HK := n1_; have HB := n2_; have BK101 := n3_; have GW101 := n4_; have GE101 := n5_; have NB0_101 := n6_; have NB101_0 := n7_; clear n0_ n1_ n2_ n3_ n4_ n5_ n6_ n7_ hb hbox hg) | ((with_reducible refine gate_dst (N := 5) rfl ?_); refine box_event qr (N := 5) qr (cs := #[.int .i64 a2_0, .int .i64 a2_1, .int .i64 a2_2]) (t := 51) qg ?_; intro gb102 hg w6 hbox hb; have n0_ := zA (IsS56.below (by repeat (first | (with_reducible first | exact HI0.out | apply IsS56.alloc | apply IsS56.drewN | apply IsS56.drew | refine IsS56.far ?_ NB0_101.out _) | exact HI0.out)) hb); have n1_ := zA (qX BK101.out hb); have n2_ := zA (zBq (qJ HK.out) (KeepBut.of_below hb g none) (.inl rfl)); have n3_ := zA (zV (qH HI0.out HB.out) hb); have n4_ := zA (hbox); have n5_ := zA ((by rw [hg]; exact (keep_size (w := w) (g := g) (row := none) (qJ HK.out)) : w.heap.size ≤ gb102)); have n6_ := zA ((Nat.le_trans HW0.out (by rw [hg]; exact (keep_size (w := w) (g := g) (row := none) (qJ HK.out)) : w.heap.size ≤ gb102) : w0.heap.size ≤ gb102)); have n7_ := zA ((by rw [hg]; exact zLq (qL BK101.out) : gb101 ≠ gb102)); have n8_ := zA ((by rw [hg]; exact zMq (qL BK101.out) : gb102 ≠ gb101)); have n9_ := zA ((by rw [hg]; exact zLq (IsS56.lt (show IsS56 w0 _ g s0_0 s0_1 s0_2 s0_3 from by repeat (first | (with_reducible first | exact HI0.out | apply IsS56.alloc | apply IsS56.drewN | apply IsS56.drew | refine IsS56.far ?_ NB0_101.out _) | exact HI0.out))) : g ≠ gb102)); have n10_ := zA ((by rw [hg]; exact zMq (IsS56.lt (show IsS56 w0 _ g s0_0 s0_1 s0_2 s0_3 from by repeat (first | (with_reducible first | exact HI0.out | apply IsS56.alloc | apply IsS56.drewN | apply IsS56.drew | refine IsS56.far ?_ NB0_101.out _) | exact HI0.out))) : gb102 ≠ g)); clear HI0 BK101 HK HB; have HI0 := n0_; have BK101 := n1_; have HK := n2_; have HB := n3_; have BK102 := n4_; have GW102 := n5_; have GE102 := n6_; have NB101_102 := n7_; have NB102_101 := n8_; have NB0_102 := n9_; have NB102_0 := n10_; clear n0_ n1_ n2_ n3_ n4_ n5_ n6_ n7_ n8_ n9_ n10_ hb hbox hg) | ((with_reducible refine gate_dst (N := 6) rfl ?_); refine box_event qr (N := 6) qr (cs := #[.string (⟨#[]⟩ : ByteArray), .int .i64 0, .int .i64 0]) (t := 47) qg ?_; intro gb103 hg w7 hbox hb; have n0_ := zA (IsS56.below (by repeat (first | (with_reducible first | exact HI0.out | apply IsS56.alloc | apply IsS56.drewN | apply IsS56.drew | refine IsS56.far ?_ NB0_101.out _ | refine IsS56.far ?_ NB0_102.out _) | exact HI0.out)) hb); have n1_ := zA (qX BK101.out hb); have n2_ := zA (qX BK102.out hb); have n3_ := zA (zBq (qJ HK.out) (KeepBut.of_below hb g none) (.inl rfl)); have n4_ := zA (zV (qH HI0.out HB.out) hb); have n5_ := zA (hbox); have n6_ := zA ((by rw [hg]; exact (keep_size (w := w) (g := g) (row := none) (qJ HK.out)) : w.heap.size ≤ gb103)); have n7_ := zA ((Nat.le_trans HW0.out (by rw [hg]; exact (keep_size (w := w) (g := g) (row := none) (qJ HK.out)) : w.heap.size ≤ gb103) : w0.heap.size ≤ gb103)); have n8_ := zA ((by rw [hg]; exact zLq (qL BK101.out) : gb101 ≠ gb103)); have n9_ := zA ((by rw [hg]; exact zMq (qL BK101.out) : gb103 ≠ gb101)); have n10_ := zA ((by rw [hg]; exact zLq (qL BK102.out) : gb102 ≠ gb103)); have n11_ := zA ((by rw [hg]; exact zMq (qL BK102.out) : gb103 ≠ gb102)); have n12_ := zA ((by rw [hg]; exact zLq (IsS56.lt (show IsS56 w0 _ g s0_0 s0_1 s0_2 s0_3 from by repeat (first | (with_reducible first | exact HI0.out | apply IsS56.alloc | apply IsS56.drewN | apply IsS56.drew | refine IsS56.far ?_ NB0_101.out _ | refine IsS56.far ?_ NB0_102.out _) | exact HI0.out))) : g ≠ gb103)); have n13_ := zA ((by rw [hg]; exact zMq (IsS56.lt (show IsS56 w0 _ g s0_0 s0_1 s0_2 s0_3 from by repeat (first | (with_reducible first | exact HI0.out | apply IsS56.alloc | apply IsS56.drewN | apply IsS56.drew | refine IsS56.far ?_ NB0_101.out _ | refine IsS56.far ?_ NB0_102.out _) | exact HI0.out))) : gb103 ≠ g)); clear HI0 BK101 BK102 HK HB; have HI0 := n0_; have BK101 := n1_; have BK102 := n2_; have HK := n3_; have HB := n4_; have BK103 := n5_; have GW103 := n6_; have GE103 := n7_; have NB101_103 := n8_; have NB103_101 := n9_; have NB102_103 := n10_; have NB103_102 := n11_; have NB0_103 := n12_; have NB103_0 := n13_; clear n0_ n1_ n2_ n3_ n4_ n5_ n6_ n7_ n8_ n9_ n10_ n11_ n12_ n13_ hb hbox hg; have hnb8 := NB102_101.out; have hnc8 := NB101_102.out; have hnb9 := NB102_103.out; have hnc9 := NB103_102.out; have hnb10 := NB102_0.out; have hnc10 := NB0_102.out; obtain ⟨_, _, _, _, _, _⟩ := qc3f BK102.out))
  (try simp only [Act.put, zH, zI, zJ])
  go_cut [8] (fun v8 wc => ∃ (kq : Nat) (x8_3 : Bool) (x1000_3 : ByteArray) (x1001_3 : Int) (x1002_3 : Option (Int × Int)) (x1003_3 : Bool) (x102000_3 : ByteArray) (x102001_3 : Int) (x102002_3 : Int), v8 = .bool x8_3 ∧ Aside0 (backhaullaw06_read.j0 kq x8_3 x1000_3 x1001_3 x1002_3 x1003_3 x102000_3 x102001_3 x102002_3 = some (r1, r2, r3, r4, r5, r6, r7, r8)) ∧ Aside0 (kq ≤ k) ∧ Aside0 (wc.heap[gb101]? = some (.cells #[.string x102000_3, .int .i64 x102001_3, .int .i64 x102002_3] 47 (0, 0))) ∧ Aside0 (wc.heap[gb102]? = some (.cells #[.int .i64 a2_0, .int .i64 a2_1, .int .i64 a2_2] 51 (0, 0))) ∧ Aside0 (wc.heap[gb103]? = some (.cells #[.string (⟨#[]⟩ : ByteArray), .int .i64 0, .int .i64 0] 47 (0, 0))) ∧ Aside0 (IsS56 w0 wc g x1000_3 x1001_3 x1002_3 x1003_3) ∧ Aside0 (KeepBut w wc g none) ∧ Aside0 (Below w0.heap.size w0 wc))
  case first =>
    have H := HC4.out
    clear HC4
    by_cases c12 : a2_0 = 0
    · exact absurd (by omega) HZ.out
    rw [if_neg c12] at H
    have c12b0 : (a2_0 == 0) = false := beq_eq_false_iff_ne.mpr c12
    have c12b1 : (a2_0 != 0) = true := bne_iff_ne.mpr c12
    (first | rw [c12b0] | (simp only [i64_w, i32_w]; rw [c12b0]) | skip)
    by_cases c35 : a2_0 = 1
    · exact absurd (by omega) HZ.out
    rw [if_neg c35] at H
    have c35b0 : (a2_0 == 1) = false := beq_eq_false_iff_ne.mpr c35
    have c35b1 : (a2_0 != 1) = true := bne_iff_ne.mpr c35
    by_cases c58 : a2_0 = 2
    · exact absurd (by omega) HZ.out
    rw [if_neg c58] at H
    have c58b0 : (a2_0 == 2) = false := beq_eq_false_iff_ne.mpr c58
    have c58b1 : (a2_0 != 2) = true := bne_iff_ne.mpr c58
    by_cases c78 : a2_0 = 3
    · rw [if_pos c78] at H
      have c78b0 : (a2_0 == 3) = true := beq_iff_eq.mpr c78
      have c78b1 : (a2_0 != 3) = false := bne_eq_false_iff_eq.mpr c78
      clear c78
      replace H := Option.bind_eq_some_iff.mp H
      obtain ⟨⟨t134, t135, t136, t137⟩, A790, H⟩ := H
      replace H : ((strict_Reader_Row.f k s0_0 s0_1 s0_2 s0_3 a2_1 a2_2).bind fun bt141 => ((backhaulref02_SameInts.f k bt141.1 t137).bind fun t148 => (backhaullaw06_read.j0 k t148 bt141.2.1 bt141.2.2.1 bt141.2.2.2.1 bt141.2.2.2.2 t134 t135 t136))) = some (r1, r2, r3, r4, r5, r6, r7, r8) := H
      have A79 := zA A790
      clear A790
      replace H := Option.bind_eq_some_iff.mp H
      obtain ⟨⟨t141, t144, t145, t146, t147⟩, A800, H⟩ := H
      replace H : ((backhaulref02_SameInts.f k t141 t137).bind fun t148 => (backhaullaw06_read.j0 k t148 t144 t145 t146 t147 t134 t135 t136)) = some (r1, r2, r3, r4, r5, r6, r7, r8) := H
      have A80 := zA A800
      clear A800
      replace H := Option.bind_eq_some_iff.mp H
      obtain ⟨t148, A810, H⟩ := H
      replace H : (backhaullaw06_read.j0 k t148 t144 t145 t146 t147 t134 t135 t136) = some (r1, r2, r3, r4, r5, r6, r7, r8) := H
      have A81 := zA A810
      clear A810
      have H' := zA H
      clear H; have hnb82 := NB101_102.out; have hnc82 := NB102_101.out; have hnb83 := NB101_103.out; have hnc83 := NB103_101.out; have hnb84 := NB101_0.out; have hnc84 := NB0_101.out
      obtain ⟨_, _, _, _, _, _⟩ := qc3f BK101.out
      have hnb86 := NB102_103.out; have hnc86 := NB103_102.out; have hnb87 := NB102_0.out; have hnc87 := NB0_102.out
      obtain ⟨_, _, _, _, _, _⟩ := qc3f BK102.out
      try go_wp2_with (first | ((with_reducible refine zJq (f := 121) rfl ?_); refine goesL_ (some 81) rfl rfl Try.func121 (by kernel_rfl) rfl #[.agg #[.string a1_0, .int .i64 a1_1, .int .i64 a1_2], .int .i64 a2_1, .int .i64 a2_2] rfl (by (try simp only [zR, zS, zT]); first | done | rfl | (simp only [zP, zQ]; rfl)) ?_; (with_reducible refine (backhaulref06_Row.calls k a1_0 a1_1 a1_2 a2_1 a2_2 t134 t135 t136 t137 _ A79.out).mono ?_); rintro e w89 ⟨v138, rfl, ho0, hb⟩; refine ⟨_, rfl, ?_⟩; have n0_ := zA (Kd.R_lower ho0 (keep_size (w := w) (g := g) (row := none) (qJ HK.out))); have n1_ := zA (IsS56.below (by repeat (first | (with_reducible first | exact HI0.out | apply IsS56.alloc | apply IsS56.drewN | apply IsS56.drew | refine IsS56.far ?_ NB0_101.out _ | refine IsS56.far ?_ NB0_102.out _ | refine IsS56.far ?_ NB0_103.out _) | exact HI0.out)) hb); have n2_ := zA (qX BK101.out hb); have n3_ := zA (qX BK102.out hb); have n4_ := zA (qX BK103.out hb); have n5_ := zA (zBq (qJ HK.out) (KeepBut.of_below hb g none) (.inl rfl)); have n6_ := zA (zV (qH HI0.out HB.out) hb); clear HI0 BK101 BK102 BK103 HK HB; have HO139 := n0_; have HI0 := n1_; have BK101 := n2_; have BK102 := n3_; have BK103 := n4_; have HK := n5_; have HB := n6_; clear n0_ n1_ n2_ n3_ n4_ n5_ n6_; (try clear hb); (try clear hb2); (try clear hk); (try clear hi); (try clear ho0)) | ((with_reducible refine gate_dst (N := 15) rfl ?_); refine box_event qr (N := 15) qr (cs := #[.string (⟨#[]⟩ : ByteArray), .int .i64 0, .int .i64 0]) (t := 47) qg ?_; intro gb140 hg w90 hbox hb; have n0_ := zA (Kd.R_below (by (with_reducible repeat (first | apply Kd.R_alloc | apply Kd.R_drewN | apply Kd.R_drew)); exact HO139.out) hb); have n1_ := zA (IsS56.below (by repeat (first | (with_reducible first | exact HI0.out | apply IsS56.alloc | apply IsS56.drewN | apply IsS56.drew | refine IsS56.far ?_ NB0_101.out _ | refine IsS56.far ?_ NB0_102.out _ | refine IsS56.far ?_ NB0_103.out _) | exact HI0.out)) hb); have n2_ := zA (qX BK101.out hb); have n3_ := zA (qX BK102.out hb); have n4_ := zA (qX BK103.out hb); have n5_ := zA (zBq (qJ HK.out) (KeepBut.of_below hb g none) (.inl rfl)); have n6_ := zA (zV (qH HI0.out HB.out) hb); have n7_ := zA (hbox); have n8_ := zA ((by rw [hg]; exact (keep_size (w := w) (g := g) (row := none) (qJ HK.out)) : w.heap.size ≤ gb140)); have n9_ := zA ((Nat.le_trans HW0.out (by rw [hg]; exact (keep_size (w := w) (g := g) (row := none) (qJ HK.out)) : w.heap.size ≤ gb140) : w0.heap.size ≤ gb140)); have n10_ := zA ((by rw [hg]; exact zLq (qL BK101.out) : gb101 ≠ gb140)); have n11_ := zA ((by rw [hg]; exact zMq (qL BK101.out) : gb140 ≠ gb101)); have n12_ := zA ((by rw [hg]; exact zLq (qL BK102.out) : gb102 ≠ gb140)); have n13_ := zA ((by rw [hg]; exact zMq (qL BK102.out) : gb140 ≠ gb102)); have n14_ := zA ((by rw [hg]; exact zLq (qL BK103.out) : gb103 ≠ gb140)); have n15_ := zA ((by rw [hg]; exact zMq (qL BK103.out) : gb140 ≠ gb103)); have n16_ := zA ((by rw [hg]; exact zLq (IsS56.lt (show IsS56 w0 _ g s0_0 s0_1 s0_2 s0_3 from by repeat (first | (with_reducible first | exact HI0.out | apply IsS56.alloc | apply IsS56.drewN | apply IsS56.drew | refine IsS56.far ?_ NB0_101.out _ | refine IsS56.far ?_ NB0_102.out _ | refine IsS56.far ?_ NB0_103.out _) | exact HI0.out))) : g ≠ gb140)); have n17_ := zA ((by rw [hg]; exact zMq (IsS56.lt (show IsS56 w0 _ g s0_0 s0_1 s0_2 s0_3 from by repeat (first | (with_reducible first | exact HI0.out | apply IsS56.alloc | apply IsS56.drewN | apply IsS56.drew | refine IsS56.far ?_ NB0_101.out _ | refine IsS56.far ?_ NB0_102.out _ | refine IsS56.far ?_ NB0_103.out _) | exact HI0.out))) : gb140 ≠ g)); clear HO139 HI0 BK101 BK102 BK103 HK HB; have HO139 := n0_; have HI0 := n1_; have BK101 := n2_; have BK102 := n3_; have BK103 := n4_; have HK := n5_; have HB := n6_; have BK140 := n7_; have GW140 := n8_; have GE140 := n9_; have NB101_140 := n10_; have NB140_101 := n11_; have NB102_140 := n12_; have NB140_102 := n13_; have NB103_140 := n14_; have NB140_103 := n15_; have NB0_140 := n16_; have NB140_0 := n17_; clear n0_ n1_ n2_ n3_ n4_ n5_ n6_ n7_ n8_ n9_ n10_ n11_ n12_ n13_ n14_ n15_ n16_ n17_ hb hbox hg; have hnb91 := NB140_101.out; have hnc91 := NB101_140.out; have hnb92 := NB140_102.out; have hnc92 := NB102_140.out; have hnb93 := NB140_103.out; have hnc93 := NB103_140.out; have hnb94 := NB140_0.out; have hnc94 := NB0_140.out; obtain ⟨_, _, _, _, _, _⟩ := qc3f BK140.out))
      have n0_ : Aside0 (Kd.R (Kd.int .i64) 3 (((w90.setCell ⟨gb140, 0, none⟩ (.string t134)).setCell ⟨gb140, 1, none⟩ (.int .i64 t135)).setCell ⟨gb140, 2, none⟩ (.int .i64 t136)) w.heap.size (fun _ => True) v138 t137) := ⟨by (with_reducible repeat (first | apply Kd.R_alloc | apply Kd.R_drewN | apply Kd.R_drew)); exact Kd.R_mono (Kd.R_far (p := ⟨gb140, 2, none⟩) (Kd.R_far (p := ⟨gb140, 1, none⟩) (Kd.R_far (p := ⟨gb140, 0, none⟩) (Kd.R_types HO139.out BK140.out (by decide)) (fun _ hk => hk.2) (.string t134)) (fun _ hk => hk.2) (.int .i64 t135)) (fun _ hk => hk.2) (.int .i64 t136)) (fun _ hk => trivial)⟩
      have n1_ : Aside0 ((((w90.setCell ⟨gb140, 0, none⟩ (.string t134)).setCell ⟨gb140, 1, none⟩ (.int .i64 t135)).setCell ⟨gb140, 2, none⟩ (.int .i64 t136)).heap[gb101]? = some (.cells #[.string a1_0, .int .i64 a1_1, .int .i64 a1_2] 47 (0, 0))) := ⟨by (with_reducible repeat (first | refine zY ?_ _ | refine zAq ?_ | refine zZ ?_ _)); refine blk_far ?_ NB101_140.out _; (with_reducible repeat (first | refine zY ?_ _ | refine zAq ?_ | refine zZ ?_ _)); refine blk_far ?_ NB101_140.out _; (with_reducible repeat (first | refine zY ?_ _ | refine zAq ?_ | refine zZ ?_ _)); refine blk_far ?_ NB101_140.out _; exact BK101.out⟩
      have n2_ : Aside0 ((((w90.setCell ⟨gb140, 0, none⟩ (.string t134)).setCell ⟨gb140, 1, none⟩ (.int .i64 t135)).setCell ⟨gb140, 2, none⟩ (.int .i64 t136)).heap[gb102]? = some (.cells #[.int .i64 a2_0, .int .i64 a2_1, .int .i64 a2_2] 51 (0, 0))) := ⟨by (with_reducible repeat (first | refine zY ?_ _ | refine zAq ?_ | refine zZ ?_ _)); refine blk_far ?_ NB102_140.out _; (with_reducible repeat (first | refine zY ?_ _ | refine zAq ?_ | refine zZ ?_ _)); refine blk_far ?_ NB102_140.out _; (with_reducible repeat (first | refine zY ?_ _ | refine zAq ?_ | refine zZ ?_ _)); refine blk_far ?_ NB102_140.out _; exact BK102.out⟩
      have n3_ : Aside0 ((((w90.setCell ⟨gb140, 0, none⟩ (.string t134)).setCell ⟨gb140, 1, none⟩ (.int .i64 t135)).setCell ⟨gb140, 2, none⟩ (.int .i64 t136)).heap[gb103]? = some (.cells #[.string (⟨#[]⟩ : ByteArray), .int .i64 0, .int .i64 0] 47 (0, 0))) := ⟨by (with_reducible repeat (first | refine zY ?_ _ | refine zAq ?_ | refine zZ ?_ _)); refine blk_far ?_ NB103_140.out _; (with_reducible repeat (first | refine zY ?_ _ | refine zAq ?_ | refine zZ ?_ _)); refine blk_far ?_ NB103_140.out _; (with_reducible repeat (first | refine zY ?_ _ | refine zAq ?_ | refine zZ ?_ _)); refine blk_far ?_ NB103_140.out _; exact BK103.out⟩
      have n4_ : Aside0 ((((w90.setCell ⟨gb140, 0, none⟩ (.string t134)).setCell ⟨gb140, 1, none⟩ (.int .i64 t135)).setCell ⟨gb140, 2, none⟩ (.int .i64 t136)).heap[gb140]? = some (.cells #[.string t134, .int .i64 t135, .int .i64 t136] 47 (0, 0))) := ⟨by (with_reducible repeat (first | refine zY ?_ _ | refine zAq ?_ | refine zZ ?_ _)); apply qP3; exact BK140.out⟩
      have n5_ : Aside0 (IsS56 w0 (((w90.setCell ⟨gb140, 0, none⟩ (.string t134)).setCell ⟨gb140, 1, none⟩ (.int .i64 t135)).setCell ⟨gb140, 2, none⟩ (.int .i64 t136)) g s0_0 s0_1 s0_2 s0_3) := ⟨by repeat (first | (with_reducible first | exact HI0.out | apply IsS56.alloc | apply IsS56.drewN | apply IsS56.drew | refine IsS56.far ?_ NB0_101.out _ | refine IsS56.far ?_ NB0_102.out _ | refine IsS56.far ?_ NB0_103.out _ | refine IsS56.far ?_ NB0_140.out _) | exact HI0.out)⟩
      have n6_ : Aside0 (KeepBut w (((w90.setCell ⟨gb140, 0, none⟩ (.string t134)).setCell ⟨gb140, 1, none⟩ (.int .i64 t135)).setCell ⟨gb140, 2, none⟩ (.int .i64 t136)) g none) := ⟨qJ HK.out⟩
      have n7_ : Aside0 (Below w0.heap.size w0 (((w90.setCell ⟨gb140, 0, none⟩ (.string t134)).setCell ⟨gb140, 1, none⟩ (.int .i64 t135)).setCell ⟨gb140, 2, none⟩ (.int .i64 t136))) := ⟨qH HI0.out HB.out⟩
      (try clear HO139); (try clear BK101); (try clear BK102); (try clear BK103); (try clear BK140); (try clear HI0); (try clear HK); (try clear HB)
      generalize (((w90.setCell ⟨gb140, 0, none⟩ (.string t134)).setCell ⟨gb140, 1, none⟩ (.int .i64 t135)).setCell ⟨gb140, 2, none⟩ (.int .i64 t136)) = w96 at n0_ n1_ n2_ n3_ n4_ n5_ n6_ n7_ ⊢
      have HO139 := n0_; have BK101 := n1_; have BK102 := n2_; have BK103 := n3_; have BK140 := n4_; have HI0 := n5_; have HK := n6_; have HB := n7_; clear n0_ n1_ n2_ n3_ n4_ n5_ n6_ n7_; have n0_ := zA (Kd.R_drew HO139.out); have n1_ := zA (zAq BK101.out); have n2_ := zA (zAq BK102.out); have n3_ := zA (zAq BK103.out); have n4_ := zA (zAq BK140.out); have n5_ := zA (IsS56.drew HI0.out); have n6_ := zA (zM HK.out); have n7_ := zA (zC HB.out); clear HO139; clear BK101; clear BK102; clear BK103; clear BK140; clear HI0; clear HK; clear HB; have HO139 := n0_; have BK101 := n1_; have BK102 := n2_; have BK103 := n3_; have BK140 := n4_; have HI0 := n5_; have HK := n6_; have HB := n7_; clear n0_ n1_ n2_ n3_ n4_ n5_ n6_ n7_
      refine start_ (n := 11) (S := fun w' => w'.cell? ⟨gb140, 0, none⟩ = some (.string t134) ∧ w'.cell? ⟨gb140, 1, none⟩ = some (.int .i64 t135) ∧ w'.cell? ⟨gb140, 2, none⟩ = some (.int .i64 t136) ∧ w'.cell? ⟨gb102, 0, none⟩ = some (.int .i64 a2_0) ∧ w'.cell? ⟨gb102, 1, none⟩ = some (.int .i64 a2_1) ∧ w'.cell? ⟨gb102, 2, none⟩ = some (.int .i64 a2_2)) (ds := []) #[o0, o0, o0, o0, o0, o0, o0, o0, o0, o0, o0] (by kernel_rfl) rfl rfl ⟨(zF BK140.out 0).trans rfl, (zF BK140.out 1).trans rfl, (zF BK140.out 2).trans rfl, (zF BK102.out 0).trans rfl, (zF BK102.out 1).trans rfl, (zF BK102.out 2).trans rfl⟩ (fun hHeld => ?_); refine with_tabW backhaullaw06_read.tab14 backhaullaw06_read.bits14 (fun HT_ HW_ => ?_)
      generalize w96.drew = w97 at HO139 BK101 BK102 BK103 BK140 HI0 HK HB hHeld ⊢
      refine pure_ (i := 1) (N := some 85) #[o0, o1, o0, o0, o0, o0, o0, o0, o0, o0, o0] rfl rfl (any_of HT_.out (by kernel_rfl)) (fun _ _ _ h => h) (Or.inl ⟨by rfl, qy⟩) qz ?_
      refine pure_ (i := 2) (N := some 86) #[o0, o1, o1, o0, o0, o0, o0, o0, o0, o0, o0] rfl rfl (any_of HT_.out (by kernel_rfl)) (fun _ _ _ h => h) (Or.inl ⟨by rfl, qy⟩) qz ?_
      refine pure_ (i := 4) (N := some 88) #[o0, o1, o1, o0, o1, o0, o0, o0, o0, o0, o0] rfl rfl (any_of HT_.out (by kernel_rfl)) (fun _ _ _ h => h) (Or.inl ⟨by rfl, qy⟩) qz ?_
      refine pure_ (i := 7) (N := some 91) #[o0, o1, o1, o0, o1, o0, o0, o1, o0, o0, o0] rfl rfl (any_of HT_.out (by kernel_rfl)) (fun _ _ _ h => h) (Or.inl ⟨by rfl, qy⟩) qz ?_
      refine take_ (i := 0) (N := some 84) (v := ?_) (a' := ?_) #[o1, o1, o1, o0, o1, o0, o0, o1, o0, o0, o0] rfl rfl (take_ofW HT_.out HW_.out (by kernel_rfl)) (fun _ _ _ h => h) (Or.inl ⟨by rfl, ?_⟩) hHeld ?_ ?_
      rotate_left
      · rintro w' ⟨s0, s1, s2, s3, s4, s5⟩
        go_simp
        with_reducible rfl
      rotate_left
      · simp only [Act.put, zH, zI, zJ, i64_w, i32_w]
        rfl
      refine take_ (i := 3) (N := some 87) (v := ?_) (a' := ?_) #[o1, o1, o1, o1, o1, o0, o0, o1, o0, o0, o0] rfl rfl (take_ofW HT_.out HW_.out (by kernel_rfl)) (fun _ _ _ h => h) (Or.inl ⟨by rfl, ?_⟩) hHeld ?_ ?_
      rotate_left
      · rintro w' ⟨s0, s1, s2, s3, s4, s5⟩
        go_simp
        with_reducible rfl
      rotate_left
      · simp only [Act.put, zH, zI, zJ, i64_w, i32_w]
        rfl
      refine take_ (i := 5) (N := some 89) (v := ?_) (a' := ?_) #[o1, o1, o1, o1, o1, o1, o0, o1, o0, o0, o0] rfl rfl (take_ofW HT_.out HW_.out (by kernel_rfl)) (fun _ _ _ h => h) (Or.inl ⟨by rfl, ?_⟩) hHeld ?_ ?_
      rotate_left
      · rintro w' ⟨s0, s1, s2, s3, s4, s5⟩
        go_simp
        with_reducible rfl
      rotate_left
      · simp only [Act.put, zH, zI, zJ, i64_w, i32_w]
        rfl
      refine one_ (i := 6) (N := some 90) #[o1, o1, o1, o1, o1, o1, o1, o1, o0, o0, o0] rfl rfl (one_of HT_.out (by kernel_rfl)) (by decide) (fun K hK => ?_)
      refine goes_ Try.func44 (by kernel_rfl) rfl #[.pointer (some ⟨g, 0, none⟩), .int .i64 a2_1, .int .i64 a2_2] (by rfl) rfl rfl (by (try simp only [zR, zS, zT]); first | done | rfl | (simp only [zP, zQ]; rfl)) ?_
      with_reducible refine (strict_Reader_Row.calls k g s0_0 s0_1 s0_2 s0_3 a2_1 a2_2 t141 t144 t145 t146 t147 w0 _ ?side1 ?side2 A80.out).mono ?_
      (case side1 => repeat (first | (with_reducible first | exact HI0.out | apply IsS56.alloc | apply IsS56.drewN | apply IsS56.drew | refine IsS56.far ?_ NB0_101.out _ | refine IsS56.far ?_ NB0_102.out _ | refine IsS56.far ?_ NB0_103.out _ | refine IsS56.far ?_ NB0_140.out _) | exact HI0.out))
      (case side2 => repeat (first | (with_reducible first | exact HB.out | apply zD | apply zB | apply zC | refine zE ?_ (IsS56.ge HI0.out) | refine zE ?_ GE101.out | refine zE ?_ GE102.out | refine zE ?_ GE103.out | refine zE ?_ GE140.out) | exact HB.out))
      rintro e w98 ⟨v142, rfl, ho0, hi, hb, hk⟩
      refine ⟨_, rfl, ?_⟩
      have n0_ := zA (KeepBut.blk hk (g' := gb101) (o := .cells #[.string a1_0, .int .i64 a1_1, .int .i64 a1_2] 47 (0, 0)) (qW BK101.out) NB101_0.out (by simp)); have n1_ := zA (KeepBut.blk hk (g' := gb102) (o := .cells #[.int .i64 a2_0, .int .i64 a2_1, .int .i64 a2_2] 51 (0, 0)) (qW BK102.out) NB102_0.out (by simp)); have n2_ := zA (KeepBut.blk hk (g' := gb103) (o := .cells #[.string (⟨#[]⟩ : ByteArray), .int .i64 0, .int .i64 0] 47 (0, 0)) (qW BK103.out) NB103_0.out (by simp)); have n3_ := zA (Kd.R_mono (Kd.R_told (Kd.R_oldK (IsS56.apart (show IsS56 w0 _ g s0_0 s0_1 s0_2 s0_3 from by repeat (first | (with_reducible first | exact HI0.out | apply IsS56.alloc | apply IsS56.drewN | apply IsS56.drew | refine IsS56.far ?_ NB0_101.out _ | refine IsS56.far ?_ NB0_102.out _ | refine IsS56.far ?_ NB0_103.out _ | refine IsS56.far ?_ NB0_140.out _) | exact HI0.out)) (by (with_reducible repeat (first | apply Kd.R_alloc | apply Kd.R_drewN | apply Kd.R_drew)); exact HO139.out) (by decide)) hk) (Kd.R_base ho0)) (fun _ h_ => h_.1)); have n4_ := zA (KeepBut.blk hk (g' := gb140) (o := .cells #[.string t134, .int .i64 t135, .int .i64 t136] 47 (0, 0)) (qW BK140.out) NB140_0.out (by simp)); have n5_ := zA (Kd.R_lower (Kd.R_new' ho0 (Kd.R_lt (by (with_reducible repeat (first | apply Kd.R_alloc | apply Kd.R_drewN | apply Kd.R_drew)); exact HO139.out))) (keep_size (w := w) (g := g) (row := none) (qJ HK.out))); have n6_ := zA (zBq (qJ HK.out) hk (.inl rfl)); have n7_ := zA (hb); have n8_ := zA (hi); clear BK101; clear BK102; clear BK103; clear HO139; clear BK140; clear HK; clear HB; clear HI0; have BK101 := n0_; have BK102 := n1_; have BK103 := n2_; have HO139 := n3_; have BK140 := n4_; have HO143 := n5_; have HK := n6_; have HB := n7_; have HI0 := n8_; clear n0_ n1_ n2_ n3_ n4_ n5_ n6_ n7_ n8_; (try clear hb); (try clear hb2); (try clear hk); (try clear hi); (try clear ho0)
      (try simp only [errW_none, errW_some])
      obtain ⟨Ao99, co99, eo99⟩ := Kd.R_slice HO143.out
      (first | subst eo99 | (injection eo99 with f1_ f2_ f3_; have f4_ := f1_.symm; have f5_ := f3_.symm; clear f1_ f2_ f3_; subst f4_; subst f5_))
      obtain ⟨Ao100, co100, eo100⟩ := Kd.R_slice HO139.out
      (first | subst eo100 | (injection eo100 with f1_ f2_ f3_; have f4_ := f1_.symm; have f5_ := f3_.symm; clear f1_ f2_ f3_; subst f4_; subst f5_))
      refine hK.out _ _ ⟨(zF BK140.out 0).trans rfl, (zF BK140.out 1).trans rfl, (zF BK140.out 2).trans rfl, (zF BK102.out 0).trans rfl, (zF BK102.out 1).trans rfl, (zF BK102.out 2).trans rfl⟩ (fun hHeld => ?_)
      clear hK K
      refine norm_ (a' := ?_) ?_ ?_
      rotate_left
      · show Act.put _ (some 90) _ = _
        simp only [Act.put, zH, zI, zJ, i64_w, i32_w]
        rfl
      refine one_ (i := 8) (N := some 92) #[o1, o1, o1, o1, o1, o1, o1, o1, o1, o0, o0] rfl rfl (one_of HT_.out (by kernel_rfl)) (by decide) (fun K hK => ?_)
      refine goes_ Try.func82 (by kernel_rfl) rfl #[.slice Ao99 t141.length co99, .slice Ao100 t137.length co100] (by rfl) rfl rfl (by (try simp only [zR, zS, zT]); first | done | rfl | (simp only [zP, zQ]; rfl)) ?_
      with_reducible refine (backhaulref02_SameInts.calls k _ _ t141 _ _ t137 t148 _ ?side1 ?side2 ?side3 ?side4 A81.out).mono ?_
      (case side1 => repeat (first | exact (Kd.R_reads' HO143.out).2.2 | (with_reducible refine Kd.C_alloc ?_ _) | (with_reducible refine Kd.C_drewN ?_ _) | (with_reducible refine Kd.C_drew ?_)))
      (case side2 => exact (Kd.R_reads' HO143.out).2.1)
      (case side3 => repeat (first | exact (Kd.R_reads' HO139.out).2.2 | (with_reducible refine Kd.C_alloc ?_ _) | (with_reducible refine Kd.C_drewN ?_ _) | (with_reducible refine Kd.C_drew ?_)))
      (case side4 => exact (Kd.R_reads' HO139.out).2.1)
      rintro e w' ⟨rfl, ⟨nd, rfl⟩⟩
      refine ⟨_, rfl, ?_⟩
      refine hK.out _ _ ⟨(zF BK140.out 0).trans rfl, (zF BK140.out 1).trans rfl, (zF BK140.out 2).trans rfl, (zF BK102.out 0).trans rfl, (zF BK102.out 1).trans rfl, (zF BK102.out 2).trans rfl⟩ (fun hHeld => ?_)
      clear hK K
      refine norm_ (a' := ?_) ?_ ?_
      rotate_left
      · show Act.put _ (some 92) _ = _
        simp only [Act.put, zH, zI, zJ, i64_w, i32_w]
        rfl
      refine one_ (i := 9) (N := none) #[o1, o1, o1, o1, o1, o1, o1, o1, o1, o1, o0] rfl rfl (one_of HT_.out (by kernel_rfl)) (by decide) (fun K hK => ?_)
      have hs101 : w98.cell? ⟨gb101, 0, none⟩ = some (.string a1_0) := (zF BK101.out 0).trans rfl; have hfs101 := zG BK101.out 0; have hns101_1 := NB102_101.out; have hns101_2 := NB103_101.out; have hns101_3 := NB140_101.out
      have hms101_1 := NB101_102.out
      have hms101_2 := NB101_103.out
      have hms101_3 := NB101_140.out
      have hs102 : w98.cell? ⟨gb101, 1, none⟩ = some (.int .i64 a1_1) := (zF BK101.out 1).trans rfl; have hfs102 := zG BK101.out 1; have hns102_1 := NB102_101.out; have hns102_2 := NB103_101.out; have hns102_3 := NB140_101.out
      have hms102_1 := NB101_102.out
      have hms102_2 := NB101_103.out
      have hms102_3 := NB101_140.out
      have hs103 : w98.cell? ⟨gb101, 2, none⟩ = some (.int .i64 a1_2) := (zF BK101.out 2).trans rfl; have hfs103 := zG BK101.out 2; have hns103_1 := NB102_101.out; have hns103_2 := NB103_101.out; have hns103_3 := NB140_101.out
      have hms103_1 := NB101_102.out
      have hms103_2 := NB101_103.out
      have hms103_3 := NB101_140.out
      refine skip_ (w1 := ?_) (by rfl) rfl ?_ ?_
      rotate_left
      · go_simp
        rfl
      refine hK.out _ _ ⟨((cell_far (p := ⟨gb101, _, none⟩) NB140_101.out _).trans (((cell_far (p := ⟨gb101, _, none⟩) NB140_101.out _).trans (((cell_far (p := ⟨gb101, _, none⟩) NB140_101.out _).trans (hHeld.1)))))), ((cell_far (p := ⟨gb101, _, none⟩) NB140_101.out _).trans (((cell_far (p := ⟨gb101, _, none⟩) NB140_101.out _).trans (((cell_far (p := ⟨gb101, _, none⟩) NB140_101.out _).trans (hHeld.2.1)))))), ((cell_far (p := ⟨gb101, _, none⟩) NB140_101.out _).trans (((cell_far (p := ⟨gb101, _, none⟩) NB140_101.out _).trans (((cell_far (p := ⟨gb101, _, none⟩) NB140_101.out _).trans (hHeld.2.2.1)))))), ((cell_far (p := ⟨gb101, _, none⟩) NB102_101.out _).trans (((cell_far (p := ⟨gb101, _, none⟩) NB102_101.out _).trans (((cell_far (p := ⟨gb101, _, none⟩) NB102_101.out _).trans (hHeld.2.2.2.1)))))), ((cell_far (p := ⟨gb101, _, none⟩) NB102_101.out _).trans (((cell_far (p := ⟨gb101, _, none⟩) NB102_101.out _).trans (((cell_far (p := ⟨gb101, _, none⟩) NB102_101.out _).trans (hHeld.2.2.2.2.1)))))), ((cell_far (p := ⟨gb101, _, none⟩) NB102_101.out _).trans (((cell_far (p := ⟨gb101, _, none⟩) NB102_101.out _).trans (((cell_far (p := ⟨gb101, _, none⟩) NB102_101.out _).trans (hHeld.2.2.2.2.2))))))⟩ (fun hHeld => ?_)
      clear hK K
      refine pure_ (i := 10) (N := some 8) #[o1, o1, o1, o1, o1, o1, o1, o1, o1, o1, o1] rfl rfl (any_of HT_.out (by kernel_rfl)) (fun _ _ _ h => h) (Or.inl ⟨by rfl, qy⟩) qz ?_
      refine done_ (done_of HT_.out (by kernel_rfl)) ?_
      try go_wp2
      go_meet
      case rel => exact ⟨_, (t148), (t144), (t145), (t146), (t147), (t134), (t135), (t136), (by first | rfl | (simp; done) | (simp [*]; done)), H', ⟨by first | omega | exact Nat.le_refl _⟩, ⟨by (with_reducible repeat (first | refine zY ?_ _ | refine zAq ?_ | refine zZ ?_ _)); apply qP3; exact BK101.out⟩, ⟨by (with_reducible repeat (first | refine zY ?_ _ | refine zAq ?_ | refine zZ ?_ _)); refine blk_far ?_ NB102_101.out _; (with_reducible repeat (first | refine zY ?_ _ | refine zAq ?_ | refine zZ ?_ _)); refine blk_far ?_ NB102_101.out _; (with_reducible repeat (first | refine zY ?_ _ | refine zAq ?_ | refine zZ ?_ _)); refine blk_far ?_ NB102_101.out _; exact BK102.out⟩, ⟨by (with_reducible repeat (first | refine zY ?_ _ | refine zAq ?_ | refine zZ ?_ _)); refine blk_far ?_ NB103_101.out _; (with_reducible repeat (first | refine zY ?_ _ | refine zAq ?_ | refine zZ ?_ _)); refine blk_far ?_ NB103_101.out _; (with_reducible repeat (first | refine zY ?_ _ | refine zAq ?_ | refine zZ ?_ _)); refine blk_far ?_ NB103_101.out _; exact BK103.out⟩, ⟨by repeat (first | (with_reducible first | exact HI0.out | apply IsS56.alloc | apply IsS56.drewN | apply IsS56.drew | refine IsS56.far ?_ NB0_101.out _ | refine IsS56.far ?_ NB0_102.out _ | refine IsS56.far ?_ NB0_103.out _ | refine IsS56.far ?_ NB0_140.out _) | exact HI0.out)⟩, ⟨qJ HK.out⟩, ⟨qH HI0.out HB.out⟩⟩
    rw [if_neg c78] at H
    have c78b0 : (a2_0 == 3) = false := beq_eq_false_iff_ne.mpr c78
    have c78b1 : (a2_0 != 3) = true := bne_iff_ne.mpr c78
    by_cases c104 : a2_0 = 4
    · rw [if_pos c104] at H
      have c104b0 : (a2_0 == 4) = true := beq_iff_eq.mpr c104
      have c104b1 : (a2_0 != 4) = false := bne_eq_false_iff_eq.mpr c104
      clear c104
      replace H := Option.bind_eq_some_iff.mp H
      obtain ⟨⟨t149, t150, t151, t152⟩, A1050, H⟩ := H
      replace H : ((strict_Reader_Serials.f k s0_0 s0_1 s0_2 s0_3 a2_2).bind fun bt156 => ((backhaulref01_SameTexts.f k bt156.1 t152).bind fun t163 => (backhaullaw06_read.j0 k t163 bt156.2.1 bt156.2.2.1 bt156.2.2.2.1 bt156.2.2.2.2 t149 t150 t151))) = some (r1, r2, r3, r4, r5, r6, r7, r8) := H
      have A105 := zA A1050
      clear A1050
      replace H := Option.bind_eq_some_iff.mp H
      obtain ⟨⟨t156, t159, t160, t161, t162⟩, A1060, H⟩ := H
      replace H : ((backhaulref01_SameTexts.f k t156 t152).bind fun t163 => (backhaullaw06_read.j0 k t163 t159 t160 t161 t162 t149 t150 t151)) = some (r1, r2, r3, r4, r5, r6, r7, r8) := H
      have A106 := zA A1060
      clear A1060
      replace H := Option.bind_eq_some_iff.mp H
      obtain ⟨t163, A1070, H⟩ := H
      replace H : (backhaullaw06_read.j0 k t163 t159 t160 t161 t162 t149 t150 t151) = some (r1, r2, r3, r4, r5, r6, r7, r8) := H
      have A107 := zA A1070
      clear A1070
      have H' := zA H
      clear H; have hnb108 := NB101_102.out; have hnc108 := NB102_101.out; have hnb109 := NB101_103.out; have hnc109 := NB103_101.out; have hnb110 := NB101_0.out; have hnc110 := NB0_101.out
      obtain ⟨_, _, _, _, _, _⟩ := qc3f BK101.out
      have hnb112 := NB102_103.out; have hnc112 := NB103_102.out; have hnb113 := NB102_0.out; have hnc113 := NB0_102.out
      obtain ⟨_, _, _, _, _, _⟩ := qc3f BK102.out
      try go_wp2_with (first | ((with_reducible refine zJq (f := 131) rfl ?_); refine goesL_ (some 99) rfl rfl Try.func131 (by kernel_rfl) rfl #[.agg #[.string a1_0, .int .i64 a1_1, .int .i64 a1_2], .int .i64 a2_2] rfl (by (try simp only [zR, zS, zT]); first | done | rfl | (simp only [zP, zQ]; rfl)) ?_; (with_reducible refine (backhaulref06_Serials.calls k a1_0 a1_1 a1_2 a2_2 t149 t150 t151 t152 _ A105.out).mono ?_); rintro e w115 ⟨v153, rfl, ho0, hb⟩; refine ⟨_, rfl, ?_⟩; have n0_ := zA (Kd.R_lower ho0 (keep_size (w := w) (g := g) (row := none) (qJ HK.out))); have n1_ := zA (IsS56.below (by repeat (first | (with_reducible first | exact HI0.out | apply IsS56.alloc | apply IsS56.drewN | apply IsS56.drew | refine IsS56.far ?_ NB0_101.out _ | refine IsS56.far ?_ NB0_102.out _ | refine IsS56.far ?_ NB0_103.out _) | exact HI0.out)) hb); have n2_ := zA (qX BK101.out hb); have n3_ := zA (qX BK102.out hb); have n4_ := zA (qX BK103.out hb); have n5_ := zA (zBq (qJ HK.out) (KeepBut.of_below hb g none) (.inl rfl)); have n6_ := zA (zV (qH HI0.out HB.out) hb); clear HI0 BK101 BK102 BK103 HK HB; have HO154 := n0_; have HI0 := n1_; have BK101 := n2_; have BK102 := n3_; have BK103 := n4_; have HK := n5_; have HB := n6_; clear n0_ n1_ n2_ n3_ n4_ n5_ n6_; (try clear hb); (try clear hb2); (try clear hk); (try clear hi); (try clear ho0)) | ((with_reducible refine gate_dst (N := 17) rfl ?_); refine box_event qr (N := 17) qr (cs := #[.string (⟨#[]⟩ : ByteArray), .int .i64 0, .int .i64 0]) (t := 47) qg ?_; intro gb155 hg w116 hbox hb; have n0_ := zA (Kd.R_below (by (with_reducible repeat (first | apply Kd.R_alloc | apply Kd.R_drewN | apply Kd.R_drew)); exact HO154.out) hb); have n1_ := zA (IsS56.below (by repeat (first | (with_reducible first | exact HI0.out | apply IsS56.alloc | apply IsS56.drewN | apply IsS56.drew | refine IsS56.far ?_ NB0_101.out _ | refine IsS56.far ?_ NB0_102.out _ | refine IsS56.far ?_ NB0_103.out _) | exact HI0.out)) hb); have n2_ := zA (qX BK101.out hb); have n3_ := zA (qX BK102.out hb); have n4_ := zA (qX BK103.out hb); have n5_ := zA (zBq (qJ HK.out) (KeepBut.of_below hb g none) (.inl rfl)); have n6_ := zA (zV (qH HI0.out HB.out) hb); have n7_ := zA (hbox); have n8_ := zA ((by rw [hg]; exact (keep_size (w := w) (g := g) (row := none) (qJ HK.out)) : w.heap.size ≤ gb155)); have n9_ := zA ((Nat.le_trans HW0.out (by rw [hg]; exact (keep_size (w := w) (g := g) (row := none) (qJ HK.out)) : w.heap.size ≤ gb155) : w0.heap.size ≤ gb155)); have n10_ := zA ((by rw [hg]; exact zLq (qL BK101.out) : gb101 ≠ gb155)); have n11_ := zA ((by rw [hg]; exact zMq (qL BK101.out) : gb155 ≠ gb101)); have n12_ := zA ((by rw [hg]; exact zLq (qL BK102.out) : gb102 ≠ gb155)); have n13_ := zA ((by rw [hg]; exact zMq (qL BK102.out) : gb155 ≠ gb102)); have n14_ := zA ((by rw [hg]; exact zLq (qL BK103.out) : gb103 ≠ gb155)); have n15_ := zA ((by rw [hg]; exact zMq (qL BK103.out) : gb155 ≠ gb103)); have n16_ := zA ((by rw [hg]; exact zLq (IsS56.lt (show IsS56 w0 _ g s0_0 s0_1 s0_2 s0_3 from by repeat (first | (with_reducible first | exact HI0.out | apply IsS56.alloc | apply IsS56.drewN | apply IsS56.drew | refine IsS56.far ?_ NB0_101.out _ | refine IsS56.far ?_ NB0_102.out _ | refine IsS56.far ?_ NB0_103.out _) | exact HI0.out))) : g ≠ gb155)); have n17_ := zA ((by rw [hg]; exact zMq (IsS56.lt (show IsS56 w0 _ g s0_0 s0_1 s0_2 s0_3 from by repeat (first | (with_reducible first | exact HI0.out | apply IsS56.alloc | apply IsS56.drewN | apply IsS56.drew | refine IsS56.far ?_ NB0_101.out _ | refine IsS56.far ?_ NB0_102.out _ | refine IsS56.far ?_ NB0_103.out _) | exact HI0.out))) : gb155 ≠ g)); clear HO154 HI0 BK101 BK102 BK103 HK HB; have HO154 := n0_; have HI0 := n1_; have BK101 := n2_; have BK102 := n3_; have BK103 := n4_; have HK := n5_; have HB := n6_; have BK155 := n7_; have GW155 := n8_; have GE155 := n9_; have NB101_155 := n10_; have NB155_101 := n11_; have NB102_155 := n12_; have NB155_102 := n13_; have NB103_155 := n14_; have NB155_103 := n15_; have NB0_155 := n16_; have NB155_0 := n17_; clear n0_ n1_ n2_ n3_ n4_ n5_ n6_ n7_ n8_ n9_ n10_ n11_ n12_ n13_ n14_ n15_ n16_ n17_ hb hbox hg; have hnb117 := NB155_101.out; have hnc117 := NB101_155.out; have hnb118 := NB155_102.out; have hnc118 := NB102_155.out; have hnb119 := NB155_103.out; have hnc119 := NB103_155.out; have hnb120 := NB155_0.out; have hnc120 := NB0_155.out; obtain ⟨_, _, _, _, _, _⟩ := qc3f BK155.out))
      have n0_ : Aside0 (Kd.R Kd.string 9 (((w116.setCell ⟨gb155, 0, none⟩ (.string t149)).setCell ⟨gb155, 1, none⟩ (.int .i64 t150)).setCell ⟨gb155, 2, none⟩ (.int .i64 t151)) w.heap.size (fun _ => True) v153 t152) := ⟨by (with_reducible repeat (first | apply Kd.R_alloc | apply Kd.R_drewN | apply Kd.R_drew)); exact Kd.R_mono (Kd.R_far (p := ⟨gb155, 2, none⟩) (Kd.R_far (p := ⟨gb155, 1, none⟩) (Kd.R_far (p := ⟨gb155, 0, none⟩) (Kd.R_types HO154.out BK155.out (by decide)) (fun _ hk => hk.2) (.string t149)) (fun _ hk => hk.2) (.int .i64 t150)) (fun _ hk => hk.2) (.int .i64 t151)) (fun _ hk => trivial)⟩
      have n1_ : Aside0 ((((w116.setCell ⟨gb155, 0, none⟩ (.string t149)).setCell ⟨gb155, 1, none⟩ (.int .i64 t150)).setCell ⟨gb155, 2, none⟩ (.int .i64 t151)).heap[gb101]? = some (.cells #[.string a1_0, .int .i64 a1_1, .int .i64 a1_2] 47 (0, 0))) := ⟨by (with_reducible repeat (first | refine zY ?_ _ | refine zAq ?_ | refine zZ ?_ _)); refine blk_far ?_ NB101_155.out _; (with_reducible repeat (first | refine zY ?_ _ | refine zAq ?_ | refine zZ ?_ _)); refine blk_far ?_ NB101_155.out _; (with_reducible repeat (first | refine zY ?_ _ | refine zAq ?_ | refine zZ ?_ _)); refine blk_far ?_ NB101_155.out _; exact BK101.out⟩
      have n2_ : Aside0 ((((w116.setCell ⟨gb155, 0, none⟩ (.string t149)).setCell ⟨gb155, 1, none⟩ (.int .i64 t150)).setCell ⟨gb155, 2, none⟩ (.int .i64 t151)).heap[gb102]? = some (.cells #[.int .i64 a2_0, .int .i64 a2_1, .int .i64 a2_2] 51 (0, 0))) := ⟨by (with_reducible repeat (first | refine zY ?_ _ | refine zAq ?_ | refine zZ ?_ _)); refine blk_far ?_ NB102_155.out _; (with_reducible repeat (first | refine zY ?_ _ | refine zAq ?_ | refine zZ ?_ _)); refine blk_far ?_ NB102_155.out _; (with_reducible repeat (first | refine zY ?_ _ | refine zAq ?_ | refine zZ ?_ _)); refine blk_far ?_ NB102_155.out _; exact BK102.out⟩
      have n3_ : Aside0 ((((w116.setCell ⟨gb155, 0, none⟩ (.string t149)).setCell ⟨gb155, 1, none⟩ (.int .i64 t150)).setCell ⟨gb155, 2, none⟩ (.int .i64 t151)).heap[gb103]? = some (.cells #[.string (⟨#[]⟩ : ByteArray), .int .i64 0, .int .i64 0] 47 (0, 0))) := ⟨by (with_reducible repeat (first | refine zY ?_ _ | refine zAq ?_ | refine zZ ?_ _)); refine blk_far ?_ NB103_155.out _; (with_reducible repeat (first | refine zY ?_ _ | refine zAq ?_ | refine zZ ?_ _)); refine blk_far ?_ NB103_155.out _; (with_reducible repeat (first | refine zY ?_ _ | refine zAq ?_ | refine zZ ?_ _)); refine blk_far ?_ NB103_155.out _; exact BK103.out⟩
      have n4_ : Aside0 ((((w116.setCell ⟨gb155, 0, none⟩ (.string t149)).setCell ⟨gb155, 1, none⟩ (.int .i64 t150)).setCell ⟨gb155, 2, none⟩ (.int .i64 t151)).heap[gb155]? = some (.cells #[.string t149, .int .i64 t150, .int .i64 t151] 47 (0, 0))) := ⟨by (with_reducible repeat (first | refine zY ?_ _ | refine zAq ?_ | refine zZ ?_ _)); apply qP3; exact BK155.out⟩
      have n5_ : Aside0 (IsS56 w0 (((w116.setCell ⟨gb155, 0, none⟩ (.string t149)).setCell ⟨gb155, 1, none⟩ (.int .i64 t150)).setCell ⟨gb155, 2, none⟩ (.int .i64 t151)) g s0_0 s0_1 s0_2 s0_3) := ⟨by repeat (first | (with_reducible first | exact HI0.out | apply IsS56.alloc | apply IsS56.drewN | apply IsS56.drew | refine IsS56.far ?_ NB0_101.out _ | refine IsS56.far ?_ NB0_102.out _ | refine IsS56.far ?_ NB0_103.out _ | refine IsS56.far ?_ NB0_155.out _) | exact HI0.out)⟩
      have n6_ : Aside0 (KeepBut w (((w116.setCell ⟨gb155, 0, none⟩ (.string t149)).setCell ⟨gb155, 1, none⟩ (.int .i64 t150)).setCell ⟨gb155, 2, none⟩ (.int .i64 t151)) g none) := ⟨qJ HK.out⟩
      have n7_ : Aside0 (Below w0.heap.size w0 (((w116.setCell ⟨gb155, 0, none⟩ (.string t149)).setCell ⟨gb155, 1, none⟩ (.int .i64 t150)).setCell ⟨gb155, 2, none⟩ (.int .i64 t151))) := ⟨qH HI0.out HB.out⟩
      (try clear HO154); (try clear BK101); (try clear BK102); (try clear BK103); (try clear BK155); (try clear HI0); (try clear HK); (try clear HB)
      generalize (((w116.setCell ⟨gb155, 0, none⟩ (.string t149)).setCell ⟨gb155, 1, none⟩ (.int .i64 t150)).setCell ⟨gb155, 2, none⟩ (.int .i64 t151)) = w122 at n0_ n1_ n2_ n3_ n4_ n5_ n6_ n7_ ⊢
      have HO154 := n0_; have BK101 := n1_; have BK102 := n2_; have BK103 := n3_; have BK155 := n4_; have HI0 := n5_; have HK := n6_; have HB := n7_; clear n0_ n1_ n2_ n3_ n4_ n5_ n6_ n7_; have n0_ := zA (Kd.R_drew HO154.out); have n1_ := zA (zAq BK101.out); have n2_ := zA (zAq BK102.out); have n3_ := zA (zAq BK103.out); have n4_ := zA (zAq BK155.out); have n5_ := zA (IsS56.drew HI0.out); have n6_ := zA (zM HK.out); have n7_ := zA (zC HB.out); clear HO154; clear BK101; clear BK102; clear BK103; clear BK155; clear HI0; clear HK; clear HB; have HO154 := n0_; have BK101 := n1_; have BK102 := n2_; have BK103 := n3_; have BK155 := n4_; have HI0 := n5_; have HK := n6_; have HB := n7_; clear n0_ n1_ n2_ n3_ n4_ n5_ n6_ n7_
      refine start_ (n := 9) (S := fun w' => w'.cell? ⟨gb155, 0, none⟩ = some (.string t149) ∧ w'.cell? ⟨gb155, 1, none⟩ = some (.int .i64 t150) ∧ w'.cell? ⟨gb155, 2, none⟩ = some (.int .i64 t151) ∧ w'.cell? ⟨gb102, 0, none⟩ = some (.int .i64 a2_0) ∧ w'.cell? ⟨gb102, 1, none⟩ = some (.int .i64 a2_1) ∧ w'.cell? ⟨gb102, 2, none⟩ = some (.int .i64 a2_2)) (ds := []) #[o0, o0, o0, o0, o0, o0, o0, o0, o0] (by kernel_rfl) rfl rfl ⟨(zF BK155.out 0).trans rfl, (zF BK155.out 1).trans rfl, (zF BK155.out 2).trans rfl, (zF BK102.out 0).trans rfl, (zF BK102.out 1).trans rfl, (zF BK102.out 2).trans rfl⟩ (fun hHeld => ?_); refine with_tabW backhaullaw06_read.tab17 backhaullaw06_read.bits17 (fun HT_ HW_ => ?_)
      generalize w122.drew = w123 at HO154 BK101 BK102 BK103 BK155 HI0 HK HB hHeld ⊢
      refine pure_ (i := 1) (N := some 103) #[o0, o1, o0, o0, o0, o0, o0, o0, o0] rfl rfl (any_of HT_.out (by kernel_rfl)) (fun _ _ _ h => h) (Or.inl ⟨by rfl, qy⟩) qz ?_
      refine pure_ (i := 2) (N := some 104) #[o0, o1, o1, o0, o0, o0, o0, o0, o0] rfl rfl (any_of HT_.out (by kernel_rfl)) (fun _ _ _ h => h) (Or.inl ⟨by rfl, qy⟩) qz ?_
      refine pure_ (i := 5) (N := some 107) #[o0, o1, o1, o0, o0, o1, o0, o0, o0] rfl rfl (any_of HT_.out (by kernel_rfl)) (fun _ _ _ h => h) (Or.inl ⟨by rfl, qy⟩) qz ?_
      refine take_ (i := 0) (N := some 102) (v := ?_) (a' := ?_) #[o1, o1, o1, o0, o0, o1, o0, o0, o0] rfl rfl (take_ofW HT_.out HW_.out (by kernel_rfl)) (fun _ _ _ h => h) (Or.inl ⟨by rfl, ?_⟩) hHeld ?_ ?_
      rotate_left
      · rintro w' ⟨s0, s1, s2, s3, s4, s5⟩
        go_simp
        with_reducible rfl
      rotate_left
      · simp only [Act.put, zH, zI, zJ, i64_w, i32_w]
        rfl
      refine take_ (i := 3) (N := some 105) (v := ?_) (a' := ?_) #[o1, o1, o1, o1, o0, o1, o0, o0, o0] rfl rfl (take_ofW HT_.out HW_.out (by kernel_rfl)) (fun _ _ _ h => h) (Or.inl ⟨by rfl, ?_⟩) hHeld ?_ ?_
      rotate_left
      · rintro w' ⟨s0, s1, s2, s3, s4, s5⟩
        go_simp
        with_reducible rfl
      rotate_left
      · simp only [Act.put, zH, zI, zJ, i64_w, i32_w]
        rfl
      refine one_ (i := 4) (N := some 106) #[o1, o1, o1, o1, o1, o1, o0, o0, o0] rfl rfl (one_of HT_.out (by kernel_rfl)) (by decide) (fun K hK => ?_)
      refine goes_ Try.func45 (by kernel_rfl) rfl #[.pointer (some ⟨g, 0, none⟩), .int .i64 a2_2] (by rfl) rfl rfl (by (try simp only [zR, zS, zT]); first | done | rfl | (simp only [zP, zQ]; rfl)) ?_
      with_reducible refine (strict_Reader_Serials.calls k g s0_0 s0_1 s0_2 s0_3 a2_2 t156 t159 t160 t161 t162 w0 _ ?side1 ?side2 A106.out).mono ?_
      (case side1 => repeat (first | (with_reducible first | exact HI0.out | apply IsS56.alloc | apply IsS56.drewN | apply IsS56.drew | refine IsS56.far ?_ NB0_101.out _ | refine IsS56.far ?_ NB0_102.out _ | refine IsS56.far ?_ NB0_103.out _ | refine IsS56.far ?_ NB0_155.out _) | exact HI0.out))
      (case side2 => repeat (first | (with_reducible first | exact HB.out | apply zD | apply zB | apply zC | refine zE ?_ (IsS56.ge HI0.out) | refine zE ?_ GE101.out | refine zE ?_ GE102.out | refine zE ?_ GE103.out | refine zE ?_ GE155.out) | exact HB.out))
      rintro e w124 ⟨v157, rfl, ho0, hi, hb, hk⟩
      refine ⟨_, rfl, ?_⟩
      have n0_ := zA (KeepBut.blk hk (g' := gb101) (o := .cells #[.string a1_0, .int .i64 a1_1, .int .i64 a1_2] 47 (0, 0)) (qW BK101.out) NB101_0.out (by simp)); have n1_ := zA (KeepBut.blk hk (g' := gb102) (o := .cells #[.int .i64 a2_0, .int .i64 a2_1, .int .i64 a2_2] 51 (0, 0)) (qW BK102.out) NB102_0.out (by simp)); have n2_ := zA (KeepBut.blk hk (g' := gb103) (o := .cells #[.string (⟨#[]⟩ : ByteArray), .int .i64 0, .int .i64 0] 47 (0, 0)) (qW BK103.out) NB103_0.out (by simp)); have n3_ := zA (Kd.R_mono (Kd.R_told (Kd.R_oldK (IsS56.apart (show IsS56 w0 _ g s0_0 s0_1 s0_2 s0_3 from by repeat (first | (with_reducible first | exact HI0.out | apply IsS56.alloc | apply IsS56.drewN | apply IsS56.drew | refine IsS56.far ?_ NB0_101.out _ | refine IsS56.far ?_ NB0_102.out _ | refine IsS56.far ?_ NB0_103.out _ | refine IsS56.far ?_ NB0_155.out _) | exact HI0.out)) (by (with_reducible repeat (first | apply Kd.R_alloc | apply Kd.R_drewN | apply Kd.R_drew)); exact HO154.out) (by decide)) hk) (Kd.R_base ho0)) (fun _ h_ => h_.1)); have n4_ := zA (KeepBut.blk hk (g' := gb155) (o := .cells #[.string t149, .int .i64 t150, .int .i64 t151] 47 (0, 0)) (qW BK155.out) NB155_0.out (by simp)); have n5_ := zA (Kd.R_lower (Kd.R_new' ho0 (Kd.R_lt (by (with_reducible repeat (first | apply Kd.R_alloc | apply Kd.R_drewN | apply Kd.R_drew)); exact HO154.out))) (keep_size (w := w) (g := g) (row := none) (qJ HK.out))); have n6_ := zA (zBq (qJ HK.out) hk (.inl rfl)); have n7_ := zA (hb); have n8_ := zA (hi); clear BK101; clear BK102; clear BK103; clear HO154; clear BK155; clear HK; clear HB; clear HI0; have BK101 := n0_; have BK102 := n1_; have BK103 := n2_; have HO154 := n3_; have BK155 := n4_; have HO158 := n5_; have HK := n6_; have HB := n7_; have HI0 := n8_; clear n0_ n1_ n2_ n3_ n4_ n5_ n6_ n7_ n8_; (try clear hb); (try clear hb2); (try clear hk); (try clear hi); (try clear ho0)
      (try simp only [errW_none, errW_some])
      obtain ⟨Ao125, co125, eo125⟩ := Kd.R_slice HO158.out
      (first | subst eo125 | (injection eo125 with f1_ f2_ f3_; have f4_ := f1_.symm; have f5_ := f3_.symm; clear f1_ f2_ f3_; subst f4_; subst f5_))
      obtain ⟨Ao126, co126, eo126⟩ := Kd.R_slice HO154.out
      (first | subst eo126 | (injection eo126 with f1_ f2_ f3_; have f4_ := f1_.symm; have f5_ := f3_.symm; clear f1_ f2_ f3_; subst f4_; subst f5_))
      refine hK.out _ _ ⟨(zF BK155.out 0).trans rfl, (zF BK155.out 1).trans rfl, (zF BK155.out 2).trans rfl, (zF BK102.out 0).trans rfl, (zF BK102.out 1).trans rfl, (zF BK102.out 2).trans rfl⟩ (fun hHeld => ?_)
      clear hK K
      refine norm_ (a' := ?_) ?_ ?_
      rotate_left
      · show Act.put _ (some 106) _ = _
        simp only [Act.put, zH, zI, zJ, i64_w, i32_w]
        rfl
      refine one_ (i := 6) (N := some 108) #[o1, o1, o1, o1, o1, o1, o1, o0, o0] rfl rfl (one_of HT_.out (by kernel_rfl)) (by decide) (fun K hK => ?_)
      refine goes_ Try.func84 (by kernel_rfl) rfl #[.slice Ao125 t156.length co125, .slice Ao126 t152.length co126] (by rfl) rfl rfl (by (try simp only [zR, zS, zT]); first | done | rfl | (simp only [zP, zQ]; rfl)) ?_
      with_reducible refine (backhaulref01_SameTexts.calls k _ _ t156 _ _ t152 t163 _ ?side1 ?side2 ?side3 ?side4 A107.out).mono ?_
      (case side1 => repeat (first | exact (Kd.R_reads' HO158.out).2.2 | (with_reducible refine Kd.C_alloc ?_ _) | (with_reducible refine Kd.C_drewN ?_ _) | (with_reducible refine Kd.C_drew ?_)))
      (case side2 => exact (Kd.R_reads' HO158.out).2.1)
      (case side3 => repeat (first | exact (Kd.R_reads' HO154.out).2.2 | (with_reducible refine Kd.C_alloc ?_ _) | (with_reducible refine Kd.C_drewN ?_ _) | (with_reducible refine Kd.C_drew ?_)))
      (case side4 => exact (Kd.R_reads' HO154.out).2.1)
      rintro e w' ⟨rfl, ⟨nd, rfl⟩⟩
      refine ⟨_, rfl, ?_⟩
      refine hK.out _ _ ⟨(zF BK155.out 0).trans rfl, (zF BK155.out 1).trans rfl, (zF BK155.out 2).trans rfl, (zF BK102.out 0).trans rfl, (zF BK102.out 1).trans rfl, (zF BK102.out 2).trans rfl⟩ (fun hHeld => ?_)
      clear hK K
      refine norm_ (a' := ?_) ?_ ?_
      rotate_left
      · show Act.put _ (some 108) _ = _
        simp only [Act.put, zH, zI, zJ, i64_w, i32_w]
        rfl
      refine one_ (i := 7) (N := none) #[o1, o1, o1, o1, o1, o1, o1, o1, o0] rfl rfl (one_of HT_.out (by kernel_rfl)) (by decide) (fun K hK => ?_)
      have hs127 : w124.cell? ⟨gb101, 0, none⟩ = some (.string a1_0) := (zF BK101.out 0).trans rfl; have hfs127 := zG BK101.out 0; have hns127_1 := NB102_101.out; have hns127_2 := NB103_101.out; have hns127_3 := NB155_101.out
      have hms127_1 := NB101_102.out
      have hms127_2 := NB101_103.out
      have hms127_3 := NB101_155.out
      have hs128 : w124.cell? ⟨gb101, 1, none⟩ = some (.int .i64 a1_1) := (zF BK101.out 1).trans rfl; have hfs128 := zG BK101.out 1; have hns128_1 := NB102_101.out; have hns128_2 := NB103_101.out; have hns128_3 := NB155_101.out
      have hms128_1 := NB101_102.out
      have hms128_2 := NB101_103.out
      have hms128_3 := NB101_155.out
      have hs129 : w124.cell? ⟨gb101, 2, none⟩ = some (.int .i64 a1_2) := (zF BK101.out 2).trans rfl; have hfs129 := zG BK101.out 2; have hns129_1 := NB102_101.out; have hns129_2 := NB103_101.out; have hns129_3 := NB155_101.out
      have hms129_1 := NB101_102.out
      have hms129_2 := NB101_103.out
      have hms129_3 := NB101_155.out
      refine skip_ (w1 := ?_) (by rfl) rfl ?_ ?_
      rotate_left
      · go_simp
        rfl
      refine hK.out _ _ ⟨((cell_far (p := ⟨gb101, _, none⟩) NB155_101.out _).trans (((cell_far (p := ⟨gb101, _, none⟩) NB155_101.out _).trans (((cell_far (p := ⟨gb101, _, none⟩) NB155_101.out _).trans (hHeld.1)))))), ((cell_far (p := ⟨gb101, _, none⟩) NB155_101.out _).trans (((cell_far (p := ⟨gb101, _, none⟩) NB155_101.out _).trans (((cell_far (p := ⟨gb101, _, none⟩) NB155_101.out _).trans (hHeld.2.1)))))), ((cell_far (p := ⟨gb101, _, none⟩) NB155_101.out _).trans (((cell_far (p := ⟨gb101, _, none⟩) NB155_101.out _).trans (((cell_far (p := ⟨gb101, _, none⟩) NB155_101.out _).trans (hHeld.2.2.1)))))), ((cell_far (p := ⟨gb101, _, none⟩) NB102_101.out _).trans (((cell_far (p := ⟨gb101, _, none⟩) NB102_101.out _).trans (((cell_far (p := ⟨gb101, _, none⟩) NB102_101.out _).trans (hHeld.2.2.2.1)))))), ((cell_far (p := ⟨gb101, _, none⟩) NB102_101.out _).trans (((cell_far (p := ⟨gb101, _, none⟩) NB102_101.out _).trans (((cell_far (p := ⟨gb101, _, none⟩) NB102_101.out _).trans (hHeld.2.2.2.2.1)))))), ((cell_far (p := ⟨gb101, _, none⟩) NB102_101.out _).trans (((cell_far (p := ⟨gb101, _, none⟩) NB102_101.out _).trans (((cell_far (p := ⟨gb101, _, none⟩) NB102_101.out _).trans (hHeld.2.2.2.2.2))))))⟩ (fun hHeld => ?_)
      clear hK K
      refine pure_ (i := 8) (N := some 8) #[o1, o1, o1, o1, o1, o1, o1, o1, o1] rfl rfl (any_of HT_.out (by kernel_rfl)) (fun _ _ _ h => h) (Or.inl ⟨by rfl, qy⟩) qz ?_
      refine done_ (done_of HT_.out (by kernel_rfl)) ?_
      try go_wp2
      go_meet
      case rel => exact ⟨_, (t163), (t159), (t160), (t161), (t162), (t149), (t150), (t151), (by first | rfl | (simp; done) | (simp [*]; done)), H', ⟨by first | omega | exact Nat.le_refl _⟩, ⟨by (with_reducible repeat (first | refine zY ?_ _ | refine zAq ?_ | refine zZ ?_ _)); apply qP3; exact BK101.out⟩, ⟨by (with_reducible repeat (first | refine zY ?_ _ | refine zAq ?_ | refine zZ ?_ _)); refine blk_far ?_ NB102_101.out _; (with_reducible repeat (first | refine zY ?_ _ | refine zAq ?_ | refine zZ ?_ _)); refine blk_far ?_ NB102_101.out _; (with_reducible repeat (first | refine zY ?_ _ | refine zAq ?_ | refine zZ ?_ _)); refine blk_far ?_ NB102_101.out _; exact BK102.out⟩, ⟨by (with_reducible repeat (first | refine zY ?_ _ | refine zAq ?_ | refine zZ ?_ _)); refine blk_far ?_ NB103_101.out _; (with_reducible repeat (first | refine zY ?_ _ | refine zAq ?_ | refine zZ ?_ _)); refine blk_far ?_ NB103_101.out _; (with_reducible repeat (first | refine zY ?_ _ | refine zAq ?_ | refine zZ ?_ _)); refine blk_far ?_ NB103_101.out _; exact BK103.out⟩, ⟨by repeat (first | (with_reducible first | exact HI0.out | apply IsS56.alloc | apply IsS56.drewN | apply IsS56.drew | refine IsS56.far ?_ NB0_101.out _ | refine IsS56.far ?_ NB0_102.out _ | refine IsS56.far ?_ NB0_103.out _ | refine IsS56.far ?_ NB0_155.out _) | exact HI0.out)⟩, ⟨qJ HK.out⟩, ⟨qH HI0.out HB.out⟩⟩
    rw [if_neg c104] at H
    have c104b0 : (a2_0 == 4) = false := beq_eq_false_iff_ne.mpr c104
    have c104b1 : (a2_0 != 4) = true := bne_iff_ne.mpr c104
    by_cases c130 : a2_0 = 5
    · rw [if_pos c130] at H
      have c130b0 : (a2_0 == 5) = true := beq_iff_eq.mpr c130
      have c130b1 : (a2_0 != 5) = false := bne_eq_false_iff_eq.mpr c130
      clear c130
      replace H := Option.bind_eq_some_iff.mp H
      obtain ⟨⟨t164, t165, t166, t167⟩, A1310, H⟩ := H
      replace H : ((strict_Reader_Flag.f k s0_0 s0_1 s0_2 s0_3).bind fun bt169 => (backhaullaw06_read.j0 k (bt169.1 == t167) bt169.2.1 bt169.2.2.1 bt169.2.2.2.1 bt169.2.2.2.2 t164 t165 t166)) = some (r1, r2, r3, r4, r5, r6, r7, r8) := H
      have A131 := zA A1310
      clear A1310
      replace H := Option.bind_eq_some_iff.mp H
      obtain ⟨⟨t169, t170, t171, t172, t173⟩, A1320, H⟩ := H
      replace H : (backhaullaw06_read.j0 k (t169 == t167) t170 t171 t172 t173 t164 t165 t166) = some (r1, r2, r3, r4, r5, r6, r7, r8) := H
      have A132 := zA A1320
      clear A1320
      have H' := zA H
      clear H; have hnb133 := NB101_102.out; have hnc133 := NB102_101.out; have hnb134 := NB101_103.out; have hnc134 := NB103_101.out; have hnb135 := NB101_0.out; have hnc135 := NB0_101.out
      obtain ⟨_, _, _, _, _, _⟩ := qc3f BK101.out
      try go_wp2_with (first | ((with_reducible refine zJq (f := 132) rfl ?_); refine goesL_ (some 113) rfl rfl Try.func132 (by kernel_rfl) rfl #[.agg #[.string a1_0, .int .i64 a1_1, .int .i64 a1_2]] rfl (by (try simp only [zR, zS, zT]); first | done | rfl | (simp only [zP, zQ]; rfl)) ?_; (with_reducible refine (backhaulref06_Flag.calls k a1_0 a1_1 a1_2 t164 t165 t166 t167 _ A131.out).mono ?_); rintro e w137 ⟨rfl, hb⟩; refine ⟨_, rfl, ?_⟩; have n0_ := zA (IsS56.below (by repeat (first | (with_reducible first | exact HI0.out | apply IsS56.alloc | apply IsS56.drewN | apply IsS56.drew | refine IsS56.far ?_ NB0_101.out _ | refine IsS56.far ?_ NB0_102.out _ | refine IsS56.far ?_ NB0_103.out _) | exact HI0.out)) hb); have n1_ := zA (qX BK101.out hb); have n2_ := zA (qX BK102.out hb); have n3_ := zA (qX BK103.out hb); have n4_ := zA (zBq (qJ HK.out) (KeepBut.of_below hb g none) (.inl rfl)); have n5_ := zA (zV (qH HI0.out HB.out) hb); clear HI0 BK101 BK102 BK103 HK HB; have HI0 := n0_; have BK101 := n1_; have BK102 := n2_; have BK103 := n3_; have HK := n4_; have HB := n5_; clear n0_ n1_ n2_ n3_ n4_ n5_; (try clear hb); (try clear hb2); (try clear hk); (try clear hi)) | ((with_reducible refine gate_dst (N := 19) rfl ?_); refine box_event qr (N := 19) qr (cs := #[.string (⟨#[]⟩ : ByteArray), .int .i64 0, .int .i64 0]) (t := 47) qg ?_; intro gb168 hg w138 hbox hb; have n0_ := zA (IsS56.below (by repeat (first | (with_reducible first | exact HI0.out | apply IsS56.alloc | apply IsS56.drewN | apply IsS56.drew | refine IsS56.far ?_ NB0_101.out _ | refine IsS56.far ?_ NB0_102.out _ | refine IsS56.far ?_ NB0_103.out _) | exact HI0.out)) hb); have n1_ := zA (qX BK101.out hb); have n2_ := zA (qX BK102.out hb); have n3_ := zA (qX BK103.out hb); have n4_ := zA (zBq (qJ HK.out) (KeepBut.of_below hb g none) (.inl rfl)); have n5_ := zA (zV (qH HI0.out HB.out) hb); have n6_ := zA (hbox); have n7_ := zA ((by rw [hg]; exact (keep_size (w := w) (g := g) (row := none) (qJ HK.out)) : w.heap.size ≤ gb168)); have n8_ := zA ((Nat.le_trans HW0.out (by rw [hg]; exact (keep_size (w := w) (g := g) (row := none) (qJ HK.out)) : w.heap.size ≤ gb168) : w0.heap.size ≤ gb168)); have n9_ := zA ((by rw [hg]; exact zLq (qL BK101.out) : gb101 ≠ gb168)); have n10_ := zA ((by rw [hg]; exact zMq (qL BK101.out) : gb168 ≠ gb101)); have n11_ := zA ((by rw [hg]; exact zLq (qL BK102.out) : gb102 ≠ gb168)); have n12_ := zA ((by rw [hg]; exact zMq (qL BK102.out) : gb168 ≠ gb102)); have n13_ := zA ((by rw [hg]; exact zLq (qL BK103.out) : gb103 ≠ gb168)); have n14_ := zA ((by rw [hg]; exact zMq (qL BK103.out) : gb168 ≠ gb103)); have n15_ := zA ((by rw [hg]; exact zLq (IsS56.lt (show IsS56 w0 _ g s0_0 s0_1 s0_2 s0_3 from by repeat (first | (with_reducible first | exact HI0.out | apply IsS56.alloc | apply IsS56.drewN | apply IsS56.drew | refine IsS56.far ?_ NB0_101.out _ | refine IsS56.far ?_ NB0_102.out _ | refine IsS56.far ?_ NB0_103.out _) | exact HI0.out))) : g ≠ gb168)); have n16_ := zA ((by rw [hg]; exact zMq (IsS56.lt (show IsS56 w0 _ g s0_0 s0_1 s0_2 s0_3 from by repeat (first | (with_reducible first | exact HI0.out | apply IsS56.alloc | apply IsS56.drewN | apply IsS56.drew | refine IsS56.far ?_ NB0_101.out _ | refine IsS56.far ?_ NB0_102.out _ | refine IsS56.far ?_ NB0_103.out _) | exact HI0.out))) : gb168 ≠ g)); clear HI0 BK101 BK102 BK103 HK HB; have HI0 := n0_; have BK101 := n1_; have BK102 := n2_; have BK103 := n3_; have HK := n4_; have HB := n5_; have BK168 := n6_; have GW168 := n7_; have GE168 := n8_; have NB101_168 := n9_; have NB168_101 := n10_; have NB102_168 := n11_; have NB168_102 := n12_; have NB103_168 := n13_; have NB168_103 := n14_; have NB0_168 := n15_; have NB168_0 := n16_; clear n0_ n1_ n2_ n3_ n4_ n5_ n6_ n7_ n8_ n9_ n10_ n11_ n12_ n13_ n14_ n15_ n16_ hb hbox hg; have hnb139 := NB168_101.out; have hnc139 := NB101_168.out; have hnb140 := NB168_102.out; have hnc140 := NB102_168.out; have hnb141 := NB168_103.out; have hnc141 := NB103_168.out; have hnb142 := NB168_0.out; have hnc142 := NB0_168.out; obtain ⟨_, _, _, _, _, _⟩ := qc3f BK168.out))
      have n0_ : Aside0 ((((w138.setCell ⟨gb168, 0, none⟩ (.string t164)).setCell ⟨gb168, 1, none⟩ (.int .i64 t165)).setCell ⟨gb168, 2, none⟩ (.int .i64 t166)).heap[gb101]? = some (.cells #[.string a1_0, .int .i64 a1_1, .int .i64 a1_2] 47 (0, 0))) := ⟨by (with_reducible repeat (first | refine zY ?_ _ | refine zAq ?_ | refine zZ ?_ _)); refine blk_far ?_ NB101_168.out _; (with_reducible repeat (first | refine zY ?_ _ | refine zAq ?_ | refine zZ ?_ _)); refine blk_far ?_ NB101_168.out _; (with_reducible repeat (first | refine zY ?_ _ | refine zAq ?_ | refine zZ ?_ _)); refine blk_far ?_ NB101_168.out _; exact BK101.out⟩
      have n1_ : Aside0 ((((w138.setCell ⟨gb168, 0, none⟩ (.string t164)).setCell ⟨gb168, 1, none⟩ (.int .i64 t165)).setCell ⟨gb168, 2, none⟩ (.int .i64 t166)).heap[gb102]? = some (.cells #[.int .i64 a2_0, .int .i64 a2_1, .int .i64 a2_2] 51 (0, 0))) := ⟨by (with_reducible repeat (first | refine zY ?_ _ | refine zAq ?_ | refine zZ ?_ _)); refine blk_far ?_ NB102_168.out _; (with_reducible repeat (first | refine zY ?_ _ | refine zAq ?_ | refine zZ ?_ _)); refine blk_far ?_ NB102_168.out _; (with_reducible repeat (first | refine zY ?_ _ | refine zAq ?_ | refine zZ ?_ _)); refine blk_far ?_ NB102_168.out _; exact BK102.out⟩
      have n2_ : Aside0 ((((w138.setCell ⟨gb168, 0, none⟩ (.string t164)).setCell ⟨gb168, 1, none⟩ (.int .i64 t165)).setCell ⟨gb168, 2, none⟩ (.int .i64 t166)).heap[gb103]? = some (.cells #[.string (⟨#[]⟩ : ByteArray), .int .i64 0, .int .i64 0] 47 (0, 0))) := ⟨by (with_reducible repeat (first | refine zY ?_ _ | refine zAq ?_ | refine zZ ?_ _)); refine blk_far ?_ NB103_168.out _; (with_reducible repeat (first | refine zY ?_ _ | refine zAq ?_ | refine zZ ?_ _)); refine blk_far ?_ NB103_168.out _; (with_reducible repeat (first | refine zY ?_ _ | refine zAq ?_ | refine zZ ?_ _)); refine blk_far ?_ NB103_168.out _; exact BK103.out⟩
      have n3_ : Aside0 ((((w138.setCell ⟨gb168, 0, none⟩ (.string t164)).setCell ⟨gb168, 1, none⟩ (.int .i64 t165)).setCell ⟨gb168, 2, none⟩ (.int .i64 t166)).heap[gb168]? = some (.cells #[.string t164, .int .i64 t165, .int .i64 t166] 47 (0, 0))) := ⟨by (with_reducible repeat (first | refine zY ?_ _ | refine zAq ?_ | refine zZ ?_ _)); apply qP3; exact BK168.out⟩
      have n4_ : Aside0 (IsS56 w0 (((w138.setCell ⟨gb168, 0, none⟩ (.string t164)).setCell ⟨gb168, 1, none⟩ (.int .i64 t165)).setCell ⟨gb168, 2, none⟩ (.int .i64 t166)) g s0_0 s0_1 s0_2 s0_3) := ⟨by repeat (first | (with_reducible first | exact HI0.out | apply IsS56.alloc | apply IsS56.drewN | apply IsS56.drew | refine IsS56.far ?_ NB0_101.out _ | refine IsS56.far ?_ NB0_102.out _ | refine IsS56.far ?_ NB0_103.out _ | refine IsS56.far ?_ NB0_168.out _) | exact HI0.out)⟩
      have n5_ : Aside0 (KeepBut w (((w138.setCell ⟨gb168, 0, none⟩ (.string t164)).setCell ⟨gb168, 1, none⟩ (.int .i64 t165)).setCell ⟨gb168, 2, none⟩ (.int .i64 t166)) g none) := ⟨qJ HK.out⟩
      have n6_ : Aside0 (Below w0.heap.size w0 (((w138.setCell ⟨gb168, 0, none⟩ (.string t164)).setCell ⟨gb168, 1, none⟩ (.int .i64 t165)).setCell ⟨gb168, 2, none⟩ (.int .i64 t166))) := ⟨qH HI0.out HB.out⟩
      (try clear BK101); (try clear BK102); (try clear BK103); (try clear BK168); (try clear HI0); (try clear HK); (try clear HB)
      generalize (((w138.setCell ⟨gb168, 0, none⟩ (.string t164)).setCell ⟨gb168, 1, none⟩ (.int .i64 t165)).setCell ⟨gb168, 2, none⟩ (.int .i64 t166)) = w144 at n0_ n1_ n2_ n3_ n4_ n5_ n6_ ⊢
      have BK101 := n0_; have BK102 := n1_; have BK103 := n2_; have BK168 := n3_; have HI0 := n4_; have HK := n5_; have HB := n6_; clear n0_ n1_ n2_ n3_ n4_ n5_ n6_; have n0_ := zA (zAq BK101.out); have n1_ := zA (zAq BK102.out); have n2_ := zA (zAq BK103.out); have n3_ := zA (zAq BK168.out); have n4_ := zA (IsS56.drew HI0.out); have n5_ := zA (zM HK.out); have n6_ := zA (zC HB.out); clear BK101; clear BK102; clear BK103; clear BK168; clear HI0; clear HK; clear HB; have BK101 := n0_; have BK102 := n1_; have BK103 := n2_; have BK168 := n3_; have HI0 := n4_; have HK := n5_; have HB := n6_; clear n0_ n1_ n2_ n3_ n4_ n5_ n6_
      refine start_ (n := 7) (S := fun w' => w'.cell? ⟨gb168, 0, none⟩ = some (.string t164) ∧ w'.cell? ⟨gb168, 1, none⟩ = some (.int .i64 t165) ∧ w'.cell? ⟨gb168, 2, none⟩ = some (.int .i64 t166)) (ds := []) #[o0, o0, o0, o0, o0, o0, o0] (by kernel_rfl) rfl rfl ⟨(zF BK168.out 0).trans rfl, (zF BK168.out 1).trans rfl, (zF BK168.out 2).trans rfl⟩ (fun hHeld => ?_)
      generalize w144.drew = w145 at BK101 BK102 BK103 BK168 HI0 HK HB hHeld ⊢
      refine pure_ (i := 1) (N := some 117) (v := ?_) (a' := ?_) #[o0, o1, o0, o0, o0, o0, o0] rfl rfl (by kernel_rfl) (fun _ _ _ h => h) (Or.inl ⟨by rfl, ?_⟩) ?_ ?_
      rotate_left
      · intro w'
        go_simp
        with_reducible rfl
      rotate_left
      · simp only [Act.put, zH, zI, zJ, i64_w, i32_w]
        rfl
      refine pure_ (i := 3) (N := some 119) (v := ?_) (a' := ?_) #[o0, o1, o0, o1, o0, o0, o0] rfl rfl (by kernel_rfl) (fun _ _ _ h => h) (Or.inl ⟨by rfl, ?_⟩) ?_ ?_
      rotate_left
      · intro w'
        go_simp
        with_reducible rfl
      rotate_left
      · simp only [Act.put, zH, zI, zJ, i64_w, i32_w]
        rfl
      refine take_ (i := 0) (N := some 116) (v := ?_) (a' := ?_) #[o1, o1, o0, o1, o0, o0, o0] rfl rfl (by kernel_rfl) (fun _ _ _ h => h) (Or.inl ⟨by rfl, ?_⟩) hHeld ?_ ?_
      rotate_left
      · rintro w' ⟨s0, s1, s2⟩
        go_simp
        with_reducible rfl
      rotate_left
      · simp only [Act.put, zH, zI, zJ, i64_w, i32_w]
        rfl
      refine one_ (i := 2) (N := some 118) #[o1, o1, o1, o1, o0, o0, o0] rfl rfl (by kernel_rfl) (by decide) (fun K hK => ?_)
      refine goes_ Try.func46 (by kernel_rfl) rfl #[.pointer (some ⟨g, 0, none⟩)] (by rfl) rfl rfl (by (try simp only [zR, zS, zT]); first | done | rfl | (simp only [zP, zQ]; rfl)) ?_
      with_reducible refine (strict_Reader_Flag.calls k g s0_0 s0_1 s0_2 s0_3 t169 t170 t171 t172 t173 w0 _ ?side1 ?side2 A132.out).mono ?_
      (case side1 => repeat (first | (with_reducible first | exact HI0.out | apply IsS56.alloc | apply IsS56.drewN | apply IsS56.drew | refine IsS56.far ?_ NB0_101.out _ | refine IsS56.far ?_ NB0_102.out _ | refine IsS56.far ?_ NB0_103.out _ | refine IsS56.far ?_ NB0_168.out _) | exact HI0.out))
      (case side2 => repeat (first | (with_reducible first | exact HB.out | apply zD | apply zB | apply zC | refine zE ?_ (IsS56.ge HI0.out) | refine zE ?_ GE101.out | refine zE ?_ GE102.out | refine zE ?_ GE103.out | refine zE ?_ GE168.out) | exact HB.out))
      rintro e w146 ⟨rfl, hi, hb, hk⟩
      refine ⟨_, rfl, ?_⟩
      have n0_ := zA (KeepBut.blk hk (g' := gb101) (o := .cells #[.string a1_0, .int .i64 a1_1, .int .i64 a1_2] 47 (0, 0)) (qW BK101.out) NB101_0.out (by simp)); have n1_ := zA (KeepBut.blk hk (g' := gb102) (o := .cells #[.int .i64 a2_0, .int .i64 a2_1, .int .i64 a2_2] 51 (0, 0)) (qW BK102.out) NB102_0.out (by simp)); have n2_ := zA (KeepBut.blk hk (g' := gb103) (o := .cells #[.string (⟨#[]⟩ : ByteArray), .int .i64 0, .int .i64 0] 47 (0, 0)) (qW BK103.out) NB103_0.out (by simp)); have n3_ := zA (KeepBut.blk hk (g' := gb168) (o := .cells #[.string t164, .int .i64 t165, .int .i64 t166] 47 (0, 0)) (qW BK168.out) NB168_0.out (by simp)); have n4_ := zA (zBq (qJ HK.out) hk (.inl rfl)); have n5_ := zA (hb); have n6_ := zA (hi); clear BK101; clear BK102; clear BK103; clear BK168; clear HK; clear HB; clear HI0; have BK101 := n0_; have BK102 := n1_; have BK103 := n2_; have BK168 := n3_; have HK := n4_; have HB := n5_; have HI0 := n6_; clear n0_ n1_ n2_ n3_ n4_ n5_ n6_; (try clear hb); (try clear hb2); (try clear hk); (try clear hi)
      (try simp only [errW_none, errW_some])
      refine hK.out _ _ ⟨(zF BK168.out 0).trans rfl, (zF BK168.out 1).trans rfl, (zF BK168.out 2).trans rfl⟩ (fun hHeld => ?_)
      clear hK K
      refine norm_ (a' := ?_) ?_ ?_
      rotate_left
      · show Act.put _ (some 118) _ = _
        simp only [Act.put, zH, zI, zJ, i64_w, i32_w]
        rfl
      refine pure_ (i := 4) (N := some 120) (v := ?_) (a' := ?_) #[o1, o1, o1, o1, o1, o0, o0] rfl rfl (by kernel_rfl) (fun _ _ _ h => h) (Or.inl ⟨by rfl, ?_⟩) ?_ ?_
      rotate_left
      · intro w'
        go_simp
        with_reducible rfl
      rotate_left
      · simp only [Act.put, zH, zI, zJ, i64_w, i32_w]
        rfl
      refine one_ (i := 5) (N := none) #[o1, o1, o1, o1, o1, o1, o0] rfl rfl (by kernel_rfl) (by decide) (fun K hK => ?_)
      have hs147 : w146.cell? ⟨gb101, 0, none⟩ = some (.string a1_0) := (zF BK101.out 0).trans rfl; have hfs147 := zG BK101.out 0; have hns147_1 := NB102_101.out; have hns147_2 := NB103_101.out; have hns147_3 := NB168_101.out
      have hms147_1 := NB101_102.out
      have hms147_2 := NB101_103.out
      have hms147_3 := NB101_168.out
      have hs148 : w146.cell? ⟨gb101, 1, none⟩ = some (.int .i64 a1_1) := (zF BK101.out 1).trans rfl; have hfs148 := zG BK101.out 1; have hns148_1 := NB102_101.out; have hns148_2 := NB103_101.out; have hns148_3 := NB168_101.out
      have hms148_1 := NB101_102.out
      have hms148_2 := NB101_103.out
      have hms148_3 := NB101_168.out
      have hs149 : w146.cell? ⟨gb101, 2, none⟩ = some (.int .i64 a1_2) := (zF BK101.out 2).trans rfl; have hfs149 := zG BK101.out 2; have hns149_1 := NB102_101.out; have hns149_2 := NB103_101.out; have hns149_3 := NB168_101.out
      have hms149_1 := NB101_102.out
      have hms149_2 := NB101_103.out
      have hms149_3 := NB101_168.out
      refine skip_ (w1 := ?_) (by rfl) rfl ?_ ?_
      rotate_left
      · go_simp
        rfl
      refine hK.out _ _ ⟨((cell_far (p := ⟨gb101, _, none⟩) NB168_101.out _).trans (((cell_far (p := ⟨gb101, _, none⟩) NB168_101.out _).trans (((cell_far (p := ⟨gb101, _, none⟩) NB168_101.out _).trans (hHeld.1)))))), ((cell_far (p := ⟨gb101, _, none⟩) NB168_101.out _).trans (((cell_far (p := ⟨gb101, _, none⟩) NB168_101.out _).trans (((cell_far (p := ⟨gb101, _, none⟩) NB168_101.out _).trans (hHeld.2.1)))))), ((cell_far (p := ⟨gb101, _, none⟩) NB168_101.out _).trans (((cell_far (p := ⟨gb101, _, none⟩) NB168_101.out _).trans (((cell_far (p := ⟨gb101, _, none⟩) NB168_101.out _).trans (hHeld.2.2))))))⟩ (fun hHeld => ?_)
      clear hK K
      refine pure_ (i := 6) (N := some 8) (v := ?_) (a' := ?_) #[o1, o1, o1, o1, o1, o1, o1] rfl rfl (by kernel_rfl) (fun _ _ _ h => h) (Or.inl ⟨by rfl, ?_⟩) ?_ ?_
      rotate_left
      · intro w'
        go_simp
        with_reducible rfl
      rotate_left
      · simp only [Act.put, zH, zI, zJ, i64_w, i32_w]
        rfl
      refine done_ (by kernel_rfl) ?_
      try go_wp2
      go_meet
      case rel => exact ⟨_, ((t169 == t167)), (t170), (t171), (t172), (t173), (t164), (t165), (t166), (by first | rfl | (simp; done) | (simp [*]; done)), H', ⟨by first | omega | exact Nat.le_refl _⟩, ⟨by (with_reducible repeat (first | refine zY ?_ _ | refine zAq ?_ | refine zZ ?_ _)); apply qP3; exact BK101.out⟩, ⟨by (with_reducible repeat (first | refine zY ?_ _ | refine zAq ?_ | refine zZ ?_ _)); refine blk_far ?_ NB102_101.out _; (with_reducible repeat (first | refine zY ?_ _ | refine zAq ?_ | refine zZ ?_ _)); refine blk_far ?_ NB102_101.out _; (with_reducible repeat (first | refine zY ?_ _ | refine zAq ?_ | refine zZ ?_ _)); refine blk_far ?_ NB102_101.out _; exact BK102.out⟩, ⟨by (with_reducible repeat (first | refine zY ?_ _ | refine zAq ?_ | refine zZ ?_ _)); refine blk_far ?_ NB103_101.out _; (with_reducible repeat (first | refine zY ?_ _ | refine zAq ?_ | refine zZ ?_ _)); refine blk_far ?_ NB103_101.out _; (with_reducible repeat (first | refine zY ?_ _ | refine zAq ?_ | refine zZ ?_ _)); refine blk_far ?_ NB103_101.out _; exact BK103.out⟩, ⟨by repeat (first | (with_reducible first | exact HI0.out | apply IsS56.alloc | apply IsS56.drewN | apply IsS56.drew | refine IsS56.far ?_ NB0_101.out _ | refine IsS56.far ?_ NB0_102.out _ | refine IsS56.far ?_ NB0_103.out _ | refine IsS56.far ?_ NB0_168.out _) | exact HI0.out)⟩, ⟨qJ HK.out⟩, ⟨qH HI0.out HB.out⟩⟩
    rw [if_neg c130] at H
    have c130b0 : (a2_0 == 5) = false := beq_eq_false_iff_ne.mpr c130
    have c130b1 : (a2_0 != 5) = true := bne_iff_ne.mpr c130
    by_cases c150 : a2_0 = 6
    · rw [if_pos c150] at H
      have c150b0 : (a2_0 == 6) = true := beq_iff_eq.mpr c150
      have c150b1 : (a2_0 != 6) = false := bne_eq_false_iff_eq.mpr c150
      clear c150
      replace H := Option.bind_eq_some_iff.mp H
      obtain ⟨⟨t174, t175, t176⟩, A1510, H⟩ := H
      replace H : ((strict_Reader_End.f s0_0 s0_1 s0_2 s0_3).bind fun bt177 => (backhaullaw06_read.j0 k true bt177.1 bt177.2.1 bt177.2.2.1 bt177.2.2.2 t174 t175 t176)) = some (r1, r2, r3, r4, r5, r6, r7, r8) := H
      have A151 := zA A1510
      clear A1510
      replace H := Option.bind_eq_some_iff.mp H
      obtain ⟨⟨t177, t178, t179, t180⟩, A1520, H⟩ := H
      replace H : (backhaullaw06_read.j0 k true t177 t178 t179 t180 t174 t175 t176) = some (r1, r2, r3, r4, r5, r6, r7, r8) := H
      have A152 := zA A1520
      clear A1520
      have H' := zA H
      clear H; have hnb153 := NB101_102.out; have hnc153 := NB102_101.out; have hnb154 := NB101_103.out; have hnc154 := NB103_101.out; have hnb155 := NB101_0.out; have hnc155 := NB0_101.out
      obtain ⟨_, _, _, _, _, _⟩ := qc3f BK101.out
      go_wp2_with (first | ((with_reducible refine zJq (f := 122) rfl ?_); refine goesL_ (some 124) rfl rfl Try.func122 (by kernel_rfl) rfl #[.agg #[.string a1_0, .int .i64 a1_1, .int .i64 a1_2]] rfl (by (try simp only [zR, zS, zT]); first | done | rfl | (simp only [zP, zQ]; rfl)) ?_; (with_reducible refine (backhaulref06_End.calls a1_0 a1_1 a1_2 t174 t175 t176 _ A151.out).mono ?_); rintro e w157 ⟨rfl, hb⟩; refine ⟨_, rfl, ?_⟩; have n0_ := zA (IsS56.below (by repeat (first | (with_reducible first | exact HI0.out | apply IsS56.alloc | apply IsS56.drewN | apply IsS56.drew | refine IsS56.far ?_ NB0_101.out _ | refine IsS56.far ?_ NB0_102.out _ | refine IsS56.far ?_ NB0_103.out _) | exact HI0.out)) hb); have n1_ := zA (qX BK101.out hb); have n2_ := zA (qX BK102.out hb); have n3_ := zA (qX BK103.out hb); have n4_ := zA (zBq (qJ HK.out) (KeepBut.of_below hb g none) (.inl rfl)); have n5_ := zA (zV (qH HI0.out HB.out) hb); clear HI0 BK101 BK102 BK103 HK HB; have HI0 := n0_; have BK101 := n1_; have BK102 := n2_; have BK103 := n3_; have HK := n4_; have HB := n5_; clear n0_ n1_ n2_ n3_ n4_ n5_; (try clear hb); (try clear hb2); (try clear hk); (try clear hi); obtain ⟨_, _, _, _, _, _⟩ := qc3f BK101.out) | ((with_reducible refine zJq (f := 74) rfl ?_); refine goesL_ (some 126) rfl rfl Try.func74 (by kernel_rfl) rfl #[.pointer (some ⟨g, 0, none⟩)] rfl (by (try simp only [zR, zS, zT]); first | done | rfl | (simp only [zP, zQ]; rfl)) ?_; (with_reducible refine (strict_Reader_End.calls g s0_0 s0_1 s0_2 s0_3 t177 t178 t179 t180 w0 _ ?side1 ?side2 A152.out).mono ?_); (case side1 => repeat (first | (with_reducible first | exact HI0.out | apply IsS56.alloc | apply IsS56.drewN | apply IsS56.drew | refine IsS56.far ?_ NB0_101.out _ | refine IsS56.far ?_ NB0_102.out _ | refine IsS56.far ?_ NB0_103.out _) | exact HI0.out)); (case side2 => repeat (first | (with_reducible first | exact HB.out | apply zD | apply zB | apply zC | refine zE ?_ (IsS56.ge HI0.out) | refine zE ?_ GE101.out | refine zE ?_ GE102.out | refine zE ?_ GE103.out) | exact HB.out)); rintro e w159 ⟨rfl, hi, hb, hk⟩; refine ⟨_, rfl, ?_⟩; have n0_ := zA (KeepBut.blk hk (g' := gb101) (o := .cells #[.string t174, .int .i64 t175, .int .i64 t176] 47 (0, 0)) (qV BK101.out) NB101_0.out (by simp)); have n1_ := zA (KeepBut.blk hk (g' := gb102) (o := .cells #[.int .i64 a2_0, .int .i64 a2_1, .int .i64 a2_2] 51 (0, 0)) (qW BK102.out) NB102_0.out (by simp)); have n2_ := zA (KeepBut.blk hk (g' := gb103) (o := .cells #[.string (⟨#[]⟩ : ByteArray), .int .i64 0, .int .i64 0] 47 (0, 0)) (qW BK103.out) NB103_0.out (by simp)); have n3_ := zA (zBq (qJ HK.out) hk (.inl rfl)); have n4_ := zA (hb); have n5_ := zA (hi); clear BK101 BK102 BK103 HK HB HI0; have BK101 := n0_; have BK102 := n1_; have BK103 := n2_; have HK := n3_; have HB := n4_; have HI0 := n5_; clear n0_ n1_ n2_ n3_ n4_ n5_; (try clear hb); (try clear hb2); (try clear hk); (try clear hi); (try simp only [errW_none, errW_some])))
      go_meet
      case rel => exact ⟨_, (true), (t177), (t178), (t179), (t180), (t174), (t175), (t176), (by first | rfl | (simp; done) | (simp [*]; done)), H', ⟨by first | omega | exact Nat.le_refl _⟩, ⟨by exact BK101.out⟩, ⟨by exact BK102.out⟩, ⟨by exact BK103.out⟩, ⟨by repeat (first | (with_reducible first | exact HI0.out | apply IsS56.alloc | apply IsS56.drewN | apply IsS56.drew | refine IsS56.far ?_ NB0_101.out _ | refine IsS56.far ?_ NB0_102.out _ | refine IsS56.far ?_ NB0_103.out _) | exact HI0.out)⟩, ⟨qJ HK.out⟩, ⟨qH HI0.out HB.out⟩⟩
    rw [if_neg c150] at H
    have c150b0 : (a2_0 == 6) = false := beq_eq_false_iff_ne.mpr c150
    have c150b1 : (a2_0 != 6) = true := bne_iff_ne.mpr c150
    have H' := zA H
    clear H
    go_wp2
    go_meet
    case rel => exact ⟨_, (true), (s0_0), (s0_1), (s0_2), (s0_3), (a1_0), (a1_1), (a1_2), (by first | rfl | (simp; done) | (simp [*]; done)), H', ⟨by first | omega | exact Nat.le_refl _⟩, ⟨by exact BK101.out⟩, ⟨by exact BK102.out⟩, ⟨by exact BK103.out⟩, ⟨by repeat (first | (with_reducible first | exact HI0.out | apply IsS56.alloc | apply IsS56.drewN | apply IsS56.drew | refine IsS56.far ?_ NB0_101.out _ | refine IsS56.far ?_ NB0_102.out _ | refine IsS56.far ?_ NB0_103.out _) | exact HI0.out)⟩, ⟨qJ HK.out⟩, ⟨qH HI0.out HB.out⟩⟩
  case rest =>
    clear HC4
    try clear c1
    try clear p2
    try clear c4
    try clear c7
    try clear c8
    try clear c10
    try clear c11
    try clear c12
    try clear c13
    try clear c14
    try clear c15
    try clear c45
    try clear c46
    try clear c74
    try clear c78
    try clear c78b0
    try clear c78b1
    try clear c82
    try clear c84
    try clear c104
    try clear c104b0
    try clear c104b1
    try clear c108
    try clear c109
    try clear c110
    try clear c112
    try clear c113
    try clear c117
    try clear c118
    try clear c119
    try clear c120
    try clear c122
    try clear c130
    try clear c130b0
    try clear c130b1
    try clear c131
    try clear c132
    try clear c133
    try clear c134
    try clear c135
    try clear c139
    try clear c140
    try clear c141
    try clear c142
    try clear c150
    try clear c150b0
    try clear c150b1
    try clear c153
    try clear c154
    try clear c155
    obtain ⟨kq, x8_3, x1000_3, x1001_3, x1002_3, x1003_3, x102000_3, x102001_3, x102002_3, rfl, HA, HJ3, BK101, BK102, BK103, HI0, HK, HB⟩ := hcut
    cases kq with
    | zero => exact absurd HA.out (by simp [backhaullaw06_read.j0])
    | succ kj3 =>
      have H := HA.out
      clear HA
      simp only [backhaullaw06_read.j0] at H
      replace H := Option.bind_eq_some_iff.mp H
      obtain ⟨⟨t181, x1000_3, x1001_3, x1002_3, x1003_3⟩, A1600, H⟩ := H
      obtain ⟨rfl, rfl, rfl, rfl⟩ := strict_Reader_Err.same A1600
      replace H : ((strict_Why.f t181).bind fun bt186 => (if x8_3 = true then (if bt186.1 = x102002_3 then ((strict_Reader_At.f x1000_3 x1001_3 x1002_3 x1003_3).bind fun bt188 => (if bt188.1 = x102001_3 then (if bt186.1 = 0 then (some (x102000_3, x102001_3, x102002_3, true, bt188.2.1, bt188.2.2.1, bt188.2.2.2.1, bt188.2.2.2.2)) else (some (x102000_3, x102001_3, x102002_3, (bt186.2 == x102001_3), bt188.2.1, bt188.2.2.1, bt188.2.2.2.1, bt188.2.2.2.2))) else (some (x102000_3, x102001_3, x102002_3, false, bt188.2.1, bt188.2.2.1, bt188.2.2.2.1, bt188.2.2.2.2)))) else (some (x102000_3, x102001_3, x102002_3, false, x1000_3, x1001_3, x1002_3, x1003_3))) else (some (x102000_3, x102001_3, x102002_3, false, x1000_3, x1001_3, x1002_3, x1003_3)))) = some (r1, r2, r3, r4, r5, r6, r7, r8) := H
      have A160 := zA A1600
      clear A1600
      replace H := Option.bind_eq_some_iff.mp H
      obtain ⟨⟨t186, t187⟩, A1610, H⟩ := H
      replace H : (if x8_3 = true then (if t186 = x102002_3 then ((strict_Reader_At.f x1000_3 x1001_3 x1002_3 x1003_3).bind fun bt188 => (if bt188.1 = x102001_3 then (if t186 = 0 then (some (x102000_3, x102001_3, x102002_3, true, bt188.2.1, bt188.2.2.1, bt188.2.2.2.1, bt188.2.2.2.2)) else (some (x102000_3, x102001_3, x102002_3, (t187 == x102001_3), bt188.2.1, bt188.2.2.1, bt188.2.2.2.1, bt188.2.2.2.2))) else (some (x102000_3, x102001_3, x102002_3, false, bt188.2.1, bt188.2.2.1, bt188.2.2.2.1, bt188.2.2.2.2)))) else (some (x102000_3, x102001_3, x102002_3, false, x1000_3, x1001_3, x1002_3, x1003_3))) else (some (x102000_3, x102001_3, x102002_3, false, x1000_3, x1001_3, x1002_3, x1003_3))) = some (r1, r2, r3, r4, r5, r6, r7, r8) := H
      have A161 := zA A1610
      clear A1610
      by_cases c162 : x8_3 = true
      · subst c162
        have H1 : (if t186 = x102002_3 then ((strict_Reader_At.f x1000_3 x1001_3 x1002_3 x1003_3).bind fun bt188 => (if bt188.1 = x102001_3 then (if t186 = 0 then (some (x102000_3, x102001_3, x102002_3, true, bt188.2.1, bt188.2.2.1, bt188.2.2.2.1, bt188.2.2.2.2)) else (some (x102000_3, x102001_3, x102002_3, (t187 == x102001_3), bt188.2.1, bt188.2.2.1, bt188.2.2.2.1, bt188.2.2.2.2))) else (some (x102000_3, x102001_3, x102002_3, false, bt188.2.1, bt188.2.2.1, bt188.2.2.2.1, bt188.2.2.2.2)))) else (some (x102000_3, x102001_3, x102002_3, false, x1000_3, x1001_3, x1002_3, x1003_3))) = some (r1, r2, r3, r4, r5, r6, r7, r8) := by first | (rw [if_pos rfl] at H; exact H) | rfl
        clear H
        have H := H1
        clear H1
        by_cases c163 : t186 = x102002_3
        · rw [if_pos c163] at H
          have c163b0 : (t186 == x102002_3) = true := beq_iff_eq.mpr c163
          have c163b1 : (t186 != x102002_3) = false := bne_eq_false_iff_eq.mpr c163
          clear c163
          replace H := Option.bind_eq_some_iff.mp H
          obtain ⟨⟨t188, x1000_3, x1001_3, x1002_3, x1003_3⟩, A1640, H⟩ := H
          obtain ⟨rfl, rfl, rfl, rfl⟩ := strict_Reader_At.same A1640
          replace H : (if t188 = x102001_3 then (if t186 = 0 then (some (x102000_3, x102001_3, x102002_3, true, x1000_3, x1001_3, x1002_3, x1003_3)) else (some (x102000_3, x102001_3, x102002_3, (t187 == x102001_3), x1000_3, x1001_3, x1002_3, x1003_3))) else (some (x102000_3, x102001_3, x102002_3, false, x1000_3, x1001_3, x1002_3, x1003_3))) = some (r1, r2, r3, r4, r5, r6, r7, r8) := H
          have A164 := zA A1640
          clear A1640
          by_cases c165 : t188 = x102001_3
          · rw [if_pos c165] at H
            have c165b0 : (t188 == x102001_3) = true := beq_iff_eq.mpr c165
            have c165b1 : (t188 != x102001_3) = false := bne_eq_false_iff_eq.mpr c165
            clear c165
            by_cases c166 : t186 = 0
            · rw [if_pos c166] at H
              have c166b0 : (t186 == 0) = true := beq_iff_eq.mpr c166
              have c166b1 : (t186 != 0) = false := bne_eq_false_iff_eq.mpr c166
              clear c166
              simp only [zNq, zOq] at H
              obtain ⟨rfl, rfl, rfl, rfl, rfl, rfl, rfl, rfl⟩ := H
              try go_wp2_with (first | ((with_reducible refine zJq (f := 39) rfl ?_); refine goesL_ (some 129) rfl rfl Try.func39 (by kernel_rfl) rfl #[.pointer (some ⟨g, 0, none⟩)] rfl (by (try simp only [zR, zS, zT]); first | done | rfl | (simp only [zP, zQ]; rfl)) ?_; (with_reducible refine (strict_Reader_Err.calls g x1000_3 x1001_3 x1002_3 x1003_3 t181 x1000_3 x1001_3 x1002_3 x1003_3 w0 _ ?side1 ?side2 A160.out).mono ?_); (case side1 => repeat (first | (with_reducible first | exact HI0.out | apply IsS56.alloc | apply IsS56.drewN | apply IsS56.drew | refine IsS56.far ?_ NB0_101.out _ | refine IsS56.far ?_ NB0_102.out _ | refine IsS56.far ?_ NB0_103.out _) | exact HI0.out)); (case side2 => repeat (first | (with_reducible first | exact HB.out | apply zD | apply zB | apply zC | refine zE ?_ (IsS56.ge HI0.out) | refine zE ?_ GE101.out | refine zE ?_ GE102.out | refine zE ?_ GE103.out) | exact HB.out)); rintro e w167 ⟨rfl, hi, hb, hk⟩; refine ⟨_, rfl, ?_⟩; have n0_ := zA (KeepBut.blk hk (g' := gb101) (o := .cells #[.string x102000_3, .int .i64 x102001_3, .int .i64 x102002_3] 47 (0, 0)) (qW BK101.out) NB101_0.out (by simp)); have n1_ := zA (KeepBut.blk hk (g' := gb102) (o := .cells #[.int .i64 a2_0, .int .i64 a2_1, .int .i64 a2_2] 51 (0, 0)) (qW BK102.out) NB102_0.out (by simp)); have n2_ := zA (KeepBut.blk hk (g' := gb103) (o := .cells #[.string (⟨#[]⟩ : ByteArray), .int .i64 0, .int .i64 0] 47 (0, 0)) (qW BK103.out) NB103_0.out (by simp)); have n3_ := zA (zBq (qJ HK.out) hk (.inl rfl)); have n4_ := zA (hb); have n5_ := zA (hi); clear BK101 BK102 BK103 HK HB HI0; have BK101 := n0_; have BK102 := n1_; have BK103 := n2_; have HK := n3_; have HB := n4_; have HI0 := n5_; clear n0_ n1_ n2_ n3_ n4_ n5_; (try clear hb); (try clear hb2); (try clear hk); (try clear hi); (try simp only [errW_none, errW_some]); have CA161 := fun W => strict_Why.calls t181 t186 t187 W A161.out; try simp only [errW_none, errW_some] at CA161) | (go_at_call 38; (with_reducible refine (CA161 _).mono ?_); rintro e w168 ⟨rfl, hb⟩; have n0_ := zA (qX BK101.out hb); have n1_ := zA (qX BK102.out hb); have n2_ := zA (qX BK103.out hb); have n3_ := zA (IsS56.below (by repeat (first | (with_reducible first | exact HI0.out | apply IsS56.alloc | apply IsS56.drewN | apply IsS56.drew | refine IsS56.far ?_ NB0_101.out _ | refine IsS56.far ?_ NB0_102.out _ | refine IsS56.far ?_ NB0_103.out _) | exact HI0.out)) hb); have n4_ := zA (zBq (qJ HK.out) (KeepBut.of_below hb g none) (.inl rfl)); have n5_ := zA (zV (qH HI0.out HB.out) hb); clear BK101 BK102 BK103 HI0 HK HB; have BK101 := n0_; have BK102 := n1_; have BK103 := n2_; have HI0 := n3_; have HK := n4_; have HB := n5_; clear n0_ n1_ n2_ n3_ n4_ n5_; (try clear hb); (try clear hb2); (try clear hk); (try clear hi)))
              have n0_ := zA (zAq BK101.out); have n1_ := zA (zAq BK102.out); have n2_ := zA (zAq BK103.out); have n3_ := zA (IsS56.drew HI0.out); have n4_ := zA (zM HK.out); have n5_ := zA (zC HB.out); clear BK101; clear BK102; clear BK103; clear HI0; clear HK; clear HB; have BK101 := n0_; have BK102 := n1_; have BK103 := n2_; have HI0 := n3_; have HK := n4_; have HB := n5_; clear n0_ n1_ n2_ n3_ n4_ n5_
              refine start_ (n := 27) (S := fun w' => w'.cell? ⟨gb101, 0, none⟩ = some (.string x102000_3) ∧ w'.cell? ⟨gb101, 1, none⟩ = some (.int .i64 x102001_3) ∧ w'.cell? ⟨gb101, 2, none⟩ = some (.int .i64 x102002_3)) (ds := []) #[o0, o0, o0, o0, o0, o0, o0, o0, o0, o0, o0, o0, o0, o0, o0, o0, o0, o0, o0, o0, o0, o0, o0, o0, o0, o0, o0] (by kernel_rfl) rfl rfl ⟨(zF BK101.out 0).trans rfl, (zF BK101.out 1).trans rfl, (zF BK101.out 2).trans rfl⟩ (fun hHeld => ?_); refine with_tabW backhaullaw06_read.tab25 backhaullaw06_read.bits25 (fun HT_ HW_ => ?_)
              generalize w168.drew = w169 at BK101 BK102 BK103 HI0 HK HB hHeld ⊢
              refine pure_ (i := 1) (N := some 134) #[o0, o1, o0, o0, o0, o0, o0, o0, o0, o0, o0, o0, o0, o0, o0, o0, o0, o0, o0, o0, o0, o0, o0, o0, o0, o0, o0] rfl rfl (any_of HT_.out (by kernel_rfl)) (fun _ _ _ h => h) (Or.inl ⟨by rfl, qy⟩) qz ?_
              refine pure_ (i := 2) (N := some 135) #[o0, o1, o1, o0, o0, o0, o0, o0, o0, o0, o0, o0, o0, o0, o0, o0, o0, o0, o0, o0, o0, o0, o0, o0, o0, o0, o0] rfl rfl (any_of HT_.out (by kernel_rfl)) (fun _ _ _ h => h) (Or.inl ⟨by rfl, qy⟩) qz ?_
              refine pure_ (i := 3) (N := some 136) #[o0, o1, o1, o1, o0, o0, o0, o0, o0, o0, o0, o0, o0, o0, o0, o0, o0, o0, o0, o0, o0, o0, o0, o0, o0, o0, o0] rfl rfl (any_of HT_.out (by kernel_rfl)) (fun _ _ _ h => h) (Or.inl ⟨by rfl, qy⟩) qz ?_
              refine pure_ (i := 4) (N := some 137) #[o0, o1, o1, o1, o1, o0, o0, o0, o0, o0, o0, o0, o0, o0, o0, o0, o0, o0, o0, o0, o0, o0, o0, o0, o0, o0, o0] rfl rfl (any_of HT_.out (by kernel_rfl)) (fun _ _ _ h => h) (Or.inl ⟨by rfl, qy⟩) qz ?_
              refine take_ (i := 0) (N := some 133) (v := ?_) (a' := ?_) #[o1, o1, o1, o1, o1, o0, o0, o0, o0, o0, o0, o0, o0, o0, o0, o0, o0, o0, o0, o0, o0, o0, o0, o0, o0, o0, o0] rfl rfl (take_ofW HT_.out HW_.out (by kernel_rfl)) (fun _ _ _ h => h) (Or.inl ⟨by rfl, ?_⟩) hHeld ?_ ?_
              rotate_left
              · rintro w' ⟨s0, s1, s2⟩
                go_simp
                with_reducible rfl
              rotate_left
              · simp only [Act.put, zH, zI, zJ, i64_w, i32_w]
                rfl
              refine take_ (i := 5) (N := some 138) (v := ?_) (a' := ?_) #[o1, o1, o1, o1, o1, o1, o0, o0, o0, o0, o0, o0, o0, o0, o0, o0, o0, o0, o0, o0, o0, o0, o0, o0, o0, o0, o0] rfl rfl (take_ofW HT_.out HW_.out (by kernel_rfl)) (fun _ _ _ h => h) (Or.inl ⟨by rfl, ?_⟩) hHeld ?_ ?_
              rotate_left
              · rintro w' ⟨s0, s1, s2⟩
                go_simp
                with_reducible rfl
              rotate_left
              · simp only [Act.put, zH, zI, zJ, i64_w, i32_w]
                rfl
              refine pure_ (i := 6) (N := some 139) #[o1, o1, o1, o1, o1, o1, o1, o0, o0, o0, o0, o0, o0, o0, o0, o0, o0, o0, o0, o0, o0, o0, o0, o0, o0, o0, o0] rfl rfl (any_of HT_.out (by kernel_rfl)) (fun _ _ _ h => h) (Or.inl ⟨by rfl, qy⟩) qz ?_
              refine pure_ (i := 7) (N := some 140) #[o1, o1, o1, o1, o1, o1, o1, o1, o0, o0, o0, o0, o0, o0, o0, o0, o0, o0, o0, o0, o0, o0, o0, o0, o0, o0, o0] rfl rfl (any_of HT_.out (by kernel_rfl)) (fun _ _ _ h => h) (Or.inl ⟨by rfl, qy⟩) qz ?_
              refine pure_ (i := 8) (N := some 141) #[o1, o1, o1, o1, o1, o1, o1, o1, o1, o0, o0, o0, o0, o0, o0, o0, o0, o0, o0, o0, o0, o0, o0, o0, o0, o0, o0] rfl rfl (any_of HT_.out (by kernel_rfl)) (fun _ _ _ h => h) (Or.inl ⟨by rfl, qy⟩) qz ?_
              refine pure_ (i := 9) (N := some 142) #[o1, o1, o1, o1, o1, o1, o1, o1, o1, o1, o0, o0, o0, o0, o0, o0, o0, o0, o0, o0, o0, o0, o0, o0, o0, o0, o0] rfl rfl (any_of HT_.out (by kernel_rfl)) (fun _ _ _ h => h) (Or.inl ⟨by rfl, qy⟩) qz ?_
              refine pure_ (i := 11) (N := some 144) #[o1, o1, o1, o1, o1, o1, o1, o1, o1, o1, o0, o1, o0, o0, o0, o0, o0, o0, o0, o0, o0, o0, o0, o0, o0, o0, o0] rfl rfl (any_of HT_.out (by kernel_rfl)) (fun _ _ _ h => h) (Or.inl ⟨by rfl, qy⟩) qz ?_
              refine take_ (i := 12) (N := some 145) (v := ?_) (a' := ?_) #[o1, o1, o1, o1, o1, o1, o1, o1, o1, o1, o0, o1, o1, o0, o0, o0, o0, o0, o0, o0, o0, o0, o0, o0, o0, o0, o0] rfl rfl (take_ofW HT_.out HW_.out (by kernel_rfl)) (fun _ _ _ h => h) (Or.inl ⟨by rfl, ?_⟩) hHeld ?_ ?_
              rotate_left
              · rintro w' ⟨s0, s1, s2⟩
                go_simp
                with_reducible rfl
              rotate_left
              · simp only [Act.put, zH, zI, zJ, i64_w, i32_w]
                rfl
              refine one_ (i := 10) (N := some 143) #[o1, o1, o1, o1, o1, o1, o1, o1, o1, o1, o1, o1, o1, o0, o0, o0, o0, o0, o0, o0, o0, o0, o0, o0, o0, o0, o0] rfl rfl (one_of HT_.out (by kernel_rfl)) (by decide) (fun K hK => ?_)
              refine goes_ Try.func40 (by kernel_rfl) rfl #[.pointer (some ⟨g, 0, none⟩)] (by rfl) rfl rfl (by (try simp only [zR, zS, zT]); first | done | rfl | (simp only [zP, zQ]; rfl)) ?_
              with_reducible refine (strict_Reader_At.calls g x1000_3 x1001_3 x1002_3 x1003_3 t188 x1000_3 x1001_3 x1002_3 x1003_3 w0 _ ?side1 ?side2 A164.out).mono ?_
              (case side1 => repeat (first | (with_reducible first | exact HI0.out | apply IsS56.alloc | apply IsS56.drewN | apply IsS56.drew | refine IsS56.far ?_ NB0_101.out _ | refine IsS56.far ?_ NB0_102.out _ | refine IsS56.far ?_ NB0_103.out _) | exact HI0.out))
              (case side2 => repeat (first | (with_reducible first | exact HB.out | apply zD | apply zB | apply zC | refine zE ?_ (IsS56.ge HI0.out) | refine zE ?_ GE101.out | refine zE ?_ GE102.out | refine zE ?_ GE103.out) | exact HB.out))
              rintro e w170 ⟨rfl, hi, hb, hk⟩
              refine ⟨_, rfl, ?_⟩
              have n0_ := zA (KeepBut.blk hk (g' := gb101) (o := .cells #[.string x102000_3, .int .i64 x102001_3, .int .i64 x102002_3] 47 (0, 0)) (qW BK101.out) NB101_0.out (by simp)); have n1_ := zA (KeepBut.blk hk (g' := gb102) (o := .cells #[.int .i64 a2_0, .int .i64 a2_1, .int .i64 a2_2] 51 (0, 0)) (qW BK102.out) NB102_0.out (by simp)); have n2_ := zA (KeepBut.blk hk (g' := gb103) (o := .cells #[.string (⟨#[]⟩ : ByteArray), .int .i64 0, .int .i64 0] 47 (0, 0)) (qW BK103.out) NB103_0.out (by simp)); have n3_ := zA (zBq (qJ HK.out) hk (.inl rfl)); have n4_ := zA (hb); have n5_ := zA (hi); clear BK101; clear BK102; clear BK103; clear HK; clear HB; clear HI0; have BK101 := n0_; have BK102 := n1_; have BK103 := n2_; have HK := n3_; have HB := n4_; have HI0 := n5_; clear n0_ n1_ n2_ n3_ n4_ n5_; (try clear hb); (try clear hb2); (try clear hk); (try clear hi)
              (try simp only [errW_none, errW_some])
              refine hK.out _ _ ⟨(zF BK101.out 0).trans rfl, (zF BK101.out 1).trans rfl, (zF BK101.out 2).trans rfl⟩ (fun hHeld => ?_)
              clear hK K
              refine norm_ (a' := ?_) ?_ ?_
              rotate_left
              · show Act.put _ (some 143) _ = _
                simp only [Act.put, zH, zI, zJ, i64_w, i32_w]
                rfl
              refine pure_ (i := 13) (N := some 146) #[o1, o1, o1, o1, o1, o1, o1, o1, o1, o1, o1, o1, o1, o1, o0, o0, o0, o0, o0, o0, o0, o0, o0, o0, o0, o0, o0] rfl rfl (any_of HT_.out (by kernel_rfl)) (fun _ _ _ h => h) (Or.inl ⟨by rfl, qy⟩) qz ?_
              refine pure_ (i := 14) (N := some 147) #[o1, o1, o1, o1, o1, o1, o1, o1, o1, o1, o1, o1, o1, o1, o1, o0, o0, o0, o0, o0, o0, o0, o0, o0, o0, o0, o0] rfl rfl (any_of HT_.out (by kernel_rfl)) (fun _ _ _ h => h) (Or.inl ⟨by rfl, qy⟩) qz ?_
              refine pure_ (i := 15) (N := some 148) #[o1, o1, o1, o1, o1, o1, o1, o1, o1, o1, o1, o1, o1, o1, o1, o1, o0, o0, o0, o0, o0, o0, o0, o0, o0, o0, o0] rfl rfl (any_of HT_.out (by kernel_rfl)) (fun _ _ _ h => h) (Or.inl ⟨by rfl, qy⟩) qz ?_
              refine pure_ (i := 16) (N := some 149) #[o1, o1, o1, o1, o1, o1, o1, o1, o1, o1, o1, o1, o1, o1, o1, o1, o1, o0, o0, o0, o0, o0, o0, o0, o0, o0, o0] rfl rfl (any_of HT_.out (by kernel_rfl)) (fun _ _ _ h => h) (Or.inl ⟨by rfl, qy⟩) qz ?_
              refine pure_ (i := 17) (N := some 150) #[o1, o1, o1, o1, o1, o1, o1, o1, o1, o1, o1, o1, o1, o1, o1, o1, o1, o1, o0, o0, o0, o0, o0, o0, o0, o0, o0] rfl rfl (any_of HT_.out (by kernel_rfl)) (fun _ _ _ h => h) (Or.inl ⟨by rfl, qy⟩) qz ?_
              refine pure_ (i := 18) (N := some 151) #[o1, o1, o1, o1, o1, o1, o1, o1, o1, o1, o1, o1, o1, o1, o1, o1, o1, o1, o1, o0, o0, o0, o0, o0, o0, o0, o0] rfl rfl (any_of HT_.out (by kernel_rfl)) (fun _ _ _ h => h) (Or.inl ⟨by rfl, qy⟩) qz ?_
              refine pure_ (i := 19) (N := some 152) (v := undef) (a' := ?_) #[o1, o1, o1, o1, o1, o1, o1, o1, o1, o1, o1, o1, o1, o1, o1, o1, o1, o1, o1, o1, o0, o0, o0, o0, o0, o0, o0] rfl rfl (any_of HT_.out (by kernel_rfl)) (fun _ _ _ h => h) (Or.inr ⟨by rfl, rfl⟩) ?_ ?_
              rotate_left
              · simp only [Act.put, zH, zI, zJ, i64_w, i32_w]
                rfl
              refine pure_ (i := 20) (N := some 153) (v := undef) (a' := ?_) #[o1, o1, o1, o1, o1, o1, o1, o1, o1, o1, o1, o1, o1, o1, o1, o1, o1, o1, o1, o1, o1, o0, o0, o0, o0, o0, o0] rfl rfl (any_of HT_.out (by kernel_rfl)) (fun _ _ _ h => h) (Or.inr ⟨by rfl, rfl⟩) ?_ ?_
              rotate_left
              · simp only [Act.put, zH, zI, zJ, i64_w, i32_w]
                rfl
              refine pure_ (i := 21) (N := some 154) (v := undef) (a' := ?_) #[o1, o1, o1, o1, o1, o1, o1, o1, o1, o1, o1, o1, o1, o1, o1, o1, o1, o1, o1, o1, o1, o1, o0, o0, o0, o0, o0] rfl rfl (any_of HT_.out (by kernel_rfl)) (fun _ _ _ h => h) (Or.inr ⟨by rfl, rfl⟩) ?_ ?_
              rotate_left
              · simp only [Act.put, zH, zI, zJ, i64_w, i32_w]
                rfl
              refine pure_ (i := 22) (N := some 155) (v := undef) (a' := ?_) #[o1, o1, o1, o1, o1, o1, o1, o1, o1, o1, o1, o1, o1, o1, o1, o1, o1, o1, o1, o1, o1, o1, o1, o0, o0, o0, o0] rfl rfl (any_of HT_.out (by kernel_rfl)) (fun _ _ _ h => h) (Or.inr ⟨by rfl, rfl⟩) ?_ ?_
              rotate_left
              · simp only [Act.put, zH, zI, zJ, i64_w, i32_w]
                rfl
              refine pure_ (i := 23) (N := some 156) #[o1, o1, o1, o1, o1, o1, o1, o1, o1, o1, o1, o1, o1, o1, o1, o1, o1, o1, o1, o1, o1, o1, o1, o1, o0, o0, o0] rfl rfl (any_of HT_.out (by kernel_rfl)) (fun _ _ _ h => h) (Or.inl ⟨by rfl, qy⟩) qz ?_
              refine pure_ (i := 24) (N := some 157) #[o1, o1, o1, o1, o1, o1, o1, o1, o1, o1, o1, o1, o1, o1, o1, o1, o1, o1, o1, o1, o1, o1, o1, o1, o1, o0, o0] rfl rfl (any_of HT_.out (by kernel_rfl)) (fun _ _ _ h => h) (Or.inl ⟨by rfl, qy⟩) qz ?_
              refine one_ (i := 25) (N := none) #[o1, o1, o1, o1, o1, o1, o1, o1, o1, o1, o1, o1, o1, o1, o1, o1, o1, o1, o1, o1, o1, o1, o1, o1, o1, o1, o0] rfl rfl (one_of HT_.out (by kernel_rfl)) (by decide) (fun K hK => ?_)
              have hs171 : w170.cell? ⟨gb103, 0, none⟩ = some (.string (⟨#[]⟩ : ByteArray)) := (zF BK103.out 0).trans rfl; have hfs171 := zG BK103.out 0; have hns171_0 := NB101_103.out; have hns171_1 := NB102_103.out
              have hms171_0 := NB103_101.out
              have hms171_1 := NB103_102.out
              have hs172 : w170.cell? ⟨gb103, 1, none⟩ = some (.int .i64 0) := (zF BK103.out 1).trans rfl; have hfs172 := zG BK103.out 1; have hns172_0 := NB101_103.out; have hns172_1 := NB102_103.out
              have hms172_0 := NB103_101.out
              have hms172_1 := NB103_102.out
              have hs173 : w170.cell? ⟨gb103, 2, none⟩ = some (.int .i64 0) := (zF BK103.out 2).trans rfl; have hfs173 := zG BK103.out 2; have hns173_0 := NB101_103.out; have hns173_1 := NB102_103.out
              have hms173_0 := NB103_101.out
              have hms173_1 := NB103_102.out
              refine skip_ (w1 := ?_) (by rfl) rfl ?_ ?_
              rotate_left
              · go_simp
                rfl
              refine hK.out _ _ ⟨((cell_far (p := ⟨gb103, _, none⟩) NB101_103.out _).trans (((cell_far (p := ⟨gb103, _, none⟩) NB101_103.out _).trans (((cell_far (p := ⟨gb103, _, none⟩) NB101_103.out _).trans (hHeld.1)))))), ((cell_far (p := ⟨gb103, _, none⟩) NB101_103.out _).trans (((cell_far (p := ⟨gb103, _, none⟩) NB101_103.out _).trans (((cell_far (p := ⟨gb103, _, none⟩) NB101_103.out _).trans (hHeld.2.1)))))), ((cell_far (p := ⟨gb103, _, none⟩) NB101_103.out _).trans (((cell_far (p := ⟨gb103, _, none⟩) NB101_103.out _).trans (((cell_far (p := ⟨gb103, _, none⟩) NB101_103.out _).trans (hHeld.2.2))))))⟩ (fun hHeld => ?_)
              clear hK K
              refine pure_ (i := 26) (N := some 7) #[o1, o1, o1, o1, o1, o1, o1, o1, o1, o1, o1, o1, o1, o1, o1, o1, o1, o1, o1, o1, o1, o1, o1, o1, o1, o1, o1] rfl rfl (any_of HT_.out (by kernel_rfl)) (fun _ _ _ h => h) (Or.inl ⟨by rfl, qy⟩) qz ?_
              refine done_ (done_of HT_.out (by kernel_rfl)) ?_
              try go_wp2
              refine bodyPost_ret (results_ct rfl _ _ gb103 47 #[.string x102000_3, .int .i64 x102001_3, .int .i64 x102002_3] (0, 0) _ rfl (qV BK103.out) Try.underlying47 rfl (by kernel_rfl)) rfl ?_
              exact ⟨qE, by repeat (first | (with_reducible first | exact HI0.out | apply IsS56.alloc | apply IsS56.drewN | apply IsS56.drew | refine IsS56.far ?_ NB0_101.out _ | refine IsS56.far ?_ NB0_102.out _ | refine IsS56.far ?_ NB0_103.out _) | exact HI0.out), qH HI0.out HB.out, qJ HK.out⟩
            rw [if_neg c166] at H
            have c166b0 : (t186 == 0) = false := beq_eq_false_iff_ne.mpr c166
            have c166b1 : (t186 != 0) = true := bne_iff_ne.mpr c166
            simp only [zNq, zOq] at H
            obtain ⟨rfl, rfl, rfl, rfl, rfl, rfl, rfl, rfl⟩ := H
            try go_wp2_with (first | ((with_reducible refine zJq (f := 39) rfl ?_); refine goesL_ (some 129) rfl rfl Try.func39 (by kernel_rfl) rfl #[.pointer (some ⟨g, 0, none⟩)] rfl (by (try simp only [zR, zS, zT]); first | done | rfl | (simp only [zP, zQ]; rfl)) ?_; (with_reducible refine (strict_Reader_Err.calls g x1000_3 x1001_3 x1002_3 x1003_3 t181 x1000_3 x1001_3 x1002_3 x1003_3 w0 _ ?side1 ?side2 A160.out).mono ?_); (case side1 => repeat (first | (with_reducible first | exact HI0.out | apply IsS56.alloc | apply IsS56.drewN | apply IsS56.drew | refine IsS56.far ?_ NB0_101.out _ | refine IsS56.far ?_ NB0_102.out _ | refine IsS56.far ?_ NB0_103.out _) | exact HI0.out)); (case side2 => repeat (first | (with_reducible first | exact HB.out | apply zD | apply zB | apply zC | refine zE ?_ (IsS56.ge HI0.out) | refine zE ?_ GE101.out | refine zE ?_ GE102.out | refine zE ?_ GE103.out) | exact HB.out)); rintro e w174 ⟨rfl, hi, hb, hk⟩; refine ⟨_, rfl, ?_⟩; have n0_ := zA (KeepBut.blk hk (g' := gb101) (o := .cells #[.string x102000_3, .int .i64 x102001_3, .int .i64 x102002_3] 47 (0, 0)) (qW BK101.out) NB101_0.out (by simp)); have n1_ := zA (KeepBut.blk hk (g' := gb102) (o := .cells #[.int .i64 a2_0, .int .i64 a2_1, .int .i64 a2_2] 51 (0, 0)) (qW BK102.out) NB102_0.out (by simp)); have n2_ := zA (KeepBut.blk hk (g' := gb103) (o := .cells #[.string (⟨#[]⟩ : ByteArray), .int .i64 0, .int .i64 0] 47 (0, 0)) (qW BK103.out) NB103_0.out (by simp)); have n3_ := zA (zBq (qJ HK.out) hk (.inl rfl)); have n4_ := zA (hb); have n5_ := zA (hi); clear BK101 BK102 BK103 HK HB HI0; have BK101 := n0_; have BK102 := n1_; have BK103 := n2_; have HK := n3_; have HB := n4_; have HI0 := n5_; clear n0_ n1_ n2_ n3_ n4_ n5_; (try clear hb); (try clear hb2); (try clear hk); (try clear hi); (try simp only [errW_none, errW_some]); have CA161 := fun W => strict_Why.calls t181 t186 t187 W A161.out; try simp only [errW_none, errW_some] at CA161) | (go_at_call 38; (with_reducible refine (CA161 _).mono ?_); rintro e w175 ⟨rfl, hb⟩; have n0_ := zA (qX BK101.out hb); have n1_ := zA (qX BK102.out hb); have n2_ := zA (qX BK103.out hb); have n3_ := zA (IsS56.below (by repeat (first | (with_reducible first | exact HI0.out | apply IsS56.alloc | apply IsS56.drewN | apply IsS56.drew | refine IsS56.far ?_ NB0_101.out _ | refine IsS56.far ?_ NB0_102.out _ | refine IsS56.far ?_ NB0_103.out _) | exact HI0.out)) hb); have n4_ := zA (zBq (qJ HK.out) (KeepBut.of_below hb g none) (.inl rfl)); have n5_ := zA (zV (qH HI0.out HB.out) hb); clear BK101 BK102 BK103 HI0 HK HB; have BK101 := n0_; have BK102 := n1_; have BK103 := n2_; have HI0 := n3_; have HK := n4_; have HB := n5_; clear n0_ n1_ n2_ n3_ n4_ n5_; (try clear hb); (try clear hb2); (try clear hk); (try clear hi)))
            have n0_ := zA (zAq BK101.out); have n1_ := zA (zAq BK102.out); have n2_ := zA (zAq BK103.out); have n3_ := zA (IsS56.drew HI0.out); have n4_ := zA (zM HK.out); have n5_ := zA (zC HB.out); clear BK101; clear BK102; clear BK103; clear HI0; clear HK; clear HB; have BK101 := n0_; have BK102 := n1_; have BK103 := n2_; have HI0 := n3_; have HK := n4_; have HB := n5_; clear n0_ n1_ n2_ n3_ n4_ n5_
            refine start_ (n := 27) (S := fun w' => w'.cell? ⟨gb101, 0, none⟩ = some (.string x102000_3) ∧ w'.cell? ⟨gb101, 1, none⟩ = some (.int .i64 x102001_3) ∧ w'.cell? ⟨gb101, 2, none⟩ = some (.int .i64 x102002_3)) (ds := []) #[o0, o0, o0, o0, o0, o0, o0, o0, o0, o0, o0, o0, o0, o0, o0, o0, o0, o0, o0, o0, o0, o0, o0, o0, o0, o0, o0] (by kernel_rfl) rfl rfl ⟨(zF BK101.out 0).trans rfl, (zF BK101.out 1).trans rfl, (zF BK101.out 2).trans rfl⟩ (fun hHeld => ?_); refine with_tabW backhaullaw06_read.tab25 backhaullaw06_read.bits25 (fun HT_ HW_ => ?_)
            generalize w175.drew = w176 at BK101 BK102 BK103 HI0 HK HB hHeld ⊢
            refine pure_ (i := 1) (N := some 134) #[o0, o1, o0, o0, o0, o0, o0, o0, o0, o0, o0, o0, o0, o0, o0, o0, o0, o0, o0, o0, o0, o0, o0, o0, o0, o0, o0] rfl rfl (any_of HT_.out (by kernel_rfl)) (fun _ _ _ h => h) (Or.inl ⟨by rfl, qy⟩) qz ?_
            refine pure_ (i := 2) (N := some 135) #[o0, o1, o1, o0, o0, o0, o0, o0, o0, o0, o0, o0, o0, o0, o0, o0, o0, o0, o0, o0, o0, o0, o0, o0, o0, o0, o0] rfl rfl (any_of HT_.out (by kernel_rfl)) (fun _ _ _ h => h) (Or.inl ⟨by rfl, qy⟩) qz ?_
            refine pure_ (i := 3) (N := some 136) #[o0, o1, o1, o1, o0, o0, o0, o0, o0, o0, o0, o0, o0, o0, o0, o0, o0, o0, o0, o0, o0, o0, o0, o0, o0, o0, o0] rfl rfl (any_of HT_.out (by kernel_rfl)) (fun _ _ _ h => h) (Or.inl ⟨by rfl, qy⟩) qz ?_
            refine pure_ (i := 4) (N := some 137) #[o0, o1, o1, o1, o1, o0, o0, o0, o0, o0, o0, o0, o0, o0, o0, o0, o0, o0, o0, o0, o0, o0, o0, o0, o0, o0, o0] rfl rfl (any_of HT_.out (by kernel_rfl)) (fun _ _ _ h => h) (Or.inl ⟨by rfl, qy⟩) qz ?_
            refine take_ (i := 0) (N := some 133) (v := ?_) (a' := ?_) #[o1, o1, o1, o1, o1, o0, o0, o0, o0, o0, o0, o0, o0, o0, o0, o0, o0, o0, o0, o0, o0, o0, o0, o0, o0, o0, o0] rfl rfl (take_ofW HT_.out HW_.out (by kernel_rfl)) (fun _ _ _ h => h) (Or.inl ⟨by rfl, ?_⟩) hHeld ?_ ?_
            rotate_left
            · rintro w' ⟨s0, s1, s2⟩
              go_simp
              with_reducible rfl
            rotate_left
            · simp only [Act.put, zH, zI, zJ, i64_w, i32_w]
              rfl
            refine take_ (i := 5) (N := some 138) (v := ?_) (a' := ?_) #[o1, o1, o1, o1, o1, o1, o0, o0, o0, o0, o0, o0, o0, o0, o0, o0, o0, o0, o0, o0, o0, o0, o0, o0, o0, o0, o0] rfl rfl (take_ofW HT_.out HW_.out (by kernel_rfl)) (fun _ _ _ h => h) (Or.inl ⟨by rfl, ?_⟩) hHeld ?_ ?_
            rotate_left
            · rintro w' ⟨s0, s1, s2⟩
              go_simp
              with_reducible rfl
            rotate_left
            · simp only [Act.put, zH, zI, zJ, i64_w, i32_w]
              rfl
            refine pure_ (i := 6) (N := some 139) #[o1, o1, o1, o1, o1, o1, o1, o0, o0, o0, o0, o0, o0, o0, o0, o0, o0, o0, o0, o0, o0, o0, o0, o0, o0, o0, o0] rfl rfl (any_of HT_.out (by kernel_rfl)) (fun _ _ _ h => h) (Or.inl ⟨by rfl, qy⟩) qz ?_
            refine pure_ (i := 7) (N := some 140) #[o1, o1, o1, o1, o1, o1, o1, o1, o0, o0, o0, o0, o0, o0, o0, o0, o0, o0, o0, o0, o0, o0, o0, o0, o0, o0, o0] rfl rfl (any_of HT_.out (by kernel_rfl)) (fun _ _ _ h => h) (Or.inl ⟨by rfl, qy⟩) qz ?_
            refine pure_ (i := 8) (N := some 141) #[o1, o1, o1, o1, o1, o1, o1, o1, o1, o0, o0, o0, o0, o0, o0, o0, o0, o0, o0, o0, o0, o0, o0, o0, o0, o0, o0] rfl rfl (any_of HT_.out (by kernel_rfl)) (fun _ _ _ h => h) (Or.inl ⟨by rfl, qy⟩) qz ?_
            refine pure_ (i := 9) (N := some 142) #[o1, o1, o1, o1, o1, o1, o1, o1, o1, o1, o0, o0, o0, o0, o0, o0, o0, o0, o0, o0, o0, o0, o0, o0, o0, o0, o0] rfl rfl (any_of HT_.out (by kernel_rfl)) (fun _ _ _ h => h) (Or.inl ⟨by rfl, qy⟩) qz ?_
            refine pure_ (i := 11) (N := some 144) #[o1, o1, o1, o1, o1, o1, o1, o1, o1, o1, o0, o1, o0, o0, o0, o0, o0, o0, o0, o0, o0, o0, o0, o0, o0, o0, o0] rfl rfl (any_of HT_.out (by kernel_rfl)) (fun _ _ _ h => h) (Or.inl ⟨by rfl, qy⟩) qz ?_
            refine take_ (i := 12) (N := some 145) (v := ?_) (a' := ?_) #[o1, o1, o1, o1, o1, o1, o1, o1, o1, o1, o0, o1, o1, o0, o0, o0, o0, o0, o0, o0, o0, o0, o0, o0, o0, o0, o0] rfl rfl (take_ofW HT_.out HW_.out (by kernel_rfl)) (fun _ _ _ h => h) (Or.inl ⟨by rfl, ?_⟩) hHeld ?_ ?_
            rotate_left
            · rintro w' ⟨s0, s1, s2⟩
              go_simp
              with_reducible rfl
            rotate_left
            · simp only [Act.put, zH, zI, zJ, i64_w, i32_w]
              rfl
            refine one_ (i := 10) (N := some 143) #[o1, o1, o1, o1, o1, o1, o1, o1, o1, o1, o1, o1, o1, o0, o0, o0, o0, o0, o0, o0, o0, o0, o0, o0, o0, o0, o0] rfl rfl (one_of HT_.out (by kernel_rfl)) (by decide) (fun K hK => ?_)
            refine goes_ Try.func40 (by kernel_rfl) rfl #[.pointer (some ⟨g, 0, none⟩)] (by rfl) rfl rfl (by (try simp only [zR, zS, zT]); first | done | rfl | (simp only [zP, zQ]; rfl)) ?_
            with_reducible refine (strict_Reader_At.calls g x1000_3 x1001_3 x1002_3 x1003_3 t188 x1000_3 x1001_3 x1002_3 x1003_3 w0 _ ?side1 ?side2 A164.out).mono ?_
            (case side1 => repeat (first | (with_reducible first | exact HI0.out | apply IsS56.alloc | apply IsS56.drewN | apply IsS56.drew | refine IsS56.far ?_ NB0_101.out _ | refine IsS56.far ?_ NB0_102.out _ | refine IsS56.far ?_ NB0_103.out _) | exact HI0.out))
            (case side2 => repeat (first | (with_reducible first | exact HB.out | apply zD | apply zB | apply zC | refine zE ?_ (IsS56.ge HI0.out) | refine zE ?_ GE101.out | refine zE ?_ GE102.out | refine zE ?_ GE103.out) | exact HB.out))
            rintro e w177 ⟨rfl, hi, hb, hk⟩
            refine ⟨_, rfl, ?_⟩
            have n0_ := zA (KeepBut.blk hk (g' := gb101) (o := .cells #[.string x102000_3, .int .i64 x102001_3, .int .i64 x102002_3] 47 (0, 0)) (qW BK101.out) NB101_0.out (by simp)); have n1_ := zA (KeepBut.blk hk (g' := gb102) (o := .cells #[.int .i64 a2_0, .int .i64 a2_1, .int .i64 a2_2] 51 (0, 0)) (qW BK102.out) NB102_0.out (by simp)); have n2_ := zA (KeepBut.blk hk (g' := gb103) (o := .cells #[.string (⟨#[]⟩ : ByteArray), .int .i64 0, .int .i64 0] 47 (0, 0)) (qW BK103.out) NB103_0.out (by simp)); have n3_ := zA (zBq (qJ HK.out) hk (.inl rfl)); have n4_ := zA (hb); have n5_ := zA (hi); clear BK101; clear BK102; clear BK103; clear HK; clear HB; clear HI0; have BK101 := n0_; have BK102 := n1_; have BK103 := n2_; have HK := n3_; have HB := n4_; have HI0 := n5_; clear n0_ n1_ n2_ n3_ n4_ n5_; (try clear hb); (try clear hb2); (try clear hk); (try clear hi)
            (try simp only [errW_none, errW_some])
            refine hK.out _ _ ⟨(zF BK101.out 0).trans rfl, (zF BK101.out 1).trans rfl, (zF BK101.out 2).trans rfl⟩ (fun hHeld => ?_)
            clear hK K
            refine norm_ (a' := ?_) ?_ ?_
            rotate_left
            · show Act.put _ (some 143) _ = _
              simp only [Act.put, zH, zI, zJ, i64_w, i32_w]
              rfl
            refine pure_ (i := 13) (N := some 146) #[o1, o1, o1, o1, o1, o1, o1, o1, o1, o1, o1, o1, o1, o1, o0, o0, o0, o0, o0, o0, o0, o0, o0, o0, o0, o0, o0] rfl rfl (any_of HT_.out (by kernel_rfl)) (fun _ _ _ h => h) (Or.inl ⟨by rfl, qy⟩) qz ?_
            refine pure_ (i := 14) (N := some 147) #[o1, o1, o1, o1, o1, o1, o1, o1, o1, o1, o1, o1, o1, o1, o1, o0, o0, o0, o0, o0, o0, o0, o0, o0, o0, o0, o0] rfl rfl (any_of HT_.out (by kernel_rfl)) (fun _ _ _ h => h) (Or.inl ⟨by rfl, qy⟩) qz ?_
            refine pure_ (i := 15) (N := some 148) #[o1, o1, o1, o1, o1, o1, o1, o1, o1, o1, o1, o1, o1, o1, o1, o1, o0, o0, o0, o0, o0, o0, o0, o0, o0, o0, o0] rfl rfl (any_of HT_.out (by kernel_rfl)) (fun _ _ _ h => h) (Or.inl ⟨by rfl, qy⟩) qz ?_
            refine pure_ (i := 16) (N := some 149) #[o1, o1, o1, o1, o1, o1, o1, o1, o1, o1, o1, o1, o1, o1, o1, o1, o1, o0, o0, o0, o0, o0, o0, o0, o0, o0, o0] rfl rfl (any_of HT_.out (by kernel_rfl)) (fun _ _ _ h => h) (Or.inl ⟨by rfl, qy⟩) qz ?_
            refine pure_ (i := 17) (N := some 150) #[o1, o1, o1, o1, o1, o1, o1, o1, o1, o1, o1, o1, o1, o1, o1, o1, o1, o1, o0, o0, o0, o0, o0, o0, o0, o0, o0] rfl rfl (any_of HT_.out (by kernel_rfl)) (fun _ _ _ h => h) (Or.inl ⟨by rfl, qy⟩) qz ?_
            refine pure_ (i := 18) (N := some 151) #[o1, o1, o1, o1, o1, o1, o1, o1, o1, o1, o1, o1, o1, o1, o1, o1, o1, o1, o1, o0, o0, o0, o0, o0, o0, o0, o0] rfl rfl (any_of HT_.out (by kernel_rfl)) (fun _ _ _ h => h) (Or.inl ⟨by rfl, qy⟩) qz ?_
            refine pure_ (i := 19) (N := some 152) #[o1, o1, o1, o1, o1, o1, o1, o1, o1, o1, o1, o1, o1, o1, o1, o1, o1, o1, o1, o1, o0, o0, o0, o0, o0, o0, o0] rfl rfl (any_of HT_.out (by kernel_rfl)) (fun _ _ _ h => h) (Or.inl ⟨by rfl, qy⟩) qz ?_
            refine pure_ (i := 20) (N := some 153) #[o1, o1, o1, o1, o1, o1, o1, o1, o1, o1, o1, o1, o1, o1, o1, o1, o1, o1, o1, o1, o1, o0, o0, o0, o0, o0, o0] rfl rfl (any_of HT_.out (by kernel_rfl)) (fun _ _ _ h => h) (Or.inl ⟨by rfl, qy⟩) qz ?_
            refine take_ (i := 21) (N := some 154) (v := ?_) (a' := ?_) #[o1, o1, o1, o1, o1, o1, o1, o1, o1, o1, o1, o1, o1, o1, o1, o1, o1, o1, o1, o1, o1, o1, o0, o0, o0, o0, o0] rfl rfl (take_ofW HT_.out HW_.out (by kernel_rfl)) (fun _ _ _ h => h) (Or.inl ⟨by rfl, ?_⟩) hHeld ?_ ?_
            rotate_left
            · rintro w' ⟨s0, s1, s2⟩
              go_simp
              with_reducible rfl
            rotate_left
            · simp only [Act.put, zH, zI, zJ, i64_w, i32_w]
              rfl
            refine pure_ (i := 22) (N := some 155) #[o1, o1, o1, o1, o1, o1, o1, o1, o1, o1, o1, o1, o1, o1, o1, o1, o1, o1, o1, o1, o1, o1, o1, o0, o0, o0, o0] rfl rfl (any_of HT_.out (by kernel_rfl)) (fun _ _ _ h => h) (Or.inl ⟨by rfl, qy⟩) qz ?_
            refine pure_ (i := 23) (N := some 156) #[o1, o1, o1, o1, o1, o1, o1, o1, o1, o1, o1, o1, o1, o1, o1, o1, o1, o1, o1, o1, o1, o1, o1, o1, o0, o0, o0] rfl rfl (any_of HT_.out (by kernel_rfl)) (fun _ _ _ h => h) (Or.inl ⟨by rfl, qy⟩) qz ?_
            refine pure_ (i := 24) (N := some 157) #[o1, o1, o1, o1, o1, o1, o1, o1, o1, o1, o1, o1, o1, o1, o1, o1, o1, o1, o1, o1, o1, o1, o1, o1, o1, o0, o0] rfl rfl (any_of HT_.out (by kernel_rfl)) (fun _ _ _ h => h) (Or.inl ⟨by rfl, qy⟩) qz ?_
            refine one_ (i := 25) (N := none) #[o1, o1, o1, o1, o1, o1, o1, o1, o1, o1, o1, o1, o1, o1, o1, o1, o1, o1, o1, o1, o1, o1, o1, o1, o1, o1, o0] rfl rfl (one_of HT_.out (by kernel_rfl)) (by decide) (fun K hK => ?_)
            have hs178 : w177.cell? ⟨gb103, 0, none⟩ = some (.string (⟨#[]⟩ : ByteArray)) := (zF BK103.out 0).trans rfl; have hfs178 := zG BK103.out 0; have hns178_0 := NB101_103.out; have hns178_1 := NB102_103.out
            have hms178_0 := NB103_101.out
            have hms178_1 := NB103_102.out
            have hs179 : w177.cell? ⟨gb103, 1, none⟩ = some (.int .i64 0) := (zF BK103.out 1).trans rfl; have hfs179 := zG BK103.out 1; have hns179_0 := NB101_103.out; have hns179_1 := NB102_103.out
            have hms179_0 := NB103_101.out
            have hms179_1 := NB103_102.out
            have hs180 : w177.cell? ⟨gb103, 2, none⟩ = some (.int .i64 0) := (zF BK103.out 2).trans rfl; have hfs180 := zG BK103.out 2; have hns180_0 := NB101_103.out; have hns180_1 := NB102_103.out
            have hms180_0 := NB103_101.out
            have hms180_1 := NB103_102.out
            refine skip_ (w1 := ?_) (by rfl) rfl ?_ ?_
            rotate_left
            · go_simp
              rfl
            refine hK.out _ _ ⟨((cell_far (p := ⟨gb103, _, none⟩) NB101_103.out _).trans (((cell_far (p := ⟨gb103, _, none⟩) NB101_103.out _).trans (((cell_far (p := ⟨gb103, _, none⟩) NB101_103.out _).trans (hHeld.1)))))), ((cell_far (p := ⟨gb103, _, none⟩) NB101_103.out _).trans (((cell_far (p := ⟨gb103, _, none⟩) NB101_103.out _).trans (((cell_far (p := ⟨gb103, _, none⟩) NB101_103.out _).trans (hHeld.2.1)))))), ((cell_far (p := ⟨gb103, _, none⟩) NB101_103.out _).trans (((cell_far (p := ⟨gb103, _, none⟩) NB101_103.out _).trans (((cell_far (p := ⟨gb103, _, none⟩) NB101_103.out _).trans (hHeld.2.2))))))⟩ (fun hHeld => ?_)
            clear hK K
            refine pure_ (i := 26) (N := some 7) #[o1, o1, o1, o1, o1, o1, o1, o1, o1, o1, o1, o1, o1, o1, o1, o1, o1, o1, o1, o1, o1, o1, o1, o1, o1, o1, o1] rfl rfl (any_of HT_.out (by kernel_rfl)) (fun _ _ _ h => h) (Or.inl ⟨by rfl, qy⟩) qz ?_
            refine done_ (done_of HT_.out (by kernel_rfl)) ?_
            try go_wp2
            refine bodyPost_ret (results_ct rfl _ _ gb103 47 #[.string x102000_3, .int .i64 x102001_3, .int .i64 x102002_3] (0, 0) _ rfl (qV BK103.out) Try.underlying47 rfl (by kernel_rfl)) rfl ?_
            exact ⟨qE, by repeat (first | (with_reducible first | exact HI0.out | apply IsS56.alloc | apply IsS56.drewN | apply IsS56.drew | refine IsS56.far ?_ NB0_101.out _ | refine IsS56.far ?_ NB0_102.out _ | refine IsS56.far ?_ NB0_103.out _) | exact HI0.out), qH HI0.out HB.out, qJ HK.out⟩
          rw [if_neg c165] at H
          have c165b0 : (t188 == x102001_3) = false := beq_eq_false_iff_ne.mpr c165
          have c165b1 : (t188 != x102001_3) = true := bne_iff_ne.mpr c165
          simp only [zNq, zOq] at H
          obtain ⟨rfl, rfl, rfl, rfl, rfl, rfl, rfl, rfl⟩ := H
          try go_wp2_with (first | ((with_reducible refine zJq (f := 39) rfl ?_); refine goesL_ (some 129) rfl rfl Try.func39 (by kernel_rfl) rfl #[.pointer (some ⟨g, 0, none⟩)] rfl (by (try simp only [zR, zS, zT]); first | done | rfl | (simp only [zP, zQ]; rfl)) ?_; (with_reducible refine (strict_Reader_Err.calls g x1000_3 x1001_3 x1002_3 x1003_3 t181 x1000_3 x1001_3 x1002_3 x1003_3 w0 _ ?side1 ?side2 A160.out).mono ?_); (case side1 => repeat (first | (with_reducible first | exact HI0.out | apply IsS56.alloc | apply IsS56.drewN | apply IsS56.drew | refine IsS56.far ?_ NB0_101.out _ | refine IsS56.far ?_ NB0_102.out _ | refine IsS56.far ?_ NB0_103.out _) | exact HI0.out)); (case side2 => repeat (first | (with_reducible first | exact HB.out | apply zD | apply zB | apply zC | refine zE ?_ (IsS56.ge HI0.out) | refine zE ?_ GE101.out | refine zE ?_ GE102.out | refine zE ?_ GE103.out) | exact HB.out)); rintro e w181 ⟨rfl, hi, hb, hk⟩; refine ⟨_, rfl, ?_⟩; have n0_ := zA (KeepBut.blk hk (g' := gb101) (o := .cells #[.string x102000_3, .int .i64 x102001_3, .int .i64 x102002_3] 47 (0, 0)) (qW BK101.out) NB101_0.out (by simp)); have n1_ := zA (KeepBut.blk hk (g' := gb102) (o := .cells #[.int .i64 a2_0, .int .i64 a2_1, .int .i64 a2_2] 51 (0, 0)) (qW BK102.out) NB102_0.out (by simp)); have n2_ := zA (KeepBut.blk hk (g' := gb103) (o := .cells #[.string (⟨#[]⟩ : ByteArray), .int .i64 0, .int .i64 0] 47 (0, 0)) (qW BK103.out) NB103_0.out (by simp)); have n3_ := zA (zBq (qJ HK.out) hk (.inl rfl)); have n4_ := zA (hb); have n5_ := zA (hi); clear BK101 BK102 BK103 HK HB HI0; have BK101 := n0_; have BK102 := n1_; have BK103 := n2_; have HK := n3_; have HB := n4_; have HI0 := n5_; clear n0_ n1_ n2_ n3_ n4_ n5_; (try clear hb); (try clear hb2); (try clear hk); (try clear hi); (try simp only [errW_none, errW_some]); have CA161 := fun W => strict_Why.calls t181 t186 t187 W A161.out; try simp only [errW_none, errW_some] at CA161) | (go_at_call 38; (with_reducible refine (CA161 _).mono ?_); rintro e w182 ⟨rfl, hb⟩; have n0_ := zA (qX BK101.out hb); have n1_ := zA (qX BK102.out hb); have n2_ := zA (qX BK103.out hb); have n3_ := zA (IsS56.below (by repeat (first | (with_reducible first | exact HI0.out | apply IsS56.alloc | apply IsS56.drewN | apply IsS56.drew | refine IsS56.far ?_ NB0_101.out _ | refine IsS56.far ?_ NB0_102.out _ | refine IsS56.far ?_ NB0_103.out _) | exact HI0.out)) hb); have n4_ := zA (zBq (qJ HK.out) (KeepBut.of_below hb g none) (.inl rfl)); have n5_ := zA (zV (qH HI0.out HB.out) hb); clear BK101 BK102 BK103 HI0 HK HB; have BK101 := n0_; have BK102 := n1_; have BK103 := n2_; have HI0 := n3_; have HK := n4_; have HB := n5_; clear n0_ n1_ n2_ n3_ n4_ n5_; (try clear hb); (try clear hb2); (try clear hk); (try clear hi)))
          have n0_ := zA (zAq BK101.out); have n1_ := zA (zAq BK102.out); have n2_ := zA (zAq BK103.out); have n3_ := zA (IsS56.drew HI0.out); have n4_ := zA (zM HK.out); have n5_ := zA (zC HB.out); clear BK101; clear BK102; clear BK103; clear HI0; clear HK; clear HB; have BK101 := n0_; have BK102 := n1_; have BK103 := n2_; have HI0 := n3_; have HK := n4_; have HB := n5_; clear n0_ n1_ n2_ n3_ n4_ n5_
          refine start_ (n := 27) (S := fun w' => w'.cell? ⟨gb101, 0, none⟩ = some (.string x102000_3) ∧ w'.cell? ⟨gb101, 1, none⟩ = some (.int .i64 x102001_3) ∧ w'.cell? ⟨gb101, 2, none⟩ = some (.int .i64 x102002_3)) (ds := []) #[o0, o0, o0, o0, o0, o0, o0, o0, o0, o0, o0, o0, o0, o0, o0, o0, o0, o0, o0, o0, o0, o0, o0, o0, o0, o0, o0] (by kernel_rfl) rfl rfl ⟨(zF BK101.out 0).trans rfl, (zF BK101.out 1).trans rfl, (zF BK101.out 2).trans rfl⟩ (fun hHeld => ?_); refine with_tabW backhaullaw06_read.tab25 backhaullaw06_read.bits25 (fun HT_ HW_ => ?_)
          generalize w182.drew = w183 at BK101 BK102 BK103 HI0 HK HB hHeld ⊢
          refine pure_ (i := 1) (N := some 134) #[o0, o1, o0, o0, o0, o0, o0, o0, o0, o0, o0, o0, o0, o0, o0, o0, o0, o0, o0, o0, o0, o0, o0, o0, o0, o0, o0] rfl rfl (any_of HT_.out (by kernel_rfl)) (fun _ _ _ h => h) (Or.inl ⟨by rfl, qy⟩) qz ?_
          refine pure_ (i := 2) (N := some 135) #[o0, o1, o1, o0, o0, o0, o0, o0, o0, o0, o0, o0, o0, o0, o0, o0, o0, o0, o0, o0, o0, o0, o0, o0, o0, o0, o0] rfl rfl (any_of HT_.out (by kernel_rfl)) (fun _ _ _ h => h) (Or.inl ⟨by rfl, qy⟩) qz ?_
          refine pure_ (i := 3) (N := some 136) #[o0, o1, o1, o1, o0, o0, o0, o0, o0, o0, o0, o0, o0, o0, o0, o0, o0, o0, o0, o0, o0, o0, o0, o0, o0, o0, o0] rfl rfl (any_of HT_.out (by kernel_rfl)) (fun _ _ _ h => h) (Or.inl ⟨by rfl, qy⟩) qz ?_
          refine pure_ (i := 4) (N := some 137) #[o0, o1, o1, o1, o1, o0, o0, o0, o0, o0, o0, o0, o0, o0, o0, o0, o0, o0, o0, o0, o0, o0, o0, o0, o0, o0, o0] rfl rfl (any_of HT_.out (by kernel_rfl)) (fun _ _ _ h => h) (Or.inl ⟨by rfl, qy⟩) qz ?_
          refine take_ (i := 0) (N := some 133) (v := ?_) (a' := ?_) #[o1, o1, o1, o1, o1, o0, o0, o0, o0, o0, o0, o0, o0, o0, o0, o0, o0, o0, o0, o0, o0, o0, o0, o0, o0, o0, o0] rfl rfl (take_ofW HT_.out HW_.out (by kernel_rfl)) (fun _ _ _ h => h) (Or.inl ⟨by rfl, ?_⟩) hHeld ?_ ?_
          rotate_left
          · rintro w' ⟨s0, s1, s2⟩
            go_simp
            with_reducible rfl
          rotate_left
          · simp only [Act.put, zH, zI, zJ, i64_w, i32_w]
            rfl
          refine take_ (i := 5) (N := some 138) (v := ?_) (a' := ?_) #[o1, o1, o1, o1, o1, o1, o0, o0, o0, o0, o0, o0, o0, o0, o0, o0, o0, o0, o0, o0, o0, o0, o0, o0, o0, o0, o0] rfl rfl (take_ofW HT_.out HW_.out (by kernel_rfl)) (fun _ _ _ h => h) (Or.inl ⟨by rfl, ?_⟩) hHeld ?_ ?_
          rotate_left
          · rintro w' ⟨s0, s1, s2⟩
            go_simp
            with_reducible rfl
          rotate_left
          · simp only [Act.put, zH, zI, zJ, i64_w, i32_w]
            rfl
          refine pure_ (i := 6) (N := some 139) #[o1, o1, o1, o1, o1, o1, o1, o0, o0, o0, o0, o0, o0, o0, o0, o0, o0, o0, o0, o0, o0, o0, o0, o0, o0, o0, o0] rfl rfl (any_of HT_.out (by kernel_rfl)) (fun _ _ _ h => h) (Or.inl ⟨by rfl, qy⟩) qz ?_
          refine pure_ (i := 7) (N := some 140) #[o1, o1, o1, o1, o1, o1, o1, o1, o0, o0, o0, o0, o0, o0, o0, o0, o0, o0, o0, o0, o0, o0, o0, o0, o0, o0, o0] rfl rfl (any_of HT_.out (by kernel_rfl)) (fun _ _ _ h => h) (Or.inl ⟨by rfl, qy⟩) qz ?_
          refine pure_ (i := 8) (N := some 141) #[o1, o1, o1, o1, o1, o1, o1, o1, o1, o0, o0, o0, o0, o0, o0, o0, o0, o0, o0, o0, o0, o0, o0, o0, o0, o0, o0] rfl rfl (any_of HT_.out (by kernel_rfl)) (fun _ _ _ h => h) (Or.inl ⟨by rfl, qy⟩) qz ?_
          refine pure_ (i := 9) (N := some 142) #[o1, o1, o1, o1, o1, o1, o1, o1, o1, o1, o0, o0, o0, o0, o0, o0, o0, o0, o0, o0, o0, o0, o0, o0, o0, o0, o0] rfl rfl (any_of HT_.out (by kernel_rfl)) (fun _ _ _ h => h) (Or.inl ⟨by rfl, qy⟩) qz ?_
          refine pure_ (i := 11) (N := some 144) #[o1, o1, o1, o1, o1, o1, o1, o1, o1, o1, o0, o1, o0, o0, o0, o0, o0, o0, o0, o0, o0, o0, o0, o0, o0, o0, o0] rfl rfl (any_of HT_.out (by kernel_rfl)) (fun _ _ _ h => h) (Or.inl ⟨by rfl, qy⟩) qz ?_
          refine take_ (i := 12) (N := some 145) (v := ?_) (a' := ?_) #[o1, o1, o1, o1, o1, o1, o1, o1, o1, o1, o0, o1, o1, o0, o0, o0, o0, o0, o0, o0, o0, o0, o0, o0, o0, o0, o0] rfl rfl (take_ofW HT_.out HW_.out (by kernel_rfl)) (fun _ _ _ h => h) (Or.inl ⟨by rfl, ?_⟩) hHeld ?_ ?_
          rotate_left
          · rintro w' ⟨s0, s1, s2⟩
            go_simp
            with_reducible rfl
          rotate_left
          · simp only [Act.put, zH, zI, zJ, i64_w, i32_w]
            rfl
          refine one_ (i := 10) (N := some 143) #[o1, o1, o1, o1, o1, o1, o1, o1, o1, o1, o1, o1, o1, o0, o0, o0, o0, o0, o0, o0, o0, o0, o0, o0, o0, o0, o0] rfl rfl (one_of HT_.out (by kernel_rfl)) (by decide) (fun K hK => ?_)
          refine goes_ Try.func40 (by kernel_rfl) rfl #[.pointer (some ⟨g, 0, none⟩)] (by rfl) rfl rfl (by (try simp only [zR, zS, zT]); first | done | rfl | (simp only [zP, zQ]; rfl)) ?_
          with_reducible refine (strict_Reader_At.calls g x1000_3 x1001_3 x1002_3 x1003_3 t188 x1000_3 x1001_3 x1002_3 x1003_3 w0 _ ?side1 ?side2 A164.out).mono ?_
          (case side1 => repeat (first | (with_reducible first | exact HI0.out | apply IsS56.alloc | apply IsS56.drewN | apply IsS56.drew | refine IsS56.far ?_ NB0_101.out _ | refine IsS56.far ?_ NB0_102.out _ | refine IsS56.far ?_ NB0_103.out _) | exact HI0.out))
          (case side2 => repeat (first | (with_reducible first | exact HB.out | apply zD | apply zB | apply zC | refine zE ?_ (IsS56.ge HI0.out) | refine zE ?_ GE101.out | refine zE ?_ GE102.out | refine zE ?_ GE103.out) | exact HB.out))
          rintro e w184 ⟨rfl, hi, hb, hk⟩
          refine ⟨_, rfl, ?_⟩
          have n0_ := zA (KeepBut.blk hk (g' := gb101) (o := .cells #[.string x102000_3, .int .i64 x102001_3, .int .i64 x102002_3] 47 (0, 0)) (qW BK101.out) NB101_0.out (by simp)); have n1_ := zA (KeepBut.blk hk (g' := gb102) (o := .cells #[.int .i64 a2_0, .int .i64 a2_1, .int .i64 a2_2] 51 (0, 0)) (qW BK102.out) NB102_0.out (by simp)); have n2_ := zA (KeepBut.blk hk (g' := gb103) (o := .cells #[.string (⟨#[]⟩ : ByteArray), .int .i64 0, .int .i64 0] 47 (0, 0)) (qW BK103.out) NB103_0.out (by simp)); have n3_ := zA (zBq (qJ HK.out) hk (.inl rfl)); have n4_ := zA (hb); have n5_ := zA (hi); clear BK101; clear BK102; clear BK103; clear HK; clear HB; clear HI0; have BK101 := n0_; have BK102 := n1_; have BK103 := n2_; have HK := n3_; have HB := n4_; have HI0 := n5_; clear n0_ n1_ n2_ n3_ n4_ n5_; (try clear hb); (try clear hb2); (try clear hk); (try clear hi)
          (try simp only [errW_none, errW_some])
          refine hK.out _ _ ⟨(zF BK101.out 0).trans rfl, (zF BK101.out 1).trans rfl, (zF BK101.out 2).trans rfl⟩ (fun hHeld => ?_)
          clear hK K
          refine norm_ (a' := ?_) ?_ ?_
          rotate_left
          · show Act.put _ (some 143) _ = _
            simp only [Act.put, zH, zI, zJ, i64_w, i32_w]
            rfl
          refine pure_ (i := 13) (N := some 146) #[o1, o1, o1, o1, o1, o1, o1, o1, o1, o1, o1, o1, o1, o1, o0, o0, o0, o0, o0, o0, o0, o0, o0, o0, o0, o0, o0] rfl rfl (any_of HT_.out (by kernel_rfl)) (fun _ _ _ h => h) (Or.inl ⟨by rfl, qy⟩) qz ?_
          refine pure_ (i := 14) (N := some 147) #[o1, o1, o1, o1, o1, o1, o1, o1, o1, o1, o1, o1, o1, o1, o1, o0, o0, o0, o0, o0, o0, o0, o0, o0, o0, o0, o0] rfl rfl (any_of HT_.out (by kernel_rfl)) (fun _ _ _ h => h) (Or.inl ⟨by rfl, qy⟩) qz ?_
          refine pure_ (i := 15) (N := some 148) #[o1, o1, o1, o1, o1, o1, o1, o1, o1, o1, o1, o1, o1, o1, o1, o1, o0, o0, o0, o0, o0, o0, o0, o0, o0, o0, o0] rfl rfl (any_of HT_.out (by kernel_rfl)) (fun _ _ _ h => h) (Or.inl ⟨by rfl, qy⟩) qz ?_
          refine pure_ (i := 16) (N := some 149) (v := undef) (a' := ?_) #[o1, o1, o1, o1, o1, o1, o1, o1, o1, o1, o1, o1, o1, o1, o1, o1, o1, o0, o0, o0, o0, o0, o0, o0, o0, o0, o0] rfl rfl (any_of HT_.out (by kernel_rfl)) (fun _ _ _ h => h) (Or.inr ⟨by rfl, rfl⟩) ?_ ?_
          rotate_left
          · simp only [Act.put, zH, zI, zJ, i64_w, i32_w]
            rfl
          refine pure_ (i := 17) (N := some 150) (v := undef) (a' := ?_) #[o1, o1, o1, o1, o1, o1, o1, o1, o1, o1, o1, o1, o1, o1, o1, o1, o1, o1, o0, o0, o0, o0, o0, o0, o0, o0, o0] rfl rfl (any_of HT_.out (by kernel_rfl)) (fun _ _ _ h => h) (Or.inr ⟨by rfl, rfl⟩) ?_ ?_
          rotate_left
          · simp only [Act.put, zH, zI, zJ, i64_w, i32_w]
            rfl
          refine pure_ (i := 18) (N := some 151) (v := undef) (a' := ?_) #[o1, o1, o1, o1, o1, o1, o1, o1, o1, o1, o1, o1, o1, o1, o1, o1, o1, o1, o1, o0, o0, o0, o0, o0, o0, o0, o0] rfl rfl (any_of HT_.out (by kernel_rfl)) (fun _ _ _ h => h) (Or.inr ⟨by rfl, rfl⟩) ?_ ?_
          rotate_left
          · simp only [Act.put, zH, zI, zJ, i64_w, i32_w]
            rfl
          refine pure_ (i := 19) (N := some 152) (v := undef) (a' := ?_) #[o1, o1, o1, o1, o1, o1, o1, o1, o1, o1, o1, o1, o1, o1, o1, o1, o1, o1, o1, o1, o0, o0, o0, o0, o0, o0, o0] rfl rfl (any_of HT_.out (by kernel_rfl)) (fun _ _ _ h => h) (Or.inr ⟨by rfl, rfl⟩) ?_ ?_
          rotate_left
          · simp only [Act.put, zH, zI, zJ, i64_w, i32_w]
            rfl
          refine pure_ (i := 20) (N := some 153) (v := undef) (a' := ?_) #[o1, o1, o1, o1, o1, o1, o1, o1, o1, o1, o1, o1, o1, o1, o1, o1, o1, o1, o1, o1, o1, o0, o0, o0, o0, o0, o0] rfl rfl (any_of HT_.out (by kernel_rfl)) (fun _ _ _ h => h) (Or.inr ⟨by rfl, rfl⟩) ?_ ?_
          rotate_left
          · simp only [Act.put, zH, zI, zJ, i64_w, i32_w]
            rfl
          refine pure_ (i := 21) (N := some 154) (v := undef) (a' := ?_) #[o1, o1, o1, o1, o1, o1, o1, o1, o1, o1, o1, o1, o1, o1, o1, o1, o1, o1, o1, o1, o1, o1, o0, o0, o0, o0, o0] rfl rfl (any_of HT_.out (by kernel_rfl)) (fun _ _ _ h => h) (Or.inr ⟨by rfl, rfl⟩) ?_ ?_
          rotate_left
          · simp only [Act.put, zH, zI, zJ, i64_w, i32_w]
            rfl
          refine pure_ (i := 22) (N := some 155) (v := undef) (a' := ?_) #[o1, o1, o1, o1, o1, o1, o1, o1, o1, o1, o1, o1, o1, o1, o1, o1, o1, o1, o1, o1, o1, o1, o1, o0, o0, o0, o0] rfl rfl (any_of HT_.out (by kernel_rfl)) (fun _ _ _ h => h) (Or.inr ⟨by rfl, rfl⟩) ?_ ?_
          rotate_left
          · simp only [Act.put, zH, zI, zJ, i64_w, i32_w]
            rfl
          refine pure_ (i := 23) (N := some 156) (v := undef) (a' := ?_) #[o1, o1, o1, o1, o1, o1, o1, o1, o1, o1, o1, o1, o1, o1, o1, o1, o1, o1, o1, o1, o1, o1, o1, o1, o0, o0, o0] rfl rfl (any_of HT_.out (by kernel_rfl)) (fun _ _ _ h => h) (Or.inr ⟨by rfl, rfl⟩) ?_ ?_
          rotate_left
          · simp only [Act.put, zH, zI, zJ, i64_w, i32_w]
            rfl
          refine pure_ (i := 24) (N := some 157) #[o1, o1, o1, o1, o1, o1, o1, o1, o1, o1, o1, o1, o1, o1, o1, o1, o1, o1, o1, o1, o1, o1, o1, o1, o1, o0, o0] rfl rfl (any_of HT_.out (by kernel_rfl)) (fun _ _ _ h => h) (Or.inl ⟨by rfl, qy⟩) qz ?_
          refine one_ (i := 25) (N := none) #[o1, o1, o1, o1, o1, o1, o1, o1, o1, o1, o1, o1, o1, o1, o1, o1, o1, o1, o1, o1, o1, o1, o1, o1, o1, o1, o0] rfl rfl (one_of HT_.out (by kernel_rfl)) (by decide) (fun K hK => ?_)
          have hs185 : w184.cell? ⟨gb103, 0, none⟩ = some (.string (⟨#[]⟩ : ByteArray)) := (zF BK103.out 0).trans rfl; have hfs185 := zG BK103.out 0; have hns185_0 := NB101_103.out; have hns185_1 := NB102_103.out
          have hms185_0 := NB103_101.out
          have hms185_1 := NB103_102.out
          have hs186 : w184.cell? ⟨gb103, 1, none⟩ = some (.int .i64 0) := (zF BK103.out 1).trans rfl; have hfs186 := zG BK103.out 1; have hns186_0 := NB101_103.out; have hns186_1 := NB102_103.out
          have hms186_0 := NB103_101.out
          have hms186_1 := NB103_102.out
          have hs187 : w184.cell? ⟨gb103, 2, none⟩ = some (.int .i64 0) := (zF BK103.out 2).trans rfl; have hfs187 := zG BK103.out 2; have hns187_0 := NB101_103.out; have hns187_1 := NB102_103.out
          have hms187_0 := NB103_101.out
          have hms187_1 := NB103_102.out
          refine skip_ (w1 := ?_) (by rfl) rfl ?_ ?_
          rotate_left
          · go_simp
            rfl
          refine hK.out _ _ ⟨((cell_far (p := ⟨gb103, _, none⟩) NB101_103.out _).trans (((cell_far (p := ⟨gb103, _, none⟩) NB101_103.out _).trans (((cell_far (p := ⟨gb103, _, none⟩) NB101_103.out _).trans (hHeld.1)))))), ((cell_far (p := ⟨gb103, _, none⟩) NB101_103.out _).trans (((cell_far (p := ⟨gb103, _, none⟩) NB101_103.out _).trans (((cell_far (p := ⟨gb103, _, none⟩) NB101_103.out _).trans (hHeld.2.1)))))), ((cell_far (p := ⟨gb103, _, none⟩) NB101_103.out _).trans (((cell_far (p := ⟨gb103, _, none⟩) NB101_103.out _).trans (((cell_far (p := ⟨gb103, _, none⟩) NB101_103.out _).trans (hHeld.2.2))))))⟩ (fun hHeld => ?_)
          clear hK K
          refine pure_ (i := 26) (N := some 7) #[o1, o1, o1, o1, o1, o1, o1, o1, o1, o1, o1, o1, o1, o1, o1, o1, o1, o1, o1, o1, o1, o1, o1, o1, o1, o1, o1] rfl rfl (any_of HT_.out (by kernel_rfl)) (fun _ _ _ h => h) (Or.inl ⟨by rfl, qy⟩) qz ?_
          refine done_ (done_of HT_.out (by kernel_rfl)) ?_
          try go_wp2
          refine bodyPost_ret (results_ct rfl _ _ gb103 47 #[.string x102000_3, .int .i64 x102001_3, .int .i64 x102002_3] (0, 0) _ rfl (qV BK103.out) Try.underlying47 rfl (by kernel_rfl)) rfl ?_
          exact ⟨qE, by repeat (first | (with_reducible first | exact HI0.out | apply IsS56.alloc | apply IsS56.drewN | apply IsS56.drew | refine IsS56.far ?_ NB0_101.out _ | refine IsS56.far ?_ NB0_102.out _ | refine IsS56.far ?_ NB0_103.out _) | exact HI0.out), qH HI0.out HB.out, qJ HK.out⟩
        rw [if_neg c163] at H
        have c163b0 : (t186 == x102002_3) = false := beq_eq_false_iff_ne.mpr c163
        have c163b1 : (t186 != x102002_3) = true := bne_iff_ne.mpr c163
        simp only [zNq, zOq] at H
        obtain ⟨rfl, rfl, rfl, rfl, rfl, rfl, rfl, rfl⟩ := H
        try go_wp2_with (first | ((with_reducible refine zJq (f := 39) rfl ?_); refine goesL_ (some 129) rfl rfl Try.func39 (by kernel_rfl) rfl #[.pointer (some ⟨g, 0, none⟩)] rfl (by (try simp only [zR, zS, zT]); first | done | rfl | (simp only [zP, zQ]; rfl)) ?_; (with_reducible refine (strict_Reader_Err.calls g x1000_3 x1001_3 x1002_3 x1003_3 t181 x1000_3 x1001_3 x1002_3 x1003_3 w0 _ ?side1 ?side2 A160.out).mono ?_); (case side1 => repeat (first | (with_reducible first | exact HI0.out | apply IsS56.alloc | apply IsS56.drewN | apply IsS56.drew | refine IsS56.far ?_ NB0_101.out _ | refine IsS56.far ?_ NB0_102.out _ | refine IsS56.far ?_ NB0_103.out _) | exact HI0.out)); (case side2 => repeat (first | (with_reducible first | exact HB.out | apply zD | apply zB | apply zC | refine zE ?_ (IsS56.ge HI0.out) | refine zE ?_ GE101.out | refine zE ?_ GE102.out | refine zE ?_ GE103.out) | exact HB.out)); rintro e w188 ⟨rfl, hi, hb, hk⟩; refine ⟨_, rfl, ?_⟩; have n0_ := zA (KeepBut.blk hk (g' := gb101) (o := .cells #[.string x102000_3, .int .i64 x102001_3, .int .i64 x102002_3] 47 (0, 0)) (qW BK101.out) NB101_0.out (by simp)); have n1_ := zA (KeepBut.blk hk (g' := gb102) (o := .cells #[.int .i64 a2_0, .int .i64 a2_1, .int .i64 a2_2] 51 (0, 0)) (qW BK102.out) NB102_0.out (by simp)); have n2_ := zA (KeepBut.blk hk (g' := gb103) (o := .cells #[.string (⟨#[]⟩ : ByteArray), .int .i64 0, .int .i64 0] 47 (0, 0)) (qW BK103.out) NB103_0.out (by simp)); have n3_ := zA (zBq (qJ HK.out) hk (.inl rfl)); have n4_ := zA (hb); have n5_ := zA (hi); clear BK101 BK102 BK103 HK HB HI0; have BK101 := n0_; have BK102 := n1_; have BK103 := n2_; have HK := n3_; have HB := n4_; have HI0 := n5_; clear n0_ n1_ n2_ n3_ n4_ n5_; (try clear hb); (try clear hb2); (try clear hk); (try clear hi); (try simp only [errW_none, errW_some]); have CA161 := fun W => strict_Why.calls t181 t186 t187 W A161.out; try simp only [errW_none, errW_some] at CA161) | (go_at_call 38; (with_reducible refine (CA161 _).mono ?_); rintro e w189 ⟨rfl, hb⟩; have n0_ := zA (qX BK101.out hb); have n1_ := zA (qX BK102.out hb); have n2_ := zA (qX BK103.out hb); have n3_ := zA (IsS56.below (by repeat (first | (with_reducible first | exact HI0.out | apply IsS56.alloc | apply IsS56.drewN | apply IsS56.drew | refine IsS56.far ?_ NB0_101.out _ | refine IsS56.far ?_ NB0_102.out _ | refine IsS56.far ?_ NB0_103.out _) | exact HI0.out)) hb); have n4_ := zA (zBq (qJ HK.out) (KeepBut.of_below hb g none) (.inl rfl)); have n5_ := zA (zV (qH HI0.out HB.out) hb); clear BK101 BK102 BK103 HI0 HK HB; have BK101 := n0_; have BK102 := n1_; have BK103 := n2_; have HI0 := n3_; have HK := n4_; have HB := n5_; clear n0_ n1_ n2_ n3_ n4_ n5_; (try clear hb); (try clear hb2); (try clear hk); (try clear hi)))
        have n0_ := zA (zAq BK101.out); have n1_ := zA (zAq BK102.out); have n2_ := zA (zAq BK103.out); have n3_ := zA (IsS56.drew HI0.out); have n4_ := zA (zM HK.out); have n5_ := zA (zC HB.out); clear BK101; clear BK102; clear BK103; clear HI0; clear HK; clear HB; have BK101 := n0_; have BK102 := n1_; have BK103 := n2_; have HI0 := n3_; have HK := n4_; have HB := n5_; clear n0_ n1_ n2_ n3_ n4_ n5_
        refine start_ (n := 27) (S := fun w' => w'.cell? ⟨gb101, 0, none⟩ = some (.string x102000_3) ∧ w'.cell? ⟨gb101, 1, none⟩ = some (.int .i64 x102001_3) ∧ w'.cell? ⟨gb101, 2, none⟩ = some (.int .i64 x102002_3)) (ds := []) #[o0, o0, o0, o0, o0, o0, o0, o0, o0, o0, o0, o0, o0, o0, o0, o0, o0, o0, o0, o0, o0, o0, o0, o0, o0, o0, o0] (by kernel_rfl) rfl rfl ⟨(zF BK101.out 0).trans rfl, (zF BK101.out 1).trans rfl, (zF BK101.out 2).trans rfl⟩ (fun hHeld => ?_); refine with_tabW backhaullaw06_read.tab25 backhaullaw06_read.bits25 (fun HT_ HW_ => ?_)
        generalize w189.drew = w190 at BK101 BK102 BK103 HI0 HK HB hHeld ⊢
        refine pure_ (i := 1) (N := some 134) #[o0, o1, o0, o0, o0, o0, o0, o0, o0, o0, o0, o0, o0, o0, o0, o0, o0, o0, o0, o0, o0, o0, o0, o0, o0, o0, o0] rfl rfl (any_of HT_.out (by kernel_rfl)) (fun _ _ _ h => h) (Or.inl ⟨by rfl, qy⟩) qz ?_
        refine pure_ (i := 2) (N := some 135) #[o0, o1, o1, o0, o0, o0, o0, o0, o0, o0, o0, o0, o0, o0, o0, o0, o0, o0, o0, o0, o0, o0, o0, o0, o0, o0, o0] rfl rfl (any_of HT_.out (by kernel_rfl)) (fun _ _ _ h => h) (Or.inl ⟨by rfl, qy⟩) qz ?_
        refine pure_ (i := 3) (N := some 136) #[o0, o1, o1, o1, o0, o0, o0, o0, o0, o0, o0, o0, o0, o0, o0, o0, o0, o0, o0, o0, o0, o0, o0, o0, o0, o0, o0] rfl rfl (any_of HT_.out (by kernel_rfl)) (fun _ _ _ h => h) (Or.inl ⟨by rfl, qy⟩) qz ?_
        refine pure_ (i := 4) (N := some 137) #[o0, o1, o1, o1, o1, o0, o0, o0, o0, o0, o0, o0, o0, o0, o0, o0, o0, o0, o0, o0, o0, o0, o0, o0, o0, o0, o0] rfl rfl (any_of HT_.out (by kernel_rfl)) (fun _ _ _ h => h) (Or.inl ⟨by rfl, qy⟩) qz ?_
        refine take_ (i := 0) (N := some 133) (v := ?_) (a' := ?_) #[o1, o1, o1, o1, o1, o0, o0, o0, o0, o0, o0, o0, o0, o0, o0, o0, o0, o0, o0, o0, o0, o0, o0, o0, o0, o0, o0] rfl rfl (take_ofW HT_.out HW_.out (by kernel_rfl)) (fun _ _ _ h => h) (Or.inl ⟨by rfl, ?_⟩) hHeld ?_ ?_
        rotate_left
        · rintro w' ⟨s0, s1, s2⟩
          go_simp
          with_reducible rfl
        rotate_left
        · simp only [Act.put, zH, zI, zJ, i64_w, i32_w]
          rfl
        refine take_ (i := 5) (N := some 138) (v := ?_) (a' := ?_) #[o1, o1, o1, o1, o1, o1, o0, o0, o0, o0, o0, o0, o0, o0, o0, o0, o0, o0, o0, o0, o0, o0, o0, o0, o0, o0, o0] rfl rfl (take_ofW HT_.out HW_.out (by kernel_rfl)) (fun _ _ _ h => h) (Or.inl ⟨by rfl, ?_⟩) hHeld ?_ ?_
        rotate_left
        · rintro w' ⟨s0, s1, s2⟩
          go_simp
          with_reducible rfl
        rotate_left
        · simp only [Act.put, zH, zI, zJ, i64_w, i32_w]
          rfl
        refine pure_ (i := 6) (N := some 139) #[o1, o1, o1, o1, o1, o1, o1, o0, o0, o0, o0, o0, o0, o0, o0, o0, o0, o0, o0, o0, o0, o0, o0, o0, o0, o0, o0] rfl rfl (any_of HT_.out (by kernel_rfl)) (fun _ _ _ h => h) (Or.inl ⟨by rfl, qy⟩) qz ?_
        refine pure_ (i := 7) (N := some 140) #[o1, o1, o1, o1, o1, o1, o1, o1, o0, o0, o0, o0, o0, o0, o0, o0, o0, o0, o0, o0, o0, o0, o0, o0, o0, o0, o0] rfl rfl (any_of HT_.out (by kernel_rfl)) (fun _ _ _ h => h) (Or.inl ⟨by rfl, qy⟩) qz ?_
        refine pure_ (i := 8) (N := some 141) #[o1, o1, o1, o1, o1, o1, o1, o1, o1, o0, o0, o0, o0, o0, o0, o0, o0, o0, o0, o0, o0, o0, o0, o0, o0, o0, o0] rfl rfl (any_of HT_.out (by kernel_rfl)) (fun _ _ _ h => h) (Or.inl ⟨by rfl, qy⟩) qz ?_
        refine pure_ (i := 9) (N := some 142) (v := undef) (a' := ?_) #[o1, o1, o1, o1, o1, o1, o1, o1, o1, o1, o0, o0, o0, o0, o0, o0, o0, o0, o0, o0, o0, o0, o0, o0, o0, o0, o0] rfl rfl (any_of HT_.out (by kernel_rfl)) (fun _ _ _ h => h) (Or.inr ⟨by rfl, rfl⟩) ?_ ?_
        rotate_left
        · simp only [Act.put, zH, zI, zJ, i64_w, i32_w]
          rfl
        refine pure_ (i := 10) (N := some 143) (v := undef) (a' := ?_) #[o1, o1, o1, o1, o1, o1, o1, o1, o1, o1, o1, o0, o0, o0, o0, o0, o0, o0, o0, o0, o0, o0, o0, o0, o0, o0, o0] rfl rfl (any_of HT_.out (by kernel_rfl)) (fun _ _ _ h => h) (Or.inr ⟨by rfl, rfl⟩) ?_ ?_
        rotate_left
        · simp only [Act.put, zH, zI, zJ, i64_w, i32_w]
          rfl
        refine pure_ (i := 11) (N := some 144) (v := undef) (a' := ?_) #[o1, o1, o1, o1, o1, o1, o1, o1, o1, o1, o1, o1, o0, o0, o0, o0, o0, o0, o0, o0, o0, o0, o0, o0, o0, o0, o0] rfl rfl (any_of HT_.out (by kernel_rfl)) (fun _ _ _ h => h) (Or.inr ⟨by rfl, rfl⟩) ?_ ?_
        rotate_left
        · simp only [Act.put, zH, zI, zJ, i64_w, i32_w]
          rfl
        refine pure_ (i := 12) (N := some 145) (v := undef) (a' := ?_) #[o1, o1, o1, o1, o1, o1, o1, o1, o1, o1, o1, o1, o1, o0, o0, o0, o0, o0, o0, o0, o0, o0, o0, o0, o0, o0, o0] rfl rfl (any_of HT_.out (by kernel_rfl)) (fun _ _ _ h => h) (Or.inr ⟨by rfl, rfl⟩) ?_ ?_
        rotate_left
        · simp only [Act.put, zH, zI, zJ, i64_w, i32_w]
          rfl
        refine pure_ (i := 13) (N := some 146) (v := undef) (a' := ?_) #[o1, o1, o1, o1, o1, o1, o1, o1, o1, o1, o1, o1, o1, o1, o0, o0, o0, o0, o0, o0, o0, o0, o0, o0, o0, o0, o0] rfl rfl (any_of HT_.out (by kernel_rfl)) (fun _ _ _ h => h) (Or.inr ⟨by rfl, rfl⟩) ?_ ?_
        rotate_left
        · simp only [Act.put, zH, zI, zJ, i64_w, i32_w]
          rfl
        refine pure_ (i := 14) (N := some 147) #[o1, o1, o1, o1, o1, o1, o1, o1, o1, o1, o1, o1, o1, o1, o1, o0, o0, o0, o0, o0, o0, o0, o0, o0, o0, o0, o0] rfl rfl (any_of HT_.out (by kernel_rfl)) (fun _ _ _ h => h) (Or.inl ⟨by rfl, qy⟩) qz ?_
        refine pure_ (i := 15) (N := some 148) #[o1, o1, o1, o1, o1, o1, o1, o1, o1, o1, o1, o1, o1, o1, o1, o1, o0, o0, o0, o0, o0, o0, o0, o0, o0, o0, o0] rfl rfl (any_of HT_.out (by kernel_rfl)) (fun _ _ _ h => h) (Or.inl ⟨by rfl, qy⟩) qz ?_
        refine pure_ (i := 16) (N := some 149) (v := undef) (a' := ?_) #[o1, o1, o1, o1, o1, o1, o1, o1, o1, o1, o1, o1, o1, o1, o1, o1, o1, o0, o0, o0, o0, o0, o0, o0, o0, o0, o0] rfl rfl (any_of HT_.out (by kernel_rfl)) (fun _ _ _ h => h) (Or.inr ⟨by rfl, rfl⟩) ?_ ?_
        rotate_left
        · simp only [Act.put, zH, zI, zJ, i64_w, i32_w]
          rfl
        refine pure_ (i := 17) (N := some 150) (v := undef) (a' := ?_) #[o1, o1, o1, o1, o1, o1, o1, o1, o1, o1, o1, o1, o1, o1, o1, o1, o1, o1, o0, o0, o0, o0, o0, o0, o0, o0, o0] rfl rfl (any_of HT_.out (by kernel_rfl)) (fun _ _ _ h => h) (Or.inr ⟨by rfl, rfl⟩) ?_ ?_
        rotate_left
        · simp only [Act.put, zH, zI, zJ, i64_w, i32_w]
          rfl
        refine pure_ (i := 18) (N := some 151) (v := undef) (a' := ?_) #[o1, o1, o1, o1, o1, o1, o1, o1, o1, o1, o1, o1, o1, o1, o1, o1, o1, o1, o1, o0, o0, o0, o0, o0, o0, o0, o0] rfl rfl (any_of HT_.out (by kernel_rfl)) (fun _ _ _ h => h) (Or.inr ⟨by rfl, rfl⟩) ?_ ?_
        rotate_left
        · simp only [Act.put, zH, zI, zJ, i64_w, i32_w]
          rfl
        refine pure_ (i := 19) (N := some 152) (v := undef) (a' := ?_) #[o1, o1, o1, o1, o1, o1, o1, o1, o1, o1, o1, o1, o1, o1, o1, o1, o1, o1, o1, o1, o0, o0, o0, o0, o0, o0, o0] rfl rfl (any_of HT_.out (by kernel_rfl)) (fun _ _ _ h => h) (Or.inr ⟨by rfl, rfl⟩) ?_ ?_
        rotate_left
        · simp only [Act.put, zH, zI, zJ, i64_w, i32_w]
          rfl
        refine pure_ (i := 20) (N := some 153) (v := undef) (a' := ?_) #[o1, o1, o1, o1, o1, o1, o1, o1, o1, o1, o1, o1, o1, o1, o1, o1, o1, o1, o1, o1, o1, o0, o0, o0, o0, o0, o0] rfl rfl (any_of HT_.out (by kernel_rfl)) (fun _ _ _ h => h) (Or.inr ⟨by rfl, rfl⟩) ?_ ?_
        rotate_left
        · simp only [Act.put, zH, zI, zJ, i64_w, i32_w]
          rfl
        refine pure_ (i := 21) (N := some 154) (v := undef) (a' := ?_) #[o1, o1, o1, o1, o1, o1, o1, o1, o1, o1, o1, o1, o1, o1, o1, o1, o1, o1, o1, o1, o1, o1, o0, o0, o0, o0, o0] rfl rfl (any_of HT_.out (by kernel_rfl)) (fun _ _ _ h => h) (Or.inr ⟨by rfl, rfl⟩) ?_ ?_
        rotate_left
        · simp only [Act.put, zH, zI, zJ, i64_w, i32_w]
          rfl
        refine pure_ (i := 22) (N := some 155) (v := undef) (a' := ?_) #[o1, o1, o1, o1, o1, o1, o1, o1, o1, o1, o1, o1, o1, o1, o1, o1, o1, o1, o1, o1, o1, o1, o1, o0, o0, o0, o0] rfl rfl (any_of HT_.out (by kernel_rfl)) (fun _ _ _ h => h) (Or.inr ⟨by rfl, rfl⟩) ?_ ?_
        rotate_left
        · simp only [Act.put, zH, zI, zJ, i64_w, i32_w]
          rfl
        refine pure_ (i := 23) (N := some 156) (v := undef) (a' := ?_) #[o1, o1, o1, o1, o1, o1, o1, o1, o1, o1, o1, o1, o1, o1, o1, o1, o1, o1, o1, o1, o1, o1, o1, o1, o0, o0, o0] rfl rfl (any_of HT_.out (by kernel_rfl)) (fun _ _ _ h => h) (Or.inr ⟨by rfl, rfl⟩) ?_ ?_
        rotate_left
        · simp only [Act.put, zH, zI, zJ, i64_w, i32_w]
          rfl
        refine pure_ (i := 24) (N := some 157) #[o1, o1, o1, o1, o1, o1, o1, o1, o1, o1, o1, o1, o1, o1, o1, o1, o1, o1, o1, o1, o1, o1, o1, o1, o1, o0, o0] rfl rfl (any_of HT_.out (by kernel_rfl)) (fun _ _ _ h => h) (Or.inl ⟨by rfl, qy⟩) qz ?_
        refine one_ (i := 25) (N := none) #[o1, o1, o1, o1, o1, o1, o1, o1, o1, o1, o1, o1, o1, o1, o1, o1, o1, o1, o1, o1, o1, o1, o1, o1, o1, o1, o0] rfl rfl (one_of HT_.out (by kernel_rfl)) (by decide) (fun K hK => ?_)
        have hs191 : w190.cell? ⟨gb103, 0, none⟩ = some (.string (⟨#[]⟩ : ByteArray)) := (zF BK103.out 0).trans rfl; have hfs191 := zG BK103.out 0; have hns191_0 := NB101_103.out; have hns191_1 := NB102_103.out
        have hms191_0 := NB103_101.out
        have hms191_1 := NB103_102.out
        have hs192 : w190.cell? ⟨gb103, 1, none⟩ = some (.int .i64 0) := (zF BK103.out 1).trans rfl; have hfs192 := zG BK103.out 1; have hns192_0 := NB101_103.out; have hns192_1 := NB102_103.out
        have hms192_0 := NB103_101.out
        have hms192_1 := NB103_102.out
        have hs193 : w190.cell? ⟨gb103, 2, none⟩ = some (.int .i64 0) := (zF BK103.out 2).trans rfl; have hfs193 := zG BK103.out 2; have hns193_0 := NB101_103.out; have hns193_1 := NB102_103.out
        have hms193_0 := NB103_101.out
        have hms193_1 := NB103_102.out
        refine skip_ (w1 := ?_) (by rfl) rfl ?_ ?_
        rotate_left
        · go_simp
          rfl
        refine hK.out _ _ ⟨((cell_far (p := ⟨gb103, _, none⟩) NB101_103.out _).trans (((cell_far (p := ⟨gb103, _, none⟩) NB101_103.out _).trans (((cell_far (p := ⟨gb103, _, none⟩) NB101_103.out _).trans (hHeld.1)))))), ((cell_far (p := ⟨gb103, _, none⟩) NB101_103.out _).trans (((cell_far (p := ⟨gb103, _, none⟩) NB101_103.out _).trans (((cell_far (p := ⟨gb103, _, none⟩) NB101_103.out _).trans (hHeld.2.1)))))), ((cell_far (p := ⟨gb103, _, none⟩) NB101_103.out _).trans (((cell_far (p := ⟨gb103, _, none⟩) NB101_103.out _).trans (((cell_far (p := ⟨gb103, _, none⟩) NB101_103.out _).trans (hHeld.2.2))))))⟩ (fun hHeld => ?_)
        clear hK K
        refine pure_ (i := 26) (N := some 7) #[o1, o1, o1, o1, o1, o1, o1, o1, o1, o1, o1, o1, o1, o1, o1, o1, o1, o1, o1, o1, o1, o1, o1, o1, o1, o1, o1] rfl rfl (any_of HT_.out (by kernel_rfl)) (fun _ _ _ h => h) (Or.inl ⟨by rfl, qy⟩) qz ?_
        refine done_ (done_of HT_.out (by kernel_rfl)) ?_
        try go_wp2
        refine bodyPost_ret (results_ct rfl _ _ gb103 47 #[.string x102000_3, .int .i64 x102001_3, .int .i64 x102002_3] (0, 0) _ rfl (qV BK103.out) Try.underlying47 rfl (by kernel_rfl)) rfl ?_
        exact ⟨qE, by repeat (first | (with_reducible first | exact HI0.out | apply IsS56.alloc | apply IsS56.drewN | apply IsS56.drew | refine IsS56.far ?_ NB0_101.out _ | refine IsS56.far ?_ NB0_102.out _ | refine IsS56.far ?_ NB0_103.out _) | exact HI0.out), qH HI0.out HB.out, qJ HK.out⟩
      replace c162 := Bool.eq_false_iff.mpr c162
      subst c162
      have H1 : (some (x102000_3, x102001_3, x102002_3, false, x1000_3, x1001_3, x1002_3, x1003_3)) = some (r1, r2, r3, r4, r5, r6, r7, r8) := by first | (rw [if_neg (show ¬ (false = true) by decide)] at H; exact H) | rfl
      clear H
      have H := H1
      clear H1
      simp only [zNq, zOq] at H
      obtain ⟨rfl, rfl, rfl, rfl, rfl, rfl, rfl, rfl⟩ := H
      try go_wp2_with (first | ((with_reducible refine zJq (f := 39) rfl ?_); refine goesL_ (some 129) rfl rfl Try.func39 (by kernel_rfl) rfl #[.pointer (some ⟨g, 0, none⟩)] rfl (by (try simp only [zR, zS, zT]); first | done | rfl | (simp only [zP, zQ]; rfl)) ?_; (with_reducible refine (strict_Reader_Err.calls g x1000_3 x1001_3 x1002_3 x1003_3 t181 x1000_3 x1001_3 x1002_3 x1003_3 w0 _ ?side1 ?side2 A160.out).mono ?_); (case side1 => repeat (first | (with_reducible first | exact HI0.out | apply IsS56.alloc | apply IsS56.drewN | apply IsS56.drew | refine IsS56.far ?_ NB0_101.out _ | refine IsS56.far ?_ NB0_102.out _ | refine IsS56.far ?_ NB0_103.out _) | exact HI0.out)); (case side2 => repeat (first | (with_reducible first | exact HB.out | apply zD | apply zB | apply zC | refine zE ?_ (IsS56.ge HI0.out) | refine zE ?_ GE101.out | refine zE ?_ GE102.out | refine zE ?_ GE103.out) | exact HB.out)); rintro e w194 ⟨rfl, hi, hb, hk⟩; refine ⟨_, rfl, ?_⟩; have n0_ := zA (KeepBut.blk hk (g' := gb101) (o := .cells #[.string x102000_3, .int .i64 x102001_3, .int .i64 x102002_3] 47 (0, 0)) (qW BK101.out) NB101_0.out (by simp)); have n1_ := zA (KeepBut.blk hk (g' := gb102) (o := .cells #[.int .i64 a2_0, .int .i64 a2_1, .int .i64 a2_2] 51 (0, 0)) (qW BK102.out) NB102_0.out (by simp)); have n2_ := zA (KeepBut.blk hk (g' := gb103) (o := .cells #[.string (⟨#[]⟩ : ByteArray), .int .i64 0, .int .i64 0] 47 (0, 0)) (qW BK103.out) NB103_0.out (by simp)); have n3_ := zA (zBq (qJ HK.out) hk (.inl rfl)); have n4_ := zA (hb); have n5_ := zA (hi); clear BK101 BK102 BK103 HK HB HI0; have BK101 := n0_; have BK102 := n1_; have BK103 := n2_; have HK := n3_; have HB := n4_; have HI0 := n5_; clear n0_ n1_ n2_ n3_ n4_ n5_; (try clear hb); (try clear hb2); (try clear hk); (try clear hi); (try simp only [errW_none, errW_some]); have CA161 := fun W => strict_Why.calls t181 t186 t187 W A161.out; try simp only [errW_none, errW_some] at CA161) | (go_at_call 38; (with_reducible refine (CA161 _).mono ?_); rintro e w195 ⟨rfl, hb⟩; have n0_ := zA (qX BK101.out hb); have n1_ := zA (qX BK102.out hb); have n2_ := zA (qX BK103.out hb); have n3_ := zA (IsS56.below (by repeat (first | (with_reducible first | exact HI0.out | apply IsS56.alloc | apply IsS56.drewN | apply IsS56.drew | refine IsS56.far ?_ NB0_101.out _ | refine IsS56.far ?_ NB0_102.out _ | refine IsS56.far ?_ NB0_103.out _) | exact HI0.out)) hb); have n4_ := zA (zBq (qJ HK.out) (KeepBut.of_below hb g none) (.inl rfl)); have n5_ := zA (zV (qH HI0.out HB.out) hb); clear BK101 BK102 BK103 HI0 HK HB; have BK101 := n0_; have BK102 := n1_; have BK103 := n2_; have HI0 := n3_; have HK := n4_; have HB := n5_; clear n0_ n1_ n2_ n3_ n4_ n5_; (try clear hb); (try clear hb2); (try clear hk); (try clear hi)))
      have n0_ := zA (zAq BK101.out); have n1_ := zA (zAq BK102.out); have n2_ := zA (zAq BK103.out); have n3_ := zA (IsS56.drew HI0.out); have n4_ := zA (zM HK.out); have n5_ := zA (zC HB.out); clear BK101; clear BK102; clear BK103; clear HI0; clear HK; clear HB; have BK101 := n0_; have BK102 := n1_; have BK103 := n2_; have HI0 := n3_; have HK := n4_; have HB := n5_; clear n0_ n1_ n2_ n3_ n4_ n5_
      refine start_ (n := 27) (S := fun w' => w'.cell? ⟨gb101, 0, none⟩ = some (.string x102000_3) ∧ w'.cell? ⟨gb101, 1, none⟩ = some (.int .i64 x102001_3) ∧ w'.cell? ⟨gb101, 2, none⟩ = some (.int .i64 x102002_3)) (ds := []) #[o0, o0, o0, o0, o0, o0, o0, o0, o0, o0, o0, o0, o0, o0, o0, o0, o0, o0, o0, o0, o0, o0, o0, o0, o0, o0, o0] (by kernel_rfl) rfl rfl ⟨(zF BK101.out 0).trans rfl, (zF BK101.out 1).trans rfl, (zF BK101.out 2).trans rfl⟩ (fun hHeld => ?_); refine with_tabW backhaullaw06_read.tab25 backhaullaw06_read.bits25 (fun HT_ HW_ => ?_)
      generalize w195.drew = w196 at BK101 BK102 BK103 HI0 HK HB hHeld ⊢
      refine pure_ (i := 1) (N := some 134) #[o0, o1, o0, o0, o0, o0, o0, o0, o0, o0, o0, o0, o0, o0, o0, o0, o0, o0, o0, o0, o0, o0, o0, o0, o0, o0, o0] rfl rfl (any_of HT_.out (by kernel_rfl)) (fun _ _ _ h => h) (Or.inl ⟨by rfl, qy⟩) qz ?_
      refine pure_ (i := 2) (N := some 135) #[o0, o1, o1, o0, o0, o0, o0, o0, o0, o0, o0, o0, o0, o0, o0, o0, o0, o0, o0, o0, o0, o0, o0, o0, o0, o0, o0] rfl rfl (any_of HT_.out (by kernel_rfl)) (fun _ _ _ h => h) (Or.inl ⟨by rfl, qy⟩) qz ?_
      refine pure_ (i := 3) (N := some 136) (v := undef) (a' := ?_) #[o0, o1, o1, o1, o0, o0, o0, o0, o0, o0, o0, o0, o0, o0, o0, o0, o0, o0, o0, o0, o0, o0, o0, o0, o0, o0, o0] rfl rfl (any_of HT_.out (by kernel_rfl)) (fun _ _ _ h => h) (Or.inr ⟨by rfl, rfl⟩) ?_ ?_
      rotate_left
      · simp only [Act.put, zH, zI, zJ, i64_w, i32_w]
        rfl
      refine pure_ (i := 4) (N := some 137) (v := undef) (a' := ?_) #[o0, o1, o1, o1, o1, o0, o0, o0, o0, o0, o0, o0, o0, o0, o0, o0, o0, o0, o0, o0, o0, o0, o0, o0, o0, o0, o0] rfl rfl (any_of HT_.out (by kernel_rfl)) (fun _ _ _ h => h) (Or.inr ⟨by rfl, rfl⟩) ?_ ?_
      rotate_left
      · simp only [Act.put, zH, zI, zJ, i64_w, i32_w]
        rfl
      refine pure_ (i := 5) (N := some 138) (v := undef) (a' := ?_) #[o0, o1, o1, o1, o1, o1, o0, o0, o0, o0, o0, o0, o0, o0, o0, o0, o0, o0, o0, o0, o0, o0, o0, o0, o0, o0, o0] rfl rfl (any_of HT_.out (by kernel_rfl)) (fun _ _ _ h => h) (Or.inr ⟨by rfl, rfl⟩) ?_ ?_
      rotate_left
      · simp only [Act.put, zH, zI, zJ, i64_w, i32_w]
        rfl
      refine pure_ (i := 6) (N := some 139) (v := undef) (a' := ?_) #[o0, o1, o1, o1, o1, o1, o1, o0, o0, o0, o0, o0, o0, o0, o0, o0, o0, o0, o0, o0, o0, o0, o0, o0, o0, o0, o0] rfl rfl (any_of HT_.out (by kernel_rfl)) (fun _ _ _ h => h) (Or.inr ⟨by rfl, rfl⟩) ?_ ?_
      rotate_left
      · simp only [Act.put, zH, zI, zJ, i64_w, i32_w]
        rfl
      refine pure_ (i := 7) (N := some 140) #[o0, o1, o1, o1, o1, o1, o1, o1, o0, o0, o0, o0, o0, o0, o0, o0, o0, o0, o0, o0, o0, o0, o0, o0, o0, o0, o0] rfl rfl (any_of HT_.out (by kernel_rfl)) (fun _ _ _ h => h) (Or.inl ⟨by rfl, qy⟩) qz ?_
      refine pure_ (i := 8) (N := some 141) #[o0, o1, o1, o1, o1, o1, o1, o1, o1, o0, o0, o0, o0, o0, o0, o0, o0, o0, o0, o0, o0, o0, o0, o0, o0, o0, o0] rfl rfl (any_of HT_.out (by kernel_rfl)) (fun _ _ _ h => h) (Or.inl ⟨by rfl, qy⟩) qz ?_
      refine pure_ (i := 9) (N := some 142) (v := undef) (a' := ?_) #[o0, o1, o1, o1, o1, o1, o1, o1, o1, o1, o0, o0, o0, o0, o0, o0, o0, o0, o0, o0, o0, o0, o0, o0, o0, o0, o0] rfl rfl (any_of HT_.out (by kernel_rfl)) (fun _ _ _ h => h) (Or.inr ⟨by rfl, rfl⟩) ?_ ?_
      rotate_left
      · simp only [Act.put, zH, zI, zJ, i64_w, i32_w]
        rfl
      refine pure_ (i := 10) (N := some 143) (v := undef) (a' := ?_) #[o0, o1, o1, o1, o1, o1, o1, o1, o1, o1, o1, o0, o0, o0, o0, o0, o0, o0, o0, o0, o0, o0, o0, o0, o0, o0, o0] rfl rfl (any_of HT_.out (by kernel_rfl)) (fun _ _ _ h => h) (Or.inr ⟨by rfl, rfl⟩) ?_ ?_
      rotate_left
      · simp only [Act.put, zH, zI, zJ, i64_w, i32_w]
        rfl
      refine pure_ (i := 11) (N := some 144) (v := undef) (a' := ?_) #[o0, o1, o1, o1, o1, o1, o1, o1, o1, o1, o1, o1, o0, o0, o0, o0, o0, o0, o0, o0, o0, o0, o0, o0, o0, o0, o0] rfl rfl (any_of HT_.out (by kernel_rfl)) (fun _ _ _ h => h) (Or.inr ⟨by rfl, rfl⟩) ?_ ?_
      rotate_left
      · simp only [Act.put, zH, zI, zJ, i64_w, i32_w]
        rfl
      refine pure_ (i := 12) (N := some 145) (v := undef) (a' := ?_) #[o0, o1, o1, o1, o1, o1, o1, o1, o1, o1, o1, o1, o1, o0, o0, o0, o0, o0, o0, o0, o0, o0, o0, o0, o0, o0, o0] rfl rfl (any_of HT_.out (by kernel_rfl)) (fun _ _ _ h => h) (Or.inr ⟨by rfl, rfl⟩) ?_ ?_
      rotate_left
      · simp only [Act.put, zH, zI, zJ, i64_w, i32_w]
        rfl
      refine pure_ (i := 13) (N := some 146) (v := undef) (a' := ?_) #[o0, o1, o1, o1, o1, o1, o1, o1, o1, o1, o1, o1, o1, o1, o0, o0, o0, o0, o0, o0, o0, o0, o0, o0, o0, o0, o0] rfl rfl (any_of HT_.out (by kernel_rfl)) (fun _ _ _ h => h) (Or.inr ⟨by rfl, rfl⟩) ?_ ?_
      rotate_left
      · simp only [Act.put, zH, zI, zJ, i64_w, i32_w]
        rfl
      refine pure_ (i := 14) (N := some 147) #[o0, o1, o1, o1, o1, o1, o1, o1, o1, o1, o1, o1, o1, o1, o1, o0, o0, o0, o0, o0, o0, o0, o0, o0, o0, o0, o0] rfl rfl (any_of HT_.out (by kernel_rfl)) (fun _ _ _ h => h) (Or.inl ⟨by rfl, qy⟩) qz ?_
      refine pure_ (i := 15) (N := some 148) #[o0, o1, o1, o1, o1, o1, o1, o1, o1, o1, o1, o1, o1, o1, o1, o1, o0, o0, o0, o0, o0, o0, o0, o0, o0, o0, o0] rfl rfl (any_of HT_.out (by kernel_rfl)) (fun _ _ _ h => h) (Or.inl ⟨by rfl, qy⟩) qz ?_
      refine pure_ (i := 16) (N := some 149) (v := undef) (a' := ?_) #[o0, o1, o1, o1, o1, o1, o1, o1, o1, o1, o1, o1, o1, o1, o1, o1, o1, o0, o0, o0, o0, o0, o0, o0, o0, o0, o0] rfl rfl (any_of HT_.out (by kernel_rfl)) (fun _ _ _ h => h) (Or.inr ⟨by rfl, rfl⟩) ?_ ?_
      rotate_left
      · simp only [Act.put, zH, zI, zJ, i64_w, i32_w]
        rfl
      refine pure_ (i := 17) (N := some 150) (v := undef) (a' := ?_) #[o0, o1, o1, o1, o1, o1, o1, o1, o1, o1, o1, o1, o1, o1, o1, o1, o1, o1, o0, o0, o0, o0, o0, o0, o0, o0, o0] rfl rfl (any_of HT_.out (by kernel_rfl)) (fun _ _ _ h => h) (Or.inr ⟨by rfl, rfl⟩) ?_ ?_
      rotate_left
      · simp only [Act.put, zH, zI, zJ, i64_w, i32_w]
        rfl
      refine pure_ (i := 18) (N := some 151) (v := undef) (a' := ?_) #[o0, o1, o1, o1, o1, o1, o1, o1, o1, o1, o1, o1, o1, o1, o1, o1, o1, o1, o1, o0, o0, o0, o0, o0, o0, o0, o0] rfl rfl (any_of HT_.out (by kernel_rfl)) (fun _ _ _ h => h) (Or.inr ⟨by rfl, rfl⟩) ?_ ?_
      rotate_left
      · simp only [Act.put, zH, zI, zJ, i64_w, i32_w]
        rfl
      refine pure_ (i := 19) (N := some 152) (v := undef) (a' := ?_) #[o0, o1, o1, o1, o1, o1, o1, o1, o1, o1, o1, o1, o1, o1, o1, o1, o1, o1, o1, o1, o0, o0, o0, o0, o0, o0, o0] rfl rfl (any_of HT_.out (by kernel_rfl)) (fun _ _ _ h => h) (Or.inr ⟨by rfl, rfl⟩) ?_ ?_
      rotate_left
      · simp only [Act.put, zH, zI, zJ, i64_w, i32_w]
        rfl
      refine pure_ (i := 20) (N := some 153) (v := undef) (a' := ?_) #[o0, o1, o1, o1, o1, o1, o1, o1, o1, o1, o1, o1, o1, o1, o1, o1, o1, o1, o1, o1, o1, o0, o0, o0, o0, o0, o0] rfl rfl (any_of HT_.out (by kernel_rfl)) (fun _ _ _ h => h) (Or.inr ⟨by rfl, rfl⟩) ?_ ?_
      rotate_left
      · simp only [Act.put, zH, zI, zJ, i64_w, i32_w]
        rfl
      refine pure_ (i := 21) (N := some 154) (v := undef) (a' := ?_) #[o0, o1, o1, o1, o1, o1, o1, o1, o1, o1, o1, o1, o1, o1, o1, o1, o1, o1, o1, o1, o1, o1, o0, o0, o0, o0, o0] rfl rfl (any_of HT_.out (by kernel_rfl)) (fun _ _ _ h => h) (Or.inr ⟨by rfl, rfl⟩) ?_ ?_
      rotate_left
      · simp only [Act.put, zH, zI, zJ, i64_w, i32_w]
        rfl
      refine pure_ (i := 22) (N := some 155) (v := undef) (a' := ?_) #[o0, o1, o1, o1, o1, o1, o1, o1, o1, o1, o1, o1, o1, o1, o1, o1, o1, o1, o1, o1, o1, o1, o1, o0, o0, o0, o0] rfl rfl (any_of HT_.out (by kernel_rfl)) (fun _ _ _ h => h) (Or.inr ⟨by rfl, rfl⟩) ?_ ?_
      rotate_left
      · simp only [Act.put, zH, zI, zJ, i64_w, i32_w]
        rfl
      refine pure_ (i := 23) (N := some 156) (v := undef) (a' := ?_) #[o0, o1, o1, o1, o1, o1, o1, o1, o1, o1, o1, o1, o1, o1, o1, o1, o1, o1, o1, o1, o1, o1, o1, o1, o0, o0, o0] rfl rfl (any_of HT_.out (by kernel_rfl)) (fun _ _ _ h => h) (Or.inr ⟨by rfl, rfl⟩) ?_ ?_
      rotate_left
      · simp only [Act.put, zH, zI, zJ, i64_w, i32_w]
        rfl
      refine pure_ (i := 24) (N := some 157) #[o0, o1, o1, o1, o1, o1, o1, o1, o1, o1, o1, o1, o1, o1, o1, o1, o1, o1, o1, o1, o1, o1, o1, o1, o1, o0, o0] rfl rfl (any_of HT_.out (by kernel_rfl)) (fun _ _ _ h => h) (Or.inl ⟨by rfl, qy⟩) qz ?_
      refine take_ (i := 0) (N := some 133) (v := ?_) (a' := ?_) #[o1, o1, o1, o1, o1, o1, o1, o1, o1, o1, o1, o1, o1, o1, o1, o1, o1, o1, o1, o1, o1, o1, o1, o1, o1, o0, o0] rfl rfl (take_ofW HT_.out HW_.out (by kernel_rfl)) (fun _ _ _ h => h) (Or.inl ⟨by rfl, ?_⟩) hHeld ?_ ?_
      rotate_left
      · rintro w' ⟨s0, s1, s2⟩
        go_simp
        with_reducible rfl
      rotate_left
      · simp only [Act.put, zH, zI, zJ, i64_w, i32_w]
        rfl
      refine one_ (i := 25) (N := none) #[o1, o1, o1, o1, o1, o1, o1, o1, o1, o1, o1, o1, o1, o1, o1, o1, o1, o1, o1, o1, o1, o1, o1, o1, o1, o1, o0] rfl rfl (one_of HT_.out (by kernel_rfl)) (by decide) (fun K hK => ?_)
      have hs197 : w196.cell? ⟨gb103, 0, none⟩ = some (.string (⟨#[]⟩ : ByteArray)) := (zF BK103.out 0).trans rfl; have hfs197 := zG BK103.out 0; have hns197_0 := NB101_103.out; have hns197_1 := NB102_103.out
      have hms197_0 := NB103_101.out
      have hms197_1 := NB103_102.out
      have hs198 : w196.cell? ⟨gb103, 1, none⟩ = some (.int .i64 0) := (zF BK103.out 1).trans rfl; have hfs198 := zG BK103.out 1; have hns198_0 := NB101_103.out; have hns198_1 := NB102_103.out
      have hms198_0 := NB103_101.out
      have hms198_1 := NB103_102.out
      have hs199 : w196.cell? ⟨gb103, 2, none⟩ = some (.int .i64 0) := (zF BK103.out 2).trans rfl; have hfs199 := zG BK103.out 2; have hns199_0 := NB101_103.out; have hns199_1 := NB102_103.out
      have hms199_0 := NB103_101.out
      have hms199_1 := NB103_102.out
      refine skip_ (w1 := ?_) (by rfl) rfl ?_ ?_
      rotate_left
      · go_simp
        rfl
      refine hK.out _ _ ⟨((cell_far (p := ⟨gb103, _, none⟩) NB101_103.out _).trans (((cell_far (p := ⟨gb103, _, none⟩) NB101_103.out _).trans (((cell_far (p := ⟨gb103, _, none⟩) NB101_103.out _).trans (hHeld.1)))))), ((cell_far (p := ⟨gb103, _, none⟩) NB101_103.out _).trans (((cell_far (p := ⟨gb103, _, none⟩) NB101_103.out _).trans (((cell_far (p := ⟨gb103, _, none⟩) NB101_103.out _).trans (hHeld.2.1)))))), ((cell_far (p := ⟨gb103, _, none⟩) NB101_103.out _).trans (((cell_far (p := ⟨gb103, _, none⟩) NB101_103.out _).trans (((cell_far (p := ⟨gb103, _, none⟩) NB101_103.out _).trans (hHeld.2.2))))))⟩ (fun hHeld => ?_)
      clear hK K
      refine pure_ (i := 26) (N := some 7) #[o1, o1, o1, o1, o1, o1, o1, o1, o1, o1, o1, o1, o1, o1, o1, o1, o1, o1, o1, o1, o1, o1, o1, o1, o1, o1, o1] rfl rfl (any_of HT_.out (by kernel_rfl)) (fun _ _ _ h => h) (Or.inl ⟨by rfl, qy⟩) qz ?_
      refine done_ (done_of HT_.out (by kernel_rfl)) ?_
      try go_wp2
      refine bodyPost_ret (results_ct rfl _ _ gb103 47 #[.string x102000_3, .int .i64 x102001_3, .int .i64 x102002_3] (0, 0) _ rfl (qV BK103.out) Try.underlying47 rfl (by kernel_rfl)) rfl ?_
      exact ⟨qE, by repeat (first | (with_reducible first | exact HI0.out | apply IsS56.alloc | apply IsS56.drewN | apply IsS56.drew | refine IsS56.far ?_ NB0_101.out _ | refine IsS56.far ?_ NB0_102.out _ | refine IsS56.far ?_ NB0_103.out _) | exact HI0.out), qH HI0.out HB.out, qJ HK.out⟩
set_option maxHeartbeats 8000000 in
set_option maxRecDepth 100000 in
theorem backhaullaw06_read.calls (k : Nat) (g : Nat) (s0_0 : ByteArray) (s0_1 : Int) (s0_2 : Option (Int × Int)) (s0_3 : Bool) (a1_0 : ByteArray) (a1_1 : Int) (a1_2 : Int) (a2_0 : Int) (a2_1 : Int) (a2_2 : Int) (r1 : ByteArray) (r2 : Int) (r3 : Int) (r4 : Bool) (r5 : ByteArray) (r6 : Int) (r7 : Option (Int × Int)) (r8 : Bool) (w0 w : World) (hI : IsS56 w0 w g s0_0 s0_1 s0_2 s0_3) (hB : Below w0.heap.size w0 w) (h : backhaullaw06_read.f k s0_0 s0_1 s0_2 s0_3 a1_0 a1_1 a1_2 a2_0 a2_1 a2_2 = some (r1, r2, r3, r4, r5, r6, r7, r8)) :
    Calls Try.prog 37 #[.pointer (some ⟨g, 0, none⟩), .agg #[.string a1_0, .int .i64 a1_1, .int .i64 a1_2], .agg #[.int .i64 a2_0, .int .i64 a2_1, .int .i64 a2_2]] w fun e w' => e = .returned (.tuple #[.agg #[.string r1, .int .i64 r2, .int .i64 r3], .bool r4]) ∧ IsS56 w0 w' g r5 r6 r7 r8 ∧ Below w0.heap.size w0 w' ∧ KeepBut w w' g none := by
  by_cases hz : a2_0 = 0 ∨ a2_0 = 1 ∨ a2_0 = 2
  · exact backhaullaw06_read.calls_a k g s0_0 s0_1 s0_2 s0_3 a1_0 a1_1 a1_2 a2_0 a2_1 a2_2 r1 r2 r3 r4 r5 r6 r7 r8 w0 w hI hB h hz
  exact backhaullaw06_read.calls_b k g s0_0 s0_1 s0_2 s0_3 a1_0 a1_1 a1_2 a2_0 a2_1 a2_2 r1 r2 r3 r4 r5 r6 r7 r8 w0 w hI hB h hz
mutual
def backhaullaw06_StrictReads.j0 : Nat → ByteArray → List (S51) → Bool → Option (Bool)
  | 0, _, _, _ => none
  | k + 1, x0, x1, x17 => if x17 = true then ((backhaullaw06_awake.f).bind fun t101 => (if t101 = true then (some true) else (some false))) else ((strict_New.f x0).bind fun bt102 => (backhaullaw06_StrictReads.l0 k x1 0 bt102.1 bt102.2.1 bt102.2.2.1 bt102.2.2.2 x0 0 0))
def backhaullaw06_StrictReads.l0 : Nat → List (S51) → Int → ByteArray → Int → Option (Int × Int) → Bool → ByteArray → Int → Int → Option (Bool)
  | 0, _, _, _, _, _, _, _, _, _ => none
  | k + 1, x1, x7, x107000, x107001, x107002, x107003, x108000, x108001, x108002 => if x7 < (x1.length : Int) then (if 0 ≤ x7 then ((backhaullaw06_read.f k x107000 x107001 x107002 x107003 x108000 x108001 x108002 ((rd_T51 x1 x7).f0) ((rd_T51 x1 x7).f1) ((rd_T51 x1 x7).f2)).bind fun bt109 => (if bt109.2.2.2.1 = true then (backhaullaw06_StrictReads.l0 k x1 (wrap64 (x7 + 1)) bt109.2.2.2.2.1 bt109.2.2.2.2.2.1 bt109.2.2.2.2.2.2.1 bt109.2.2.2.2.2.2.2 bt109.1 bt109.2.1 bt109.2.2.1) else (some false))) else (none)) else ((backhaullaw06_awake.f).bind fun t118 => (if t118 = true then (some true) else (some false)))
end
def backhaullaw06_StrictReads.f (k : Nat) (a0 : ByteArray) (l1 : List (S51)) : Option (Bool) := if (a0.size : Int) > 2000 then (backhaullaw06_StrictReads.j0 k a0 l1 true) else (backhaullaw06_StrictReads.j0 k a0 l1 (decide ((l1.length : Int) > 40)))
theorem backhaullaw06_StrictReads.mono_l : ∀ k, (∀ y0 y1 y2, LeO (backhaullaw06_StrictReads.j0 k y0 y1 y2) (backhaullaw06_StrictReads.j0 (k + 1) y0 y1 y2)) ∧ (∀ y0 y1 y2 y3 y4 y5 y6 y7 y8, LeO (backhaullaw06_StrictReads.l0 k y0 y1 y2 y3 y4 y5 y6 y7 y8) (backhaullaw06_StrictReads.l0 (k + 1) y0 y1 y2 y3 y4 y5 y6 y7 y8))
  | 0 => ⟨fun _ _ _ r h => by simp [backhaullaw06_StrictReads.j0] at h, fun _ _ _ _ _ _ _ _ _ r h => by simp [backhaullaw06_StrictReads.l0] at h⟩
  | k + 1 => by
    obtain ⟨ih0, ih1⟩ := backhaullaw06_StrictReads.mono_l k
    refine ⟨?_, ?_⟩
    · intro y0 y1 y2
      unfold backhaullaw06_StrictReads.j0
      repeat' first
      | (with_reducible exact ih0 _ _ _)
      | (with_reducible exact ih1 _ _ _ _ _ _ _ _ _)
      | (with_reducible exact backhaullaw06_read.mono _ _ _ _ _ _ _ _ _ _ _)
      | (with_reducible exact LeO.refl _)
      | (with_reducible exact LeO.none _)
      | (with_reducible refine LeO.ite ?_ ?_)
      | (with_reducible refine LeO.bind ?_ (fun _ => ?_))
      | exact ih0 _ _ _
      | exact ih1 _ _ _ _ _ _ _ _ _
      | exact backhaullaw06_read.mono _ _ _ _ _ _ _ _ _ _ _
      | exact LeO.none _
      | refine LeO.ite ?_ ?_
      | refine LeO.bind ?_ (fun _ => ?_)
    intro y0 y1 y2 y3 y4 y5 y6 y7 y8
    unfold backhaullaw06_StrictReads.l0
    repeat' first
    | (with_reducible exact ih0 _ _ _)
    | (with_reducible exact ih1 _ _ _ _ _ _ _ _ _)
    | (with_reducible exact backhaullaw06_read.mono _ _ _ _ _ _ _ _ _ _ _)
    | (with_reducible exact LeO.refl _)
    | (with_reducible exact LeO.none _)
    | (with_reducible refine LeO.ite ?_ ?_)
    | (with_reducible refine LeO.bind ?_ (fun _ => ?_))
    | exact ih0 _ _ _
    | exact ih1 _ _ _ _ _ _ _ _ _
    | exact backhaullaw06_read.mono _ _ _ _ _ _ _ _ _ _ _
    | exact LeO.none _
    | refine LeO.ite ?_ ?_
    | refine LeO.bind ?_ (fun _ => ?_)
theorem backhaullaw06_StrictReads.mono : ∀ a0 a1 k, LeO (backhaullaw06_StrictReads.f k a0 a1) (backhaullaw06_StrictReads.f (k + 1) a0 a1) := by
  intro a0 a1 k
  obtain ⟨ih0, ih1⟩ := backhaullaw06_StrictReads.mono_l k
  unfold backhaullaw06_StrictReads.f
  repeat' first
      | (with_reducible exact ih0 _ _ _)
      | (with_reducible exact ih1 _ _ _ _ _ _ _ _ _)
      | (with_reducible exact backhaullaw06_read.mono _ _ _ _ _ _ _ _ _ _ _)
      | (with_reducible exact LeO.refl _)
      | (with_reducible exact LeO.none _)
      | (with_reducible refine LeO.ite ?_ ?_)
      | (with_reducible refine LeO.bind ?_ (fun _ => ?_))
      | exact ih0 _ _ _
      | exact ih1 _ _ _ _ _ _ _ _ _
      | exact backhaullaw06_read.mono _ _ _ _ _ _ _ _ _ _ _
      | exact LeO.none _
      | refine LeO.ite ?_ ?_
      | refine LeO.bind ?_ (fun _ => ?_)
def backhaullaw06_StrictReads.T10 : Bool × List (List Nat × List Nat) := (true, [([], []), ([], []), ([], []), ([], []), ([2, 3], [2, 3]), ([4], [4]), ([0, 1, 5], [0, 1, 5]), ([6], [6]), ([7], [7]), ([7], [7]), ([], []), ([10, 8, 6, 0, 1, 2, 3, 4, 5, 6, 7, 8, 10], [8, 10]), ([9, 11, 0, 1, 2, 3, 4, 5, 6, 7, 8, 9, 10, 11], [9])])
def backhaullaw06_StrictReads.B10 : List Nat := [0, 0, 0, 0, 12, 28, 63, 127, 255, 255, 0, 1535, 4095]
theorem backhaullaw06_StrictReads.tab10 : rtab .any (opsOf Try.f6 10) = backhaullaw06_StrictReads.T10 := by kernel_rfl
theorem backhaullaw06_StrictReads.bits10 : waitsOk backhaullaw06_StrictReads.T10.2 backhaullaw06_StrictReads.B10 = true := by kernel_rfl
set_option maxHeartbeats 8000000 in
set_option maxRecDepth 100000 in
theorem backhaullaw06_StrictReads.calls (k : Nat) (a0 : ByteArray) (A1 : Option Addr) (c1 : Nat) (l1 : List (S51)) (w : World) (hr1 : Kd.C k51 w A1 l1.length l1) (hc1 : l1.length ≤ c1) (h : backhaullaw06_StrictReads.f k a0 l1 = some true) :
    Calls Try.prog 6 #[.string a0, .slice A1 l1.length c1] w fun e w' => e = .returned (.bool true) ∧ Below w.heap.size w w' := by
  have hu47 := Try.underlying47
  have hu51 := Try.underlying51
  have HR1 := zA hr1
  have HC1 := zA hc1
  clear hr1 hc1
  have HB := zA (Below.refl w.heap.size w)
  have H : (if (a0.size : Int) > 2000 then (backhaullaw06_StrictReads.j0 k a0 l1 true) else (backhaullaw06_StrictReads.j0 k a0 l1 (decide ((l1.length : Int) > 40)))) = some true := h
  clear h
  have HC3 := zA H
  clear H
  go_enter Try.func6, Try.ntmps6
  go_upto_region 1 with (fail)
  go_cut [17] (fun v17 wc => ∃ (kq : Nat) (x17_2 : Bool), v17 = .bool x17_2 ∧ Aside0 (backhaullaw06_StrictReads.j0 kq a0 l1 x17_2 = some true) ∧ Aside0 (kq ≤ k) ∧ Aside0 (Below w.heap.size w wc))
  case first =>
    have H := HC3.out; clear HC3; by_cases c4 : (a0.size : Int) > 2000
    · rw [if_pos c4] at H
      have c4b0 : decide (2000 < (a0.size : Int)) = true := zFq c4; have c4b1 : decide (2000 < a0.size) = true := zFq (by omega); clear c4; (first | rw [c4b0] | (simp only [i64_w, i32_w]; rw [c4b0]) | skip)
      have H' := zA H; clear H; go_wp2; go_meet
      case rel => exact ⟨_, (true), (by first | rfl | (simp; done) | (simp [*]; done)), H', ⟨by first | omega | exact Nat.le_refl _⟩, ⟨(qT HB.out)⟩⟩
    rw [if_neg c4] at H; have c4b0 : decide (2000 < (a0.size : Int)) = false := zGq c4; have c4b1 : decide (2000 < a0.size) = false := zGq (by omega); clear c4; (first | rw [c4b0] | (simp only [i64_w, i32_w]; rw [c4b0]) | skip)
    have H' := zA H; clear H; go_wp2; go_meet
    case rel => exact ⟨_, (decide ((l1.length : Int) > 40)), (by first | rfl | (simp; done) | (simp [*]; done)), H', ⟨by first | omega | exact Nat.le_refl _⟩, ⟨(qT HB.out)⟩⟩
  case rest =>
    clear HC3; try clear c1
    try clear p2
    try clear c4
    try clear c4b0
    try clear c4b1
    obtain ⟨kq, x17_2, rfl, HA, HJ2, HB⟩ := hcut; cases kq with
    | zero => exact absurd HA.out (by simp [backhaullaw06_StrictReads.j0])
    | succ kj2 =>
      have H := HA.out; clear HA; simp only [backhaullaw06_StrictReads.j0] at H; by_cases c5 : x17_2 = true
      · subst c5
        have H1 : ((backhaullaw06_awake.f).bind fun t101 => (if t101 = true then (some true) else (some false))) = some true := by first | (rw [if_pos rfl] at H; exact H) | rfl
        clear H; have H := H1; clear H1; replace H := Option.bind_eq_some_iff.mp H; obtain ⟨t101, A60, H⟩ := H; replace H : (if t101 = true then (some true) else (some false)) = some true := H; have A6 := zA A60; clear A60; by_cases c7 : t101 = true
        · subst c7
          have H1 : (some true) = some true := by first | (rw [if_pos rfl] at H; exact H) | rfl
          clear H; have H := H1; clear H1; clear H; go_wp2_with (first | ((with_reducible refine zJq (f := 35) rfl ?_); refine goesL_ (some 18) rfl rfl Try.func35 (by kernel_rfl) rfl #[] rfl (by (try simp only [zR, zS, zT]); first | done | rfl | (simp only [zP, zQ]; rfl)) ?_; (with_reducible refine (backhaullaw06_awake.calls  true _ A6.out).mono ?_); rintro e w8 ⟨rfl, hb⟩; refine ⟨_, rfl, ?_⟩; have n0_ := zA (zV (qT HB.out) hb); clear HB; have HB := n0_; clear n0_; (try clear hb); (try clear hb2); (try clear hk); (try clear hi))); go_ret; exact ⟨qE, (qT HB.out)⟩
        replace c7 := Bool.eq_false_iff.mpr c7; subst c7; have H1 : (some false) = some true := by first | (rw [if_neg (show ¬ (false = true) by decide)] at H; exact H) | rfl
        clear H; have H := H1; clear H1; exact absurd H (by simp)
      replace c5 := Bool.eq_false_iff.mpr c5; subst c5; have H1 : ((strict_New.f a0).bind fun bt102 => (backhaullaw06_StrictReads.l0 kj2 l1 0 bt102.1 bt102.2.1 bt102.2.2.1 bt102.2.2.2 a0 0 0)) = some true := by first | (rw [if_neg (show ¬ (false = true) by decide)] at H; exact H) | rfl
      clear H; have H := H1; clear H1; replace H := Option.bind_eq_some_iff.mp H; obtain ⟨⟨t102, t103, t104, t105⟩, A90, H⟩ := H; replace H : (backhaullaw06_StrictReads.l0 kj2 l1 0 t102 t103 t104 t105 a0 0 0) = some true := H; have A9 := zA A90; clear A90; have H' := zA H; clear H; go_wp2_with (first | ((with_reducible refine zJq (f := 36) rfl ?_); refine goesL_ (some 20) rfl rfl Try.func36 (by kernel_rfl) rfl #[.string a0] rfl (by (try simp only [zR, zS, zT]); first | done | rfl | (simp only [zP, zQ]; rfl)) ?_; (with_reducible refine (strict_New.calls a0 t102 t103 t104 t105 w _ ?side1 A9.out).mono ?_); (case side1 => repeat (first | (with_reducible first | exact HB.out | apply zD | apply zB | apply zC) | exact HB.out)); rintro e w10 ⟨g106, rfl, hi, hb, hb2⟩; refine ⟨_, rfl, ?_⟩; have n0_ := zA (hb); have n1_ := zA (hi); clear HB; have HB := n0_; have HI106 := n1_; clear n0_ n1_; (try clear hb); (try clear hb2); (try clear hk); (try clear hi); (try simp only [errW_none, errW_some])) | ((with_reducible refine gate_dst (N := 6) rfl ?_); (try (refine gate_guard (by rfl) ?_; dsimp only)); refine box_event qr (N := 6) qr (cs := #[.string (⟨#[]⟩ : ByteArray), .int .i64 0, .int .i64 0]) (t := 47) qg ?_; intro gb107 hg w11 hbox hb; have n0_ := zA (IsS56.below (by repeat (first | (with_reducible first | exact HI106.out | apply IsS56.alloc | apply IsS56.drewN | apply IsS56.drew) | exact HI106.out)) hb); have n1_ := zA (zV (qH HI106.out HB.out) hb); have n2_ := zA (hbox); have n3_ := zA ((by rw [hg]; exact (zW (qH HI106.out HB.out)) : w.heap.size ≤ gb107)); have n4_ := zA ((by rw [hg]; exact (zW (qH HI106.out HB.out)) : w.heap.size ≤ gb107)); have n5_ := zA ((by rw [hg]; exact zLq (IsS56.lt (show IsS56 w _ g106 t102 t103 t104 t105 from by repeat (first | (with_reducible first | exact HI106.out | apply IsS56.alloc | apply IsS56.drewN | apply IsS56.drew) | exact HI106.out))) : g106 ≠ gb107)); have n6_ := zA ((by rw [hg]; exact zMq (IsS56.lt (show IsS56 w _ g106 t102 t103 t104 t105 from by repeat (first | (with_reducible first | exact HI106.out | apply IsS56.alloc | apply IsS56.drewN | apply IsS56.drew) | exact HI106.out))) : gb107 ≠ g106)); clear HI106 HB; have HI106 := n0_; have HB := n1_; have BK107 := n2_; have GW107 := n3_; have GE107 := n4_; have NB106_107 := n5_; have NB107_106 := n6_; clear n0_ n1_ n2_ n3_ n4_ n5_ n6_ hb hbox hg; have hnb12 := NB107_106.out; have hnc12 := NB106_107.out; obtain ⟨_, _, _, _, _, _⟩ := qc3f BK107.out)); go_loopg [7] kj2 (fun kq v7 w' => ∃ (x7_2 : Int) (x107000_2 : ByteArray) (x107001_2 : Int) (x107002_2 : Option (Int × Int)) (x107003_2 : Bool) (x108000_2 : ByteArray) (x108001_2 : Int) (x108002_2 : Int), v7 = .int .i64 x7_2 ∧ Aside0 (backhaullaw06_StrictReads.l0 kq l1 x7_2 x107000_2 x107001_2 x107002_2 x107003_2 x108000_2 x108001_2 x108002_2 = some true) ∧ Aside0 (kq ≤ kj2) ∧ Aside0 (w'.heap[gb107]? = some (.cells #[.string x108000_2, .int .i64 x108001_2, .int .i64 x108002_2] 47 (0, 0))) ∧ Aside0 (IsS56 w w' g106 x107000_2 x107001_2 x107002_2 x107003_2) ∧ Aside0 (Below w.heap.size w w'))
      case atStart => exact ⟨(0), (t102), (t103), (t104), (t105), (a0), (0), (0), (by first | rfl | (simp; done) | (simp [*]; done)), H', ⟨Nat.le_refl _⟩, ⟨by (with_reducible repeat (first | refine zY ?_ _ | refine zAq ?_ | refine zZ ?_ _)); apply qP3; exact BK107.out⟩, ⟨by repeat (first | (with_reducible first | exact HI106.out | apply IsS56.alloc | apply IsS56.drewN | apply IsS56.drew | refine IsS56.far ?_ NB106_107.out _) | exact HI106.out)⟩, ⟨qH HI106.out HB.out⟩⟩
      case round =>
        clear H'; try clear c1
        try clear p2
        try clear c3
        try clear c4
        try clear c4b0
        try clear c4b1
        try clear c5
        try clear c6
        try clear c7
        try clear c12
        try clear p2
        obtain ⟨x7_2, x107000_2, x107001_2, x107002_2, x107003_2, x108000_2, x108001_2, x108002_2, rfl, HA, HK2, BK107, HI106, HB⟩ := hrel; cases gk with
        | zero => exact absurd HA.out (by simp [backhaullaw06_StrictReads.l0])
        | succ k2 =>
          have H := HA.out; clear HA; simp only [backhaullaw06_StrictReads.l0] at H; by_cases c14 : x7_2 < (l1.length : Int)
          · rw [if_pos c14] at H
            have c14b0 : decide (x7_2 < (l1.length : Int)) = true := zFq c14; clear c14; by_cases c15 : 0 ≤ x7_2
            · rw [if_pos c15] at H
              have c15b0 : decide (0 ≤ x7_2) = true := zFq c15; clear c15; replace H := Option.bind_eq_some_iff.mp H; obtain ⟨⟨t109, t110, t111, t112, t113, t114, t115, t116⟩, A160, H⟩ := H; replace H : (if t112 = true then (backhaullaw06_StrictReads.l0 k2 l1 (wrap64 (x7_2 + 1)) t113 t114 t115 t116 t109 t110 t111) else (some false)) = some true := H; have A16 := zA A160; clear A160; by_cases c17 : t112 = true
              · subst c17
                have H1 : (backhaullaw06_StrictReads.l0 k2 l1 (wrap64 (x7_2 + 1)) t113 t114 t115 t116 t109 t110 t111) = some true := by first | (rw [if_pos rfl] at H; exact H) | rfl
                clear H; have H := H1; clear H1; have H' := zA H; clear H; try go_wp2
                have n0_ := zA (zAq BK107.out); have n1_ := zA (IsS56.drew HI106.out); have n2_ := zA (zC HB.out); clear BK107; clear HI106; clear HB; have BK107 := n0_; have HI106 := n1_; have HB := n2_; clear n0_ n1_ n2_; have p108 : 0 ≤ (x7_2 : Int) := of_decide_eq_true qA; have q108 : x7_2 < (l1.length : Int) := of_decide_eq_true qA; obtain ⟨ad108, e108, hx108_0, hx108_1, hx108_2⟩ := at_T51 HR1.out x7_2 p108 q108; have hw108_2 := hx108_2; have hw108_1 := hx108_1; have hw108_0 := hx108_0; cases e108
                replace hx108_0 := (HB.out.cell (zCq w _ hx108_0)).trans hx108_0; replace hx108_1 := (HB.out.cell (zCq w _ hx108_1)).trans hx108_1; replace hx108_2 := (HB.out.cell (zCq w _ hx108_2)).trans hx108_2; replace p108 := eq_true p108; replace q108 := eq_true q108; refine start_ (n := 13) (S := fun w' => w'.cell? ⟨gb107, 0, none⟩ = some (.string x108000_2) ∧ w'.cell? ⟨gb107, 1, none⟩ = some (.int .i64 x108001_2) ∧ w'.cell? ⟨gb107, 2, none⟩ = some (.int .i64 x108002_2) ∧ w'.cell? (ad108.add ((x7_2).toNat * 3)) = some (.int .i64 ((rd_T51 l1 x7_2).f0)) ∧ w'.cell? ⟨(ad108.add ((x7_2).toNat * 3)).block, (ad108.add ((x7_2).toNat * 3)).off + 1, none⟩ = some (.int .i64 ((rd_T51 l1 x7_2).f1)) ∧ w'.cell? ⟨(ad108.add ((x7_2).toNat * 3)).block, (ad108.add ((x7_2).toNat * 3)).off + 2, none⟩ = some (.int .i64 ((rd_T51 l1 x7_2).f2))) (ds := []) #[o0, o0, o0, o0, o0, o0, o0, o0, o0, o0, o0, o0, o0] (by kernel_rfl) rfl rfl ⟨(zF BK107.out 0).trans rfl, (zF BK107.out 1).trans rfl, (zF BK107.out 2).trans rfl, ((HB.out.cell (zCq w _ hw108_0)).trans hw108_0), ((HB.out.cell (zCq w _ hw108_1)).trans hw108_1), ((HB.out.cell (zCq w _ hw108_2)).trans hw108_2)⟩ (fun hHeld => ?_); refine with_tabW backhaullaw06_StrictReads.tab10 backhaullaw06_StrictReads.bits10 (fun HT_ HW_ => ?_); generalize wr.drew = w18 at BK107 HI106 HB hx108_0 hx108_1 hx108_2 hHeld ⊢; refine pure_ (i := 0) (N := some 32) #[o1, o0, o0, o0, o0, o0, o0, o0, o0, o0, o0, o0, o0] rfl rfl (any_of HT_.out (by kernel_rfl)) (fun _ _ _ h => h) (Or.inl ⟨by rfl, qy⟩) qz ?_; refine pure_ (i := 2) (N := some 34) #[o1, o0, o1, o0, o0, o0, o0, o0, o0, o0, o0, o0, o0] rfl rfl (any_of HT_.out (by kernel_rfl)) (fun _ _ _ h => h) (Or.inl ⟨by rfl, qy⟩) qz ?_; refine pure_ (i := 3) (N := some 35) #[o1, o0, o1, o1, o0, o0, o0, o0, o0, o0, o0, o0, o0] rfl rfl (any_of HT_.out (by kernel_rfl)) (fun _ _ _ h => h) (Or.inl ⟨by rfl, qy⟩) qz ?_; refine pure_ (i := 4) (N := some 36) #[o1, o0, o1, o1, o1, o0, o0, o0, o0, o0, o0, o0, o0] rfl rfl (any_of HT_.out (by kernel_rfl)) (fun _ _ _ h => h) (Or.inl ⟨by rfl, qy⟩) qz ?_; refine take_ (i := 1) (N := some 33) (v := ?_) (a' := ?_) #[o1, o1, o1, o1, o1, o0, o0, o0, o0, o0, o0, o0, o0] rfl rfl (take_ofW HT_.out HW_.out (by kernel_rfl)) (fun _ _ _ h => h) (Or.inl ⟨by rfl, ?_⟩) hHeld ?_ ?_; rotate_left
                · rintro w' ⟨s0, s1, s2, s3, s4, s5⟩
                  go_simp; with_reducible rfl
                rotate_left
                · simp only [Act.put, zH, zI, zJ, i64_w, i32_w]
                  rfl
                refine take_ (i := 5) (N := some 37) (v := ?_) (a' := ?_) #[o1, o1, o1, o1, o1, o1, o0, o0, o0, o0, o0, o0, o0] rfl rfl (take_ofW HT_.out HW_.out (by kernel_rfl)) (fun _ _ _ h => h) (Or.inl ⟨by rfl, ?_⟩) hHeld ?_ ?_; rotate_left
                · rintro w' ⟨s0, s1, s2, s3, s4, s5⟩
                  go_simp; with_reducible rfl
                rotate_left
                · simp only [Act.put, zH, zI, zJ, i64_w, i32_w]
                  rfl
                refine join_ (σ := Nat) 2 #[o1, o1, o1, o1, o1, o1, o1, o1, o1, o1, o1, o0, o0] (fun s_ => [(38, .tuple #[.agg #[.string t109, .int .i64 t110, .int .i64 t111], .bool true]), (8, .pointer (some ⟨s_, 0, none⟩)), (31, .tuple #[.agg #[.string t109, .int .i64 t110, .int .i64 t111], .bool true]), (39, .agg #[.string t109, .int .i64 t110, .int .i64 t111]), (40, .bool true)]) (fun s_ w' => (w'.cell? ⟨gb107, 0, none⟩ = some (.string x108000_2) ∧ w'.cell? ⟨gb107, 1, none⟩ = some (.int .i64 x108001_2) ∧ w'.cell? ⟨gb107, 2, none⟩ = some (.int .i64 x108002_2) ∧ w'.cell? (ad108.add ((x7_2).toNat * 3)) = some (.int .i64 ((rd_T51 l1 x7_2).f0)) ∧ w'.cell? ⟨(ad108.add ((x7_2).toNat * 3)).block, (ad108.add ((x7_2).toNat * 3)).off + 1, none⟩ = some (.int .i64 ((rd_T51 l1 x7_2).f1)) ∧ w'.cell? ⟨(ad108.add ((x7_2).toNat * 3)).block, (ad108.add ((x7_2).toNat * 3)).off + 2, none⟩ = some (.int .i64 ((rd_T51 l1 x7_2).f2))) ∧ (w'.heap[gb107]? = some (.cells #[.string x108000_2, .int .i64 x108001_2, .int .i64 x108002_2] 47 (0, 0))) ∧ (w'.heap[s_]? = some (.cells #[.string (⟨#[]⟩ : ByteArray), .int .i64 0, .int .i64 0] 47 (0, 0))) ∧ (w.heap.size ≤ s_) ∧ (w.heap.size ≤ s_) ∧ (g106 ≠ s_) ∧ (s_ ≠ g106) ∧ (gb107 ≠ s_) ∧ (s_ ≠ gb107) ∧ (IsS56 w w' g106 t113 t114 t115 t116) ∧ (Below w.heap.size w w')) ?_ ?_; rotate_left
                · intro hCont
                  refine two_ (i := 6) (j := 10) (Ni := some 38) (Nj := some 8) #[o1, o1, o1, o1, o1, o1, o1, o0, o0, o0, o0, o0, o0] #[o1, o1, o1, o1, o1, o1, o0, o0, o0, o0, o1, o0, o0] rfl rfl rfl rfl (two_of HT_.out (by kernel_rfl)) (by decide) (by decide) (fun K hK => ?_) (fun K hK => ?_)
                  · skip
                    refine goes_ Try.func37 (by kernel_rfl) rfl #[.pointer (some ⟨g106, 0, none⟩), .agg #[.string x108000_2, .int .i64 x108001_2, .int .i64 x108002_2], .agg #[.int .i64 ((rd_T51 l1 x7_2).f0), .int .i64 ((rd_T51 l1 x7_2).f1), .int .i64 ((rd_T51 l1 x7_2).f2)]] (by rfl) rfl rfl (by (try simp only [zR, zS, zT]); first | done | rfl | (simp only [zP, zQ]; rfl)) ?_; with_reducible refine (backhaullaw06_read.calls k2 g106 x107000_2 x107001_2 x107002_2 x107003_2 x108000_2 x108001_2 x108002_2 ((rd_T51 l1 x7_2).f0) ((rd_T51 l1 x7_2).f1) ((rd_T51 l1 x7_2).f2) t109 t110 t111 true t113 t114 t115 t116 w _ ?side1 ?side2 A16.out).mono ?_
                    (case side1 => repeat (first | (with_reducible first | exact HI106.out | apply IsS56.alloc | apply IsS56.drewN | apply IsS56.drew | refine IsS56.far ?_ NB106_107.out _) | exact HI106.out))
                    (case side2 => repeat (first | (with_reducible first | exact HB.out | apply zD | apply zB | apply zC | refine zE ?_ (IsS56.ge HI106.out) | refine zE ?_ GE107.out) | exact HB.out))
                    rintro e w19 ⟨rfl, hi, hb, hk⟩; refine ⟨_, rfl, ?_⟩; have n0_ := zA (KeepBut.blk hk (g' := gb107) (o := .cells #[.string x108000_2, .int .i64 x108001_2, .int .i64 x108002_2] 47 (0, 0)) (qW BK107.out) NB107_106.out (by simp)); have n1_ := zA (hb); have n2_ := zA (hi); clear BK107; clear HB; clear HI106; have BK107 := n0_; have HB := n1_; have HI106 := n2_; clear n0_ n1_ n2_; (try clear hb); (try clear hb2); (try clear hk); (try clear hi); (try simp only [errW_none, errW_some])
                    refine hK.out _ _ ⟨(zF BK107.out 0).trans rfl, (zF BK107.out 1).trans rfl, (zF BK107.out 2).trans rfl, ((HB.out.cell (zCq w _ hw108_0)).trans hw108_0), ((HB.out.cell (zCq w _ hw108_1)).trans hw108_1), ((HB.out.cell (zCq w _ hw108_2)).trans hw108_2)⟩ (fun hHeld => ?_); clear hK K; refine norm_ (a' := ?_) ?_ ?_; rotate_left
                    · show Act.put _ (some 38) _ = _
                      simp only [Act.put, zH, zI, zJ, i64_w, i32_w]; rfl
                    refine pure_ (i := 7) (N := some 31) #[o1, o1, o1, o1, o1, o1, o1, o1, o0, o0, o0, o0, o0] rfl rfl (any_of HT_.out (by kernel_rfl)) (fun _ _ _ h => h) (Or.inl ⟨by rfl, qy⟩) qz ?_; refine pure_ (i := 8) (N := some 39) #[o1, o1, o1, o1, o1, o1, o1, o1, o1, o0, o0, o0, o0] rfl rfl (any_of HT_.out (by kernel_rfl)) (fun _ _ _ h => h) (Or.inl ⟨by rfl, qy⟩) qz ?_; refine pure_ (i := 9) (N := some 40) #[o1, o1, o1, o1, o1, o1, o1, o1, o1, o1, o0, o0, o0] rfl rfl (any_of HT_.out (by kernel_rfl)) (fun _ _ _ h => h) (Or.inl ⟨by rfl, qy⟩) qz ?_; refine one_ (i := 10) (N := some 8) #[o1, o1, o1, o1, o1, o1, o1, o1, o1, o1, o1, o0, o0] rfl rfl (one_of HT_.out (by kernel_rfl)) (by decide) (fun K hK => ?_); refine box_step ?hg (N := 8) ?hd (cs := #[.string (⟨#[]⟩ : ByteArray), .int .i64 0, .int .i64 0]) (t := 47) ?hr ?_; (case hd => rfl); (case hg => rfl); (case hr => first | (go_simp; done) | (go_simp; rfl)); intro gb117 hg w20 hbox hb; have n0_ := zA (qX BK107.out hb); have n1_ := zA (IsS56.below (by repeat (first | (with_reducible first | exact HI106.out | apply IsS56.alloc | apply IsS56.drewN | apply IsS56.drew | refine IsS56.far ?_ NB106_107.out _) | exact HI106.out)) hb); have n2_ := zA (zV (qH HI106.out HB.out) hb); have n3_ := zA (hbox); have n4_ := zA ((by rw [hg]; exact (zW (qH HI106.out HB.out)) : w.heap.size ≤ gb117)); have n5_ := zA ((by rw [hg]; exact (zW (qH HI106.out HB.out)) : w.heap.size ≤ gb117)); have n6_ := zA ((by rw [hg]; exact zLq (qL BK107.out) : gb107 ≠ gb117)); have n7_ := zA ((by rw [hg]; exact zMq (qL BK107.out) : gb117 ≠ gb107)); have n8_ := zA ((by rw [hg]; exact zLq (IsS56.lt (show IsS56 w _ g106 t113 t114 t115 t116 from by repeat (first | (with_reducible first | exact HI106.out | apply IsS56.alloc | apply IsS56.drewN | apply IsS56.drew | refine IsS56.far ?_ NB106_107.out _) | exact HI106.out))) : g106 ≠ gb117)); have n9_ := zA ((by rw [hg]; exact zMq (IsS56.lt (show IsS56 w _ g106 t113 t114 t115 t116 from by repeat (first | (with_reducible first | exact HI106.out | apply IsS56.alloc | apply IsS56.drewN | apply IsS56.drew | refine IsS56.far ?_ NB106_107.out _) | exact HI106.out))) : gb117 ≠ g106)); clear BK107; clear HI106; clear HB; have BK107 := n0_; have HI106 := n1_; have HB := n2_; have BK117 := n3_; have GW117 := n4_; have GE117 := n5_; have NB107_117 := n6_; have NB117_107 := n7_; have NB106_117 := n8_; have NB117_106 := n9_; clear n0_ n1_ n2_ n3_ n4_ n5_ n6_ n7_ n8_ n9_; clear hb hbox hg; refine hK.out _ _ ⟨(zF BK107.out 0).trans rfl, (zF BK107.out 1).trans rfl, (zF BK107.out 2).trans rfl, ((HB.out.cell (zCq w _ hw108_0)).trans hw108_0), ((HB.out.cell (zCq w _ hw108_1)).trans hw108_1), ((HB.out.cell (zCq w _ hw108_2)).trans hw108_2)⟩ (fun hHeld => ?_)
                    clear hK K; refine norm_ (a' := ?_) ?_ ?_; rotate_left
                    · show Act.put _ (some 8) _ = _
                      simp only [Act.put, zH, zI, zJ, i64_w, i32_w]; rfl
                    exact norm_ (by simp only [putAll, Act.put, zH, zI, zJ]) (hCont (gb117) _ ⟨hHeld, (qW BK107.out), (qW BK117.out), GW117.out, GE117.out, NB106_117.out, NB117_106.out, NB107_117.out, NB117_107.out, (by repeat (first | (with_reducible first | exact HI106.out | apply IsS56.alloc | apply IsS56.drewN | apply IsS56.drew | refine IsS56.far ?_ NB106_107.out _ | refine IsS56.far ?_ NB106_117.out _) | exact HI106.out)), (qH HI106.out HB.out)⟩)
                  skip; refine box_step ?hg (N := 8) ?hd (cs := #[.string (⟨#[]⟩ : ByteArray), .int .i64 0, .int .i64 0]) (t := 47) ?hr ?_; (case hd => rfl); (case hg => rfl); (case hr => first | (go_simp; done) | (go_simp; rfl)); intro gb117 hg w19 hbox hb; have n0_ := zA (qX BK107.out hb); have n1_ := zA (IsS56.below (by repeat (first | (with_reducible first | exact HI106.out | apply IsS56.alloc | apply IsS56.drewN | apply IsS56.drew | refine IsS56.far ?_ NB106_107.out _) | exact HI106.out)) hb); have n2_ := zA (zV (qH HI106.out HB.out) hb); have n3_ := zA (hbox); have n4_ := zA ((by rw [hg]; exact (zW (qH HI106.out HB.out)) : w.heap.size ≤ gb117)); have n5_ := zA ((by rw [hg]; exact (zW (qH HI106.out HB.out)) : w.heap.size ≤ gb117)); have n6_ := zA ((by rw [hg]; exact zLq (qL BK107.out) : gb107 ≠ gb117)); have n7_ := zA ((by rw [hg]; exact zMq (qL BK107.out) : gb117 ≠ gb107)); have n8_ := zA ((by rw [hg]; exact zLq (IsS56.lt (show IsS56 w _ g106 x107000_2 x107001_2 x107002_2 x107003_2 from by repeat (first | (with_reducible first | exact HI106.out | apply IsS56.alloc | apply IsS56.drewN | apply IsS56.drew | refine IsS56.far ?_ NB106_107.out _) | exact HI106.out))) : g106 ≠ gb117)); have n9_ := zA ((by rw [hg]; exact zMq (IsS56.lt (show IsS56 w _ g106 x107000_2 x107001_2 x107002_2 x107003_2 from by repeat (first | (with_reducible first | exact HI106.out | apply IsS56.alloc | apply IsS56.drewN | apply IsS56.drew | refine IsS56.far ?_ NB106_107.out _) | exact HI106.out))) : gb117 ≠ g106)); clear BK107; clear HI106; clear HB; have BK107 := n0_; have HI106 := n1_; have HB := n2_; have BK117 := n3_; have GW117 := n4_; have GE117 := n5_; have NB107_117 := n6_; have NB117_107 := n7_; have NB106_117 := n8_; have NB117_106 := n9_; clear n0_ n1_ n2_ n3_ n4_ n5_ n6_ n7_ n8_ n9_; clear hb hbox hg; refine hK.out _ _ ⟨(zF BK107.out 0).trans rfl, (zF BK107.out 1).trans rfl, (zF BK107.out 2).trans rfl, ((HB.out.cell (zCq w _ hw108_0)).trans hw108_0), ((HB.out.cell (zCq w _ hw108_1)).trans hw108_1), ((HB.out.cell (zCq w _ hw108_2)).trans hw108_2)⟩ (fun hHeld => ?_); clear hK K; refine norm_ (a' := ?_) ?_ ?_; rotate_left
                  · show Act.put _ (some 8) _ = _
                    simp only [Act.put, zH, zI, zJ, i64_w, i32_w]; rfl
                  refine one_ (i := 6) (N := some 38) #[o1, o1, o1, o1, o1, o1, o1, o0, o0, o0, o1, o0, o0] rfl rfl (one_of HT_.out (by kernel_rfl)) (by decide) (fun K hK => ?_); refine goes_ Try.func37 (by kernel_rfl) rfl #[.pointer (some ⟨g106, 0, none⟩), .agg #[.string x108000_2, .int .i64 x108001_2, .int .i64 x108002_2], .agg #[.int .i64 ((rd_T51 l1 x7_2).f0), .int .i64 ((rd_T51 l1 x7_2).f1), .int .i64 ((rd_T51 l1 x7_2).f2)]] (by rfl) rfl rfl (by (try simp only [zR, zS, zT]); first | done | rfl | (simp only [zP, zQ]; rfl)) ?_; with_reducible refine (backhaullaw06_read.calls k2 g106 x107000_2 x107001_2 x107002_2 x107003_2 x108000_2 x108001_2 x108002_2 ((rd_T51 l1 x7_2).f0) ((rd_T51 l1 x7_2).f1) ((rd_T51 l1 x7_2).f2) t109 t110 t111 true t113 t114 t115 t116 w _ ?side1 ?side2 A16.out).mono ?_
                  (case side1 => repeat (first | (with_reducible first | exact HI106.out | apply IsS56.alloc | apply IsS56.drewN | apply IsS56.drew | refine IsS56.far ?_ NB106_107.out _ | refine IsS56.far ?_ NB106_117.out _) | exact HI106.out))
                  (case side2 => repeat (first | (with_reducible first | exact HB.out | apply zD | apply zB | apply zC | refine zE ?_ (IsS56.ge HI106.out) | refine zE ?_ GE107.out | refine zE ?_ GE117.out) | exact HB.out))
                  rintro e w20 ⟨rfl, hi, hb, hk⟩; refine ⟨_, rfl, ?_⟩; have n0_ := zA (KeepBut.blk hk (g' := gb107) (o := .cells #[.string x108000_2, .int .i64 x108001_2, .int .i64 x108002_2] 47 (0, 0)) (qW BK107.out) NB107_106.out (by simp)); have n1_ := zA (KeepBut.blk hk (g' := gb117) (o := .cells #[.string (⟨#[]⟩ : ByteArray), .int .i64 0, .int .i64 0] 47 (0, 0)) (qW BK117.out) NB117_106.out (by simp)); have n2_ := zA (hb); have n3_ := zA (hi); clear BK107; clear BK117; clear HB; clear HI106; have BK107 := n0_; have BK117 := n1_; have HB := n2_; have HI106 := n3_; clear n0_ n1_ n2_ n3_; (try clear hb); (try clear hb2); (try clear hk); (try clear hi); (try simp only [errW_none, errW_some])
                  refine hK.out _ _ ⟨(zF BK107.out 0).trans rfl, (zF BK107.out 1).trans rfl, (zF BK107.out 2).trans rfl, ((HB.out.cell (zCq w _ hw108_0)).trans hw108_0), ((HB.out.cell (zCq w _ hw108_1)).trans hw108_1), ((HB.out.cell (zCq w _ hw108_2)).trans hw108_2)⟩ (fun hHeld => ?_); clear hK K; refine norm_ (a' := ?_) ?_ ?_; rotate_left
                  · show Act.put _ (some 38) _ = _
                    simp only [Act.put, zH, zI, zJ, i64_w, i32_w]; rfl
                  refine pure_ (i := 7) (N := some 31) #[o1, o1, o1, o1, o1, o1, o1, o1, o0, o0, o1, o0, o0] rfl rfl (any_of HT_.out (by kernel_rfl)) (fun _ _ _ h => h) (Or.inl ⟨by rfl, qy⟩) qz ?_; refine pure_ (i := 8) (N := some 39) #[o1, o1, o1, o1, o1, o1, o1, o1, o1, o0, o1, o0, o0] rfl rfl (any_of HT_.out (by kernel_rfl)) (fun _ _ _ h => h) (Or.inl ⟨by rfl, qy⟩) qz ?_; refine pure_ (i := 9) (N := some 40) #[o1, o1, o1, o1, o1, o1, o1, o1, o1, o1, o1, o0, o0] rfl rfl (any_of HT_.out (by kernel_rfl)) (fun _ _ _ h => h) (Or.inl ⟨by rfl, qy⟩) qz ?_; exact norm_ (by simp only [putAll, Act.put, zH, zI, zJ]) (hCont (gb117) _ ⟨hHeld, (qW BK107.out), (qW BK117.out), GW117.out, GE117.out, NB106_117.out, NB117_106.out, NB107_117.out, NB117_107.out, (by repeat (first | (with_reducible first | exact HI106.out | apply IsS56.alloc | apply IsS56.drewN | apply IsS56.drew | refine IsS56.far ?_ NB106_107.out _ | refine IsS56.far ?_ NB106_117.out _) | exact HI106.out)), (qH HI106.out HB.out)⟩)
                rintro gb117 w21 ⟨hS_, h0_, h1_, h2_, h3_, h4_, h5_, h6_, h7_, h8_, h9_⟩; have n0_ : Aside0 (w21.heap[gb107]? = some (.cells #[.string x108000_2, .int .i64 x108001_2, .int .i64 x108002_2] 47 (0, 0))) := ⟨h0_⟩
                have n1_ : Aside0 (w21.heap[gb117]? = some (.cells #[.string (⟨#[]⟩ : ByteArray), .int .i64 0, .int .i64 0] 47 (0, 0))) := ⟨h1_⟩
                have n2_ : Aside0 (w.heap.size ≤ gb117) := ⟨h2_⟩
                have n3_ : Aside0 (w.heap.size ≤ gb117) := ⟨h3_⟩
                have n4_ : Aside0 (g106 ≠ gb117) := ⟨h4_⟩
                have n5_ : Aside0 (gb117 ≠ g106) := ⟨h5_⟩
                have n6_ : Aside0 (gb107 ≠ gb117) := ⟨h6_⟩
                have n7_ : Aside0 (gb117 ≠ gb107) := ⟨h7_⟩
                have n8_ : Aside0 (IsS56 w w21 g106 t113 t114 t115 t116) := ⟨h8_⟩
                have n9_ : Aside0 (Below w.heap.size w w21) := ⟨h9_⟩
                clear BK107; clear HI106; clear HB; clear h0_ h1_ h2_ h3_ h4_ h5_ h6_ h7_ h8_ h9_; have BK107 := n0_; have BK117 := n1_; have GW117 := n2_; have GE117 := n3_; have NB106_117 := n4_; have NB117_106 := n5_; have NB107_117 := n6_; have NB117_107 := n7_; have HI106 := n8_; have HB := n9_; clear n0_ n1_ n2_ n3_ n4_ n5_ n6_ n7_ n8_ n9_; have hHeld : w21.cell? ⟨gb107, 0, none⟩ = some (.string x108000_2) ∧ w21.cell? ⟨gb107, 1, none⟩ = some (.int .i64 x108001_2) ∧ w21.cell? ⟨gb107, 2, none⟩ = some (.int .i64 x108002_2) ∧ w21.cell? (ad108.add ((x7_2).toNat * 3)) = some (.int .i64 ((rd_T51 l1 x7_2).f0)) ∧ w21.cell? ⟨(ad108.add ((x7_2).toNat * 3)).block, (ad108.add ((x7_2).toNat * 3)).off + 1, none⟩ = some (.int .i64 ((rd_T51 l1 x7_2).f1)) ∧ w21.cell? ⟨(ad108.add ((x7_2).toNat * 3)).block, (ad108.add ((x7_2).toNat * 3)).off + 2, none⟩ = some (.int .i64 ((rd_T51 l1 x7_2).f2)) := hS_; refine norm_ (a' := ?_) ?_ ?_; rotate_left
                · simp only [putAll, Act.put, zH, zI, zJ]
                  rfl
                refine one_ (i := 11) (N := none) #[o1, o1, o1, o1, o1, o1, o1, o1, o1, o1, o1, o1, o0] rfl rfl (one_of HT_.out (by kernel_rfl)) (by decide) (fun K hK => ?_); have hs22 : w21.cell? ⟨gb117, 0, none⟩ = some (.string (⟨#[]⟩ : ByteArray)) := (zF BK117.out 0).trans rfl; have hfs22 := zG BK117.out 0; have hns22_0 := NB107_117.out; have hms22_0 := NB117_107.out; have hs23 : w21.cell? ⟨gb117, 1, none⟩ = some (.int .i64 0) := (zF BK117.out 1).trans rfl; have hfs23 := zG BK117.out 1; have hns23_0 := NB107_117.out; have hms23_0 := NB117_107.out; have hs24 : w21.cell? ⟨gb117, 2, none⟩ = some (.int .i64 0) := (zF BK117.out 2).trans rfl; have hfs24 := zG BK117.out 2; have hns24_0 := NB107_117.out; have hms24_0 := NB117_107.out; refine skip_ (w1 := ?_) (by rfl) rfl ?_ ?_; rotate_left
                · go_simp
                  rfl
                refine hK.out _ _ ⟨((cell_far (p := ⟨gb117, _, none⟩) NB107_117.out _).trans (((cell_far (p := ⟨gb117, _, none⟩) NB107_117.out _).trans (((cell_far (p := ⟨gb117, _, none⟩) NB107_117.out _).trans (hHeld.1)))))), ((cell_far (p := ⟨gb117, _, none⟩) NB107_117.out _).trans (((cell_far (p := ⟨gb117, _, none⟩) NB107_117.out _).trans (((cell_far (p := ⟨gb117, _, none⟩) NB107_117.out _).trans (hHeld.2.1)))))), ((cell_far (p := ⟨gb117, _, none⟩) NB107_117.out _).trans (((cell_far (p := ⟨gb117, _, none⟩) NB107_117.out _).trans (((cell_far (p := ⟨gb117, _, none⟩) NB107_117.out _).trans (hHeld.2.2.1)))))), ((cell_far (p := ⟨gb117, _, none⟩) (by first | exact zLq (Nat.lt_of_lt_of_le (by have := zCq _ _ hw108_0; first | rwa [add_block] at this | exact this) GW117.out) | (rw [add_block]; exact zLq (Nat.lt_of_lt_of_le (by have := zCq _ _ hw108_0; first | rwa [add_block] at this | exact this) GW117.out)) | (show (Addr.add _ _).block ≠ _; rw [add_block]; exact zLq (Nat.lt_of_lt_of_le (by have := zCq _ _ hw108_0; first | rwa [add_block] at this | exact this) GW117.out)) | (dsimp only; exact zLq (Nat.lt_of_lt_of_le (by have := zCq _ _ hw108_0; first | rwa [add_block] at this | exact this) GW117.out))) _).trans (((cell_far (p := ⟨gb117, _, none⟩) (by first | exact zLq (Nat.lt_of_lt_of_le (by have := zCq _ _ hw108_0; first | rwa [add_block] at this | exact this) GW117.out) | (rw [add_block]; exact zLq (Nat.lt_of_lt_of_le (by have := zCq _ _ hw108_0; first | rwa [add_block] at this | exact this) GW117.out)) | (show (Addr.add _ _).block ≠ _; rw [add_block]; exact zLq (Nat.lt_of_lt_of_le (by have := zCq _ _ hw108_0; first | rwa [add_block] at this | exact this) GW117.out)) | (dsimp only; exact zLq (Nat.lt_of_lt_of_le (by have := zCq _ _ hw108_0; first | rwa [add_block] at this | exact this) GW117.out))) _).trans (((cell_far (p := ⟨gb117, _, none⟩) (by first | exact zLq (Nat.lt_of_lt_of_le (by have := zCq _ _ hw108_0; first | rwa [add_block] at this | exact this) GW117.out) | (rw [add_block]; exact zLq (Nat.lt_of_lt_of_le (by have := zCq _ _ hw108_0; first | rwa [add_block] at this | exact this) GW117.out)) | (show (Addr.add _ _).block ≠ _; rw [add_block]; exact zLq (Nat.lt_of_lt_of_le (by have := zCq _ _ hw108_0; first | rwa [add_block] at this | exact this) GW117.out)) | (dsimp only; exact zLq (Nat.lt_of_lt_of_le (by have := zCq _ _ hw108_0; first | rwa [add_block] at this | exact this) GW117.out))) _).trans (hHeld.2.2.2.1)))))), ((cell_far (p := ⟨gb117, _, none⟩) (by first | exact zLq (Nat.lt_of_lt_of_le (by have := zCq _ _ hw108_1; first | rwa [add_block] at this | exact this) GW117.out) | (rw [add_block]; exact zLq (Nat.lt_of_lt_of_le (by have := zCq _ _ hw108_1; first | rwa [add_block] at this | exact this) GW117.out)) | (show (Addr.add _ _).block ≠ _; rw [add_block]; exact zLq (Nat.lt_of_lt_of_le (by have := zCq _ _ hw108_1; first | rwa [add_block] at this | exact this) GW117.out)) | (dsimp only; exact zLq (Nat.lt_of_lt_of_le (by have := zCq _ _ hw108_1; first | rwa [add_block] at this | exact this) GW117.out))) _).trans (((cell_far (p := ⟨gb117, _, none⟩) (by first | exact zLq (Nat.lt_of_lt_of_le (by have := zCq _ _ hw108_1; first | rwa [add_block] at this | exact this) GW117.out) | (rw [add_block]; exact zLq (Nat.lt_of_lt_of_le (by have := zCq _ _ hw108_1; first | rwa [add_block] at this | exact this) GW117.out)) | (show (Addr.add _ _).block ≠ _; rw [add_block]; exact zLq (Nat.lt_of_lt_of_le (by have := zCq _ _ hw108_1; first | rwa [add_block] at this | exact this) GW117.out)) | (dsimp only; exact zLq (Nat.lt_of_lt_of_le (by have := zCq _ _ hw108_1; first | rwa [add_block] at this | exact this) GW117.out))) _).trans (((cell_far (p := ⟨gb117, _, none⟩) (by first | exact zLq (Nat.lt_of_lt_of_le (by have := zCq _ _ hw108_1; first | rwa [add_block] at this | exact this) GW117.out) | (rw [add_block]; exact zLq (Nat.lt_of_lt_of_le (by have := zCq _ _ hw108_1; first | rwa [add_block] at this | exact this) GW117.out)) | (show (Addr.add _ _).block ≠ _; rw [add_block]; exact zLq (Nat.lt_of_lt_of_le (by have := zCq _ _ hw108_1; first | rwa [add_block] at this | exact this) GW117.out)) | (dsimp only; exact zLq (Nat.lt_of_lt_of_le (by have := zCq _ _ hw108_1; first | rwa [add_block] at this | exact this) GW117.out))) _).trans (hHeld.2.2.2.2.1)))))), ((cell_far (p := ⟨gb117, _, none⟩) (by first | exact zLq (Nat.lt_of_lt_of_le (by have := zCq _ _ hw108_2; first | rwa [add_block] at this | exact this) GW117.out) | (rw [add_block]; exact zLq (Nat.lt_of_lt_of_le (by have := zCq _ _ hw108_2; first | rwa [add_block] at this | exact this) GW117.out)) | (show (Addr.add _ _).block ≠ _; rw [add_block]; exact zLq (Nat.lt_of_lt_of_le (by have := zCq _ _ hw108_2; first | rwa [add_block] at this | exact this) GW117.out)) | (dsimp only; exact zLq (Nat.lt_of_lt_of_le (by have := zCq _ _ hw108_2; first | rwa [add_block] at this | exact this) GW117.out))) _).trans (((cell_far (p := ⟨gb117, _, none⟩) (by first | exact zLq (Nat.lt_of_lt_of_le (by have := zCq _ _ hw108_2; first | rwa [add_block] at this | exact this) GW117.out) | (rw [add_block]; exact zLq (Nat.lt_of_lt_of_le (by have := zCq _ _ hw108_2; first | rwa [add_block] at this | exact this) GW117.out)) | (show (Addr.add _ _).block ≠ _; rw [add_block]; exact zLq (Nat.lt_of_lt_of_le (by have := zCq _ _ hw108_2; first | rwa [add_block] at this | exact this) GW117.out)) | (dsimp only; exact zLq (Nat.lt_of_lt_of_le (by have := zCq _ _ hw108_2; first | rwa [add_block] at this | exact this) GW117.out))) _).trans (((cell_far (p := ⟨gb117, _, none⟩) (by first | exact zLq (Nat.lt_of_lt_of_le (by have := zCq _ _ hw108_2; first | rwa [add_block] at this | exact this) GW117.out) | (rw [add_block]; exact zLq (Nat.lt_of_lt_of_le (by have := zCq _ _ hw108_2; first | rwa [add_block] at this | exact this) GW117.out)) | (show (Addr.add _ _).block ≠ _; rw [add_block]; exact zLq (Nat.lt_of_lt_of_le (by have := zCq _ _ hw108_2; first | rwa [add_block] at this | exact this) GW117.out)) | (dsimp only; exact zLq (Nat.lt_of_lt_of_le (by have := zCq _ _ hw108_2; first | rwa [add_block] at this | exact this) GW117.out))) _).trans (hHeld.2.2.2.2.2))))))⟩ (fun hHeld => ?_)
                clear hK K; refine pure_ (i := 12) (N := some 9) #[o1, o1, o1, o1, o1, o1, o1, o1, o1, o1, o1, o1, o1] rfl rfl (any_of HT_.out (by kernel_rfl)) (fun _ _ _ h => h) (Or.inl ⟨by rfl, qy⟩) qz ?_; refine done_ (done_of HT_.out (by kernel_rfl)) ?_; have hnb25 := NB117_107.out; have hnc25 := NB107_117.out; have hnb26 := NB117_106.out; have hnc26 := NB106_117.out; obtain ⟨_, _, _, _, _, _⟩ := qc3f BK117.out; have hnb28 := NB107_106.out; have hnc28 := NB106_107.out; obtain ⟨_, _, _, _, _, _⟩ := qc3f BK107.out; try go_wp2
                go_roundg k2
                case measure => have := HJ2.out; have := HK2.out; omega
                case rel => exact ⟨(wrap64 (x7_2 + 1)), (t113), (t114), (t115), (t116), (t109), (t110), (t111), (by first | rfl | (simp; done) | (simp [*]; done)), H', ⟨by have := HJ2.out; have := HK2.out; omega⟩, ⟨by (with_reducible repeat (first | refine zY ?_ _ | refine zAq ?_ | refine zZ ?_ _)); apply qP3; (with_reducible repeat (first | refine zY ?_ _ | refine zAq ?_ | refine zZ ?_ _)); refine blk_far ?_ NB107_117.out _; (with_reducible repeat (first | refine zY ?_ _ | refine zAq ?_ | refine zZ ?_ _)); refine blk_far ?_ NB107_117.out _; (with_reducible repeat (first | refine zY ?_ _ | refine zAq ?_ | refine zZ ?_ _)); refine blk_far ?_ NB107_117.out _; exact BK107.out⟩, ⟨by repeat (first | (with_reducible first | exact HI106.out | apply IsS56.alloc | apply IsS56.drewN | apply IsS56.drew | refine IsS56.far ?_ NB106_107.out _ | refine IsS56.far ?_ NB106_117.out _) | exact HI106.out)⟩, ⟨qH HI106.out HB.out⟩⟩
              replace c17 := Bool.eq_false_iff.mpr c17; subst c17; have H1 : (some false) = some true := by first | (rw [if_neg (show ¬ (false = true) by decide)] at H; exact H) | rfl
              clear H; have H := H1; clear H1; exact absurd H (by simp)
            rw [if_neg c15] at H; exact absurd H (by simp)
          rw [if_neg c14] at H; have c14b0 : decide (x7_2 < (l1.length : Int)) = false := zGq c14; clear c14; replace H := Option.bind_eq_some_iff.mp H; obtain ⟨t118, A300, H⟩ := H; replace H : (if t118 = true then (some true) else (some false)) = some true := H; have A30 := zA A300; clear A300; by_cases c31 : t118 = true
          · subst c31
            have H1 : (some true) = some true := by first | (rw [if_pos rfl] at H; exact H) | rfl
            clear H; have H := H1; clear H1; clear H; go_wp2_with (first | ((with_reducible refine zJq (f := 35) rfl ?_); refine goesL_ (some 44) rfl rfl Try.func35 (by kernel_rfl) rfl #[] rfl (by (try simp only [zR, zS, zT]); first | done | rfl | (simp only [zP, zQ]; rfl)) ?_; (with_reducible refine (backhaullaw06_awake.calls  true _ A30.out).mono ?_); rintro e w32 ⟨rfl, hb⟩; refine ⟨_, rfl, ?_⟩; have n0_ := zA (qX BK107.out hb); have n1_ := zA (IsS56.below (by repeat (first | (with_reducible first | exact HI106.out | apply IsS56.alloc | apply IsS56.drewN | apply IsS56.drew | refine IsS56.far ?_ NB106_107.out _) | exact HI106.out)) hb); have n2_ := zA (zV (qH HI106.out HB.out) hb); clear BK107 HI106 HB; have BK107 := n0_; have HI106 := n1_; have HB := n2_; clear n0_ n1_ n2_; (try clear hb); (try clear hb2); (try clear hk); (try clear hi))); go_ret; exact ⟨qE, qH HI106.out HB.out⟩
          replace c31 := Bool.eq_false_iff.mpr c31; subst c31; have H1 : (some false) = some true := by first | (rw [if_neg (show ¬ (false = true) by decide)] at H; exact H) | rfl
          clear H; have H := H1; clear H1; exact absurd H (by simp)
def backhaullaw06_StrictReads.Pure : Prop := ∀ (a0 : ByteArray) (l1 : List (S51)), a0.size ≤ maxLen → (l1.length ≤ maxLen ∧ ∀ x ∈ l1, ((Lit.int .i64 x.f0).wf = true ∧ (Lit.int .i64 x.f1).wf = true ∧ (Lit.int .i64 x.f2).wf = true)) → ∃ k, backhaullaw06_StrictReads.f k a0 l1 = some true
end Go.Proofs.Ytakkhomjpflkbaa.F
set_option linter.unusedVariables false
namespace Go.Proofs.Ytakkhomjpflkbaa.Q
open Go.RowKit Go.Proofs.YtakkhomjpflkbaaW.PrintWords Go.Proofs.YtakkhomjpflkbaaW.PrintLast Go.Proofs.YtakkhomjpflkbaaW.PrintMore
theorem Ev.ite {α : Type} {c : Prop} [Decidable c] {a b : Nat → Option α} {r : α} (h1 : c → Ev a r) (h2 : ¬ c → Ev b r) : Ev (fun k => if c then a k else b k) r := by
  by_cases h : c
  · simp only [if_pos h]; exact h1 h
  simp only [if_neg h]; exact h2 h
theorem Ev.pos {α : Type} {c : Prop} [Decidable c] {a b : Nat → Option α} {r : α} (h : c) (h1 : Ev a r) : Ev (fun k => if c then a k else b k) r := by
  simp only [if_pos h]; exact h1
theorem Ev.neg {α : Type} {c : Prop} [Decidable c] {a b : Nat → Option α} {r : α} (h : ¬ c) (h1 : Ev b r) : Ev (fun k => if c then a k else b k) r := by
  simp only [if_neg h]; exact h1
theorem Ev.ok {α : Type} {a b : α} (h : a = b) : Ev (fun _ => some a) b := ⟨0, fun _ _ => by rw [h]⟩
theorem Ev.const {α : Type} {o : Option α} {r : α} (h : o = some r) : Ev (fun _ => o) r := ⟨0, fun _ _ => h⟩
theorem Ev.bindc {α β : Type} {o : Option α} {f : Nat → α → Option β} {a : α} {r : β} (h : o = some a) (k : Ev (fun n => f n a) r) : Ev (fun n => o.bind (f n)) r := by
  subst h
  exact k
theorem Ev.eq {α : Type} {g : Nat → Option α} {a b : α} (h : Ev g a) (e : a = b) : Ev g b := e ▸ h
theorem wrap_eq {x : Int} (h0 : -9223372036854775808 ≤ x) (h1 : x ≤ 9223372036854775807) : wrap64 x = x := by
  unfold wrap64; omega
theorem u64_eq {x : Int} (h0 : 0 ≤ x) (h1 : x < 18446744073709551616) : IntKind.u64.wrap x = x := by
  simp [IntKind.wrap, IntKind.signed, IntKind.bits]; omega
theorem rd_nat {l : List Int} {i : Nat} (h : i < l.length) : rd l (i : Int) = l[i] := by
  unfold rd; simp [List.getD_eq_getElem?_getD, h]
theorem rdOf_nat {α : Type} {d : α} {l : List α} {i : Nat} (h : i < l.length) : rdOf d l (i : Int) = l[i] := by
  unfold rdOf; simp [List.getD_eq_getElem?_getD, h]
theorem drop_cons {α : Type} {l : List α} {i : Nat} (h : i < l.length) : l.drop i = l[i] :: l.drop (i + 1) := List.drop_eq_getElem_cons h
theorem bytes_ext {a b : ByteArray} : a.toList = b.toList ↔ a = b := by
  constructor
  · intro h
    rw [ByteArray.toList_eq, ByteArray.toList_eq] at h
    cases a; cases b
    simpa [Array.toList_inj] using h
  rintro rfl; rfl
end Go.Proofs.Ytakkhomjpflkbaa.Q
set_option linter.unusedVariables false
namespace Go.Proofs.Ytakkhomjpflkbaa.Q
open Go.RowKit Go.Proofs.YtakkhomjpflkbaaW.PrintWords Go.Proofs.YtakkhomjpflkbaaW.PrintLast Go.Proofs.YtakkhomjpflkbaaW.PrintMore
def beL : Nat → Nat → List UInt8
  | 0, _ => []
  | w + 1, n => beL w (n / 256) ++ [UInt8.ofNat n]
def beN (l : List UInt8) : Nat := l.foldl (fun a b => 256 * a + b.toNat) 0
theorem beN_append (a : List UInt8) (b : UInt8) : beN (a ++ [b]) = 256 * beN a + b.toNat := by
  simp [beN]
theorem toNat_ofNat (n : Nat) : (UInt8.ofNat n).toNat = n % 256 := by simp
theorem snoc_cases {α : Type} (l : List α) : l = [] ∨ ∃ a b, l = a ++ [b] := by
  rcases List.eq_nil_or_concat l with h | ⟨a, b, h⟩
  · exact .inl h
  exact .inr ⟨a, b, by simpa using h⟩
theorem beL_beN (w : Nat) : ∀ l : List UInt8, l.length = w → beL w (beN l) = l := by
  induction w with
  | zero => intro l h; rw [List.eq_nil_of_length_eq_zero h]; rfl
  | succ w ih =>
    intro l h
    rcases snoc_cases l with rfl | ⟨a, b, rfl⟩
    · simp at h
    have hb := b.toNat_lt
    rw [beL, beN_append, show (256 * beN a + b.toNat) / 256 = beN a by omega, ih a (by simpa using h)]
    congr 2
    apply UInt8.toNat_inj.1
    rw [toNat_ofNat]
    omega
theorem beN_lt (w : Nat) : ∀ l : List UInt8, l.length = w → beN l < 256 ^ w := by
  induction w with
  | zero => intro l h; rw [List.eq_nil_of_length_eq_zero h]; simp [beN]
  | succ w ih =>
    intro l h
    rcases snoc_cases l with rfl | ⟨a, b, rfl⟩
    · simp at h
    have hb := b.toNat_lt
    have := ih a (by simpa using h)
    rw [beN_append, Nat.pow_succ]
    omega
def bytesB (l : List UInt8) : ByteArray := ⟨l.toArray⟩
theorem bytesB_data (l : List UInt8) : (bytesB l).data.toList = l := rfl
theorem ext_list {a b : ByteArray} (h : a.data.toList = b.data.toList) : a = b := by
  cases a; cases b; simpa [Array.toList_inj] using h
theorem data_append (a b : ByteArray) : (a ++ b).data.toList = a.data.toList ++ b.data.toList := by simp [ByteArray.data_append]
theorem data_extract (a : ByteArray) (i j : Nat) : (a.extract i j).data.toList = (a.data.toList.take j).drop i := by
  rw [ByteArray.data_extract, Array.toList_extract, List.extract_eq_take_drop, List.drop_take]
theorem size_data (a : ByteArray) : a.data.toList.length = a.size := by rw [Array.length_toList]; rfl
theorem bt_data (s : ByteArray) (i : Nat) (h : i < s.size) : bt s (i : Int) = ((s.data.toList[i]'(by rw [size_data]; exact h)).toNat : Int) := by
  unfold bt
  rw [dif_pos (by simpa using h)]
  simp [ByteArray.getElem_eq_getElem_data]
def wide (w : Int) : Prop := w = 1 ∨ w = 2 ∨ w = 4 ∨ w = 8
instance (w : Int) : Decidable (wide w) := by unfold wide; infer_instance
def putS (n w : Int) : ByteArray × Int := if wide w then (if 0 ≤ n ∧ n < 256 ^ w.toNat then (bytesB (beL w.toNat n.toNat), 0) else (⟨#[]⟩, 8)) else (⟨#[]⟩, 2)
def numAt (s : ByteArray) (at_ w : Nat) : Nat := beN ((s.data.toList.drop at_).take w)
def getS (s : ByteArray) (at_ w : Int) : Int × Int × Int :=
  if wide w ∧ 0 ≤ at_ ∧ at_ ≤ s.size then
    (if s.size - at_ < w then (0, 0, 4) else if (numAt s at_.toNat w.toNat : Int) > 9223372036854775807 then (0, 0, 8) else ((numAt s at_.toNat w.toNat : Int), at_ + w, 0))
  else (0, 0, 2)
def takeS (s : ByteArray) (at_ most : Int) : ByteArray × Int × Int :=
  if most < 0 then (⟨#[]⟩, 0, 2) else
  if (getS s at_ 2).2.2 = 0 then
    (if (getS s at_ 2).1 > most then (⟨#[]⟩, 0, 3) else if (getS s at_ 2).1 > s.size - (getS s at_ 2).2.1 then (⟨#[]⟩, 0, 4) else
      (s.extract (getS s at_ 2).2.1.toNat ((getS s at_ 2).2.1 + (getS s at_ 2).1).toNat, (getS s at_ 2).2.1 + (getS s at_ 2).1, 0))
  else (⟨#[]⟩, 0, (getS s at_ 2).2.2)
def unrowL (s : ByteArray) (w : Int) : Nat → Int → List Int × Int × Int
  | 0, tt => ([], tt, 0)
  | n + 1, tt => if (getS s tt w).2.2 = 0 then
      (if (unrowL s w n (getS s tt w).2.1).2.2 = 0 then ((getS s tt w).1 :: (unrowL s w n (getS s tt w).2.1).1, (unrowL s w n (getS s tt w).2.1).2) else ([], 0, (unrowL s w n (getS s tt w).2.1).2.2))
    else ([], 0, (getS s tt w).2.2)
def unrowS (s : ByteArray) (at_ w top : Int) : List Int × Int × Int :=
  if ¬ wide w ∨ at_ < 0 ∨ at_ > s.size ∨ top < 0 then ([], 0, 2) else
  if (getS s at_ 2).2.2 = 0 then
    (if (getS s at_ 2).1 > top ∨ (getS s at_ 2).1 > 1000 then ([], 0, 3) else unrowL s w (getS s at_ 2).1.toNat (getS s at_ 2).2.1)
  else ([], 0, (getS s at_ 2).2.2)
theorem wide_nat {w : Int} (h : wide w) : 0 < w ∧ w ≤ 8 := by unfold wide at h; omega
theorem pow_cast {a w : Nat} (h : a < 256 ^ w) : (a : Int) < 256 ^ w := by
  have := Int.ofNat_lt.2 h
  rw [Int.natCast_pow] at this
  exact this
theorem beN_from (y : List UInt8) : ∀ a : Nat, y.foldl (fun a b => 256 * a + b.toNat) a = a * 256 ^ y.length + beN y := by
  induction y with
  | nil => intro a; simp [beN]
  | cons b y ih =>
    intro a
    have h := ih (256 * 0 + b.toNat)
    unfold beN at h ⊢
    simp only [List.foldl_cons, List.length_cons]
    rw [ih, h, Nat.pow_succ, Nat.add_mul, Nat.mul_zero, Nat.zero_add]
    unfold beN
    rw [← Nat.add_assoc, Nat.mul_comm 256 a, Nat.mul_assoc, Nat.mul_comm 256 (256 ^ y.length)]
theorem numAt_split {s : ByteArray} {a i d : Nat} (h : a + i + d ≤ s.size) : (numAt s a (i + d) : Int) = (numAt s a i : Int) * 256 ^ d + (numAt s (a + i) d : Int) := by
  have e : numAt s a (i + d) = numAt s a i * 256 ^ d + numAt s (a + i) d := by
    unfold numAt
    rw [List.take_add, List.drop_drop]
    have := beN_from (((s.data.toList).drop (a + i)).take d) (beN (((s.data.toList).drop a).take i))
    rw [List.length_take, List.length_drop, size_data, Nat.min_eq_left (by omega)] at this
    rw [← this]
    unfold beN
    rw [List.foldl_append]
  rw [e, Int.natCast_add, Int.natCast_mul, Int.natCast_pow]
  rfl
theorem getS_ok {s : ByteArray} {a w n tt : Int} (h : getS s a w = (n, tt, 0)) : wide w ∧ 0 ≤ a ∧ a + w ≤ s.size ∧ tt = a + w ∧ n = (numAt s a.toNat w.toNat : Int) ∧ n ≤ 9223372036854775807 ∧ 0 ≤ n := by
  unfold getS at h
  by_cases h1 : wide w ∧ 0 ≤ a ∧ a ≤ s.size
  · rw [if_pos h1] at h
    by_cases h2 : s.size - a < w
    · rw [if_pos h2] at h; simp at h
    rw [if_neg h2] at h
    by_cases h3 : (numAt s a.toNat w.toNat : Int) > 9223372036854775807
    · rw [if_pos h3] at h; simp at h
    rw [if_neg h3] at h
    simp only [Prod.mk.injEq] at h
    obtain ⟨rfl, rfl, _⟩ := h
    exact ⟨h1.1, h1.2.1, by omega, rfl, rfl, by omega, by omega⟩
  rw [if_neg h1] at h; simp at h
theorem putS_ok {n w : Int} {b : ByteArray} (h : putS n w = (b, 0)) : wide w ∧ 0 ≤ n ∧ n < 256 ^ w.toNat ∧ b = bytesB (beL w.toNat n.toNat) := by
  unfold putS at h
  by_cases h1 : wide w
  · rw [if_pos h1] at h
    by_cases h2 : 0 ≤ n ∧ n < 256 ^ w.toNat
    · rw [if_pos h2] at h
      exact ⟨h1, h2.1, h2.2, (Prod.mk.inj h).1.symm⟩
    rw [if_neg h2] at h; exact absurd (Prod.mk.inj h).2 (by decide)
  rw [if_neg h1] at h; exact absurd (Prod.mk.inj h).2 (by decide)
theorem numAt_lt {s : ByteArray} {a w : Nat} (h : a + w ≤ s.size) : numAt s a w < 256 ^ w := by
  apply beN_lt
  rw [List.length_take, List.length_drop, size_data]; omega
theorem put_of_get {s : ByteArray} {a w n tt : Int} (h : getS s a w = (n, tt, 0)) : putS n w = (s.extract a.toNat tt.toNat, 0) := by
  obtain ⟨hw, ha, hs, rfl, rfl, hn, _⟩ := getS_ok h
  have hw' := wide_nat hw
  have hl := numAt_lt (s := s) (a := a.toNat) (w := w.toNat) (by omega)
  unfold putS
  rw [if_pos hw, if_pos ⟨by omega, pow_cast hl⟩]
  congr 1
  apply ext_list
  rw [bytesB_data, data_extract, Int.toNat_natCast, numAt, show (a + w).toNat = a.toNat + w.toNat by omega]
  rw [beL_beN]
  · rw [List.drop_take, Nat.add_sub_cancel_left]
  rw [List.length_take, List.length_drop, size_data]; omega
end Go.Proofs.Ytakkhomjpflkbaa.Q
set_option linter.unusedVariables false
namespace Go.Proofs.Ytakkhomjpflkbaa.Q
open Go.RowKit Go.Proofs.Ytakkhomjpflkbaa.F Go.Proofs.YtakkhomjpflkbaaW.PrintWords Go.Proofs.YtakkhomjpflkbaaW.PrintLast Go.Proofs.YtakkhomjpflkbaaW.PrintMore
theorem wide_dec (w : Int) : (if w = 1 then some true else if w = 2 then some true else if w = 4 then some true else some (w == 8)) = some (decide (wide w)) := by
  unfold wide
  by_cases h1 : w = 1
  · rw [if_pos h1]; simp [h1]
  rw [if_neg h1]
  by_cases h2 : w = 2
  · rw [if_pos h2]; simp [h2]
  rw [if_neg h2]
  by_cases h4 : w = 4
  · rw [if_pos h4]; simp [h4]
  rw [if_neg h4]
  by_cases h8 : w = 8
  · simp [h8]
  simp [h1, h2, h4, h8]
theorem octet_wide_f (w : Int) : octet_wide.f w = some (decide (wide w)) := by
  unfold octet_wide.f
  exact wide_dec w
theorem ref05_wide_f (w : Int) : backhaulref05_wide.f w = some (decide (wide w)) := by
  unfold backhaulref05_wide.f
  exact wide_dec w
theorem octet_inside_f (s : ByteArray) (a : Int) : octet_inside.f s a = some (decide (0 ≤ a ∧ a ≤ s.size)) := by
  unfold octet_inside.f
  by_cases h : a ≥ 0
  · rw [if_pos h]; congr 1; exact decide_eq_decide.2 ⟨fun x => ⟨h, x⟩, fun x => x.2⟩
  rw [if_neg h]; congr 1; exact (decide_eq_false (fun x => h x.1)).symm
def natI (l : List UInt8) : List Int := l.map (fun b => (b.toNat : Int))
theorem strOfNums_nat (l : List UInt8) : strOfNums (natI l) = bytesB l := by
  unfold strOfNums natI bytesB
  rw [List.map_map]
  congr 2
  exact (List.map_congr_left fun b _ => by simp).trans (List.map_id l)
theorem numAt_succ {s : ByteArray} {a i : Nat} (h : a + i < s.size) : (numAt s a (i + 1) : Int) = 256 * (numAt s a i : Int) + bt s ((a + i : Nat) : Int) := by
  have hl : a + i < s.data.toList.length := by rw [size_data]; exact h
  unfold numAt
  rw [List.take_succ_eq_append_getElem (by rw [List.length_drop]; omega), beN_append, bt_data s (a + i) h, List.getElem_drop]
  omega
theorem numAt_lt' {s : ByteArray} {a i : Nat} (h : a + i ≤ s.size) : (numAt s a i : Int) < 256 ^ i := pow_cast (numAt_lt h)
theorem pow_le8 {i : Nat} (h : i ≤ 7) : (256 : Int) ^ i ≤ 72057594037927936 := by
  have : i = 0 ∨ i = 1 ∨ i = 2 ∨ i = 3 ∨ i = 4 ∨ i = 5 ∨ i = 6 ∨ i = 7 := by omega
  rcases this with rfl | rfl | rfl | rfl | rfl | rfl | rfl | rfl <;> decide
theorem bt_range (s : ByteArray) (i : Int) : 0 ≤ bt s i ∧ bt s i < 256 := by
  unfold bt
  split
  · rename_i h
    have := (s[i.toNat]'h).toNat_lt
    omega
  omega
theorem or_byte {x y : Int} (h0 : 0 ≤ x) (h1 : x < 72057594037927936) (h2 : 0 ≤ y) (h3 : y < 256) : Go.bits .or .u64 (IntKind.u64.wrap (x * 256)) (IntKind.u64.wrap y) = 256 * x + y := by
  rw [u64_eq (x := x * 256) (by omega) (by omega), u64_eq (x := y) (by omega) (by omega)]
  rw [bits_join .u64 64 (by decide) (fun n h0 h1 => u64_eq h0 h1) 8 (x * 256) y (by omega) (by omega) (by omega) (by omega) (by omega) (by omega)]
  omega
theorem getS_in {s : ByteArray} {a w : Int} (hw : wide w) (h0 : 0 ≤ a) (h1 : a + w ≤ s.size) : getS s a w = if (numAt s a.toNat w.toNat : Int) > 9223372036854775807 then (0, 0, 8) else ((numAt s a.toNat w.toNat : Int), a + w, 0) := by
  have hw' := wide_nat hw
  unfold getS
  rw [if_pos ⟨hw, h0, by omega⟩, if_neg (by omega)]
theorem octet_get_l0 {s : ByteArray} {a w : Int} (hs : s.size ≤ 9223372036854775807) (hw : wide w) (h0 : 0 ≤ a) (h1 : a + w ≤ s.size) (d : Nat) : ∀ i : Nat, w - i = d → Ev (fun k => octet_Get.l0 k s a w (numAt s a.toNat i : Int) w (i : Int)) (getS s a w) := by
  have hw' := wide_nat hw
  induction d with
  | zero =>
    intro i hi
    refine Ev.step (fun k => by simp only [octet_Get.l0]; rfl) ?_
    refine Ev.neg (by omega) ?_
    rw [getS_in hw h0 h1, show w.toNat = i by omega]
    refine Ev.ite (fun h => ?_) (fun h => ?_)
    · rw [if_pos h]; exact Ev.ok rfl
    rw [if_neg h, wrap_eq (x := (numAt s a.toNat i : Int)) (by omega) (by omega), wrap_eq (by omega) (by omega)]
    exact Ev.ok rfl
  | succ d ih =>
    intro i hi
    have hlt := numAt_lt' (s := s) (a := a.toNat) (i := i) (by omega)
    have hp := pow_le8 (i := i) (by omega)
    refine Ev.step (fun k => by simp only [octet_Get.l0]; rfl) ?_
    rw [wrap_eq (x := a + (i : Int)) (by omega) (by omega), wrap_eq (x := (i : Int) + 1) (by omega) (by omega)]
    refine Ev.pos (by omega) (Ev.pos (by omega) (Ev.pos (by omega) ?_))
    have hb := bt_range s (a + i)
    rw [or_byte (by omega) (by omega) hb.1 hb.2]
    have e := numAt_succ (s := s) (a := a.toNat) (i := i) (by omega)
    rw [show ((a.toNat + i : Nat) : Int) = a + i by omega] at e
    rw [← e]
    exact ih (i + 1) (by omega)
theorem octet_get_f {s : ByteArray} (a w : Int) (hs : s.size ≤ 9223372036854775807) : Ev (fun k => octet_Get.f k s a w) (getS s a w) := by
  have bad : ¬ (wide w ∧ 0 ≤ a ∧ a ≤ s.size) → Ev (fun k => octet_Get.j0 k s a w true) (getS s a w) := by
    intro h
    refine Ev.step (fun k => by simp only [octet_Get.j0]; rfl) ?_
    refine Ev.pos trivial (Ev.ok ?_)
    unfold getS
    rw [if_neg h]
  unfold octet_Get.f
  refine Ev.bindc (octet_wide_f w) ?_
  by_cases hw : wide w
  · have hw' := wide_nat hw
    refine Ev.pos (decide_eq_true hw) (Ev.bindc (octet_inside_f s a) ?_)
    by_cases ha : 0 ≤ a ∧ a ≤ s.size
    · rw [decide_eq_true ha]
      refine Ev.step (fun k => by simp only [octet_Get.j0]; rfl) ?_
      refine Ev.neg (by decide) ?_
      rw [wrap_eq (by omega) (by omega)]
      refine Ev.ite (fun h => Ev.ok ?_) (fun h => ?_)
      · unfold getS
        rw [if_pos ⟨hw, ha⟩, if_pos h]
      exact octet_get_l0 hs hw ha.1 (by omega) w.toNat 0 (by omega)
    rw [decide_eq_false ha]
    exact bad (fun x => ha x.2)
  exact Ev.neg (fun x => hw (of_decide_eq_true x)) (bad (fun x => hw x.1))
theorem ref05_get_l0 {s : ByteArray} {a w : Int} (hs : s.size ≤ 9223372036854775807) (hw : wide w) (h0 : 0 ≤ a) (h1 : a + w ≤ s.size) (hm : (numAt s a.toNat w.toNat : Int) ≤ 9223372036854775807) (d : Nat) : ∀ i : Nat, w - i = d → (numAt s a.toNat i : Int) * 256 ^ d ≤ 9223372036854775807 → Ev (fun k => backhaulref05_Get.l0 k s a w (numAt s a.toNat i : Int) (a + i)) ((numAt s a.toNat w.toNat : Int), a + w, 0) := by
  have hw' := wide_nat hw
  induction d with
  | zero =>
    intro i hi hb
    refine Ev.step (fun k => by simp only [backhaulref05_Get.l0]; rfl) ?_
    rw [wrap_eq (x := a + w) (by omega) (by omega)]
    refine Ev.neg (by omega) (Ev.ok ?_)
    rw [show w.toNat = i by omega]
  | succ d ih =>
    intro i hi hb
    have hlt := numAt_lt' (s := s) (a := a.toNat) (i := i) (by omega)
    have hp := pow_le8 (i := i) (by omega)
    have hb' := bt_range s (a + i)
    have e := numAt_succ (s := s) (a := a.toNat) (i := i) (by omega)
    rw [show ((a.toNat + i : Nat) : Int) = a + i by omega] at e
    have hpos : (0 : Int) < 256 ^ d := Int.pow_pos (by decide)
    have hle : (numAt s a.toNat (i + 1) : Int) * 256 ^ d ≤ 9223372036854775807 := by
      have key := numAt_split (s := s) (a := a.toNat) (i := i + 1) (d := d) (by omega)
      rw [show i + 1 + d = w.toNat by omega] at key
      have h2 : (0 : Int) ≤ (numAt s (a.toNat + (i + 1)) d : Int) := by omega
      omega
    have hone : (numAt s a.toNat (i + 1) : Int) ≤ 9223372036854775807 := by
      have h3 : (numAt s a.toNat (i + 1) : Int) * 1 ≤ (numAt s a.toNat (i + 1) : Int) * 256 ^ d := Int.mul_le_mul_of_nonneg_left (by omega) (by omega)
      omega
    refine Ev.step (fun k => by simp only [backhaulref05_Get.l0]; rfl) ?_
    rw [wrap_eq (x := a + w) (by omega) (by omega), wrap_eq (x := 256 * (numAt s a.toNat i : Int)) (by omega) (by omega), wrap_eq (x := bt s (a + i)) (by omega) (by omega), wrap_eq (x := 256 * (numAt s a.toNat i : Int) + bt s (a + i)) (by omega) (by omega), wrap_eq (x := a + (i : Int) + 1) (by omega) (by omega)]
    refine Ev.pos (by omega) (Ev.pos (by omega) (Ev.pos (by omega) ?_))
    rw [← e, show a + (i : Int) + 1 = a + ((i + 1 : Nat) : Int) by omega]
    exact ih (i + 1) (by omega) hle
theorem ref05_get_f {s : ByteArray} (a w : Int) (hs : s.size ≤ 9223372036854775807) : Ev (fun k => backhaulref05_Get.f k s a w) (getS s a w) := by
  have bad : ¬ (wide w ∧ 0 ≤ a ∧ a ≤ s.size) → Ev (fun k => backhaulref05_Get.j0 k s a w true) (getS s a w) := by
    intro h
    refine Ev.step (fun k => by simp only [backhaulref05_Get.j0]; rfl) ?_
    refine Ev.pos trivial (Ev.ok ?_)
    unfold getS
    rw [if_neg h]
  unfold backhaulref05_Get.f
  refine Ev.bindc (ref05_wide_f w) ?_
  by_cases hw : wide w
  · have hw' := wide_nat hw
    refine Ev.pos (decide_eq_true hw) (Ev.ite (fun h => bad (by omega)) (fun h => ?_))
    by_cases h1 : a > s.size
    · rw [decide_eq_true (show a > (s.size : Int) from h1)]
      exact bad (by omega)
    rw [decide_eq_false (show ¬ a > (s.size : Int) from h1)]
    refine Ev.step (fun k => by simp only [backhaulref05_Get.j0]; rfl) ?_
    refine Ev.neg (by decide) ?_
    rw [wrap_eq (by omega) (by omega)]
    refine Ev.ite (fun h2 => Ev.ok ?_) (fun h2 => ?_)
    · unfold getS
      rw [if_pos ⟨hw, by omega, by omega⟩, if_pos h2]
    rw [getS_in hw (by omega) (by omega)]
    have fin : (numAt s a.toNat w.toNat : Int) ≤ 9223372036854775807 → Ev (fun k => backhaulref05_Get.j1 k s a w false) (if (numAt s a.toNat w.toNat : Int) > 9223372036854775807 then (0, 0, 8) else ((numAt s a.toNat w.toNat : Int), a + w, 0)) := by
      intro hm
      rw [if_neg (by omega)]
      refine Ev.step (fun k => by simp only [backhaulref05_Get.j1]; rfl) ?_
      refine Ev.neg (by decide) ?_
      have := ref05_get_l0 hs hw (by omega) (by omega) hm w.toNat 0 (by omega) (by show (0 : Int) * _ ≤ _; omega)
      rw [show a + ((0 : Nat) : Int) = a by omega] at this
      exact this
    refine Ev.ite (fun h3 => ?_) (fun h3 => ?_)
    · subst h3
      refine Ev.pos (by omega) (Ev.pos (by omega) ?_)
      have key : (numAt s a.toNat (Int.toNat 8) : Int) = (numAt s a.toNat 1 : Int) * 256 ^ 7 + (numAt s (a.toNat + 1) 7 : Int) := numAt_split (s := s) (a := a.toNat) (i := 1) (d := 7) (by omega)
      have hl := numAt_lt' (s := s) (a := a.toNat + 1) (i := 7) (by omega)
      have e : (numAt s a.toNat 1 : Int) = 256 * (numAt s a.toNat 0 : Int) + bt s ((a.toNat + 0 : Nat) : Int) := numAt_succ (s := s) (a := a.toNat) (i := 0) (by omega)
      have e0 : (numAt s a.toNat 0 : Int) = 0 := by unfold numAt; simp [beN]
      rw [e0, show ((a.toNat + 0 : Nat) : Int) = a by omega] at e
      have p7 : (256 : Int) ^ 7 = 72057594037927936 := by decide
      rw [p7] at key hl
      by_cases h4 : bt s a > 127
      · rw [decide_eq_true h4]
        refine Ev.step (fun k => by simp only [backhaulref05_Get.j1]; rfl) ?_
        refine Ev.pos trivial (Ev.ok ?_)
        rw [if_pos (by omega)]
      rw [decide_eq_false h4]
      exact fin (by omega)
    have hl := numAt_lt' (s := s) (a := a.toNat) (i := w.toNat) (by omega)
    have h4 : w.toNat ≤ 4 := by unfold wide at hw; omega
    have hp := pow_le8 (i := w.toNat) (by omega)
    exact fin (by omega)
  exact Ev.neg (fun x => hw (of_decide_eq_true x)) (bad (fun x => hw x.1))
theorem getS2_lt {s : ByteArray} {a n tt : Int} (h : getS s a 2 = (n, tt, 0)) : n < 65536 := (putS_ok (put_of_get h)).2.2.1
theorem octet_take_f {s : ByteArray} (a m : Int) (hs : s.size ≤ 4611686018427387904) : Ev (fun k => octet_Take.f k s a m) (takeS s a m) := by
  unfold octet_Take.f takeS
  refine Ev.ite (fun h => ?_) (fun h => ?_)
  · rw [if_pos h]; exact Ev.ok rfl
  rw [if_neg h]
  refine Ev.bind (octet_get_f a 2 (by omega)) ?_
  refine Ev.ite (fun h1 => ?_) (fun h1 => ?_)
  · rw [if_pos h1]
    have hg : getS s a 2 = ((getS s a 2).1, (getS s a 2).2.1, 0) := by rw [← h1]
    obtain ⟨_, h2, h3, h4, h5, h6, h7⟩ := getS_ok hg
    refine Ev.ite (fun h8 => ?_) (fun h8 => ?_)
    · rw [if_pos h8]; exact Ev.ok rfl
    rw [if_neg h8, wrap_eq (x := (s.size : Int) - (getS s a 2).2.1) (by omega) (by omega)]
    refine Ev.ite (fun h9 => ?_) (fun h9 => ?_)
    · rw [if_pos h9]; exact Ev.ok rfl
    rw [if_neg h9, wrap_eq (by omega) (by omega)]
    exact Ev.pos (by omega) (Ev.pos (by omega) (Ev.pos (by omega) (Ev.ok rfl)))
  rw [if_neg h1]; exact Ev.ok rfl
theorem ref05_take_f {s : ByteArray} (a m : Int) (hs : s.size ≤ 4611686018427387904) : Ev (fun k => backhaulref05_Take.f k s a m) (takeS s a m) := by
  have bad : m < 0 ∨ a < 0 ∨ a > s.size → Ev (fun k => backhaulref05_Take.j0 k s a m true) (takeS s a m) := by
    intro h
    refine Ev.step (fun k => by simp only [backhaulref05_Take.j0]; rfl) ?_
    refine Ev.pos trivial (Ev.ok ?_)
    unfold takeS
    by_cases hm : m < 0
    · rw [if_pos hm]
    rw [if_neg hm]
    have e : getS s a 2 = (0, 0, 2) := by unfold getS; rw [if_neg (by omega)]
    rw [e]; rfl
  unfold backhaulref05_Take.f
  refine Ev.ite (fun h => bad (.inl h)) (fun h => Ev.ite (fun h1 => bad (.inr (.inl h1))) (fun h1 => ?_))
  by_cases h2 : a > (s.size : Int)
  · rw [decide_eq_true h2]; exact bad (.inr (.inr h2))
  rw [decide_eq_false h2]
  refine Ev.step (fun k => by simp only [backhaulref05_Take.j0]; rfl) ?_
  refine Ev.neg (by decide) (Ev.bind (ref05_get_f a 2 (by omega)) ?_)
  unfold takeS
  rw [if_neg h]
  refine Ev.ite (fun h1 => ?_) (fun h1 => ?_)
  · rw [if_pos h1]
    have hg : getS s a 2 = ((getS s a 2).1, (getS s a 2).2.1, 0) := by rw [← h1]
    obtain ⟨_, h2, h3, h4, h5, h6, h7⟩ := getS_ok hg
    refine Ev.ite (fun h8 => ?_) (fun h8 => ?_)
    · rw [if_pos h8]; exact Ev.ok rfl
    have h10 := getS2_lt hg
    rw [if_neg h8, wrap_eq (x := (getS s a 2).2.1 + (getS s a 2).1) (by omega) (by omega)]
    refine Ev.ite (fun h9 => ?_) (fun h9 => ?_)
    · rw [if_pos (by omega)]; exact Ev.ok rfl
    rw [if_neg (show ¬ (getS s a 2).1 > (s.size : Int) - (getS s a 2).2.1 by omega)]
    exact Ev.pos (by omega) (Ev.pos (by omega) (Ev.pos (by omega) (Ev.ok rfl)))
  rw [if_neg h1]; exact Ev.ok rfl
end Go.Proofs.Ytakkhomjpflkbaa.Q
set_option linter.unusedVariables false
set_option linter.unusedSimpArgs false
namespace Go.Proofs.YtakkhomjpflkbaaX
open Go.RowKit Go.Shelf
theorem _root_.Go.Lib.IsBuilderF.below {T e : TypeId} {B b : Nat} {bs : List Value} {w w1 : World} (h : Lib.IsBuilderF T e B b bs w) (hb : Below w.heap.size w w1) : Lib.IsBuilderF T e B b bs w1 := by
  have key : ∀ p, Lib.BuilderAtF T e B b p bs w → Lib.BuilderAtF T e B b p bs w1 := by
    intro p hp
    have hlt := hp.lt
    obtain ⟨hB, v, hbk, hown, hne⟩ := hp
    exact ⟨hB, v, (hb.block b hlt).trans hbk, hown.kept (Go.Proofs.YtakkhomjpflkbaaW.PrintWords.grown_of_below hb none) (by cases v.ownBlock <;> simp), hne⟩
  exact h.elim (fun x => .inl (key _ x)) (fun x => .inr (key _ x))
end Go.Proofs.YtakkhomjpflkbaaX
