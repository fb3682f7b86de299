-- merged and pruned by prune.py (the session's own program); its words go back to the kit's print
import Derived.Test.YtakkhomjpflkbaaProg
import Derived.Below
import Derived.Deep.Draws
import Derived.Deep.AppendLies
import Derived.Maps.AppendAt
import Derived.OwnWalk
import Derived.Laws.BytesArg
import Derived.Laws.MakeOwn
import Derived.Laws.OwnMore
import Derived.Deep.OwnRows
import Derived.Tactics
import Derived.Lib.ConvBytes
import Derived.Laws.Slices
import Derived.WalkKit
import Derived.KernelRfl
import Derived.RowKit3
import Derived.Deep.LoopGhost
import Derived.Deep.QuietTactic
import Derived.BigQuiet
import Derived.WideLaws
import Derived.Deep.DeepCutAuto
import Derived.Deep.CutBlock
import Derived.Deep.RegionHeld3
import Derived.Laws.Rows
import Derived.Lib.AppendStr
import Derived.ArgAppend
import Derived.Laws.IdiomCopy
import Derived.OrdersHeld
import Derived.Laws.BitsLemmas
import Derived.RowKit
import Derived.Laws.StructEq
import Derived.Deep.RegionLawGrows
import Derived.Lib.SliceRun
import Derived.Lib.OthersKept
import Derived.Lib.RuneCount
import Derived.Laws.Cover4
import Derived.Outline
import Derived.Shelf.Strings.Builder1
import Derived.Shelf.Strings.BuilderF
import Derived.Shelf.Strings.BuilderK
import Derived.Shelf.Utf8.RuneCount
import Derived.Shelf.Strings.Prefix
import Derived.Test.YtakkhomjpflkbaaZStrictReads4
namespace Go.Proofs.Ytakkhomjpflkbaa.F
open Go.RowKit Go.Proofs.YtakkhomjpflkbaaX Go.Proofs.YtakkhomjpflkbaaW.PrintWords Go.Proofs.YtakkhomjpflkbaaW.PrintLast Go.Proofs.YtakkhomjpflkbaaW.PrintMore
attribute [local go_sem] max2_int min2_int max_two min_two max_three min_three max_four min_four   
attribute [local go_sem high] str_geq str_leq str_gtr
set_option linter.unusedVariables false
set_option linter.unusedSimpArgs false
set_option maxHeartbeats 8000000 in
set_option maxRecDepth 100000 in
theorem backhaullaw06_read.calls_a (k : Nat) (g : Nat) (s0_0 : ByteArray) (s0_1 : Int) (s0_2 : Option (Int × Int)) (s0_3 : Bool) (a1_0 : ByteArray) (a1_1 : Int) (a1_2 : Int) (a2_0 : Int) (a2_1 : Int) (a2_2 : Int) (r1 : ByteArray) (r2 : Int) (r3 : Int) (r4 : Bool) (r5 : ByteArray) (r6 : Int) (r7 : Option (Int × Int)) (r8 : Bool) (w0 w : World) (hI : IsS56 w0 w g s0_0 s0_1 s0_2 s0_3) (hB : Below w0.heap.size w0 w) (h : backhaullaw06_read.f k s0_0 s0_1 s0_2 s0_3 a1_0 a1_1 a1_2 a2_0 a2_1 a2_2 = some (r1, r2, r3, r4, r5, r6, r7, r8)) (hz : a2_0 = 0 ∨ a2_0 = 1 ∨ a2_0 = 2) :
    Calls Try.prog 37 #[.pointer (some ⟨g, 0, none⟩), .agg #[.string a1_0, .int .i64 a1_1, .int .i64 a1_2], .agg #[.int .i64 a2_0, .int .i64 a2_1, .int .i64 a2_2]] w fun e w' => e = .returned (.tuple #[.agg #[.string r1, .int .i64 r2, .int .i64 r3], .bool r4]) ∧ IsS56 w0 w' g r5 r6 r7 r8 ∧ Below w0.heap.size w0 w' ∧ KeepBut w w' g none := by
  have HZ := zA hz
  clear hz
  have hu47 := Try.underlying47
  have hu51 := Try.underlying51
  have HI0 := zA hI
  have HK := zA (KeepBut.refl w g none)
  have HL := zA hB.size
  clear hI
  have HW0 := zA hB.size
  have HB := zA hB
  clear hB
  have H : (if a2_0 = 0 then ((backhaulref06_Num.f k a1_0 a1_1 a1_2 a2_1 a2_2).bind fun bt104 => ((strict_Reader_Num.f k s0_0 s0_1 s0_2 s0_3 a2_1 a2_2).bind fun bt109 => (backhaullaw06_read.j0 k (bt109.1 == bt104.2.2.2) bt109.2.1 bt109.2.2.1 bt109.2.2.2.1 bt109.2.2.2.2 bt104.1 bt104.2.1 bt104.2.2.1))) else (if a2_0 = 1 then ((backhaulref06_Text.f k a1_0 a1_1 a1_2 a2_2).bind fun bt114 => ((strict_Reader_Text.f k s0_0 s0_1 s0_2 s0_3 a2_2).bind fun bt119 => (backhaullaw06_read.j0 k (bt119.1.toList == bt114.2.2.2.toList) bt119.2.1 bt119.2.2.1 bt119.2.2.2.1 bt119.2.2.2.2 bt114.1 bt114.2.1 bt114.2.2.1))) else (if a2_0 = 2 then ((backhaulref06_Serial.f k a1_0 a1_1 a1_2).bind fun bt124 => ((strict_Reader_Serial.f k s0_0 s0_1 s0_2 s0_3).bind fun bt129 => (backhaullaw06_read.j0 k (bt129.1.toList == bt124.2.2.2.toList) bt129.2.1 bt129.2.2.1 bt129.2.2.2.1 bt129.2.2.2.2 bt124.1 bt124.2.1 bt124.2.2.1))) else (if a2_0 = 3 then ((backhaulref06_Row.f k a1_0 a1_1 a1_2 a2_1 a2_2).bind fun bt134 => ((strict_Reader_Row.f k s0_0 s0_1 s0_2 s0_3 a2_1 a2_2).bind fun bt141 => ((backhaulref02_SameInts.f k bt141.1 bt134.2.2.2).bind fun t148 => (backhaullaw06_read.j0 k t148 bt141.2.1 bt141.2.2.1 bt141.2.2.2.1 bt141.2.2.2.2 bt134.1 bt134.2.1 bt134.2.2.1)))) else (if a2_0 = 4 then ((backhaulref06_Serials.f k a1_0 a1_1 a1_2 a2_2).bind fun bt149 => ((strict_Reader_Serials.f k s0_0 s0_1 s0_2 s0_3 a2_2).bind fun bt156 => ((backhaulref01_SameTexts.f k bt156.1 bt149.2.2.2).bind fun t163 => (backhaullaw06_read.j0 k t163 bt156.2.1 bt156.2.2.1 bt156.2.2.2.1 bt156.2.2.2.2 bt149.1 bt149.2.1 bt149.2.2.1)))) else (if a2_0 = 5 then ((backhaulref06_Flag.f k a1_0 a1_1 a1_2).bind fun bt164 => ((strict_Reader_Flag.f k s0_0 s0_1 s0_2 s0_3).bind fun bt169 => (backhaullaw06_read.j0 k (bt169.1 == bt164.2.2.2) bt169.2.1 bt169.2.2.1 bt169.2.2.2.1 bt169.2.2.2.2 bt164.1 bt164.2.1 bt164.2.2.1))) else (if a2_0 = 6 then ((backhaulref06_End.f a1_0 a1_1 a1_2).bind fun bt174 => ((strict_Reader_End.f s0_0 s0_1 s0_2 s0_3).bind fun bt177 => (backhaullaw06_read.j0 k true bt177.1 bt177.2.1 bt177.2.2.1 bt177.2.2.2 bt174.1 bt174.2.1 bt174.2.2))) else (backhaullaw06_read.j0 k true s0_0 s0_1 s0_2 s0_3 a1_0 a1_1 a1_2)))))))) = some (r1, r2, r3, r4, r5, r6, r7, r8) := h
  clear h
  have HC4 := zA H
  clear H
  go_enter Try.func37, Try.ntmps37
  go_upto_block 0 with (first | ((with_reducible refine gate_dst (N := 4) rfl ?_); refine box_event qr (N := 4) qr (cs := #[.string a1_0, .int .i64 a1_1, .int .i64 a1_2]) (t := 47) qg ?_; intro gb101 hg w5 hbox hb; have n0_ := zA (IsS56.below (by repeat (first | (with_reducible first | exact HI0.out | apply IsS56.alloc | apply IsS56.drewN | apply IsS56.drew) | exact HI0.out)) hb); have n1_ := zA (zBq (qJ HK.out) (KeepBut.of_below hb g none) (.inl rfl)); have n2_ := zA (zV (qH HI0.out HB.out) hb); have n3_ := zA (hbox); have n4_ := zA ((by rw [hg]; exact (keep_size (w := w) (g := g) (row := none) (qJ HK.out)) : w.heap.size ≤ gb101)); have n5_ := zA ((Nat.le_trans HW0.out (by rw [hg]; exact (keep_size (w := w) (g := g) (row := none) (qJ HK.out)) : w.heap.size ≤ gb101) : w0.heap.size ≤ gb101)); have n6_ := zA ((by rw [hg]; exact zLq (IsS56.lt (show IsS56 w0 _ g s0_0 s0_1 s0_2 s0_3 from by repeat (first | (with_reducible first | exact HI0.out | apply IsS56.alloc | apply IsS56.drewN | apply IsS56.drew) | exact HI0.out))) : g ≠ gb101)); have n7_ := zA ((by rw [hg]; exact zMq (IsS56.lt (show IsS56 w0 _ g s0_0 s0_1 s0_2 s0_3 from by repeat (first | (with_reducible first | exact HI0.out | apply IsS56.alloc | apply IsS56.drewN | apply IsS56.drew) | exact HI0.out))) : gb101 ≠ g)); clear HI0 HK HB; have HI0 := n0_; have HK := n1_; have HB := n2_; have BK101 := n3_; have GW101 := n4_; have GE101 := n5_; have NB0_101 := n6_; have NB101_0 := n7_; clear n0_ n1_ n2_ n3_ n4_ n5_ n6_ n7_ hb hbox hg) | ((with_reducible refine gate_dst (N := 5) rfl ?_); refine box_event qr (N := 5) qr (cs := #[.int .i64 a2_0, .int .i64 a2_1, .int .i64 a2_2]) (t := 51) qg ?_; intro gb102 hg w6 hbox hb; have n0_ := zA (IsS56.below (by repeat (first | (with_reducible first | exact HI0.out | apply IsS56.alloc | apply IsS56.drewN | apply IsS56.drew | refine IsS56.far ?_ NB0_101.out _) | exact HI0.out)) hb); have n1_ := zA (qX BK101.out hb); have n2_ := zA (zBq (qJ HK.out) (KeepBut.of_below hb g none) (.inl rfl)); have n3_ := zA (zV (qH HI0.out HB.out) hb); have n4_ := zA (hbox); have n5_ := zA ((by rw [hg]; exact (keep_size (w := w) (g := g) (row := none) (qJ HK.out)) : w.heap.size ≤ gb102)); have n6_ := zA ((Nat.le_trans HW0.out (by rw [hg]; exact (keep_size (w := w) (g := g) (row := none) (qJ HK.out)) : w.heap.size ≤ gb102) : w0.heap.size ≤ gb102)); have n7_ := zA ((by rw [hg]; exact zLq (qL BK101.out) : gb101 ≠ gb102)); have n8_ := zA ((by rw [hg]; exact zMq (qL BK101.out) : gb102 ≠ gb101)); have n9_ := zA ((by rw [hg]; exact zLq (IsS56.lt (show IsS56 w0 _ g s0_0 s0_1 s0_2 s0_3 from by repeat (first | (with_reducible first | exact HI0.out | apply IsS56.alloc | apply IsS56.drewN | apply IsS56.drew | refine IsS56.far ?_ NB0_101.out _) | exact HI0.out))) : g ≠ gb102)); have n10_ := zA ((by rw [hg]; exact zMq (IsS56.lt (show IsS56 w0 _ g s0_0 s0_1 s0_2 s0_3 from by repeat (first | (with_reducible first | exact HI0.out | apply IsS56.alloc | apply IsS56.drewN | apply IsS56.drew | refine IsS56.far ?_ NB0_101.out _) | exact HI0.out))) : gb102 ≠ g)); clear HI0 BK101 HK HB; have HI0 := n0_; have BK101 := n1_; have HK := n2_; have HB := n3_; have BK102 := n4_; have GW102 := n5_; have GE102 := n6_; have NB101_102 := n7_; have NB102_101 := n8_; have NB0_102 := n9_; have NB102_0 := n10_; clear n0_ n1_ n2_ n3_ n4_ n5_ n6_ n7_ n8_ n9_ n10_ hb hbox hg) | ((with_reducible refine gate_dst (N := 6) rfl ?_); refine box_event qr (N := 6) qr (cs := #[.string (⟨#[]⟩ : ByteArray), .int .i64 0, .int .i64 0]) (t := 47) qg ?_; intro gb103 hg w7 hbox hb; have n0_ := zA (IsS56.below (by repeat (first | (with_reducible first | exact HI0.out | apply IsS56.alloc | apply IsS56.drewN | apply IsS56.drew | refine IsS56.far ?_ NB0_101.out _ | refine IsS56.far ?_ NB0_102.out _) | exact HI0.out)) hb); have n1_ := zA (qX BK101.out hb); have n2_ := zA (qX BK102.out hb); have n3_ := zA (zBq (qJ HK.out) (KeepBut.of_below hb g none) (.inl rfl)); have n4_ := zA (zV (qH HI0.out HB.out) hb); have n5_ := zA (hbox); have n6_ := zA ((by rw [hg]; exact (keep_size (w := w) (g := g) (row := none) (qJ HK.out)) : w.heap.size ≤ gb103)); have n7_ := zA ((Nat.le_trans HW0.out (by rw [hg]; exact (keep_size (w := w) (g := g) (row := none) (qJ HK.out)) : w.heap.size ≤ gb103) : w0.heap.size ≤ gb103)); have n8_ := zA ((by rw [hg]; exact zLq (qL BK101.out) : gb101 ≠ gb103)); have n9_ := zA ((by rw [hg]; exact zMq (qL BK101.out) : gb103 ≠ gb101)); have n10_ := zA ((by rw [hg]; exact zLq (qL BK102.out) : gb102 ≠ gb103)); have n11_ := zA ((by rw [hg]; exact zMq (qL BK102.out) : gb103 ≠ gb102)); have n12_ := zA ((by rw [hg]; exact zLq (IsS56.lt (show IsS56 w0 _ g s0_0 s0_1 s0_2 s0_3 from by repeat (first | (with_reducible first | exact HI0.out | apply IsS56.alloc | apply IsS56.drewN | apply IsS56.drew | refine IsS56.far ?_ NB0_101.out _ | refine IsS56.far ?_ NB0_102.out _) | exact HI0.out))) : g ≠ gb103)); have n13_ := zA ((by rw [hg]; exact zMq (IsS56.lt (show IsS56 w0 _ g s0_0 s0_1 s0_2 s0_3 from by repeat (first | (with_reducible first | exact HI0.out | apply IsS56.alloc | apply IsS56.drewN | apply IsS56.drew | refine IsS56.far ?_ NB0_101.out _ | refine IsS56.far ?_ NB0_102.out _) | exact HI0.out))) : gb103 ≠ g)); clear HI0 BK101 BK102 HK HB; have HI0 := n0_; have BK101 := n1_; have BK102 := n2_; have HK := n3_; have HB := n4_; have BK103 := n5_; have GW103 := n6_; have GE103 := n7_; have NB101_103 := n8_; have NB103_101 := n9_; have NB102_103 := n10_; have NB103_102 := n11_; have NB0_103 := n12_; have NB103_0 := n13_; clear n0_ n1_ n2_ n3_ n4_ n5_ n6_ n7_ n8_ n9_ n10_ n11_ n12_ n13_ hb hbox hg; have hnb8 := NB102_101.out; have hnc8 := NB101_102.out; have hnb9 := NB102_103.out; have hnc9 := NB103_102.out; have hnb10 := NB102_0.out; have hnc10 := NB0_102.out; obtain ⟨_, _, _, _, _, _⟩ := qc3f BK102.out))
  (try simp only [Act.put, zH, zI, zJ])
  go_cut [8] (fun v8 wc => ∃ (kq : Nat) (x8_3 : Bool) (x1000_3 : ByteArray) (x1001_3 : Int) (x1002_3 : Option (Int × Int)) (x1003_3 : Bool) (x102000_3 : ByteArray) (x102001_3 : Int) (x102002_3 : Int), v8 = .bool x8_3 ∧ Aside0 (backhaullaw06_read.j0 kq x8_3 x1000_3 x1001_3 x1002_3 x1003_3 x102000_3 x102001_3 x102002_3 = some (r1, r2, r3, r4, r5, r6, r7, r8)) ∧ Aside0 (kq ≤ k) ∧ Aside0 (wc.heap[gb101]? = some (.cells #[.string x102000_3, .int .i64 x102001_3, .int .i64 x102002_3] 47 (0, 0))) ∧ Aside0 (wc.heap[gb102]? = some (.cells #[.int .i64 a2_0, .int .i64 a2_1, .int .i64 a2_2] 51 (0, 0))) ∧ Aside0 (wc.heap[gb103]? = some (.cells #[.string (⟨#[]⟩ : ByteArray), .int .i64 0, .int .i64 0] 47 (0, 0))) ∧ Aside0 (IsS56 w0 wc g x1000_3 x1001_3 x1002_3 x1003_3) ∧ Aside0 (KeepBut w wc g none) ∧ Aside0 (Below w0.heap.size w0 wc))
  case first =>
    have H := HC4.out
    clear HC4
    by_cases c12 : a2_0 = 0
    · rw [if_pos c12] at H
      have c12b0 : (a2_0 == 0) = true := beq_iff_eq.mpr c12
      have c12b1 : (a2_0 != 0) = false := bne_eq_false_iff_eq.mpr c12
      clear c12
      (first | rw [c12b0] | (simp only [i64_w, i32_w]; rw [c12b0]) | skip)
      replace H := Option.bind_eq_some_iff.mp H
      obtain ⟨⟨t104, t105, t106, t107⟩, A130, H⟩ := H
      replace H : ((strict_Reader_Num.f k s0_0 s0_1 s0_2 s0_3 a2_1 a2_2).bind fun bt109 => (backhaullaw06_read.j0 k (bt109.1 == t107) bt109.2.1 bt109.2.2.1 bt109.2.2.2.1 bt109.2.2.2.2 t104 t105 t106)) = some (r1, r2, r3, r4, r5, r6, r7, r8) := H
      have A13 := zA A130
      clear A130
      replace H := Option.bind_eq_some_iff.mp H
      obtain ⟨⟨t109, t110, t111, t112, t113⟩, A140, H⟩ := H
      replace H : (backhaullaw06_read.j0 k (t109 == t107) t110 t111 t112 t113 t104 t105 t106) = some (r1, r2, r3, r4, r5, r6, r7, r8) := H
      have A14 := zA A140
      clear A140
      have H' := zA H
      clear H; have hnb15 := NB101_102.out; have hnc15 := NB102_101.out; have hnb16 := NB101_103.out; have hnc16 := NB103_101.out; have hnb17 := NB101_0.out; have hnc17 := NB0_101.out
      obtain ⟨_, _, _, _, _, _⟩ := qc3f BK101.out
      have hnb19 := NB102_103.out; have hnc19 := NB103_102.out; have hnb20 := NB102_0.out; have hnc20 := NB0_102.out
      obtain ⟨_, _, _, _, _, _⟩ := qc3f BK102.out
      try go_wp2_with (first | ((with_reducible refine zJq (f := 120) rfl ?_); refine goesL_ (some 33) rfl rfl Try.func120 (by kernel_rfl) rfl #[.agg #[.string a1_0, .int .i64 a1_1, .int .i64 a1_2], .int .i64 a2_1, .int .i64 a2_2] rfl (by (try simp only [zR, zS, zT]); first | done | rfl | (simp only [zP, zQ]; rfl)) ?_; (with_reducible refine (backhaulref06_Num.calls k a1_0 a1_1 a1_2 a2_1 a2_2 t104 t105 t106 t107 _ A13.out).mono ?_); rintro e w22 ⟨rfl, hb⟩; refine ⟨_, rfl, ?_⟩; have n0_ := zA (IsS56.below (by repeat (first | (with_reducible first | exact HI0.out | apply IsS56.alloc | apply IsS56.drewN | apply IsS56.drew | refine IsS56.far ?_ NB0_101.out _ | refine IsS56.far ?_ NB0_102.out _ | refine IsS56.far ?_ NB0_103.out _) | exact HI0.out)) hb); have n1_ := zA (qX BK101.out hb); have n2_ := zA (qX BK102.out hb); have n3_ := zA (qX BK103.out hb); have n4_ := zA (zBq (qJ HK.out) (KeepBut.of_below hb g none) (.inl rfl)); have n5_ := zA (zV (qH HI0.out HB.out) hb); clear HI0 BK101 BK102 BK103 HK HB; have HI0 := n0_; have BK101 := n1_; have BK102 := n2_; have BK103 := n3_; have HK := n4_; have HB := n5_; clear n0_ n1_ n2_ n3_ n4_ n5_; (try clear hb); (try clear hb2); (try clear hk); (try clear hi)) | ((with_reducible refine gate_dst (N := 9) rfl ?_); refine box_event qr (N := 9) qr (cs := #[.string (⟨#[]⟩ : ByteArray), .int .i64 0, .int .i64 0]) (t := 47) qg ?_; intro gb108 hg w23 hbox hb; have n0_ := zA (IsS56.below (by repeat (first | (with_reducible first | exact HI0.out | apply IsS56.alloc | apply IsS56.drewN | apply IsS56.drew | refine IsS56.far ?_ NB0_101.out _ | refine IsS56.far ?_ NB0_102.out _ | refine IsS56.far ?_ NB0_103.out _) | exact HI0.out)) hb); have n1_ := zA (qX BK101.out hb); have n2_ := zA (qX BK102.out hb); have n3_ := zA (qX BK103.out hb); have n4_ := zA (zBq (qJ HK.out) (KeepBut.of_below hb g none) (.inl rfl)); have n5_ := zA (zV (qH HI0.out HB.out) hb); have n6_ := zA (hbox); have n7_ := zA ((by rw [hg]; exact (keep_size (w := w) (g := g) (row := none) (qJ HK.out)) : w.heap.size ≤ gb108)); have n8_ := zA ((Nat.le_trans HW0.out (by rw [hg]; exact (keep_size (w := w) (g := g) (row := none) (qJ HK.out)) : w.heap.size ≤ gb108) : w0.heap.size ≤ gb108)); have n9_ := zA ((by rw [hg]; exact zLq (qL BK101.out) : gb101 ≠ gb108)); have n10_ := zA ((by rw [hg]; exact zMq (qL BK101.out) : gb108 ≠ gb101)); have n11_ := zA ((by rw [hg]; exact zLq (qL BK102.out) : gb102 ≠ gb108)); have n12_ := zA ((by rw [hg]; exact zMq (qL BK102.out) : gb108 ≠ gb102)); have n13_ := zA ((by rw [hg]; exact zLq (qL BK103.out) : gb103 ≠ gb108)); have n14_ := zA ((by rw [hg]; exact zMq (qL BK103.out) : gb108 ≠ gb103)); have n15_ := zA ((by rw [hg]; exact zLq (IsS56.lt (show IsS56 w0 _ g s0_0 s0_1 s0_2 s0_3 from by repeat (first | (with_reducible first | exact HI0.out | apply IsS56.alloc | apply IsS56.drewN | apply IsS56.drew | refine IsS56.far ?_ NB0_101.out _ | refine IsS56.far ?_ NB0_102.out _ | refine IsS56.far ?_ NB0_103.out _) | exact HI0.out))) : g ≠ gb108)); have n16_ := zA ((by rw [hg]; exact zMq (IsS56.lt (show IsS56 w0 _ g s0_0 s0_1 s0_2 s0_3 from by repeat (first | (with_reducible first | exact HI0.out | apply IsS56.alloc | apply IsS56.drewN | apply IsS56.drew | refine IsS56.far ?_ NB0_101.out _ | refine IsS56.far ?_ NB0_102.out _ | refine IsS56.far ?_ NB0_103.out _) | exact HI0.out))) : gb108 ≠ g)); clear HI0 BK101 BK102 BK103 HK HB; have HI0 := n0_; have BK101 := n1_; have BK102 := n2_; have BK103 := n3_; have HK := n4_; have HB := n5_; have BK108 := n6_; have GW108 := n7_; have GE108 := n8_; have NB101_108 := n9_; have NB108_101 := n10_; have NB102_108 := n11_; have NB108_102 := n12_; have NB103_108 := n13_; have NB108_103 := n14_; have NB0_108 := n15_; have NB108_0 := n16_; clear n0_ n1_ n2_ n3_ n4_ n5_ n6_ n7_ n8_ n9_ n10_ n11_ n12_ n13_ n14_ n15_ n16_ hb hbox hg; have hnb24 := NB108_101.out; have hnc24 := NB101_108.out; have hnb25 := NB108_102.out; have hnc25 := NB102_108.out; have hnb26 := NB108_103.out; have hnc26 := NB103_108.out; have hnb27 := NB108_0.out; have hnc27 := NB0_108.out; obtain ⟨_, _, _, _, _, _⟩ := qc3f BK108.out))
      have n0_ : Aside0 ((((w23.setCell ⟨gb108, 0, none⟩ (.string t104)).setCell ⟨gb108, 1, none⟩ (.int .i64 t105)).setCell ⟨gb108, 2, none⟩ (.int .i64 t106)).heap[gb101]? = some (.cells #[.string a1_0, .int .i64 a1_1, .int .i64 a1_2] 47 (0, 0))) := ⟨by (with_reducible repeat (first | refine zY ?_ _ | refine zAq ?_ | refine zZ ?_ _)); refine blk_far ?_ NB101_108.out _; (with_reducible repeat (first | refine zY ?_ _ | refine zAq ?_ | refine zZ ?_ _)); refine blk_far ?_ NB101_108.out _; (with_reducible repeat (first | refine zY ?_ _ | refine zAq ?_ | refine zZ ?_ _)); refine blk_far ?_ NB101_108.out _; exact BK101.out⟩
      have n1_ : Aside0 ((((w23.setCell ⟨gb108, 0, none⟩ (.string t104)).setCell ⟨gb108, 1, none⟩ (.int .i64 t105)).setCell ⟨gb108, 2, none⟩ (.int .i64 t106)).heap[gb102]? = some (.cells #[.int .i64 a2_0, .int .i64 a2_1, .int .i64 a2_2] 51 (0, 0))) := ⟨by (with_reducible repeat (first | refine zY ?_ _ | refine zAq ?_ | refine zZ ?_ _)); refine blk_far ?_ NB102_108.out _; (with_reducible repeat (first | refine zY ?_ _ | refine zAq ?_ | refine zZ ?_ _)); refine blk_far ?_ NB102_108.out _; (with_reducible repeat (first | refine zY ?_ _ | refine zAq ?_ | refine zZ ?_ _)); refine blk_far ?_ NB102_108.out _; exact BK102.out⟩
      have n2_ : Aside0 ((((w23.setCell ⟨gb108, 0, none⟩ (.string t104)).setCell ⟨gb108, 1, none⟩ (.int .i64 t105)).setCell ⟨gb108, 2, none⟩ (.int .i64 t106)).heap[gb103]? = some (.cells #[.string (⟨#[]⟩ : ByteArray), .int .i64 0, .int .i64 0] 47 (0, 0))) := ⟨by (with_reducible repeat (first | refine zY ?_ _ | refine zAq ?_ | refine zZ ?_ _)); refine blk_far ?_ NB103_108.out _; (with_reducible repeat (first | refine zY ?_ _ | refine zAq ?_ | refine zZ ?_ _)); refine blk_far ?_ NB103_108.out _; (with_reducible repeat (first | refine zY ?_ _ | refine zAq ?_ | refine zZ ?_ _)); refine blk_far ?_ NB103_108.out _; exact BK103.out⟩
      have n3_ : Aside0 ((((w23.setCell ⟨gb108, 0, none⟩ (.string t104)).setCell ⟨gb108, 1, none⟩ (.int .i64 t105)).setCell ⟨gb108, 2, none⟩ (.int .i64 t106)).heap[gb108]? = some (.cells #[.string t104, .int .i64 t105, .int .i64 t106] 47 (0, 0))) := ⟨by (with_reducible repeat (first | refine zY ?_ _ | refine zAq ?_ | refine zZ ?_ _)); apply qP3; exact BK108.out⟩
      have n4_ : Aside0 (IsS56 w0 (((w23.setCell ⟨gb108, 0, none⟩ (.string t104)).setCell ⟨gb108, 1, none⟩ (.int .i64 t105)).setCell ⟨gb108, 2, none⟩ (.int .i64 t106)) g s0_0 s0_1 s0_2 s0_3) := ⟨by repeat (first | (with_reducible first | exact HI0.out | apply IsS56.alloc | apply IsS56.drewN | apply IsS56.drew | refine IsS56.far ?_ NB0_101.out _ | refine IsS56.far ?_ NB0_102.out _ | refine IsS56.far ?_ NB0_103.out _ | refine IsS56.far ?_ NB0_108.out _) | exact HI0.out)⟩
      have n5_ : Aside0 (KeepBut w (((w23.setCell ⟨gb108, 0, none⟩ (.string t104)).setCell ⟨gb108, 1, none⟩ (.int .i64 t105)).setCell ⟨gb108, 2, none⟩ (.int .i64 t106)) g none) := ⟨qJ HK.out⟩
      have n6_ : Aside0 (Below w0.heap.size w0 (((w23.setCell ⟨gb108, 0, none⟩ (.string t104)).setCell ⟨gb108, 1, none⟩ (.int .i64 t105)).setCell ⟨gb108, 2, none⟩ (.int .i64 t106))) := ⟨qH HI0.out HB.out⟩
      (try clear BK101); (try clear BK102); (try clear BK103); (try clear BK108); (try clear HI0); (try clear HK); (try clear HB)
      generalize (((w23.setCell ⟨gb108, 0, none⟩ (.string t104)).setCell ⟨gb108, 1, none⟩ (.int .i64 t105)).setCell ⟨gb108, 2, none⟩ (.int .i64 t106)) = w29 at n0_ n1_ n2_ n3_ n4_ n5_ n6_ ⊢
      have BK101 := n0_; have BK102 := n1_; have BK103 := n2_; have BK108 := n3_; have HI0 := n4_; have HK := n5_; have HB := n6_; clear n0_ n1_ n2_ n3_ n4_ n5_ n6_; have n0_ := zA (zAq BK101.out); have n1_ := zA (zAq BK102.out); have n2_ := zA (zAq BK103.out); have n3_ := zA (zAq BK108.out); have n4_ := zA (IsS56.drew HI0.out); have n5_ := zA (zM HK.out); have n6_ := zA (zC HB.out); clear BK101; clear BK102; clear BK103; clear BK108; clear HI0; clear HK; clear HB; have BK101 := n0_; have BK102 := n1_; have BK103 := n2_; have BK108 := n3_; have HI0 := n4_; have HK := n5_; have HB := n6_; clear n0_ n1_ n2_ n3_ n4_ n5_ n6_
      refine start_ (n := 11) (S := fun w' => w'.cell? ⟨gb108, 0, none⟩ = some (.string t104) ∧ w'.cell? ⟨gb108, 1, none⟩ = some (.int .i64 t105) ∧ w'.cell? ⟨gb108, 2, none⟩ = some (.int .i64 t106) ∧ w'.cell? ⟨gb102, 0, none⟩ = some (.int .i64 a2_0) ∧ w'.cell? ⟨gb102, 1, none⟩ = some (.int .i64 a2_1) ∧ w'.cell? ⟨gb102, 2, none⟩ = some (.int .i64 a2_2)) (ds := []) #[o0, o0, o0, o0, o0, o0, o0, o0, o0, o0, o0] (by kernel_rfl) rfl rfl ⟨(zF BK108.out 0).trans rfl, (zF BK108.out 1).trans rfl, (zF BK108.out 2).trans rfl, (zF BK102.out 0).trans rfl, (zF BK102.out 1).trans rfl, (zF BK102.out 2).trans rfl⟩ (fun hHeld => ?_); refine with_tabW backhaullaw06_read.tab5 backhaullaw06_read.bits5 (fun HT_ HW_ => ?_)
      generalize w29.drew = w30 at BK101 BK102 BK103 BK108 HI0 HK HB hHeld ⊢
      refine pure_ (i := 1) (N := some 37) #[o0, o1, o0, o0, o0, o0, o0, o0, o0, o0, o0] rfl rfl (any_of HT_.out (by kernel_rfl)) (fun _ _ _ h => h) (Or.inl ⟨by rfl, qy⟩) qz ?_
      refine pure_ (i := 2) (N := some 38) #[o0, o1, o1, o0, o0, o0, o0, o0, o0, o0, o0] rfl rfl (any_of HT_.out (by kernel_rfl)) (fun _ _ _ h => h) (Or.inl ⟨by rfl, qy⟩) qz ?_
      refine pure_ (i := 4) (N := some 40) #[o0, o1, o1, o0, o1, o0, o0, o0, o0, o0, o0] rfl rfl (any_of HT_.out (by kernel_rfl)) (fun _ _ _ h => h) (Or.inl ⟨by rfl, qy⟩) qz ?_
      refine pure_ (i := 7) (N := some 43) #[o0, o1, o1, o0, o1, o0, o0, o1, o0, o0, o0] rfl rfl (any_of HT_.out (by kernel_rfl)) (fun _ _ _ h => h) (Or.inl ⟨by rfl, qy⟩) qz ?_
      refine take_ (i := 0) (N := some 36) (v := ?_) (a' := ?_) #[o1, o1, o1, o0, o1, o0, o0, o1, o0, o0, o0] rfl rfl (take_ofW HT_.out HW_.out (by kernel_rfl)) (fun _ _ _ h => h) (Or.inl ⟨by rfl, ?_⟩) hHeld ?_ ?_
      rotate_left
      · rintro w' ⟨s0, s1, s2, s3, s4, s5⟩
        go_simp
        with_reducible rfl
      rotate_left
      · simp only [Act.put, zH, zI, zJ, i64_w, i32_w]
        rfl
      refine take_ (i := 3) (N := some 39) (v := ?_) (a' := ?_) #[o1, o1, o1, o1, o1, o0, o0, o1, o0, o0, o0] rfl rfl (take_ofW HT_.out HW_.out (by kernel_rfl)) (fun _ _ _ h => h) (Or.inl ⟨by rfl, ?_⟩) hHeld ?_ ?_
      rotate_left
      · rintro w' ⟨s0, s1, s2, s3, s4, s5⟩
        go_simp
        with_reducible rfl
      rotate_left
      · simp only [Act.put, zH, zI, zJ, i64_w, i32_w]
        rfl
      refine take_ (i := 5) (N := some 41) (v := ?_) (a' := ?_) #[o1, o1, o1, o1, o1, o1, o0, o1, o0, o0, o0] rfl rfl (take_ofW HT_.out HW_.out (by kernel_rfl)) (fun _ _ _ h => h) (Or.inl ⟨by rfl, ?_⟩) hHeld ?_ ?_
      rotate_left
      · rintro w' ⟨s0, s1, s2, s3, s4, s5⟩
        go_simp
        with_reducible rfl
      rotate_left
      · simp only [Act.put, zH, zI, zJ, i64_w, i32_w]
        rfl
      refine one_ (i := 6) (N := some 42) #[o1, o1, o1, o1, o1, o1, o1, o1, o0, o0, o0] rfl rfl (one_of HT_.out (by kernel_rfl)) (by decide) (fun K hK => ?_)
      refine goes_ Try.func41 (by kernel_rfl) rfl #[.pointer (some ⟨g, 0, none⟩), .int .i64 a2_1, .int .i64 a2_2] (by rfl) rfl rfl (by (try simp only [zR, zS, zT]); first | done | rfl | (simp only [zP, zQ]; rfl)) ?_
      with_reducible refine (strict_Reader_Num.calls k g s0_0 s0_1 s0_2 s0_3 a2_1 a2_2 t109 t110 t111 t112 t113 w0 _ ?side1 ?side2 A14.out).mono ?_
      (case side1 => repeat (first | (with_reducible first | exact HI0.out | apply IsS56.alloc | apply IsS56.drewN | apply IsS56.drew | refine IsS56.far ?_ NB0_101.out _ | refine IsS56.far ?_ NB0_102.out _ | refine IsS56.far ?_ NB0_103.out _ | refine IsS56.far ?_ NB0_108.out _) | exact HI0.out))
      (case side2 => repeat (first | (with_reducible first | exact HB.out | apply zD | apply zB | apply zC | refine zE ?_ (IsS56.ge HI0.out) | refine zE ?_ GE101.out | refine zE ?_ GE102.out | refine zE ?_ GE103.out | refine zE ?_ GE108.out) | exact HB.out))
      rintro e w31 ⟨rfl, hi, hb, hk⟩
      refine ⟨_, rfl, ?_⟩
      have n0_ := zA (KeepBut.blk hk (g' := gb101) (o := .cells #[.string a1_0, .int .i64 a1_1, .int .i64 a1_2] 47 (0, 0)) (qW BK101.out) NB101_0.out (by simp)); have n1_ := zA (KeepBut.blk hk (g' := gb102) (o := .cells #[.int .i64 a2_0, .int .i64 a2_1, .int .i64 a2_2] 51 (0, 0)) (qW BK102.out) NB102_0.out (by simp)); have n2_ := zA (KeepBut.blk hk (g' := gb103) (o := .cells #[.string (⟨#[]⟩ : ByteArray), .int .i64 0, .int .i64 0] 47 (0, 0)) (qW BK103.out) NB103_0.out (by simp)); have n3_ := zA (KeepBut.blk hk (g' := gb108) (o := .cells #[.string t104, .int .i64 t105, .int .i64 t106] 47 (0, 0)) (qW BK108.out) NB108_0.out (by simp)); have n4_ := zA (zBq (qJ HK.out) hk (.inl rfl)); have n5_ := zA (hb); have n6_ := zA (hi); clear BK101; clear BK102; clear BK103; clear BK108; clear HK; clear HB; clear HI0; have BK101 := n0_; have BK102 := n1_; have BK103 := n2_; have BK108 := n3_; have HK := n4_; have HB := n5_; have HI0 := n6_; clear n0_ n1_ n2_ n3_ n4_ n5_ n6_; (try clear hb); (try clear hb2); (try clear hk); (try clear hi)
      (try simp only [errW_none, errW_some])
      refine hK.out _ _ ⟨(zF BK108.out 0).trans rfl, (zF BK108.out 1).trans rfl, (zF BK108.out 2).trans rfl, (zF BK102.out 0).trans rfl, (zF BK102.out 1).trans rfl, (zF BK102.out 2).trans rfl⟩ (fun hHeld => ?_)
      clear hK K
      refine norm_ (a' := ?_) ?_ ?_
      rotate_left
      · show Act.put _ (some 42) _ = _
        simp only [Act.put, zH, zI, zJ, i64_w, i32_w]
        rfl
      refine pure_ (i := 8) (N := some 44) #[o1, o1, o1, o1, o1, o1, o1, o1, o1, o0, o0] rfl rfl (any_of HT_.out (by kernel_rfl)) (fun _ _ _ h => h) (Or.inl ⟨by rfl, qy⟩) qz ?_
      refine one_ (i := 9) (N := none) #[o1, o1, o1, o1, o1, o1, o1, o1, o1, o1, o0] rfl rfl (one_of HT_.out (by kernel_rfl)) (by decide) (fun K hK => ?_)
      have hs32 : w31.cell? ⟨gb101, 0, none⟩ = some (.string a1_0) := (zF BK101.out 0).trans rfl; have hfs32 := zG BK101.out 0; have hns32_1 := NB102_101.out; have hns32_2 := NB103_101.out; have hns32_3 := NB108_101.out
      have hms32_1 := NB101_102.out
      have hms32_2 := NB101_103.out
      have hms32_3 := NB101_108.out
      have hs33 : w31.cell? ⟨gb101, 1, none⟩ = some (.int .i64 a1_1) := (zF BK101.out 1).trans rfl; have hfs33 := zG BK101.out 1; have hns33_1 := NB102_101.out; have hns33_2 := NB103_101.out; have hns33_3 := NB108_101.out
      have hms33_1 := NB101_102.out
      have hms33_2 := NB101_103.out
      have hms33_3 := NB101_108.out
      have hs34 : w31.cell? ⟨gb101, 2, none⟩ = some (.int .i64 a1_2) := (zF BK101.out 2).trans rfl; have hfs34 := zG BK101.out 2; have hns34_1 := NB102_101.out; have hns34_2 := NB103_101.out; have hns34_3 := NB108_101.out
      have hms34_1 := NB101_102.out
      have hms34_2 := NB101_103.out
      have hms34_3 := NB101_108.out
      refine skip_ (w1 := ?_) (by rfl) rfl ?_ ?_
      rotate_left
      · go_simp
        rfl
      refine hK.out _ _ ⟨((cell_far (p := ⟨gb101, _, none⟩) NB108_101.out _).trans (((cell_far (p := ⟨gb101, _, none⟩) NB108_101.out _).trans (((cell_far (p := ⟨gb101, _, none⟩) NB108_101.out _).trans (hHeld.1)))))), ((cell_far (p := ⟨gb101, _, none⟩) NB108_101.out _).trans (((cell_far (p := ⟨gb101, _, none⟩) NB108_101.out _).trans (((cell_far (p := ⟨gb101, _, none⟩) NB108_101.out _).trans (hHeld.2.1)))))), ((cell_far (p := ⟨gb101, _, none⟩) NB108_101.out _).trans (((cell_far (p := ⟨gb101, _, none⟩) NB108_101.out _).trans (((cell_far (p := ⟨gb101, _, none⟩) NB108_101.out _).trans (hHeld.2.2.1)))))), ((cell_far (p := ⟨gb101, _, none⟩) NB102_101.out _).trans (((cell_far (p := ⟨gb101, _, none⟩) NB102_101.out _).trans (((cell_far (p := ⟨gb101, _, none⟩) NB102_101.out _).trans (hHeld.2.2.2.1)))))), ((cell_far (p := ⟨gb101, _, none⟩) NB102_101.out _).trans (((cell_far (p := ⟨gb101, _, none⟩) NB102_101.out _).trans (((cell_far (p := ⟨gb101, _, none⟩) NB102_101.out _).trans (hHeld.2.2.2.2.1)))))), ((cell_far (p := ⟨gb101, _, none⟩) NB102_101.out _).trans (((cell_far (p := ⟨gb101, _, none⟩) NB102_101.out _).trans (((cell_far (p := ⟨gb101, _, none⟩) NB102_101.out _).trans (hHeld.2.2.2.2.2))))))⟩ (fun hHeld => ?_)
      clear hK K
      refine pure_ (i := 10) (N := some 8) #[o1, o1, o1, o1, o1, o1, o1, o1, o1, o1, o1] rfl rfl (any_of HT_.out (by kernel_rfl)) (fun _ _ _ h => h) (Or.inl ⟨by rfl, qy⟩) qz ?_
      refine done_ (done_of HT_.out (by kernel_rfl)) ?_
      try go_wp2
      go_meet
      case rel => exact ⟨_, ((t109 == t107)), (t110), (t111), (t112), (t113), (t104), (t105), (t106), (by first | rfl | (simp; done) | (simp [*]; done)), H', ⟨by first | omega | exact Nat.le_refl _⟩, ⟨by (with_reducible repeat (first | refine zY ?_ _ | refine zAq ?_ | refine zZ ?_ _)); apply qP3; exact BK101.out⟩, ⟨by (with_reducible repeat (first | refine zY ?_ _ | refine zAq ?_ | refine zZ ?_ _)); refine blk_far ?_ NB102_101.out _; (with_reducible repeat (first | refine zY ?_ _ | refine zAq ?_ | refine zZ ?_ _)); refine blk_far ?_ NB102_101.out _; (with_reducible repeat (first | refine zY ?_ _ | refine zAq ?_ | refine zZ ?_ _)); refine blk_far ?_ NB102_101.out _; exact BK102.out⟩, ⟨by (with_reducible repeat (first | refine zY ?_ _ | refine zAq ?_ | refine zZ ?_ _)); refine blk_far ?_ NB103_101.out _; (with_reducible repeat (first | refine zY ?_ _ | refine zAq ?_ | refine zZ ?_ _)); refine blk_far ?_ NB103_101.out _; (with_reducible repeat (first | refine zY ?_ _ | refine zAq ?_ | refine zZ ?_ _)); refine blk_far ?_ NB103_101.out _; exact BK103.out⟩, ⟨by repeat (first | (with_reducible first | exact HI0.out | apply IsS56.alloc | apply IsS56.drewN | apply IsS56.drew | refine IsS56.far ?_ NB0_101.out _ | refine IsS56.far ?_ NB0_102.out _ | refine IsS56.far ?_ NB0_103.out _ | refine IsS56.far ?_ NB0_108.out _) | exact HI0.out)⟩, ⟨qJ HK.out⟩, ⟨qH HI0.out HB.out⟩⟩
    rw [if_neg c12] at H
    have c12b0 : (a2_0 == 0) = false := beq_eq_false_iff_ne.mpr c12
    have c12b1 : (a2_0 != 0) = true := bne_iff_ne.mpr c12
    (first | rw [c12b0] | (simp only [i64_w, i32_w]; rw [c12b0]) | skip)
    by_cases c35 : a2_0 = 1
    · rw [if_pos c35] at H
      have c35b0 : (a2_0 == 1) = true := beq_iff_eq.mpr c35
      have c35b1 : (a2_0 != 1) = false := bne_eq_false_iff_eq.mpr c35
      clear c35
      replace H := Option.bind_eq_some_iff.mp H
      obtain ⟨⟨t114, t115, t116, t117⟩, A360, H⟩ := H
      replace H : ((strict_Reader_Text.f k s0_0 s0_1 s0_2 s0_3 a2_2).bind fun bt119 => (backhaullaw06_read.j0 k (bt119.1.toList == t117.toList) bt119.2.1 bt119.2.2.1 bt119.2.2.2.1 bt119.2.2.2.2 t114 t115 t116)) = some (r1, r2, r3, r4, r5, r6, r7, r8) := H
      have A36 := zA A360
      clear A360
      replace H := Option.bind_eq_some_iff.mp H
      obtain ⟨⟨t119, t120, t121, t122, t123⟩, A370, H⟩ := H
      replace H : (backhaullaw06_read.j0 k (t119.toList == t117.toList) t120 t121 t122 t123 t114 t115 t116) = some (r1, r2, r3, r4, r5, r6, r7, r8) := H
      have A37 := zA A370
      clear A370
      have H' := zA H
      clear H; have hnb38 := NB101_102.out; have hnc38 := NB102_101.out; have hnb39 := NB101_103.out; have hnc39 := NB103_101.out; have hnb40 := NB101_0.out; have hnc40 := NB0_101.out
      obtain ⟨_, _, _, _, _, _⟩ := qc3f BK101.out
      have hnb42 := NB102_103.out; have hnc42 := NB103_102.out; have hnb43 := NB102_0.out; have hnc43 := NB0_102.out
      obtain ⟨_, _, _, _, _, _⟩ := qc3f BK102.out
      try go_wp2_with (first | ((with_reducible refine zJq (f := 129) rfl ?_); refine goesL_ (some 51) rfl rfl Try.func129 (by kernel_rfl) rfl #[.agg #[.string a1_0, .int .i64 a1_1, .int .i64 a1_2], .int .i64 a2_2] rfl (by (try simp only [zR, zS, zT]); first | done | rfl | (simp only [zP, zQ]; rfl)) ?_; (with_reducible refine (backhaulref06_Text.calls k a1_0 a1_1 a1_2 a2_2 t114 t115 t116 t117 _ A36.out).mono ?_); rintro e w45 ⟨rfl, hb⟩; refine ⟨_, rfl, ?_⟩; have n0_ := zA (IsS56.below (by repeat (first | (with_reducible first | exact HI0.out | apply IsS56.alloc | apply IsS56.drewN | apply IsS56.drew | refine IsS56.far ?_ NB0_101.out _ | refine IsS56.far ?_ NB0_102.out _ | refine IsS56.far ?_ NB0_103.out _) | exact HI0.out)) hb); have n1_ := zA (qX BK101.out hb); have n2_ := zA (qX BK102.out hb); have n3_ := zA (qX BK103.out hb); have n4_ := zA (zBq (qJ HK.out) (KeepBut.of_below hb g none) (.inl rfl)); have n5_ := zA (zV (qH HI0.out HB.out) hb); clear HI0 BK101 BK102 BK103 HK HB; have HI0 := n0_; have BK101 := n1_; have BK102 := n2_; have BK103 := n3_; have HK := n4_; have HB := n5_; clear n0_ n1_ n2_ n3_ n4_ n5_; (try clear hb); (try clear hb2); (try clear hk); (try clear hi)) | ((with_reducible refine gate_dst (N := 11) rfl ?_); refine box_event qr (N := 11) qr (cs := #[.string (⟨#[]⟩ : ByteArray), .int .i64 0, .int .i64 0]) (t := 47) qg ?_; intro gb118 hg w46 hbox hb; have n0_ := zA (IsS56.below (by repeat (first | (with_reducible first | exact HI0.out | apply IsS56.alloc | apply IsS56.drewN | apply IsS56.drew | refine IsS56.far ?_ NB0_101.out _ | refine IsS56.far ?_ NB0_102.out _ | refine IsS56.far ?_ NB0_103.out _) | exact HI0.out)) hb); have n1_ := zA (qX BK101.out hb); have n2_ := zA (qX BK102.out hb); have n3_ := zA (qX BK103.out hb); have n4_ := zA (zBq (qJ HK.out) (KeepBut.of_below hb g none) (.inl rfl)); have n5_ := zA (zV (qH HI0.out HB.out) hb); have n6_ := zA (hbox); have n7_ := zA ((by rw [hg]; exact (keep_size (w := w) (g := g) (row := none) (qJ HK.out)) : w.heap.size ≤ gb118)); have n8_ := zA ((Nat.le_trans HW0.out (by rw [hg]; exact (keep_size (w := w) (g := g) (row := none) (qJ HK.out)) : w.heap.size ≤ gb118) : w0.heap.size ≤ gb118)); have n9_ := zA ((by rw [hg]; exact zLq (qL BK101.out) : gb101 ≠ gb118)); have n10_ := zA ((by rw [hg]; exact zMq (qL BK101.out) : gb118 ≠ gb101)); have n11_ := zA ((by rw [hg]; exact zLq (qL BK102.out) : gb102 ≠ gb118)); have n12_ := zA ((by rw [hg]; exact zMq (qL BK102.out) : gb118 ≠ gb102)); have n13_ := zA ((by rw [hg]; exact zLq (qL BK103.out) : gb103 ≠ gb118)); have n14_ := zA ((by rw [hg]; exact zMq (qL BK103.out) : gb118 ≠ gb103)); have n15_ := zA ((by rw [hg]; exact zLq (IsS56.lt (show IsS56 w0 _ g s0_0 s0_1 s0_2 s0_3 from by repeat (first | (with_reducible first | exact HI0.out | apply IsS56.alloc | apply IsS56.drewN | apply IsS56.drew | refine IsS56.far ?_ NB0_101.out _ | refine IsS56.far ?_ NB0_102.out _ | refine IsS56.far ?_ NB0_103.out _) | exact HI0.out))) : g ≠ gb118)); have n16_ := zA ((by rw [hg]; exact zMq (IsS56.lt (show IsS56 w0 _ g s0_0 s0_1 s0_2 s0_3 from by repeat (first | (with_reducible first | exact HI0.out | apply IsS56.alloc | apply IsS56.drewN | apply IsS56.drew | refine IsS56.far ?_ NB0_101.out _ | refine IsS56.far ?_ NB0_102.out _ | refine IsS56.far ?_ NB0_103.out _) | exact HI0.out))) : gb118 ≠ g)); clear HI0 BK101 BK102 BK103 HK HB; have HI0 := n0_; have BK101 := n1_; have BK102 := n2_; have BK103 := n3_; have HK := n4_; have HB := n5_; have BK118 := n6_; have GW118 := n7_; have GE118 := n8_; have NB101_118 := n9_; have NB118_101 := n10_; have NB102_118 := n11_; have NB118_102 := n12_; have NB103_118 := n13_; have NB118_103 := n14_; have NB0_118 := n15_; have NB118_0 := n16_; clear n0_ n1_ n2_ n3_ n4_ n5_ n6_ n7_ n8_ n9_ n10_ n11_ n12_ n13_ n14_ n15_ n16_ hb hbox hg; have hnb47 := NB118_101.out; have hnc47 := NB101_118.out; have hnb48 := NB118_102.out; have hnc48 := NB102_118.out; have hnb49 := NB118_103.out; have hnc49 := NB103_118.out; have hnb50 := NB118_0.out; have hnc50 := NB0_118.out; obtain ⟨_, _, _, _, _, _⟩ := qc3f BK118.out))
      have n0_ : Aside0 ((((w46.setCell ⟨gb118, 0, none⟩ (.string t114)).setCell ⟨gb118, 1, none⟩ (.int .i64 t115)).setCell ⟨gb118, 2, none⟩ (.int .i64 t116)).heap[gb101]? = some (.cells #[.string a1_0, .int .i64 a1_1, .int .i64 a1_2] 47 (0, 0))) := ⟨by (with_reducible repeat (first | refine zY ?_ _ | refine zAq ?_ | refine zZ ?_ _)); refine blk_far ?_ NB101_118.out _; (with_reducible repeat (first | refine zY ?_ _ | refine zAq ?_ | refine zZ ?_ _)); refine blk_far ?_ NB101_118.out _; (with_reducible repeat (first | refine zY ?_ _ | refine zAq ?_ | refine zZ ?_ _)); refine blk_far ?_ NB101_118.out _; exact BK101.out⟩
      have n1_ : Aside0 ((((w46.setCell ⟨gb118, 0, none⟩ (.string t114)).setCell ⟨gb118, 1, none⟩ (.int .i64 t115)).setCell ⟨gb118, 2, none⟩ (.int .i64 t116)).heap[gb102]? = some (.cells #[.int .i64 a2_0, .int .i64 a2_1, .int .i64 a2_2] 51 (0, 0))) := ⟨by (with_reducible repeat (first | refine zY ?_ _ | refine zAq ?_ | refine zZ ?_ _)); refine blk_far ?_ NB102_118.out _; (with_reducible repeat (first | refine zY ?_ _ | refine zAq ?_ | refine zZ ?_ _)); refine blk_far ?_ NB102_118.out _; (with_reducible repeat (first | refine zY ?_ _ | refine zAq ?_ | refine zZ ?_ _)); refine blk_far ?_ NB102_118.out _; exact BK102.out⟩
      have n2_ : Aside0 ((((w46.setCell ⟨gb118, 0, none⟩ (.string t114)).setCell ⟨gb118, 1, none⟩ (.int .i64 t115)).setCell ⟨gb118, 2, none⟩ (.int .i64 t116)).heap[gb103]? = some (.cells #[.string (⟨#[]⟩ : ByteArray), .int .i64 0, .int .i64 0] 47 (0, 0))) := ⟨by (with_reducible repeat (first | refine zY ?_ _ | refine zAq ?_ | refine zZ ?_ _)); refine blk_far ?_ NB103_118.out _; (with_reducible repeat (first | refine zY ?_ _ | refine zAq ?_ | refine zZ ?_ _)); refine blk_far ?_ NB103_118.out _; (with_reducible repeat (first | refine zY ?_ _ | refine zAq ?_ | refine zZ ?_ _)); refine blk_far ?_ NB103_118.out _; exact BK103.out⟩
      have n3_ : Aside0 ((((w46.setCell ⟨gb118, 0, none⟩ (.string t114)).setCell ⟨gb118, 1, none⟩ (.int .i64 t115)).setCell ⟨gb118, 2, none⟩ (.int .i64 t116)).heap[gb118]? = some (.cells #[.string t114, .int .i64 t115, .int .i64 t116] 47 (0, 0))) := ⟨by (with_reducible repeat (first | refine zY ?_ _ | refine zAq ?_ | refine zZ ?_ _)); apply qP3; exact BK118.out⟩
      have n4_ : Aside0 (IsS56 w0 (((w46.setCell ⟨gb118, 0, none⟩ (.string t114)).setCell ⟨gb118, 1, none⟩ (.int .i64 t115)).setCell ⟨gb118, 2, none⟩ (.int .i64 t116)) g s0_0 s0_1 s0_2 s0_3) := ⟨by repeat (first | (with_reducible first | exact HI0.out | apply IsS56.alloc | apply IsS56.drewN | apply IsS56.drew | refine IsS56.far ?_ NB0_101.out _ | refine IsS56.far ?_ NB0_102.out _ | refine IsS56.far ?_ NB0_103.out _ | refine IsS56.far ?_ NB0_118.out _) | exact HI0.out)⟩
      have n5_ : Aside0 (KeepBut w (((w46.setCell ⟨gb118, 0, none⟩ (.string t114)).setCell ⟨gb118, 1, none⟩ (.int .i64 t115)).setCell ⟨gb118, 2, none⟩ (.int .i64 t116)) g none) := ⟨qJ HK.out⟩
      have n6_ : Aside0 (Below w0.heap.size w0 (((w46.setCell ⟨gb118, 0, none⟩ (.string t114)).setCell ⟨gb118, 1, none⟩ (.int .i64 t115)).setCell ⟨gb118, 2, none⟩ (.int .i64 t116))) := ⟨qH HI0.out HB.out⟩
      (try clear BK101); (try clear BK102); (try clear BK103); (try clear BK118); (try clear HI0); (try clear HK); (try clear HB)
      generalize (((w46.setCell ⟨gb118, 0, none⟩ (.string t114)).setCell ⟨gb118, 1, none⟩ (.int .i64 t115)).setCell ⟨gb118, 2, none⟩ (.int .i64 t116)) = w52 at n0_ n1_ n2_ n3_ n4_ n5_ n6_ ⊢
      have BK101 := n0_; have BK102 := n1_; have BK103 := n2_; have BK118 := n3_; have HI0 := n4_; have HK := n5_; have HB := n6_; clear n0_ n1_ n2_ n3_ n4_ n5_ n6_; have n0_ := zA (zAq BK101.out); have n1_ := zA (zAq BK102.out); have n2_ := zA (zAq BK103.out); have n3_ := zA (zAq BK118.out); have n4_ := zA (IsS56.drew HI0.out); have n5_ := zA (zM HK.out); have n6_ := zA (zC HB.out); clear BK101; clear BK102; clear BK103; clear BK118; clear HI0; clear HK; clear HB; have BK101 := n0_; have BK102 := n1_; have BK103 := n2_; have BK118 := n3_; have HI0 := n4_; have HK := n5_; have HB := n6_; clear n0_ n1_ n2_ n3_ n4_ n5_ n6_
      refine start_ (n := 9) (S := fun w' => w'.cell? ⟨gb118, 0, none⟩ = some (.string t114) ∧ w'.cell? ⟨gb118, 1, none⟩ = some (.int .i64 t115) ∧ w'.cell? ⟨gb118, 2, none⟩ = some (.int .i64 t116) ∧ w'.cell? ⟨gb102, 0, none⟩ = some (.int .i64 a2_0) ∧ w'.cell? ⟨gb102, 1, none⟩ = some (.int .i64 a2_1) ∧ w'.cell? ⟨gb102, 2, none⟩ = some (.int .i64 a2_2)) (ds := []) #[o0, o0, o0, o0, o0, o0, o0, o0, o0] (by kernel_rfl) rfl rfl ⟨(zF BK118.out 0).trans rfl, (zF BK118.out 1).trans rfl, (zF BK118.out 2).trans rfl, (zF BK102.out 0).trans rfl, (zF BK102.out 1).trans rfl, (zF BK102.out 2).trans rfl⟩ (fun hHeld => ?_); refine with_tabW backhaullaw06_read.tab8 backhaullaw06_read.bits8 (fun HT_ HW_ => ?_)
      generalize w52.drew = w53 at BK101 BK102 BK103 BK118 HI0 HK HB hHeld ⊢
      refine pure_ (i := 1) (N := some 55) #[o0, o1, o0, o0, o0, o0, o0, o0, o0] rfl rfl (any_of HT_.out (by kernel_rfl)) (fun _ _ _ h => h) (Or.inl ⟨by rfl, qy⟩) qz ?_
      refine pure_ (i := 2) (N := some 56) #[o0, o1, o1, o0, o0, o0, o0, o0, o0] rfl rfl (any_of HT_.out (by kernel_rfl)) (fun _ _ _ h => h) (Or.inl ⟨by rfl, qy⟩) qz ?_
      refine pure_ (i := 5) (N := some 59) #[o0, o1, o1, o0, o0, o1, o0, o0, o0] rfl rfl (any_of HT_.out (by kernel_rfl)) (fun _ _ _ h => h) (Or.inl ⟨by rfl, qy⟩) qz ?_
      refine take_ (i := 0) (N := some 54) (v := ?_) (a' := ?_) #[o1, o1, o1, o0, o0, o1, o0, o0, o0] rfl rfl (take_ofW HT_.out HW_.out (by kernel_rfl)) (fun _ _ _ h => h) (Or.inl ⟨by rfl, ?_⟩) hHeld ?_ ?_
      rotate_left
      · rintro w' ⟨s0, s1, s2, s3, s4, s5⟩
        go_simp
        with_reducible rfl
      rotate_left
      · simp only [Act.put, zH, zI, zJ, i64_w, i32_w]
        rfl
      refine take_ (i := 3) (N := some 57) (v := ?_) (a' := ?_) #[o1, o1, o1, o1, o0, o1, o0, o0, o0] rfl rfl (take_ofW HT_.out HW_.out (by kernel_rfl)) (fun _ _ _ h => h) (Or.inl ⟨by rfl, ?_⟩) hHeld ?_ ?_
      rotate_left
      · rintro w' ⟨s0, s1, s2, s3, s4, s5⟩
        go_simp
        with_reducible rfl
      rotate_left
      · simp only [Act.put, zH, zI, zJ, i64_w, i32_w]
        rfl
      refine one_ (i := 4) (N := some 58) #[o1, o1, o1, o1, o1, o1, o0, o0, o0] rfl rfl (one_of HT_.out (by kernel_rfl)) (by decide) (fun K hK => ?_)
      refine goes_ Try.func42 (by kernel_rfl) rfl #[.pointer (some ⟨g, 0, none⟩), .int .i64 a2_2] (by rfl) rfl rfl (by (try simp only [zR, zS, zT]); first | done | rfl | (simp only [zP, zQ]; rfl)) ?_
      with_reducible refine (strict_Reader_Text.calls k g s0_0 s0_1 s0_2 s0_3 a2_2 t119 t120 t121 t122 t123 w0 _ ?side1 ?side2 A37.out).mono ?_
      (case side1 => repeat (first | (with_reducible first | exact HI0.out | apply IsS56.alloc | apply IsS56.drewN | apply IsS56.drew | refine IsS56.far ?_ NB0_101.out _ | refine IsS56.far ?_ NB0_102.out _ | refine IsS56.far ?_ NB0_103.out _ | refine IsS56.far ?_ NB0_118.out _) | exact HI0.out))
      (case side2 => repeat (first | (with_reducible first | exact HB.out | apply zD | apply zB | apply zC | refine zE ?_ (IsS56.ge HI0.out) | refine zE ?_ GE101.out | refine zE ?_ GE102.out | refine zE ?_ GE103.out | refine zE ?_ GE118.out) | exact HB.out))
      rintro e w54 ⟨rfl, hi, hb, hk⟩
      refine ⟨_, rfl, ?_⟩
      have n0_ := zA (KeepBut.blk hk (g' := gb101) (o := .cells #[.string a1_0, .int .i64 a1_1, .int .i64 a1_2] 47 (0, 0)) (qW BK101.out) NB101_0.out (by simp)); have n1_ := zA (KeepBut.blk hk (g' := gb102) (o := .cells #[.int .i64 a2_0, .int .i64 a2_1, .int .i64 a2_2] 51 (0, 0)) (qW BK102.out) NB102_0.out (by simp)); have n2_ := zA (KeepBut.blk hk (g' := gb103) (o := .cells #[.string (⟨#[]⟩ : ByteArray), .int .i64 0, .int .i64 0] 47 (0, 0)) (qW BK103.out) NB103_0.out (by simp)); have n3_ := zA (KeepBut.blk hk (g' := gb118) (o := .cells #[.string t114, .int .i64 t115, .int .i64 t116] 47 (0, 0)) (qW BK118.out) NB118_0.out (by simp)); have n4_ := zA (zBq (qJ HK.out) hk (.inl rfl)); have n5_ := zA (hb); have n6_ := zA (hi); clear BK101; clear BK102; clear BK103; clear BK118; clear HK; clear HB; clear HI0; have BK101 := n0_; have BK102 := n1_; have BK103 := n2_; have BK118 := n3_; have HK := n4_; have HB := n5_; have HI0 := n6_; clear n0_ n1_ n2_ n3_ n4_ n5_ n6_; (try clear hb); (try clear hb2); (try clear hk); (try clear hi)
      (try simp only [errW_none, errW_some])
      refine hK.out _ _ ⟨(zF BK118.out 0).trans rfl, (zF BK118.out 1).trans rfl, (zF BK118.out 2).trans rfl, (zF BK102.out 0).trans rfl, (zF BK102.out 1).trans rfl, (zF BK102.out 2).trans rfl⟩ (fun hHeld => ?_)
      clear hK K
      refine norm_ (a' := ?_) ?_ ?_
      rotate_left
      · show Act.put _ (some 58) _ = _
        simp only [Act.put, zH, zI, zJ, i64_w, i32_w]
        rfl
      refine pure_ (i := 6) (N := some 60) #[o1, o1, o1, o1, o1, o1, o1, o0, o0] rfl rfl (any_of HT_.out (by kernel_rfl)) (fun _ _ _ h => h) (Or.inl ⟨by rfl, qy⟩) qz ?_
      refine one_ (i := 7) (N := none) #[o1, o1, o1, o1, o1, o1, o1, o1, o0] rfl rfl (one_of HT_.out (by kernel_rfl)) (by decide) (fun K hK => ?_)
      have hs55 : w54.cell? ⟨gb101, 0, none⟩ = some (.string a1_0) := (zF BK101.out 0).trans rfl; have hfs55 := zG BK101.out 0; have hns55_1 := NB102_101.out; have hns55_2 := NB103_101.out; have hns55_3 := NB118_101.out
      have hms55_1 := NB101_102.out
      have hms55_2 := NB101_103.out
      have hms55_3 := NB101_118.out
      have hs56 : w54.cell? ⟨gb101, 1, none⟩ = some (.int .i64 a1_1) := (zF BK101.out 1).trans rfl; have hfs56 := zG BK101.out 1; have hns56_1 := NB102_101.out; have hns56_2 := NB103_101.out; have hns56_3 := NB118_101.out
      have hms56_1 := NB101_102.out
      have hms56_2 := NB101_103.out
      have hms56_3 := NB101_118.out
      have hs57 : w54.cell? ⟨gb101, 2, none⟩ = some (.int .i64 a1_2) := (zF BK101.out 2).trans rfl; have hfs57 := zG BK101.out 2; have hns57_1 := NB102_101.out; have hns57_2 := NB103_101.out; have hns57_3 := NB118_101.out
      have hms57_1 := NB101_102.out
      have hms57_2 := NB101_103.out
      have hms57_3 := NB101_118.out
      refine skip_ (w1 := ?_) (by rfl) rfl ?_ ?_
      rotate_left
      · go_simp
        rfl
      refine hK.out _ _ ⟨((cell_far (p := ⟨gb101, _, none⟩) NB118_101.out _).trans (((cell_far (p := ⟨gb101, _, none⟩) NB118_101.out _).trans (((cell_far (p := ⟨gb101, _, none⟩) NB118_101.out _).trans (hHeld.1)))))), ((cell_far (p := ⟨gb101, _, none⟩) NB118_101.out _).trans (((cell_far (p := ⟨gb101, _, none⟩) NB118_101.out _).trans (((cell_far (p := ⟨gb101, _, none⟩) NB118_101.out _).trans (hHeld.2.1)))))), ((cell_far (p := ⟨gb101, _, none⟩) NB118_101.out _).trans (((cell_far (p := ⟨gb101, _, none⟩) NB118_101.out _).trans (((cell_far (p := ⟨gb101, _, none⟩) NB118_101.out _).trans (hHeld.2.2.1)))))), ((cell_far (p := ⟨gb101, _, none⟩) NB102_101.out _).trans (((cell_far (p := ⟨gb101, _, none⟩) NB102_101.out _).trans (((cell_far (p := ⟨gb101, _, none⟩) NB102_101.out _).trans (hHeld.2.2.2.1)))))), ((cell_far (p := ⟨gb101, _, none⟩) NB102_101.out _).trans (((cell_far (p := ⟨gb101, _, none⟩) NB102_101.out _).trans (((cell_far (p := ⟨gb101, _, none⟩) NB102_101.out _).trans (hHeld.2.2.2.2.1)))))), ((cell_far (p := ⟨gb101, _, none⟩) NB102_101.out _).trans (((cell_far (p := ⟨gb101, _, none⟩) NB102_101.out _).trans (((cell_far (p := ⟨gb101, _, none⟩) NB102_101.out _).trans (hHeld.2.2.2.2.2))))))⟩ (fun hHeld => ?_)
      clear hK K
      refine pure_ (i := 8) (N := some 8) #[o1, o1, o1, o1, o1, o1, o1, o1, o1] rfl rfl (any_of HT_.out (by kernel_rfl)) (fun _ _ _ h => h) (Or.inl ⟨by rfl, qy⟩) qz ?_
      refine done_ (done_of HT_.out (by kernel_rfl)) ?_
      try go_wp2
      go_meet
      case rel => exact ⟨_, ((t119.toList == t117.toList)), (t120), (t121), (t122), (t123), (t114), (t115), (t116), (by first | rfl | (simp; done) | (simp [*]; done)), H', ⟨by first | omega | exact Nat.le_refl _⟩, ⟨by (with_reducible repeat (first | refine zY ?_ _ | refine zAq ?_ | refine zZ ?_ _)); apply qP3; exact BK101.out⟩, ⟨by (with_reducible repeat (first | refine zY ?_ _ | refine zAq ?_ | refine zZ ?_ _)); refine blk_far ?_ NB102_101.out _; (with_reducible repeat (first | refine zY ?_ _ | refine zAq ?_ | refine zZ ?_ _)); refine blk_far ?_ NB102_101.out _; (with_reducible repeat (first | refine zY ?_ _ | refine zAq ?_ | refine zZ ?_ _)); refine blk_far ?_ NB102_101.out _; exact BK102.out⟩, ⟨by (with_reducible repeat (first | refine zY ?_ _ | refine zAq ?_ | refine zZ ?_ _)); refine blk_far ?_ NB103_101.out _; (with_reducible repeat (first | refine zY ?_ _ | refine zAq ?_ | refine zZ ?_ _)); refine blk_far ?_ NB103_101.out _; (with_reducible repeat (first | refine zY ?_ _ | refine zAq ?_ | refine zZ ?_ _)); refine blk_far ?_ NB103_101.out _; exact BK103.out⟩, ⟨by repeat (first | (with_reducible first | exact HI0.out | apply IsS56.alloc | apply IsS56.drewN | apply IsS56.drew | refine IsS56.far ?_ NB0_101.out _ | refine IsS56.far ?_ NB0_102.out _ | refine IsS56.far ?_ NB0_103.out _ | refine IsS56.far ?_ NB0_118.out _) | exact HI0.out)⟩, ⟨qJ HK.out⟩, ⟨qH HI0.out HB.out⟩⟩
    rw [if_neg c35] at H
    have c35b0 : (a2_0 == 1) = false := beq_eq_false_iff_ne.mpr c35
    have c35b1 : (a2_0 != 1) = true := bne_iff_ne.mpr c35
    by_cases c58 : a2_0 = 2
    · rw [if_pos c58] at H
      have c58b0 : (a2_0 == 2) = true := beq_iff_eq.mpr c58
      have c58b1 : (a2_0 != 2) = false := bne_eq_false_iff_eq.mpr c58
      clear c58
      replace H := Option.bind_eq_some_iff.mp H
      obtain ⟨⟨t124, t125, t126, t127⟩, A590, H⟩ := H
      replace H : ((strict_Reader_Serial.f k s0_0 s0_1 s0_2 s0_3).bind fun bt129 => (backhaullaw06_read.j0 k (bt129.1.toList == t127.toList) bt129.2.1 bt129.2.2.1 bt129.2.2.2.1 bt129.2.2.2.2 t124 t125 t126)) = some (r1, r2, r3, r4, r5, r6, r7, r8) := H
      have A59 := zA A590
      clear A590
      replace H := Option.bind_eq_some_iff.mp H
      obtain ⟨⟨t129, t130, t131, t132, t133⟩, A600, H⟩ := H
      replace H : (backhaullaw06_read.j0 k (t129.toList == t127.toList) t130 t131 t132 t133 t124 t125 t126) = some (r1, r2, r3, r4, r5, r6, r7, r8) := H
      have A60 := zA A600
      clear A600
      have H' := zA H
      clear H; have hnb61 := NB101_102.out; have hnc61 := NB102_101.out; have hnb62 := NB101_103.out; have hnc62 := NB103_101.out; have hnb63 := NB101_0.out; have hnc63 := NB0_101.out
      obtain ⟨_, _, _, _, _, _⟩ := qc3f BK101.out
      try go_wp2_with (first | ((with_reducible refine zJq (f := 130) rfl ?_); refine goesL_ (some 65) rfl rfl Try.func130 (by kernel_rfl) rfl #[.agg #[.string a1_0, .int .i64 a1_1, .int .i64 a1_2]] rfl (by (try simp only [zR, zS, zT]); first | done | rfl | (simp only [zP, zQ]; rfl)) ?_; (with_reducible refine (backhaulref06_Serial.calls k a1_0 a1_1 a1_2 t124 t125 t126 t127 _ A59.out).mono ?_); rintro e w65 ⟨rfl, hb⟩; refine ⟨_, rfl, ?_⟩; have n0_ := zA (IsS56.below (by repeat (first | (with_reducible first | exact HI0.out | apply IsS56.alloc | apply IsS56.drewN | apply IsS56.drew | refine IsS56.far ?_ NB0_101.out _ | refine IsS56.far ?_ NB0_102.out _ | refine IsS56.far ?_ NB0_103.out _) | exact HI0.out)) hb); have n1_ := zA (qX BK101.out hb); have n2_ := zA (qX BK102.out hb); have n3_ := zA (qX BK103.out hb); have n4_ := zA (zBq (qJ HK.out) (KeepBut.of_below hb g none) (.inl rfl)); have n5_ := zA (zV (qH HI0.out HB.out) hb); clear HI0 BK101 BK102 BK103 HK HB; have HI0 := n0_; have BK101 := n1_; have BK102 := n2_; have BK103 := n3_; have HK := n4_; have HB := n5_; clear n0_ n1_ n2_ n3_ n4_ n5_; (try clear hb); (try clear hb2); (try clear hk); (try clear hi)) | ((with_reducible refine gate_dst (N := 13) rfl ?_); refine box_event qr (N := 13) qr (cs := #[.string (⟨#[]⟩ : ByteArray), .int .i64 0, .int .i64 0]) (t := 47) qg ?_; intro gb128 hg w66 hbox hb; have n0_ := zA (IsS56.below (by repeat (first | (with_reducible first | exact HI0.out | apply IsS56.alloc | apply IsS56.drewN | apply IsS56.drew | refine IsS56.far ?_ NB0_101.out _ | refine IsS56.far ?_ NB0_102.out _ | refine IsS56.far ?_ NB0_103.out _) | exact HI0.out)) hb); have n1_ := zA (qX BK101.out hb); have n2_ := zA (qX BK102.out hb); have n3_ := zA (qX BK103.out hb); have n4_ := zA (zBq (qJ HK.out) (KeepBut.of_below hb g none) (.inl rfl)); have n5_ := zA (zV (qH HI0.out HB.out) hb); have n6_ := zA (hbox); have n7_ := zA ((by rw [hg]; exact (keep_size (w := w) (g := g) (row := none) (qJ HK.out)) : w.heap.size ≤ gb128)); have n8_ := zA ((Nat.le_trans HW0.out (by rw [hg]; exact (keep_size (w := w) (g := g) (row := none) (qJ HK.out)) : w.heap.size ≤ gb128) : w0.heap.size ≤ gb128)); have n9_ := zA ((by rw [hg]; exact zLq (qL BK101.out) : gb101 ≠ gb128)); have n10_ := zA ((by rw [hg]; exact zMq (qL BK101.out) : gb128 ≠ gb101)); have n11_ := zA ((by rw [hg]; exact zLq (qL BK102.out) : gb102 ≠ gb128)); have n12_ := zA ((by rw [hg]; exact zMq (qL BK102.out) : gb128 ≠ gb102)); have n13_ := zA ((by rw [hg]; exact zLq (qL BK103.out) : gb103 ≠ gb128)); have n14_ := zA ((by rw [hg]; exact zMq (qL BK103.out) : gb128 ≠ gb103)); have n15_ := zA ((by rw [hg]; exact zLq (IsS56.lt (show IsS56 w0 _ g s0_0 s0_1 s0_2 s0_3 from by repeat (first | (with_reducible first | exact HI0.out | apply IsS56.alloc | apply IsS56.drewN | apply IsS56.drew | refine IsS56.far ?_ NB0_101.out _ | refine IsS56.far ?_ NB0_102.out _ | refine IsS56.far ?_ NB0_103.out _) | exact HI0.out))) : g ≠ gb128)); have n16_ := zA ((by rw [hg]; exact zMq (IsS56.lt (show IsS56 w0 _ g s0_0 s0_1 s0_2 s0_3 from by repeat (first | (with_reducible first | exact HI0.out | apply IsS56.alloc | apply IsS56.drewN | apply IsS56.drew | refine IsS56.far ?_ NB0_101.out _ | refine IsS56.far ?_ NB0_102.out _ | refine IsS56.far ?_ NB0_103.out _) | exact HI0.out))) : gb128 ≠ g)); clear HI0 BK101 BK102 BK103 HK HB; have HI0 := n0_; have BK101 := n1_; have BK102 := n2_; have BK103 := n3_; have HK := n4_; have HB := n5_; have BK128 := n6_; have GW128 := n7_; have GE128 := n8_; have NB101_128 := n9_; have NB128_101 := n10_; have NB102_128 := n11_; have NB128_102 := n12_; have NB103_128 := n13_; have NB128_103 := n14_; have NB0_128 := n15_; have NB128_0 := n16_; clear n0_ n1_ n2_ n3_ n4_ n5_ n6_ n7_ n8_ n9_ n10_ n11_ n12_ n13_ n14_ n15_ n16_ hb hbox hg; have hnb67 := NB128_101.out; have hnc67 := NB101_128.out; have hnb68 := NB128_102.out; have hnc68 := NB102_128.out; have hnb69 := NB128_103.out; have hnc69 := NB103_128.out; have hnb70 := NB128_0.out; have hnc70 := NB0_128.out; obtain ⟨_, _, _, _, _, _⟩ := qc3f BK128.out))
      have n0_ : Aside0 ((((w66.setCell ⟨gb128, 0, none⟩ (.string t124)).setCell ⟨gb128, 1, none⟩ (.int .i64 t125)).setCell ⟨gb128, 2, none⟩ (.int .i64 t126)).heap[gb101]? = some (.cells #[.string a1_0, .int .i64 a1_1, .int .i64 a1_2] 47 (0, 0))) := ⟨by (with_reducible repeat (first | refine zY ?_ _ | refine zAq ?_ | refine zZ ?_ _)); refine blk_far ?_ NB101_128.out _; (with_reducible repeat (first | refine zY ?_ _ | refine zAq ?_ | refine zZ ?_ _)); refine blk_far ?_ NB101_128.out _; (with_reducible repeat (first | refine zY ?_ _ | refine zAq ?_ | refine zZ ?_ _)); refine blk_far ?_ NB101_128.out _; exact BK101.out⟩
      have n1_ : Aside0 ((((w66.setCell ⟨gb128, 0, none⟩ (.string t124)).setCell ⟨gb128, 1, none⟩ (.int .i64 t125)).setCell ⟨gb128, 2, none⟩ (.int .i64 t126)).heap[gb102]? = some (.cells #[.int .i64 a2_0, .int .i64 a2_1, .int .i64 a2_2] 51 (0, 0))) := ⟨by (with_reducible repeat (first | refine zY ?_ _ | refine zAq ?_ | refine zZ ?_ _)); refine blk_far ?_ NB102_128.out _; (with_reducible repeat (first | refine zY ?_ _ | refine zAq ?_ | refine zZ ?_ _)); refine blk_far ?_ NB102_128.out _; (with_reducible repeat (first | refine zY ?_ _ | refine zAq ?_ | refine zZ ?_ _)); refine blk_far ?_ NB102_128.out _; exact BK102.out⟩
      have n2_ : Aside0 ((((w66.setCell ⟨gb128, 0, none⟩ (.string t124)).setCell ⟨gb128, 1, none⟩ (.int .i64 t125)).setCell ⟨gb128, 2, none⟩ (.int .i64 t126)).heap[gb103]? = some (.cells #[.string (⟨#[]⟩ : ByteArray), .int .i64 0, .int .i64 0] 47 (0, 0))) := ⟨by (with_reducible repeat (first | refine zY ?_ _ | refine zAq ?_ | refine zZ ?_ _)); refine blk_far ?_ NB103_128.out _; (with_reducible repeat (first | refine zY ?_ _ | refine zAq ?_ | refine zZ ?_ _)); refine blk_far ?_ NB103_128.out _; (with_reducible repeat (first | refine zY ?_ _ | refine zAq ?_ | refine zZ ?_ _)); refine blk_far ?_ NB103_128.out _; exact BK103.out⟩
      have n3_ : Aside0 ((((w66.setCell ⟨gb128, 0, none⟩ (.string t124)).setCell ⟨gb128, 1, none⟩ (.int .i64 t125)).setCell ⟨gb128, 2, none⟩ (.int .i64 t126)).heap[gb128]? = some (.cells #[.string t124, .int .i64 t125, .int .i64 t126] 47 (0, 0))) := ⟨by (with_reducible repeat (first | refine zY ?_ _ | refine zAq ?_ | refine zZ ?_ _)); apply qP3; exact BK128.out⟩
      have n4_ : Aside0 (IsS56 w0 (((w66.setCell ⟨gb128, 0, none⟩ (.string t124)).setCell ⟨gb128, 1, none⟩ (.int .i64 t125)).setCell ⟨gb128, 2, none⟩ (.int .i64 t126)) g s0_0 s0_1 s0_2 s0_3) := ⟨by repeat (first | (with_reducible first | exact HI0.out | apply IsS56.alloc | apply IsS56.drewN | apply IsS56.drew | refine IsS56.far ?_ NB0_101.out _ | refine IsS56.far ?_ NB0_102.out _ | refine IsS56.far ?_ NB0_103.out _ | refine IsS56.far ?_ NB0_128.out _) | exact HI0.out)⟩
      have n5_ : Aside0 (KeepBut w (((w66.setCell ⟨gb128, 0, none⟩ (.string t124)).setCell ⟨gb128, 1, none⟩ (.int .i64 t125)).setCell ⟨gb128, 2, none⟩ (.int .i64 t126)) g none) := ⟨qJ HK.out⟩
      have n6_ : Aside0 (Below w0.heap.size w0 (((w66.setCell ⟨gb128, 0, none⟩ (.string t124)).setCell ⟨gb128, 1, none⟩ (.int .i64 t125)).setCell ⟨gb128, 2, none⟩ (.int .i64 t126))) := ⟨qH HI0.out HB.out⟩
      (try clear BK101); (try clear BK102); (try clear BK103); (try clear BK128); (try clear HI0); (try clear HK); (try clear HB)
      generalize (((w66.setCell ⟨gb128, 0, none⟩ (.string t124)).setCell ⟨gb128, 1, none⟩ (.int .i64 t125)).setCell ⟨gb128, 2, none⟩ (.int .i64 t126)) = w72 at n0_ n1_ n2_ n3_ n4_ n5_ n6_ ⊢
      have BK101 := n0_; have BK102 := n1_; have BK103 := n2_; have BK128 := n3_; have HI0 := n4_; have HK := n5_; have HB := n6_; clear n0_ n1_ n2_ n3_ n4_ n5_ n6_; have n0_ := zA (zAq BK101.out); have n1_ := zA (zAq BK102.out); have n2_ := zA (zAq BK103.out); have n3_ := zA (zAq BK128.out); have n4_ := zA (IsS56.drew HI0.out); have n5_ := zA (zM HK.out); have n6_ := zA (zC HB.out); clear BK101; clear BK102; clear BK103; clear BK128; clear HI0; clear HK; clear HB; have BK101 := n0_; have BK102 := n1_; have BK103 := n2_; have BK128 := n3_; have HI0 := n4_; have HK := n5_; have HB := n6_; clear n0_ n1_ n2_ n3_ n4_ n5_ n6_
      refine start_ (n := 7) (S := fun w' => w'.cell? ⟨gb128, 0, none⟩ = some (.string t124) ∧ w'.cell? ⟨gb128, 1, none⟩ = some (.int .i64 t125) ∧ w'.cell? ⟨gb128, 2, none⟩ = some (.int .i64 t126)) (ds := []) #[o0, o0, o0, o0, o0, o0, o0] (by kernel_rfl) rfl rfl ⟨(zF BK128.out 0).trans rfl, (zF BK128.out 1).trans rfl, (zF BK128.out 2).trans rfl⟩ (fun hHeld => ?_)
      generalize w72.drew = w73 at BK101 BK102 BK103 BK128 HI0 HK HB hHeld ⊢
      refine pure_ (i := 1) (N := some 69) (v := ?_) (a' := ?_) #[o0, o1, o0, o0, o0, o0, o0] rfl rfl (by kernel_rfl) (fun _ _ _ h => h) (Or.inl ⟨by rfl, ?_⟩) ?_ ?_
      rotate_left
      · intro w'
        go_simp
        with_reducible rfl
      rotate_left
      · simp only [Act.put, zH, zI, zJ, i64_w, i32_w]
        rfl
      refine pure_ (i := 3) (N := some 71) (v := ?_) (a' := ?_) #[o0, o1, o0, o1, o0, o0, o0] rfl rfl (by kernel_rfl) (fun _ _ _ h => h) (Or.inl ⟨by rfl, ?_⟩) ?_ ?_
      rotate_left
      · intro w'
        go_simp
        with_reducible rfl
      rotate_left
      · simp only [Act.put, zH, zI, zJ, i64_w, i32_w]
        rfl
      refine take_ (i := 0) (N := some 68) (v := ?_) (a' := ?_) #[o1, o1, o0, o1, o0, o0, o0] rfl rfl (by kernel_rfl) (fun _ _ _ h => h) (Or.inl ⟨by rfl, ?_⟩) hHeld ?_ ?_
      rotate_left
      · rintro w' ⟨s0, s1, s2⟩
        go_simp
        with_reducible rfl
      rotate_left
      · simp only [Act.put, zH, zI, zJ, i64_w, i32_w]
        rfl
      refine one_ (i := 2) (N := some 70) #[o1, o1, o1, o1, o0, o0, o0] rfl rfl (by kernel_rfl) (by decide) (fun K hK => ?_)
      refine goes_ Try.func43 (by kernel_rfl) rfl #[.pointer (some ⟨g, 0, none⟩)] (by rfl) rfl rfl (by (try simp only [zR, zS, zT]); first | done | rfl | (simp only [zP, zQ]; rfl)) ?_
      with_reducible refine (strict_Reader_Serial.calls k g s0_0 s0_1 s0_2 s0_3 t129 t130 t131 t132 t133 w0 _ ?side1 ?side2 A60.out).mono ?_
      (case side1 => repeat (first | (with_reducible first | exact HI0.out | apply IsS56.alloc | apply IsS56.drewN | apply IsS56.drew | refine IsS56.far ?_ NB0_101.out _ | refine IsS56.far ?_ NB0_102.out _ | refine IsS56.far ?_ NB0_103.out _ | refine IsS56.far ?_ NB0_128.out _) | exact HI0.out))
      (case side2 => repeat (first | (with_reducible first | exact HB.out | apply zD | apply zB | apply zC | refine zE ?_ (IsS56.ge HI0.out) | refine zE ?_ GE101.out | refine zE ?_ GE102.out | refine zE ?_ GE103.out | refine zE ?_ GE128.out) | exact HB.out))
      rintro e w74 ⟨rfl, hi, hb, hk⟩
      refine ⟨_, rfl, ?_⟩
      have n0_ := zA (KeepBut.blk hk (g' := gb101) (o := .cells #[.string a1_0, .int .i64 a1_1, .int .i64 a1_2] 47 (0, 0)) (qW BK101.out) NB101_0.out (by simp)); have n1_ := zA (KeepBut.blk hk (g' := gb102) (o := .cells #[.int .i64 a2_0, .int .i64 a2_1, .int .i64 a2_2] 51 (0, 0)) (qW BK102.out) NB102_0.out (by simp)); have n2_ := zA (KeepBut.blk hk (g' := gb103) (o := .cells #[.string (⟨#[]⟩ : ByteArray), .int .i64 0, .int .i64 0] 47 (0, 0)) (qW BK103.out) NB103_0.out (by simp)); have n3_ := zA (KeepBut.blk hk (g' := gb128) (o := .cells #[.string t124, .int .i64 t125, .int .i64 t126] 47 (0, 0)) (qW BK128.out) NB128_0.out (by simp)); have n4_ := zA (zBq (qJ HK.out) hk (.inl rfl)); have n5_ := zA (hb); have n6_ := zA (hi); clear BK101; clear BK102; clear BK103; clear BK128; clear HK; clear HB; clear HI0; have BK101 := n0_; have BK102 := n1_; have BK103 := n2_; have BK128 := n3_; have HK := n4_; have HB := n5_; have HI0 := n6_; clear n0_ n1_ n2_ n3_ n4_ n5_ n6_; (try clear hb); (try clear hb2); (try clear hk); (try clear hi)
      (try simp only [errW_none, errW_some])
      refine hK.out _ _ ⟨(zF BK128.out 0).trans rfl, (zF BK128.out 1).trans rfl, (zF BK128.out 2).trans rfl⟩ (fun hHeld => ?_)
      clear hK K
      refine norm_ (a' := ?_) ?_ ?_
      rotate_left
      · show Act.put _ (some 70) _ = _
        simp only [Act.put, zH, zI, zJ, i64_w, i32_w]
        rfl
      refine pure_ (i := 4) (N := some 72) (v := ?_) (a' := ?_) #[o1, o1, o1, o1, o1, o0, o0] rfl rfl (by kernel_rfl) (fun _ _ _ h => h) (Or.inl ⟨by rfl, ?_⟩) ?_ ?_
      rotate_left
      · intro w'
        go_simp
        with_reducible rfl
      rotate_left
      · simp only [Act.put, zH, zI, zJ, i64_w, i32_w]
        rfl
      refine one_ (i := 5) (N := none) #[o1, o1, o1, o1, o1, o1, o0] rfl rfl (by kernel_rfl) (by decide) (fun K hK => ?_)
      have hs75 : w74.cell? ⟨gb101, 0, none⟩ = some (.string a1_0) := (zF BK101.out 0).trans rfl; have hfs75 := zG BK101.out 0; have hns75_1 := NB102_101.out; have hns75_2 := NB103_101.out; have hns75_3 := NB128_101.out
      have hms75_1 := NB101_102.out
      have hms75_2 := NB101_103.out
      have hms75_3 := NB101_128.out
      have hs76 : w74.cell? ⟨gb101, 1, none⟩ = some (.int .i64 a1_1) := (zF BK101.out 1).trans rfl; have hfs76 := zG BK101.out 1; have hns76_1 := NB102_101.out; have hns76_2 := NB103_101.out; have hns76_3 := NB128_101.out
      have hms76_1 := NB101_102.out
      have hms76_2 := NB101_103.out
      have hms76_3 := NB101_128.out
      have hs77 : w74.cell? ⟨gb101, 2, none⟩ = some (.int .i64 a1_2) := (zF BK101.out 2).trans rfl; have hfs77 := zG BK101.out 2; have hns77_1 := NB102_101.out; have hns77_2 := NB103_101.out; have hns77_3 := NB128_101.out
      have hms77_1 := NB101_102.out
      have hms77_2 := NB101_103.out
      have hms77_3 := NB101_128.out
      refine skip_ (w1 := ?_) (by rfl) rfl ?_ ?_
      rotate_left
      · go_simp
        rfl
      refine hK.out _ _ ⟨((cell_far (p := ⟨gb101, _, none⟩) NB128_101.out _).trans (((cell_far (p := ⟨gb101, _, none⟩) NB128_101.out _).trans (((cell_far (p := ⟨gb101, _, none⟩) NB128_101.out _).trans (hHeld.1)))))), ((cell_far (p := ⟨gb101, _, none⟩) NB128_101.out _).trans (((cell_far (p := ⟨gb101, _, none⟩) NB128_101.out _).trans (((cell_far (p := ⟨gb101, _, none⟩) NB128_101.out _).trans (hHeld.2.1)))))), ((cell_far (p := ⟨gb101, _, none⟩) NB128_101.out _).trans (((cell_far (p := ⟨gb101, _, none⟩) NB128_101.out _).trans (((cell_far (p := ⟨gb101, _, none⟩) NB128_101.out _).trans (hHeld.2.2))))))⟩ (fun hHeld => ?_)
      clear hK K
      refine pure_ (i := 6) (N := some 8) (v := ?_) (a' := ?_) #[o1, o1, o1, o1, o1, o1, o1] rfl rfl (by kernel_rfl) (fun _ _ _ h => h) (Or.inl ⟨by rfl, ?_⟩) ?_ ?_
      rotate_left
      · intro w'
        go_simp
        with_reducible rfl
      rotate_left
      · simp only [Act.put, zH, zI, zJ, i64_w, i32_w]
        rfl
      refine done_ (by kernel_rfl) ?_
      try go_wp2
      go_meet
      case rel => exact ⟨_, ((t129.toList == t127.toList)), (t130), (t131), (t132), (t133), (t124), (t125), (t126), (by first | rfl | (simp; done) | (simp [*]; done)), H', ⟨by first | omega | exact Nat.le_refl _⟩, ⟨by (with_reducible repeat (first | refine zY ?_ _ | refine zAq ?_ | refine zZ ?_ _)); apply qP3; exact BK101.out⟩, ⟨by (with_reducible repeat (first | refine zY ?_ _ | refine zAq ?_ | refine zZ ?_ _)); refine blk_far ?_ NB102_101.out _; (with_reducible repeat (first | refine zY ?_ _ | refine zAq ?_ | refine zZ ?_ _)); refine blk_far ?_ NB102_101.out _; (with_reducible repeat (first | refine zY ?_ _ | refine zAq ?_ | refine zZ ?_ _)); refine blk_far ?_ NB102_101.out _; exact BK102.out⟩, ⟨by (with_reducible repeat (first | refine zY ?_ _ | refine zAq ?_ | refine zZ ?_ _)); refine blk_far ?_ NB103_101.out _; (with_reducible repeat (first | refine zY ?_ _ | refine zAq ?_ | refine zZ ?_ _)); refine blk_far ?_ NB103_101.out _; (with_reducible repeat (first | refine zY ?_ _ | refine zAq ?_ | refine zZ ?_ _)); refine blk_far ?_ NB103_101.out _; exact BK103.out⟩, ⟨by repeat (first | (with_reducible first | exact HI0.out | apply IsS56.alloc | apply IsS56.drewN | apply IsS56.drew | refine IsS56.far ?_ NB0_101.out _ | refine IsS56.far ?_ NB0_102.out _ | refine IsS56.far ?_ NB0_103.out _ | refine IsS56.far ?_ NB0_128.out _) | exact HI0.out)⟩, ⟨qJ HK.out⟩, ⟨qH HI0.out HB.out⟩⟩
    exact absurd HZ.out (by omega)
  case rest =>
    clear HC4
    try clear c1
    try clear p2
    try clear c4
    try clear c7
    try clear c8
    try clear c10
    try clear c11
    try clear c12
    try clear c13
    try clear c14
    try clear c15
    try clear c45
    try clear c46
    try clear c74
    try clear c78
    try clear c78b0
    try clear c78b1
    try clear c82
    try clear c84
    try clear c104
    try clear c104b0
    try clear c104b1
    try clear c108
    try clear c109
    try clear c110
    try clear c112
    try clear c113
    try clear c117
    try clear c118
    try clear c119
    try clear c120
    try clear c122
    try clear c130
    try clear c130b0
    try clear c130b1
    try clear c131
    try clear c132
    try clear c133
    try clear c134
    try clear c135
    try clear c139
    try clear c140
    try clear c141
    try clear c142
    try clear c150
    try clear c150b0
    try clear c150b1
    try clear c153
    try clear c154
    try clear c155
    try clear hcz111_0
    try clear hcz111_1
    try clear hcz111_2
    try clear hcz114_0
    try clear hcz114_1
    try clear hcz114_2
    try clear hcz121_0
    try clear hcz121_1
    try clear hcz121_2
    try clear hcz136_0
    try clear hcz136_1
    try clear hcz136_2
    try clear hcz143_0
    try clear hcz143_1
    try clear hcz143_2
    try clear hcz156_0
    try clear hcz156_1
    try clear hcz156_2
    try clear hcz158_0
    try clear hcz158_1
    try clear hcz158_2
    try clear hfz111_0
    try clear hfz111_1
    try clear hfz111_2
    try clear hfz114_0
    try clear hfz114_1
    try clear hfz114_2
    try clear hfz121_0
    try clear hfz121_1
    try clear hfz121_2
    try clear hfz136_0
    try clear hfz136_1
    try clear hfz136_2
    try clear hfz143_0
    try clear hfz143_1
    try clear hfz143_2
    try clear hfz156_0
    try clear hfz156_1
    try clear hfz156_2
    try clear hfz158_0
    try clear hfz158_1
    try clear hfz158_2
    obtain ⟨kq, x8_3, x1000_3, x1001_3, x1002_3, x1003_3, x102000_3, x102001_3, x102002_3, rfl, HA, HJ3, BK101, BK102, BK103, HI0, HK, HB⟩ := hcut
    cases kq with
    | zero => exact absurd HA.out (by simp [backhaullaw06_read.j0])
    | succ kj3 =>
      have H := HA.out
      clear HA
      simp only [backhaullaw06_read.j0] at H
      replace H := Option.bind_eq_some_iff.mp H
      obtain ⟨⟨t181, x1000_3, x1001_3, x1002_3, x1003_3⟩, A1600, H⟩ := H
      obtain ⟨rfl, rfl, rfl, rfl⟩ := strict_Reader_Err.same A1600
      replace H : ((strict_Why.f t181).bind fun bt186 => (if x8_3 = true then (if bt186.1 = x102002_3 then ((strict_Reader_At.f x1000_3 x1001_3 x1002_3 x1003_3).bind fun bt188 => (if bt188.1 = x102001_3 then (if bt186.1 = 0 then (some (x102000_3, x102001_3, x102002_3, true, bt188.2.1, bt188.2.2.1, bt188.2.2.2.1, bt188.2.2.2.2)) else (some (x102000_3, x102001_3, x102002_3, (bt186.2 == x102001_3), bt188.2.1, bt188.2.2.1, bt188.2.2.2.1, bt188.2.2.2.2))) else (some (x102000_3, x102001_3, x102002_3, false, bt188.2.1, bt188.2.2.1, bt188.2.2.2.1, bt188.2.2.2.2)))) else (some (x102000_3, x102001_3, x102002_3, false, x1000_3, x1001_3, x1002_3, x1003_3))) else (some (x102000_3, x102001_3, x102002_3, false, x1000_3, x1001_3, x1002_3, x1003_3)))) = some (r1, r2, r3, r4, r5, r6, r7, r8) := H
      have A160 := zA A1600
      clear A1600
      replace H := Option.bind_eq_some_iff.mp H
      obtain ⟨⟨t186, t187⟩, A1610, H⟩ := H
      replace H : (if x8_3 = true then (if t186 = x102002_3 then ((strict_Reader_At.f x1000_3 x1001_3 x1002_3 x1003_3).bind fun bt188 => (if bt188.1 = x102001_3 then (if t186 = 0 then (some (x102000_3, x102001_3, x102002_3, true, bt188.2.1, bt188.2.2.1, bt188.2.2.2.1, bt188.2.2.2.2)) else (some (x102000_3, x102001_3, x102002_3, (t187 == x102001_3), bt188.2.1, bt188.2.2.1, bt188.2.2.2.1, bt188.2.2.2.2))) else (some (x102000_3, x102001_3, x102002_3, false, bt188.2.1, bt188.2.2.1, bt188.2.2.2.1, bt188.2.2.2.2)))) else (some (x102000_3, x102001_3, x102002_3, false, x1000_3, x1001_3, x1002_3, x1003_3))) else (some (x102000_3, x102001_3, x102002_3, false, x1000_3, x1001_3, x1002_3, x1003_3))) = some (r1, r2, r3, r4, r5, r6, r7, r8) := H
      have A161 := zA A1610
      clear A1610
      by_cases c162 : x8_3 = true
      · subst c162
        have H1 : (if t186 = x102002_3 then ((strict_Reader_At.f x1000_3 x1001_3 x1002_3 x1003_3).bind fun bt188 => (if bt188.1 = x102001_3 then (if t186 = 0 then (some (x102000_3, x102001_3, x102002_3, true, bt188.2.1, bt188.2.2.1, bt188.2.2.2.1, bt188.2.2.2.2)) else (some (x102000_3, x102001_3, x102002_3, (t187 == x102001_3), bt188.2.1, bt188.2.2.1, bt188.2.2.2.1, bt188.2.2.2.2))) else (some (x102000_3, x102001_3, x102002_3, false, bt188.2.1, bt188.2.2.1, bt188.2.2.2.1, bt188.2.2.2.2)))) else (some (x102000_3, x102001_3, x102002_3, false, x1000_3, x1001_3, x1002_3, x1003_3))) = some (r1, r2, r3, r4, r5, r6, r7, r8) := by first | (rw [if_pos rfl] at H; exact H) | rfl
        clear H
        have H := H1
        clear H1
        by_cases c163 : t186 = x102002_3
        · rw [if_pos c163] at H
          have c163b0 : (t186 == x102002_3) = true := beq_iff_eq.mpr c163
          have c163b1 : (t186 != x102002_3) = false := bne_eq_false_iff_eq.mpr c163
          clear c163
          replace H := Option.bind_eq_some_iff.mp H
          obtain ⟨⟨t188, x1000_3, x1001_3, x1002_3, x1003_3⟩, A1640, H⟩ := H
          obtain ⟨rfl, rfl, rfl, rfl⟩ := strict_Reader_At.same A1640
          replace H : (if t188 = x102001_3 then (if t186 = 0 then (some (x102000_3, x102001_3, x102002_3, true, x1000_3, x1001_3, x1002_3, x1003_3)) else (some (x102000_3, x102001_3, x102002_3, (t187 == x102001_3), x1000_3, x1001_3, x1002_3, x1003_3))) else (some (x102000_3, x102001_3, x102002_3, false, x1000_3, x1001_3, x1002_3, x1003_3))) = some (r1, r2, r3, r4, r5, r6, r7, r8) := H
          have A164 := zA A1640
          clear A1640
          by_cases c165 : t188 = x102001_3
          · rw [if_pos c165] at H
            have c165b0 : (t188 == x102001_3) = true := beq_iff_eq.mpr c165
            have c165b1 : (t188 != x102001_3) = false := bne_eq_false_iff_eq.mpr c165
            clear c165
            by_cases c166 : t186 = 0
            · rw [if_pos c166] at H
              have c166b0 : (t186 == 0) = true := beq_iff_eq.mpr c166
              have c166b1 : (t186 != 0) = false := bne_eq_false_iff_eq.mpr c166
              clear c166
              simp only [zNq, zOq] at H
              obtain ⟨rfl, rfl, rfl, rfl, rfl, rfl, rfl, rfl⟩ := H
              try go_wp2_with (first | ((with_reducible refine zJq (f := 39) rfl ?_); refine goesL_ (some 129) rfl rfl Try.func39 (by kernel_rfl) rfl #[.pointer (some ⟨g, 0, none⟩)] rfl (by (try simp only [zR, zS, zT]); first | done | rfl | (simp only [zP, zQ]; rfl)) ?_; (with_reducible refine (strict_Reader_Err.calls g x1000_3 x1001_3 x1002_3 x1003_3 t181 x1000_3 x1001_3 x1002_3 x1003_3 w0 _ ?side1 ?side2 A160.out).mono ?_); (case side1 => repeat (first | (with_reducible first | exact HI0.out | apply IsS56.alloc | apply IsS56.drewN | apply IsS56.drew | refine IsS56.far ?_ NB0_101.out _ | refine IsS56.far ?_ NB0_102.out _ | refine IsS56.far ?_ NB0_103.out _) | exact HI0.out)); (case side2 => repeat (first | (with_reducible first | exact HB.out | apply zD | apply zB | apply zC | refine zE ?_ (IsS56.ge HI0.out) | refine zE ?_ GE101.out | refine zE ?_ GE102.out | refine zE ?_ GE103.out) | exact HB.out)); rintro e w167 ⟨rfl, hi, hb, hk⟩; refine ⟨_, rfl, ?_⟩; have n0_ := zA (KeepBut.blk hk (g' := gb101) (o := .cells #[.string x102000_3, .int .i64 x102001_3, .int .i64 x102002_3] 47 (0, 0)) (qW BK101.out) NB101_0.out (by simp)); have n1_ := zA (KeepBut.blk hk (g' := gb102) (o := .cells #[.int .i64 a2_0, .int .i64 a2_1, .int .i64 a2_2] 51 (0, 0)) (qW BK102.out) NB102_0.out (by simp)); have n2_ := zA (KeepBut.blk hk (g' := gb103) (o := .cells #[.string (⟨#[]⟩ : ByteArray), .int .i64 0, .int .i64 0] 47 (0, 0)) (qW BK103.out) NB103_0.out (by simp)); have n3_ := zA (zBq (qJ HK.out) hk (.inl rfl)); have n4_ := zA (hb); have n5_ := zA (hi); clear BK101 BK102 BK103 HK HB HI0; have BK101 := n0_; have BK102 := n1_; have BK103 := n2_; have HK := n3_; have HB := n4_; have HI0 := n5_; clear n0_ n1_ n2_ n3_ n4_ n5_; (try clear hb); (try clear hb2); (try clear hk); (try clear hi); (try simp only [errW_none, errW_some]); have CA161 := fun W => strict_Why.calls t181 t186 t187 W A161.out; try simp only [errW_none, errW_some] at CA161) | (go_at_call 38; (with_reducible refine (CA161 _).mono ?_); rintro e w168 ⟨rfl, hb⟩; have n0_ := zA (qX BK101.out hb); have n1_ := zA (qX BK102.out hb); have n2_ := zA (qX BK103.out hb); have n3_ := zA (IsS56.below (by repeat (first | (with_reducible first | exact HI0.out | apply IsS56.alloc | apply IsS56.drewN | apply IsS56.drew | refine IsS56.far ?_ NB0_101.out _ | refine IsS56.far ?_ NB0_102.out _ | refine IsS56.far ?_ NB0_103.out _) | exact HI0.out)) hb); have n4_ := zA (zBq (qJ HK.out) (KeepBut.of_below hb g none) (.inl rfl)); have n5_ := zA (zV (qH HI0.out HB.out) hb); clear BK101 BK102 BK103 HI0 HK HB; have BK101 := n0_; have BK102 := n1_; have BK103 := n2_; have HI0 := n3_; have HK := n4_; have HB := n5_; clear n0_ n1_ n2_ n3_ n4_ n5_; (try clear hb); (try clear hb2); (try clear hk); (try clear hi)))
              have n0_ := zA (zAq BK101.out); have n1_ := zA (zAq BK102.out); have n2_ := zA (zAq BK103.out); have n3_ := zA (IsS56.drew HI0.out); have n4_ := zA (zM HK.out); have n5_ := zA (zC HB.out); clear BK101; clear BK102; clear BK103; clear HI0; clear HK; clear HB; have BK101 := n0_; have BK102 := n1_; have BK103 := n2_; have HI0 := n3_; have HK := n4_; have HB := n5_; clear n0_ n1_ n2_ n3_ n4_ n5_
              refine start_ (n := 27) (S := fun w' => w'.cell? ⟨gb101, 0, none⟩ = some (.string x102000_3) ∧ w'.cell? ⟨gb101, 1, none⟩ = some (.int .i64 x102001_3) ∧ w'.cell? ⟨gb101, 2, none⟩ = some (.int .i64 x102002_3)) (ds := []) #[o0, o0, o0, o0, o0, o0, o0, o0, o0, o0, o0, o0, o0, o0, o0, o0, o0, o0, o0, o0, o0, o0, o0, o0, o0, o0, o0] (by kernel_rfl) rfl rfl ⟨(zF BK101.out 0).trans rfl, (zF BK101.out 1).trans rfl, (zF BK101.out 2).trans rfl⟩ (fun hHeld => ?_); refine with_tabW backhaullaw06_read.tab25 backhaullaw06_read.bits25 (fun HT_ HW_ => ?_)
              generalize w168.drew = w169 at BK101 BK102 BK103 HI0 HK HB hHeld ⊢
              refine pure_ (i := 1) (N := some 134) #[o0, o1, o0, o0, o0, o0, o0, o0, o0, o0, o0, o0, o0, o0, o0, o0, o0, o0, o0, o0, o0, o0, o0, o0, o0, o0, o0] rfl rfl (any_of HT_.out (by kernel_rfl)) (fun _ _ _ h => h) (Or.inl ⟨by rfl, qy⟩) qz ?_
              refine pure_ (i := 2) (N := some 135) #[o0, o1, o1, o0, o0, o0, o0, o0, o0, o0, o0, o0, o0, o0, o0, o0, o0, o0, o0, o0, o0, o0, o0, o0, o0, o0, o0] rfl rfl (any_of HT_.out (by kernel_rfl)) (fun _ _ _ h => h) (Or.inl ⟨by rfl, qy⟩) qz ?_
              refine pure_ (i := 3) (N := some 136) #[o0, o1, o1, o1, o0, o0, o0, o0, o0, o0, o0, o0, o0, o0, o0, o0, o0, o0, o0, o0, o0, o0, o0, o0, o0, o0, o0] rfl rfl (any_of HT_.out (by kernel_rfl)) (fun _ _ _ h => h) (Or.inl ⟨by rfl, qy⟩) qz ?_
              refine pure_ (i := 4) (N := some 137) #[o0, o1, o1, o1, o1, o0, o0, o0, o0, o0, o0, o0, o0, o0, o0, o0, o0, o0, o0, o0, o0, o0, o0, o0, o0, o0, o0] rfl rfl (any_of HT_.out (by kernel_rfl)) (fun _ _ _ h => h) (Or.inl ⟨by rfl, qy⟩) qz ?_
              refine take_ (i := 0) (N := some 133) (v := ?_) (a' := ?_) #[o1, o1, o1, o1, o1, o0, o0, o0, o0, o0, o0, o0, o0, o0, o0, o0, o0, o0, o0, o0, o0, o0, o0, o0, o0, o0, o0] rfl rfl (take_ofW HT_.out HW_.out (by kernel_rfl)) (fun _ _ _ h => h) (Or.inl ⟨by rfl, ?_⟩) hHeld ?_ ?_
              rotate_left
              · rintro w' ⟨s0, s1, s2⟩
                go_simp
                with_reducible rfl
              rotate_left
              · simp only [Act.put, zH, zI, zJ, i64_w, i32_w]
                rfl
              refine take_ (i := 5) (N := some 138) (v := ?_) (a' := ?_) #[o1, o1, o1, o1, o1, o1, o0, o0, o0, o0, o0, o0, o0, o0, o0, o0, o0, o0, o0, o0, o0, o0, o0, o0, o0, o0, o0] rfl rfl (take_ofW HT_.out HW_.out (by kernel_rfl)) (fun _ _ _ h => h) (Or.inl ⟨by rfl, ?_⟩) hHeld ?_ ?_
              rotate_left
              · rintro w' ⟨s0, s1, s2⟩
                go_simp
                with_reducible rfl
              rotate_left
              · simp only [Act.put, zH, zI, zJ, i64_w, i32_w]
                rfl
              refine pure_ (i := 6) (N := some 139) #[o1, o1, o1, o1, o1, o1, o1, o0, o0, o0, o0, o0, o0, o0, o0, o0, o0, o0, o0, o0, o0, o0, o0, o0, o0, o0, o0] rfl rfl (any_of HT_.out (by kernel_rfl)) (fun _ _ _ h => h) (Or.inl ⟨by rfl, qy⟩) qz ?_
              refine pure_ (i := 7) (N := some 140) #[o1, o1, o1, o1, o1, o1, o1, o1, o0, o0, o0, o0, o0, o0, o0, o0, o0, o0, o0, o0, o0, o0, o0, o0, o0, o0, o0] rfl rfl (any_of HT_.out (by kernel_rfl)) (fun _ _ _ h => h) (Or.inl ⟨by rfl, qy⟩) qz ?_
              refine pure_ (i := 8) (N := some 141) #[o1, o1, o1, o1, o1, o1, o1, o1, o1, o0, o0, o0, o0, o0, o0, o0, o0, o0, o0, o0, o0, o0, o0, o0, o0, o0, o0] rfl rfl (any_of HT_.out (by kernel_rfl)) (fun _ _ _ h => h) (Or.inl ⟨by rfl, qy⟩) qz ?_
              refine pure_ (i := 9) (N := some 142) #[o1, o1, o1, o1, o1, o1, o1, o1, o1, o1, o0, o0, o0, o0, o0, o0, o0, o0, o0, o0, o0, o0, o0, o0, o0, o0, o0] rfl rfl (any_of HT_.out (by kernel_rfl)) (fun _ _ _ h => h) (Or.inl ⟨by rfl, qy⟩) qz ?_
              refine pure_ (i := 11) (N := some 144) #[o1, o1, o1, o1, o1, o1, o1, o1, o1, o1, o0, o1, o0, o0, o0, o0, o0, o0, o0, o0, o0, o0, o0, o0, o0, o0, o0] rfl rfl (any_of HT_.out (by kernel_rfl)) (fun _ _ _ h => h) (Or.inl ⟨by rfl, qy⟩) qz ?_
              refine take_ (i := 12) (N := some 145) (v := ?_) (a' := ?_) #[o1, o1, o1, o1, o1, o1, o1, o1, o1, o1, o0, o1, o1, o0, o0, o0, o0, o0, o0, o0, o0, o0, o0, o0, o0, o0, o0] rfl rfl (take_ofW HT_.out HW_.out (by kernel_rfl)) (fun _ _ _ h => h) (Or.inl ⟨by rfl, ?_⟩) hHeld ?_ ?_
              rotate_left
              · rintro w' ⟨s0, s1, s2⟩
                go_simp
                with_reducible rfl
              rotate_left
              · simp only [Act.put, zH, zI, zJ, i64_w, i32_w]
                rfl
              refine one_ (i := 10) (N := some 143) #[o1, o1, o1, o1, o1, o1, o1, o1, o1, o1, o1, o1, o1, o0, o0, o0, o0, o0, o0, o0, o0, o0, o0, o0, o0, o0, o0] rfl rfl (one_of HT_.out (by kernel_rfl)) (by decide) (fun K hK => ?_)
              refine goes_ Try.func40 (by kernel_rfl) rfl #[.pointer (some ⟨g, 0, none⟩)] (by rfl) rfl rfl (by (try simp only [zR, zS, zT]); first | done | rfl | (simp only [zP, zQ]; rfl)) ?_
              with_reducible refine (strict_Reader_At.calls g x1000_3 x1001_3 x1002_3 x1003_3 t188 x1000_3 x1001_3 x1002_3 x1003_3 w0 _ ?side1 ?side2 A164.out).mono ?_
              (case side1 => repeat (first | (with_reducible first | exact HI0.out | apply IsS56.alloc | apply IsS56.drewN | apply IsS56.drew | refine IsS56.far ?_ NB0_101.out _ | refine IsS56.far ?_ NB0_102.out _ | refine IsS56.far ?_ NB0_103.out _) | exact HI0.out))
              (case side2 => repeat (first | (with_reducible first | exact HB.out | apply zD | apply zB | apply zC | refine zE ?_ (IsS56.ge HI0.out) | refine zE ?_ GE101.out | refine zE ?_ GE102.out | refine zE ?_ GE103.out) | exact HB.out))
              rintro e w170 ⟨rfl, hi, hb, hk⟩
              refine ⟨_, rfl, ?_⟩
              have n0_ := zA (KeepBut.blk hk (g' := gb101) (o := .cells #[.string x102000_3, .int .i64 x102001_3, .int .i64 x102002_3] 47 (0, 0)) (qW BK101.out) NB101_0.out (by simp)); have n1_ := zA (KeepBut.blk hk (g' := gb102) (o := .cells #[.int .i64 a2_0, .int .i64 a2_1, .int .i64 a2_2] 51 (0, 0)) (qW BK102.out) NB102_0.out (by simp)); have n2_ := zA (KeepBut.blk hk (g' := gb103) (o := .cells #[.string (⟨#[]⟩ : ByteArray), .int .i64 0, .int .i64 0] 47 (0, 0)) (qW BK103.out) NB103_0.out (by simp)); have n3_ := zA (zBq (qJ HK.out) hk (.inl rfl)); have n4_ := zA (hb); have n5_ := zA (hi); clear BK101; clear BK102; clear BK103; clear HK; clear HB; clear HI0; have BK101 := n0_; have BK102 := n1_; have BK103 := n2_; have HK := n3_; have HB := n4_; have HI0 := n5_; clear n0_ n1_ n2_ n3_ n4_ n5_; (try clear hb); (try clear hb2); (try clear hk); (try clear hi)
              (try simp only [errW_none, errW_some])
              refine hK.out _ _ ⟨(zF BK101.out 0).trans rfl, (zF BK101.out 1).trans rfl, (zF BK101.out 2).trans rfl⟩ (fun hHeld => ?_)
              clear hK K
              refine norm_ (a' := ?_) ?_ ?_
              rotate_left
              · show Act.put _ (some 143) _ = _
                simp only [Act.put, zH, zI, zJ, i64_w, i32_w]
                rfl
              refine pure_ (i := 13) (N := some 146) #[o1, o1, o1, o1, o1, o1, o1, o1, o1, o1, o1, o1, o1, o1, o0, o0, o0, o0, o0, o0, o0, o0, o0, o0, o0, o0, o0] rfl rfl (any_of HT_.out (by kernel_rfl)) (fun _ _ _ h => h) (Or.inl ⟨by rfl, qy⟩) qz ?_
              refine pure_ (i := 14) (N := some 147) #[o1, o1, o1, o1, o1, o1, o1, o1, o1, o1, o1, o1, o1, o1, o1, o0, o0, o0, o0, o0, o0, o0, o0, o0, o0, o0, o0] rfl rfl (any_of HT_.out (by kernel_rfl)) (fun _ _ _ h => h) (Or.inl ⟨by rfl, qy⟩) qz ?_
              refine pure_ (i := 15) (N := some 148) #[o1, o1, o1, o1, o1, o1, o1, o1, o1, o1, o1, o1, o1, o1, o1, o1, o0, o0, o0, o0, o0, o0, o0, o0, o0, o0, o0] rfl rfl (any_of HT_.out (by kernel_rfl)) (fun _ _ _ h => h) (Or.inl ⟨by rfl, qy⟩) qz ?_
              refine pure_ (i := 16) (N := some 149) #[o1, o1, o1, o1, o1, o1, o1, o1, o1, o1, o1, o1, o1, o1, o1, o1, o1, o0, o0, o0, o0, o0, o0, o0, o0, o0, o0] rfl rfl (any_of HT_.out (by kernel_rfl)) (fun _ _ _ h => h) (Or.inl ⟨by rfl, qy⟩) qz ?_
              refine pure_ (i := 17) (N := some 150) #[o1, o1, o1, o1, o1, o1, o1, o1, o1, o1, o1, o1, o1, o1, o1, o1, o1, o1, o0, o0, o0, o0, o0, o0, o0, o0, o0] rfl rfl (any_of HT_.out (by kernel_rfl)) (fun _ _ _ h => h) (Or.inl ⟨by rfl, qy⟩) qz ?_
              refine pure_ (i := 18) (N := some 151) #[o1, o1, o1, o1, o1, o1, o1, o1, o1, o1, o1, o1, o1, o1, o1, o1, o1, o1, o1, o0, o0, o0, o0, o0, o0, o0, o0] rfl rfl (any_of HT_.out (by kernel_rfl)) (fun _ _ _ h => h) (Or.inl ⟨by rfl, qy⟩) qz ?_
              refine pure_ (i := 19) (N := some 152) (v := undef) (a' := ?_) #[o1, o1, o1, o1, o1, o1, o1, o1, o1, o1, o1, o1, o1, o1, o1, o1, o1, o1, o1, o1, o0, o0, o0, o0, o0, o0, o0] rfl rfl (any_of HT_.out (by kernel_rfl)) (fun _ _ _ h => h) (Or.inr ⟨by rfl, rfl⟩) ?_ ?_
              rotate_left
              · simp only [Act.put, zH, zI, zJ, i64_w, i32_w]
                rfl
              refine pure_ (i := 20) (N := some 153) (v := undef) (a' := ?_) #[o1, o1, o1, o1, o1, o1, o1, o1, o1, o1, o1, o1, o1, o1, o1, o1, o1, o1, o1, o1, o1, o0, o0, o0, o0, o0, o0] rfl rfl (any_of HT_.out (by kernel_rfl)) (fun _ _ _ h => h) (Or.inr ⟨by rfl, rfl⟩) ?_ ?_
              rotate_left
              · simp only [Act.put, zH, zI, zJ, i64_w, i32_w]
                rfl
              refine pure_ (i := 21) (N := some 154) (v := undef) (a' := ?_) #[o1, o1, o1, o1, o1, o1, o1, o1, o1, o1, o1, o1, o1, o1, o1, o1, o1, o1, o1, o1, o1, o1, o0, o0, o0, o0, o0] rfl rfl (any_of HT_.out (by kernel_rfl)) (fun _ _ _ h => h) (Or.inr ⟨by rfl, rfl⟩) ?_ ?_
              rotate_left
              · simp only [Act.put, zH, zI, zJ, i64_w, i32_w]
                rfl
              refine pure_ (i := 22) (N := some 155) (v := undef) (a' := ?_) #[o1, o1, o1, o1, o1, o1, o1, o1, o1, o1, o1, o1, o1, o1, o1, o1, o1, o1, o1, o1, o1, o1, o1, o0, o0, o0, o0] rfl rfl (any_of HT_.out (by kernel_rfl)) (fun _ _ _ h => h) (Or.inr ⟨by rfl, rfl⟩) ?_ ?_
              rotate_left
              · simp only [Act.put, zH, zI, zJ, i64_w, i32_w]
                rfl
              refine pure_ (i := 23) (N := some 156) #[o1, o1, o1, o1, o1, o1, o1, o1, o1, o1, o1, o1, o1, o1, o1, o1, o1, o1, o1, o1, o1, o1, o1, o1, o0, o0, o0] rfl rfl (any_of HT_.out (by kernel_rfl)) (fun _ _ _ h => h) (Or.inl ⟨by rfl, qy⟩) qz ?_
              refine pure_ (i := 24) (N := some 157) #[o1, o1, o1, o1, o1, o1, o1, o1, o1, o1, o1, o1, o1, o1, o1, o1, o1, o1, o1, o1, o1, o1, o1, o1, o1, o0, o0] rfl rfl (any_of HT_.out (by kernel_rfl)) (fun _ _ _ h => h) (Or.inl ⟨by rfl, qy⟩) qz ?_
              refine one_ (i := 25) (N := none) #[o1, o1, o1, o1, o1, o1, o1, o1, o1, o1, o1, o1, o1, o1, o1, o1, o1, o1, o1, o1, o1, o1, o1, o1, o1, o1, o0] rfl rfl (one_of HT_.out (by kernel_rfl)) (by decide) (fun K hK => ?_)
              have hs171 : w170.cell? ⟨gb103, 0, none⟩ = some (.string (⟨#[]⟩ : ByteArray)) := (zF BK103.out 0).trans rfl; have hfs171 := zG BK103.out 0; have hns171_0 := NB101_103.out; have hns171_1 := NB102_103.out
              have hms171_0 := NB103_101.out
              have hms171_1 := NB103_102.out
              have hs172 : w170.cell? ⟨gb103, 1, none⟩ = some (.int .i64 0) := (zF BK103.out 1).trans rfl; have hfs172 := zG BK103.out 1; have hns172_0 := NB101_103.out; have hns172_1 := NB102_103.out
              have hms172_0 := NB103_101.out
              have hms172_1 := NB103_102.out
              have hs173 : w170.cell? ⟨gb103, 2, none⟩ = some (.int .i64 0) := (zF BK103.out 2).trans rfl; have hfs173 := zG BK103.out 2; have hns173_0 := NB101_103.out; have hns173_1 := NB102_103.out
              have hms173_0 := NB103_101.out
              have hms173_1 := NB103_102.out
              refine skip_ (w1 := ?_) (by rfl) rfl ?_ ?_
              rotate_left
              · go_simp
                rfl
              refine hK.out _ _ ⟨((cell_far (p := ⟨gb103, _, none⟩) NB101_103.out _).trans (((cell_far (p := ⟨gb103, _, none⟩) NB101_103.out _).trans (((cell_far (p := ⟨gb103, _, none⟩) NB101_103.out _).trans (hHeld.1)))))), ((cell_far (p := ⟨gb103, _, none⟩) NB101_103.out _).trans (((cell_far (p := ⟨gb103, _, none⟩) NB101_103.out _).trans (((cell_far (p := ⟨gb103, _, none⟩) NB101_103.out _).trans (hHeld.2.1)))))), ((cell_far (p := ⟨gb103, _, none⟩) NB101_103.out _).trans (((cell_far (p := ⟨gb103, _, none⟩) NB101_103.out _).trans (((cell_far (p := ⟨gb103, _, none⟩) NB101_103.out _).trans (hHeld.2.2))))))⟩ (fun hHeld => ?_)
              clear hK K
              refine pure_ (i := 26) (N := some 7) #[o1, o1, o1, o1, o1, o1, o1, o1, o1, o1, o1, o1, o1, o1, o1, o1, o1, o1, o1, o1, o1, o1, o1, o1, o1, o1, o1] rfl rfl (any_of HT_.out (by kernel_rfl)) (fun _ _ _ h => h) (Or.inl ⟨by rfl, qy⟩) qz ?_
              refine done_ (done_of HT_.out (by kernel_rfl)) ?_
              try go_wp2
              refine bodyPost_ret (results_ct rfl _ _ gb103 47 #[.string x102000_3, .int .i64 x102001_3, .int .i64 x102002_3] (0, 0) _ rfl (qV BK103.out) Try.underlying47 rfl (by kernel_rfl)) rfl ?_
              exact ⟨qE, by repeat (first | (with_reducible first | exact HI0.out | apply IsS56.alloc | apply IsS56.drewN | apply IsS56.drew | refine IsS56.far ?_ NB0_101.out _ | refine IsS56.far ?_ NB0_102.out _ | refine IsS56.far ?_ NB0_103.out _) | exact HI0.out), qH HI0.out HB.out, qJ HK.out⟩
            rw [if_neg c166] at H
            have c166b0 : (t186 == 0) = false := beq_eq_false_iff_ne.mpr c166
            have c166b1 : (t186 != 0) = true := bne_iff_ne.mpr c166
            simp only [zNq, zOq] at H
            obtain ⟨rfl, rfl, rfl, rfl, rfl, rfl, rfl, rfl⟩ := H
            try go_wp2_with (first | ((with_reducible refine zJq (f := 39) rfl ?_); refine goesL_ (some 129) rfl rfl Try.func39 (by kernel_rfl) rfl #[.pointer (some ⟨g, 0, none⟩)] rfl (by (try simp only [zR, zS, zT]); first | done | rfl | (simp only [zP, zQ]; rfl)) ?_; (with_reducible refine (strict_Reader_Err.calls g x1000_3 x1001_3 x1002_3 x1003_3 t181 x1000_3 x1001_3 x1002_3 x1003_3 w0 _ ?side1 ?side2 A160.out).mono ?_); (case side1 => repeat (first | (with_reducible first | exact HI0.out | apply IsS56.alloc | apply IsS56.drewN | apply IsS56.drew | refine IsS56.far ?_ NB0_101.out _ | refine IsS56.far ?_ NB0_102.out _ | refine IsS56.far ?_ NB0_103.out _) | exact HI0.out)); (case side2 => repeat (first | (with_reducible first | exact HB.out | apply zD | apply zB | apply zC | refine zE ?_ (IsS56.ge HI0.out) | refine zE ?_ GE101.out | refine zE ?_ GE102.out | refine zE ?_ GE103.out) | exact HB.out)); rintro e w174 ⟨rfl, hi, hb, hk⟩; refine ⟨_, rfl, ?_⟩; have n0_ := zA (KeepBut.blk hk (g' := gb101) (o := .cells #[.string x102000_3, .int .i64 x102001_3, .int .i64 x102002_3] 47 (0, 0)) (qW BK101.out) NB101_0.out (by simp)); have n1_ := zA (KeepBut.blk hk (g' := gb102) (o := .cells #[.int .i64 a2_0, .int .i64 a2_1, .int .i64 a2_2] 51 (0, 0)) (qW BK102.out) NB102_0.out (by simp)); have n2_ := zA (KeepBut.blk hk (g' := gb103) (o := .cells #[.string (⟨#[]⟩ : ByteArray), .int .i64 0, .int .i64 0] 47 (0, 0)) (qW BK103.out) NB103_0.out (by simp)); have n3_ := zA (zBq (qJ HK.out) hk (.inl rfl)); have n4_ := zA (hb); have n5_ := zA (hi); clear BK101 BK102 BK103 HK HB HI0; have BK101 := n0_; have BK102 := n1_; have BK103 := n2_; have HK := n3_; have HB := n4_; have HI0 := n5_; clear n0_ n1_ n2_ n3_ n4_ n5_; (try clear hb); (try clear hb2); (try clear hk); (try clear hi); (try simp only [errW_none, errW_some]); have CA161 := fun W => strict_Why.calls t181 t186 t187 W A161.out; try simp only [errW_none, errW_some] at CA161) | (go_at_call 38; (with_reducible refine (CA161 _).mono ?_); rintro e w175 ⟨rfl, hb⟩; have n0_ := zA (qX BK101.out hb); have n1_ := zA (qX BK102.out hb); have n2_ := zA (qX BK103.out hb); have n3_ := zA (IsS56.below (by repeat (first | (with_reducible first | exact HI0.out | apply IsS56.alloc | apply IsS56.drewN | apply IsS56.drew | refine IsS56.far ?_ NB0_101.out _ | refine IsS56.far ?_ NB0_102.out _ | refine IsS56.far ?_ NB0_103.out _) | exact HI0.out)) hb); have n4_ := zA (zBq (qJ HK.out) (KeepBut.of_below hb g none) (.inl rfl)); have n5_ := zA (zV (qH HI0.out HB.out) hb); clear BK101 BK102 BK103 HI0 HK HB; have BK101 := n0_; have BK102 := n1_; have BK103 := n2_; have HI0 := n3_; have HK := n4_; have HB := n5_; clear n0_ n1_ n2_ n3_ n4_ n5_; (try clear hb); (try clear hb2); (try clear hk); (try clear hi)))
            have n0_ := zA (zAq BK101.out); have n1_ := zA (zAq BK102.out); have n2_ := zA (zAq BK103.out); have n3_ := zA (IsS56.drew HI0.out); have n4_ := zA (zM HK.out); have n5_ := zA (zC HB.out); clear BK101; clear BK102; clear BK103; clear HI0; clear HK; clear HB; have BK101 := n0_; have BK102 := n1_; have BK103 := n2_; have HI0 := n3_; have HK := n4_; have HB := n5_; clear n0_ n1_ n2_ n3_ n4_ n5_
            refine start_ (n := 27) (S := fun w' => w'.cell? ⟨gb101, 0, none⟩ = some (.string x102000_3) ∧ w'.cell? ⟨gb101, 1, none⟩ = some (.int .i64 x102001_3) ∧ w'.cell? ⟨gb101, 2, none⟩ = some (.int .i64 x102002_3)) (ds := []) #[o0, o0, o0, o0, o0, o0, o0, o0, o0, o0, o0, o0, o0, o0, o0, o0, o0, o0, o0, o0, o0, o0, o0, o0, o0, o0, o0] (by kernel_rfl) rfl rfl ⟨(zF BK101.out 0).trans rfl, (zF BK101.out 1).trans rfl, (zF BK101.out 2).trans rfl⟩ (fun hHeld => ?_); refine with_tabW backhaullaw06_read.tab25 backhaullaw06_read.bits25 (fun HT_ HW_ => ?_)
            generalize w175.drew = w176 at BK101 BK102 BK103 HI0 HK HB hHeld ⊢
            refine pure_ (i := 1) (N := some 134) #[o0, o1, o0, o0, o0, o0, o0, o0, o0, o0, o0, o0, o0, o0, o0, o0, o0, o0, o0, o0, o0, o0, o0, o0, o0, o0, o0] rfl rfl (any_of HT_.out (by kernel_rfl)) (fun _ _ _ h => h) (Or.inl ⟨by rfl, qy⟩) qz ?_
            refine pure_ (i := 2) (N := some 135) #[o0, o1, o1, o0, o0, o0, o0, o0, o0, o0, o0, o0, o0, o0, o0, o0, o0, o0, o0, o0, o0, o0, o0, o0, o0, o0, o0] rfl rfl (any_of HT_.out (by kernel_rfl)) (fun _ _ _ h => h) (Or.inl ⟨by rfl, qy⟩) qz ?_
            refine pure_ (i := 3) (N := some 136) #[o0, o1, o1, o1, o0, o0, o0, o0, o0, o0, o0, o0, o0, o0, o0, o0, o0, o0, o0, o0, o0, o0, o0, o0, o0, o0, o0] rfl rfl (any_of HT_.out (by kernel_rfl)) (fun _ _ _ h => h) (Or.inl ⟨by rfl, qy⟩) qz ?_
            refine pure_ (i := 4) (N := some 137) #[o0, o1, o1, o1, o1, o0, o0, o0, o0, o0, o0, o0, o0, o0, o0, o0, o0, o0, o0, o0, o0, o0, o0, o0, o0, o0, o0] rfl rfl (any_of HT_.out (by kernel_rfl)) (fun _ _ _ h => h) (Or.inl ⟨by rfl, qy⟩) qz ?_
            refine take_ (i := 0) (N := some 133) (v := ?_) (a' := ?_) #[o1, o1, o1, o1, o1, o0, o0, o0, o0, o0, o0, o0, o0, o0, o0, o0, o0, o0, o0, o0, o0, o0, o0, o0, o0, o0, o0] rfl rfl (take_ofW HT_.out HW_.out (by kernel_rfl)) (fun _ _ _ h => h) (Or.inl ⟨by rfl, ?_⟩) hHeld ?_ ?_
            rotate_left
            · rintro w' ⟨s0, s1, s2⟩
              go_simp
              with_reducible rfl
            rotate_left
            · simp only [Act.put, zH, zI, zJ, i64_w, i32_w]
              rfl
            refine take_ (i := 5) (N := some 138) (v := ?_) (a' := ?_) #[o1, o1, o1, o1, o1, o1, o0, o0, o0, o0, o0, o0, o0, o0, o0, o0, o0, o0, o0, o0, o0, o0, o0, o0, o0, o0, o0] rfl rfl (take_ofW HT_.out HW_.out (by kernel_rfl)) (fun _ _ _ h => h) (Or.inl ⟨by rfl, ?_⟩) hHeld ?_ ?_
            rotate_left
            · rintro w' ⟨s0, s1, s2⟩
              go_simp
              with_reducible rfl
            rotate_left
            · simp only [Act.put, zH, zI, zJ, i64_w, i32_w]
              rfl
            refine pure_ (i := 6) (N := some 139) #[o1, o1, o1, o1, o1, o1, o1, o0, o0, o0, o0, o0, o0, o0, o0, o0, o0, o0, o0, o0, o0, o0, o0, o0, o0, o0, o0] rfl rfl (any_of HT_.out (by kernel_rfl)) (fun _ _ _ h => h) (Or.inl ⟨by rfl, qy⟩) qz ?_
            refine pure_ (i := 7) (N := some 140) #[o1, o1, o1, o1, o1, o1, o1, o1, o0, o0, o0, o0, o0, o0, o0, o0, o0, o0, o0, o0, o0, o0, o0, o0, o0, o0, o0] rfl rfl (any_of HT_.out (by kernel_rfl)) (fun _ _ _ h => h) (Or.inl ⟨by rfl, qy⟩) qz ?_
            refine pure_ (i := 8) (N := some 141) #[o1, o1, o1, o1, o1, o1, o1, o1, o1, o0, o0, o0, o0, o0, o0, o0, o0, o0, o0, o0, o0, o0, o0, o0, o0, o0, o0] rfl rfl (any_of HT_.out (by kernel_rfl)) (fun _ _ _ h => h) (Or.inl ⟨by rfl, qy⟩) qz ?_
            refine pure_ (i := 9) (N := some 142) #[o1, o1, o1, o1, o1, o1, o1, o1, o1, o1, o0, o0, o0, o0, o0, o0, o0, o0, o0, o0, o0, o0, o0, o0, o0, o0, o0] rfl rfl (any_of HT_.out (by kernel_rfl)) (fun _ _ _ h => h) (Or.inl ⟨by rfl, qy⟩) qz ?_
            refine pure_ (i := 11) (N := some 144) #[o1, o1, o1, o1, o1, o1, o1, o1, o1, o1, o0, o1, o0, o0, o0, o0, o0, o0, o0, o0, o0, o0, o0, o0, o0, o0, o0] rfl rfl (any_of HT_.out (by kernel_rfl)) (fun _ _ _ h => h) (Or.inl ⟨by rfl, qy⟩) qz ?_
            refine take_ (i := 12) (N := some 145) (v := ?_) (a' := ?_) #[o1, o1, o1, o1, o1, o1, o1, o1, o1, o1, o0, o1, o1, o0, o0, o0, o0, o0, o0, o0, o0, o0, o0, o0, o0, o0, o0] rfl rfl (take_ofW HT_.out HW_.out (by kernel_rfl)) (fun _ _ _ h => h) (Or.inl ⟨by rfl, ?_⟩) hHeld ?_ ?_
            rotate_left
            · rintro w' ⟨s0, s1, s2⟩
              go_simp
              with_reducible rfl
            rotate_left
            · simp only [Act.put, zH, zI, zJ, i64_w, i32_w]
              rfl
            refine one_ (i := 10) (N := some 143) #[o1, o1, o1, o1, o1, o1, o1, o1, o1, o1, o1, o1, o1, o0, o0, o0, o0, o0, o0, o0, o0, o0, o0, o0, o0, o0, o0] rfl rfl (one_of HT_.out (by kernel_rfl)) (by decide) (fun K hK => ?_)
            refine goes_ Try.func40 (by kernel_rfl) rfl #[.pointer (some ⟨g, 0, none⟩)] (by rfl) rfl rfl (by (try simp only [zR, zS, zT]); first | done | rfl | (simp only [zP, zQ]; rfl)) ?_
            with_reducible refine (strict_Reader_At.calls g x1000_3 x1001_3 x1002_3 x1003_3 t188 x1000_3 x1001_3 x1002_3 x1003_3 w0 _ ?side1 ?side2 A164.out).mono ?_
            (case side1 => repeat (first | (with_reducible first | exact HI0.out | apply IsS56.alloc | apply IsS56.drewN | apply IsS56.drew | refine IsS56.far ?_ NB0_101.out _ | refine IsS56.far ?_ NB0_102.out _ | refine IsS56.far ?_ NB0_103.out _) | exact HI0.out))
            (case side2 => repeat (first | (with_reducible first | exact HB.out | apply zD | apply zB | apply zC | refine zE ?_ (IsS56.ge HI0.out) | refine zE ?_ GE101.out | refine zE ?_ GE102.out | refine zE ?_ GE103.out) | exact HB.out))
            rintro e w177 ⟨rfl, hi, hb, hk⟩
            refine ⟨_, rfl, ?_⟩
            have n0_ := zA (KeepBut.blk hk (g' := gb101) (o := .cells #[.string x102000_3, .int .i64 x102001_3, .int .i64 x102002_3] 47 (0, 0)) (qW BK101.out) NB101_0.out (by simp)); have n1_ := zA (KeepBut.blk hk (g' := gb102) (o := .cells #[.int .i64 a2_0, .int .i64 a2_1, .int .i64 a2_2] 51 (0, 0)) (qW BK102.out) NB102_0.out (by simp)); have n2_ := zA (KeepBut.blk hk (g' := gb103) (o := .cells #[.string (⟨#[]⟩ : ByteArray), .int .i64 0, .int .i64 0] 47 (0, 0)) (qW BK103.out) NB103_0.out (by simp)); have n3_ := zA (zBq (qJ HK.out) hk (.inl rfl)); have n4_ := zA (hb); have n5_ := zA (hi); clear BK101; clear BK102; clear BK103; clear HK; clear HB; clear HI0; have BK101 := n0_; have BK102 := n1_; have BK103 := n2_; have HK := n3_; have HB := n4_; have HI0 := n5_; clear n0_ n1_ n2_ n3_ n4_ n5_; (try clear hb); (try clear hb2); (try clear hk); (try clear hi)
            (try simp only [errW_none, errW_some])
            refine hK.out _ _ ⟨(zF BK101.out 0).trans rfl, (zF BK101.out 1).trans rfl, (zF BK101.out 2).trans rfl⟩ (fun hHeld => ?_)
            clear hK K
            refine norm_ (a' := ?_) ?_ ?_
            rotate_left
            · show Act.put _ (some 143) _ = _
              simp only [Act.put, zH, zI, zJ, i64_w, i32_w]
              rfl
            refine pure_ (i := 13) (N := some 146) #[o1, o1, o1, o1, o1, o1, o1, o1, o1, o1, o1, o1, o1, o1, o0, o0, o0, o0, o0, o0, o0, o0, o0, o0, o0, o0, o0] rfl rfl (any_of HT_.out (by kernel_rfl)) (fun _ _ _ h => h) (Or.inl ⟨by rfl, qy⟩) qz ?_
            refine pure_ (i := 14) (N := some 147) #[o1, o1, o1, o1, o1, o1, o1, o1, o1, o1, o1, o1, o1, o1, o1, o0, o0, o0, o0, o0, o0, o0, o0, o0, o0, o0, o0] rfl rfl (any_of HT_.out (by kernel_rfl)) (fun _ _ _ h => h) (Or.inl ⟨by rfl, qy⟩) qz ?_
            refine pure_ (i := 15) (N := some 148) #[o1, o1, o1, o1, o1, o1, o1, o1, o1, o1, o1, o1, o1, o1, o1, o1, o0, o0, o0, o0, o0, o0, o0, o0, o0, o0, o0] rfl rfl (any_of HT_.out (by kernel_rfl)) (fun _ _ _ h => h) (Or.inl ⟨by rfl, qy⟩) qz ?_
            refine pure_ (i := 16) (N := some 149) #[o1, o1, o1, o1, o1, o1, o1, o1, o1, o1, o1, o1, o1, o1, o1, o1, o1, o0, o0, o0, o0, o0, o0, o0, o0, o0, o0] rfl rfl (any_of HT_.out (by kernel_rfl)) (fun _ _ _ h => h) (Or.inl ⟨by rfl, qy⟩) qz ?_
            refine pure_ (i := 17) (N := some 150) #[o1, o1, o1, o1, o1, o1, o1, o1, o1, o1, o1, o1, o1, o1, o1, o1, o1, o1, o0, o0, o0, o0, o0, o0, o0, o0, o0] rfl rfl (any_of HT_.out (by kernel_rfl)) (fun _ _ _ h => h) (Or.inl ⟨by rfl, qy⟩) qz ?_
            refine pure_ (i := 18) (N := some 151) #[o1, o1, o1, o1, o1, o1, o1, o1, o1, o1, o1, o1, o1, o1, o1, o1, o1, o1, o1, o0, o0, o0, o0, o0, o0, o0, o0] rfl rfl (any_of HT_.out (by kernel_rfl)) (fun _ _ _ h => h) (Or.inl ⟨by rfl, qy⟩) qz ?_
            refine pure_ (i := 19) (N := some 152) #[o1, o1, o1, o1, o1, o1, o1, o1, o1, o1, o1, o1, o1, o1, o1, o1, o1, o1, o1, o1, o0, o0, o0, o0, o0, o0, o0] rfl rfl (any_of HT_.out (by kernel_rfl)) (fun _ _ _ h => h) (Or.inl ⟨by rfl, qy⟩) qz ?_
            refine pure_ (i := 20) (N := some 153) #[o1, o1, o1, o1, o1, o1, o1, o1, o1, o1, o1, o1, o1, o1, o1, o1, o1, o1, o1, o1, o1, o0, o0, o0, o0, o0, o0] rfl rfl (any_of HT_.out (by kernel_rfl)) (fun _ _ _ h => h) (Or.inl ⟨by rfl, qy⟩) qz ?_
            refine take_ (i := 21) (N := some 154) (v := ?_) (a' := ?_) #[o1, o1, o1, o1, o1, o1, o1, o1, o1, o1, o1, o1, o1, o1, o1, o1, o1, o1, o1, o1, o1, o1, o0, o0, o0, o0, o0] rfl rfl (take_ofW HT_.out HW_.out (by kernel_rfl)) (fun _ _ _ h => h) (Or.inl ⟨by rfl, ?_⟩) hHeld ?_ ?_
            rotate_left
            · rintro w' ⟨s0, s1, s2⟩
              go_simp
              with_reducible rfl
            rotate_left
            · simp only [Act.put, zH, zI, zJ, i64_w, i32_w]
              rfl
            refine pure_ (i := 22) (N := some 155) #[o1, o1, o1, o1, o1, o1, o1, o1, o1, o1, o1, o1, o1, o1, o1, o1, o1, o1, o1, o1, o1, o1, o1, o0, o0, o0, o0] rfl rfl (any_of HT_.out (by kernel_rfl)) (fun _ _ _ h => h) (Or.inl ⟨by rfl, qy⟩) qz ?_
            refine pure_ (i := 23) (N := some 156) #[o1, o1, o1, o1, o1, o1, o1, o1, o1, o1, o1, o1, o1, o1, o1, o1, o1, o1, o1, o1, o1, o1, o1, o1, o0, o0, o0] rfl rfl (any_of HT_.out (by kernel_rfl)) (fun _ _ _ h => h) (Or.inl ⟨by rfl, qy⟩) qz ?_
            refine pure_ (i := 24) (N := some 157) #[o1, o1, o1, o1, o1, o1, o1, o1, o1, o1, o1, o1, o1, o1, o1, o1, o1, o1, o1, o1, o1, o1, o1, o1, o1, o0, o0] rfl rfl (any_of HT_.out (by kernel_rfl)) (fun _ _ _ h => h) (Or.inl ⟨by rfl, qy⟩) qz ?_
            refine one_ (i := 25) (N := none) #[o1, o1, o1, o1, o1, o1, o1, o1, o1, o1, o1, o1, o1, o1, o1, o1, o1, o1, o1, o1, o1, o1, o1, o1, o1, o1, o0] rfl rfl (one_of HT_.out (by kernel_rfl)) (by decide) (fun K hK => ?_)
            have hs178 : w177.cell? ⟨gb103, 0, none⟩ = some (.string (⟨#[]⟩ : ByteArray)) := (zF BK103.out 0).trans rfl; have hfs178 := zG BK103.out 0; have hns178_0 := NB101_103.out; have hns178_1 := NB102_103.out
            have hms178_0 := NB103_101.out
            have hms178_1 := NB103_102.out
            have hs179 : w177.cell? ⟨gb103, 1, none⟩ = some (.int .i64 0) := (zF BK103.out 1).trans rfl; have hfs179 := zG BK103.out 1; have hns179_0 := NB101_103.out; have hns179_1 := NB102_103.out
            have hms179_0 := NB103_101.out
            have hms179_1 := NB103_102.out
            have hs180 : w177.cell? ⟨gb103, 2, none⟩ = some (.int .i64 0) := (zF BK103.out 2).trans rfl; have hfs180 := zG BK103.out 2; have hns180_0 := NB101_103.out; have hns180_1 := NB102_103.out
            have hms180_0 := NB103_101.out
            have hms180_1 := NB103_102.out
            refine skip_ (w1 := ?_) (by rfl) rfl ?_ ?_
            rotate_left
            · go_simp
              rfl
            refine hK.out _ _ ⟨((cell_far (p := ⟨gb103, _, none⟩) NB101_103.out _).trans (((cell_far (p := ⟨gb103, _, none⟩) NB101_103.out _).trans (((cell_far (p := ⟨gb103, _, none⟩) NB101_103.out _).trans (hHeld.1)))))), ((cell_far (p := ⟨gb103, _, none⟩) NB101_103.out _).trans (((cell_far (p := ⟨gb103, _, none⟩) NB101_103.out _).trans (((cell_far (p := ⟨gb103, _, none⟩) NB101_103.out _).trans (hHeld.2.1)))))), ((cell_far (p := ⟨gb103, _, none⟩) NB101_103.out _).trans (((cell_far (p := ⟨gb103, _, none⟩) NB101_103.out _).trans (((cell_far (p := ⟨gb103, _, none⟩) NB101_103.out _).trans (hHeld.2.2))))))⟩ (fun hHeld => ?_)
            clear hK K
            refine pure_ (i := 26) (N := some 7) #[o1, o1, o1, o1, o1, o1, o1, o1, o1, o1, o1, o1, o1, o1, o1, o1, o1, o1, o1, o1, o1, o1, o1, o1, o1, o1, o1] rfl rfl (any_of HT_.out (by kernel_rfl)) (fun _ _ _ h => h) (Or.inl ⟨by rfl, qy⟩) qz ?_
            refine done_ (done_of HT_.out (by kernel_rfl)) ?_
            try go_wp2
            refine bodyPost_ret (results_ct rfl _ _ gb103 47 #[.string x102000_3, .int .i64 x102001_3, .int .i64 x102002_3] (0, 0) _ rfl (qV BK103.out) Try.underlying47 rfl (by kernel_rfl)) rfl ?_
            exact ⟨qE, by repeat (first | (with_reducible first | exact HI0.out | apply IsS56.alloc | apply IsS56.drewN | apply IsS56.drew | refine IsS56.far ?_ NB0_101.out _ | refine IsS56.far ?_ NB0_102.out _ | refine IsS56.far ?_ NB0_103.out _) | exact HI0.out), qH HI0.out HB.out, qJ HK.out⟩
          rw [if_neg c165] at H
          have c165b0 : (t188 == x102001_3) = false := beq_eq_false_iff_ne.mpr c165
          have c165b1 : (t188 != x102001_3) = true := bne_iff_ne.mpr c165
          simp only [zNq, zOq] at H
          obtain ⟨rfl, rfl, rfl, rfl, rfl, rfl, rfl, rfl⟩ := H
          try go_wp2_with (first | ((with_reducible refine zJq (f := 39) rfl ?_); refine goesL_ (some 129) rfl rfl Try.func39 (by kernel_rfl) rfl #[.pointer (some ⟨g, 0, none⟩)] rfl (by (try simp only [zR, zS, zT]); first | done | rfl | (simp only [zP, zQ]; rfl)) ?_; (with_reducible refine (strict_Reader_Err.calls g x1000_3 x1001_3 x1002_3 x1003_3 t181 x1000_3 x1001_3 x1002_3 x1003_3 w0 _ ?side1 ?side2 A160.out).mono ?_); (case side1 => repeat (first | (with_reducible first | exact HI0.out | apply IsS56.alloc | apply IsS56.drewN | apply IsS56.drew | refine IsS56.far ?_ NB0_101.out _ | refine IsS56.far ?_ NB0_102.out _ | refine IsS56.far ?_ NB0_103.out _) | exact HI0.out)); (case side2 => repeat (first | (with_reducible first | exact HB.out | apply zD | apply zB | apply zC | refine zE ?_ (IsS56.ge HI0.out) | refine zE ?_ GE101.out | refine zE ?_ GE102.out | refine zE ?_ GE103.out) | exact HB.out)); rintro e w181 ⟨rfl, hi, hb, hk⟩; refine ⟨_, rfl, ?_⟩; have n0_ := zA (KeepBut.blk hk (g' := gb101) (o := .cells #[.string x102000_3, .int .i64 x102001_3, .int .i64 x102002_3] 47 (0, 0)) (qW BK101.out) NB101_0.out (by simp)); have n1_ := zA (KeepBut.blk hk (g' := gb102) (o := .cells #[.int .i64 a2_0, .int .i64 a2_1, .int .i64 a2_2] 51 (0, 0)) (qW BK102.out) NB102_0.out (by simp)); have n2_ := zA (KeepBut.blk hk (g' := gb103) (o := .cells #[.string (⟨#[]⟩ : ByteArray), .int .i64 0, .int .i64 0] 47 (0, 0)) (qW BK103.out) NB103_0.out (by simp)); have n3_ := zA (zBq (qJ HK.out) hk (.inl rfl)); have n4_ := zA (hb); have n5_ := zA (hi); clear BK101 BK102 BK103 HK HB HI0; have BK101 := n0_; have BK102 := n1_; have BK103 := n2_; have HK := n3_; have HB := n4_; have HI0 := n5_; clear n0_ n1_ n2_ n3_ n4_ n5_; (try clear hb); (try clear hb2); (try clear hk); (try clear hi); (try simp only [errW_none, errW_some]); have CA161 := fun W => strict_Why.calls t181 t186 t187 W A161.out; try simp only [errW_none, errW_some] at CA161) | (go_at_call 38; (with_reducible refine (CA161 _).mono ?_); rintro e w182 ⟨rfl, hb⟩; have n0_ := zA (qX BK101.out hb); have n1_ := zA (qX BK102.out hb); have n2_ := zA (qX BK103.out hb); have n3_ := zA (IsS56.below (by repeat (first | (with_reducible first | exact HI0.out | apply IsS56.alloc | apply IsS56.drewN | apply IsS56.drew | refine IsS56.far ?_ NB0_101.out _ | refine IsS56.far ?_ NB0_102.out _ | refine IsS56.far ?_ NB0_103.out _) | exact HI0.out)) hb); have n4_ := zA (zBq (qJ HK.out) (KeepBut.of_below hb g none) (.inl rfl)); have n5_ := zA (zV (qH HI0.out HB.out) hb); clear BK101 BK102 BK103 HI0 HK HB; have BK101 := n0_; have BK102 := n1_; have BK103 := n2_; have HI0 := n3_; have HK := n4_; have HB := n5_; clear n0_ n1_ n2_ n3_ n4_ n5_; (try clear hb); (try clear hb2); (try clear hk); (try clear hi)))
          have n0_ := zA (zAq BK101.out); have n1_ := zA (zAq BK102.out); have n2_ := zA (zAq BK103.out); have n3_ := zA (IsS56.drew HI0.out); have n4_ := zA (zM HK.out); have n5_ := zA (zC HB.out); clear BK101; clear BK102; clear BK103; clear HI0; clear HK; clear HB; have BK101 := n0_; have BK102 := n1_; have BK103 := n2_; have HI0 := n3_; have HK := n4_; have HB := n5_; clear n0_ n1_ n2_ n3_ n4_ n5_
          refine start_ (n := 27) (S := fun w' => w'.cell? ⟨gb101, 0, none⟩ = some (.string x102000_3) ∧ w'.cell? ⟨gb101, 1, none⟩ = some (.int .i64 x102001_3) ∧ w'.cell? ⟨gb101, 2, none⟩ = some (.int .i64 x102002_3)) (ds := []) #[o0, o0, o0, o0, o0, o0, o0, o0, o0, o0, o0, o0, o0, o0, o0, o0, o0, o0, o0, o0, o0, o0, o0, o0, o0, o0, o0] (by kernel_rfl) rfl rfl ⟨(zF BK101.out 0).trans rfl, (zF BK101.out 1).trans rfl, (zF BK101.out 2).trans rfl⟩ (fun hHeld => ?_); refine with_tabW backhaullaw06_read.tab25 backhaullaw06_read.bits25 (fun HT_ HW_ => ?_)
          generalize w182.drew = w183 at BK101 BK102 BK103 HI0 HK HB hHeld ⊢
          refine pure_ (i := 1) (N := some 134) #[o0, o1, o0, o0, o0, o0, o0, o0, o0, o0, o0, o0, o0, o0, o0, o0, o0, o0, o0, o0, o0, o0, o0, o0, o0, o0, o0] rfl rfl (any_of HT_.out (by kernel_rfl)) (fun _ _ _ h => h) (Or.inl ⟨by rfl, qy⟩) qz ?_
          refine pure_ (i := 2) (N := some 135) #[o0, o1, o1, o0, o0, o0, o0, o0, o0, o0, o0, o0, o0, o0, o0, o0, o0, o0, o0, o0, o0, o0, o0, o0, o0, o0, o0] rfl rfl (any_of HT_.out (by kernel_rfl)) (fun _ _ _ h => h) (Or.inl ⟨by rfl, qy⟩) qz ?_
          refine pure_ (i := 3) (N := some 136) #[o0, o1, o1, o1, o0, o0, o0, o0, o0, o0, o0, o0, o0, o0, o0, o0, o0, o0, o0, o0, o0, o0, o0, o0, o0, o0, o0] rfl rfl (any_of HT_.out (by kernel_rfl)) (fun _ _ _ h => h) (Or.inl ⟨by rfl, qy⟩) qz ?_
          refine pure_ (i := 4) (N := some 137) #[o0, o1, o1, o1, o1, o0, o0, o0, o0, o0, o0, o0, o0, o0, o0, o0, o0, o0, o0, o0, o0, o0, o0, o0, o0, o0, o0] rfl rfl (any_of HT_.out (by kernel_rfl)) (fun _ _ _ h => h) (Or.inl ⟨by rfl, qy⟩) qz ?_
          refine take_ (i := 0) (N := some 133) (v := ?_) (a' := ?_) #[o1, o1, o1, o1, o1, o0, o0, o0, o0, o0, o0, o0, o0, o0, o0, o0, o0, o0, o0, o0, o0, o0, o0, o0, o0, o0, o0] rfl rfl (take_ofW HT_.out HW_.out (by kernel_rfl)) (fun _ _ _ h => h) (Or.inl ⟨by rfl, ?_⟩) hHeld ?_ ?_
          rotate_left
          · rintro w' ⟨s0, s1, s2⟩
            go_simp
            with_reducible rfl
          rotate_left
          · simp only [Act.put, zH, zI, zJ, i64_w, i32_w]
            rfl
          refine take_ (i := 5) (N := some 138) (v := ?_) (a' := ?_) #[o1, o1, o1, o1, o1, o1, o0, o0, o0, o0, o0, o0, o0, o0, o0, o0, o0, o0, o0, o0, o0, o0, o0, o0, o0, o0, o0] rfl rfl (take_ofW HT_.out HW_.out (by kernel_rfl)) (fun _ _ _ h => h) (Or.inl ⟨by rfl, ?_⟩) hHeld ?_ ?_
          rotate_left
          · rintro w' ⟨s0, s1, s2⟩
            go_simp
            with_reducible rfl
          rotate_left
          · simp only [Act.put, zH, zI, zJ, i64_w, i32_w]
            rfl
          refine pure_ (i := 6) (N := some 139) #[o1, o1, o1, o1, o1, o1, o1, o0, o0, o0, o0, o0, o0, o0, o0, o0, o0, o0, o0, o0, o0, o0, o0, o0, o0, o0, o0] rfl rfl (any_of HT_.out (by kernel_rfl)) (fun _ _ _ h => h) (Or.inl ⟨by rfl, qy⟩) qz ?_
          refine pure_ (i := 7) (N := some 140) #[o1, o1, o1, o1, o1, o1, o1, o1, o0, o0, o0, o0, o0, o0, o0, o0, o0, o0, o0, o0, o0, o0, o0, o0, o0, o0, o0] rfl rfl (any_of HT_.out (by kernel_rfl)) (fun _ _ _ h => h) (Or.inl ⟨by rfl, qy⟩) qz ?_
          refine pure_ (i := 8) (N := some 141) #[o1, o1, o1, o1, o1, o1, o1, o1, o1, o0, o0, o0, o0, o0, o0, o0, o0, o0, o0, o0, o0, o0, o0, o0, o0, o0, o0] rfl rfl (any_of HT_.out (by kernel_rfl)) (fun _ _ _ h => h) (Or.inl ⟨by rfl, qy⟩) qz ?_
          refine pure_ (i := 9) (N := some 142) #[o1, o1, o1, o1, o1, o1, o1, o1, o1, o1, o0, o0, o0, o0, o0, o0, o0, o0, o0, o0, o0, o0, o0, o0, o0, o0, o0] rfl rfl (any_of HT_.out (by kernel_rfl)) (fun _ _ _ h => h) (Or.inl ⟨by rfl, qy⟩) qz ?_
          refine pure_ (i := 11) (N := some 144) #[o1, o1, o1, o1, o1, o1, o1, o1, o1, o1, o0, o1, o0, o0, o0, o0, o0, o0, o0, o0, o0, o0, o0, o0, o0, o0, o0] rfl rfl (any_of HT_.out (by kernel_rfl)) (fun _ _ _ h => h) (Or.inl ⟨by rfl, qy⟩) qz ?_
          refine take_ (i := 12) (N := some 145) (v := ?_) (a' := ?_) #[o1, o1, o1, o1, o1, o1, o1, o1, o1, o1, o0, o1, o1, o0, o0, o0, o0, o0, o0, o0, o0, o0, o0, o0, o0, o0, o0] rfl rfl (take_ofW HT_.out HW_.out (by kernel_rfl)) (fun _ _ _ h => h) (Or.inl ⟨by rfl, ?_⟩) hHeld ?_ ?_
          rotate_left
          · rintro w' ⟨s0, s1, s2⟩
            go_simp
            with_reducible rfl
          rotate_left
          · simp only [Act.put, zH, zI, zJ, i64_w, i32_w]
            rfl
          refine one_ (i := 10) (N := some 143) #[o1, o1, o1, o1, o1, o1, o1, o1, o1, o1, o1, o1, o1, o0, o0, o0, o0, o0, o0, o0, o0, o0, o0, o0, o0, o0, o0] rfl rfl (one_of HT_.out (by kernel_rfl)) (by decide) (fun K hK => ?_)
          refine goes_ Try.func40 (by kernel_rfl) rfl #[.pointer (some ⟨g, 0, none⟩)] (by rfl) rfl rfl (by (try simp only [zR, zS, zT]); first | done | rfl | (simp only [zP, zQ]; rfl)) ?_
          with_reducible refine (strict_Reader_At.calls g x1000_3 x1001_3 x1002_3 x1003_3 t188 x1000_3 x1001_3 x1002_3 x1003_3 w0 _ ?side1 ?side2 A164.out).mono ?_
          (case side1 => repeat (first | (with_reducible first | exact HI0.out | apply IsS56.alloc | apply IsS56.drewN | apply IsS56.drew | refine IsS56.far ?_ NB0_101.out _ | refine IsS56.far ?_ NB0_102.out _ | refine IsS56.far ?_ NB0_103.out _) | exact HI0.out))
          (case side2 => repeat (first | (with_reducible first | exact HB.out | apply zD | apply zB | apply zC | refine zE ?_ (IsS56.ge HI0.out) | refine zE ?_ GE101.out | refine zE ?_ GE102.out | refine zE ?_ GE103.out) | exact HB.out))
          rintro e w184 ⟨rfl, hi, hb, hk⟩
          refine ⟨_, rfl, ?_⟩
          have n0_ := zA (KeepBut.blk hk (g' := gb101) (o := .cells #[.string x102000_3, .int .i64 x102001_3, .int .i64 x102002_3] 47 (0, 0)) (qW BK101.out) NB101_0.out (by simp)); have n1_ := zA (KeepBut.blk hk (g' := gb102) (o := .cells #[.int .i64 a2_0, .int .i64 a2_1, .int .i64 a2_2] 51 (0, 0)) (qW BK102.out) NB102_0.out (by simp)); have n2_ := zA (KeepBut.blk hk (g' := gb103) (o := .cells #[.string (⟨#[]⟩ : ByteArray), .int .i64 0, .int .i64 0] 47 (0, 0)) (qW BK103.out) NB103_0.out (by simp)); have n3_ := zA (zBq (qJ HK.out) hk (.inl rfl)); have n4_ := zA (hb); have n5_ := zA (hi); clear BK101; clear BK102; clear BK103; clear HK; clear HB; clear HI0; have BK101 := n0_; have BK102 := n1_; have BK103 := n2_; have HK := n3_; have HB := n4_; have HI0 := n5_; clear n0_ n1_ n2_ n3_ n4_ n5_; (try clear hb); (try clear hb2); (try clear hk); (try clear hi)
          (try simp only [errW_none, errW_some])
          refine hK.out _ _ ⟨(zF BK101.out 0).trans rfl, (zF BK101.out 1).trans rfl, (zF BK101.out 2).trans rfl⟩ (fun hHeld => ?_)
          clear hK K
          refine norm_ (a' := ?_) ?_ ?_
          rotate_left
          · show Act.put _ (some 143) _ = _
            simp only [Act.put, zH, zI, zJ, i64_w, i32_w]
            rfl
          refine pure_ (i := 13) (N := some 146) #[o1, o1, o1, o1, o1, o1, o1, o1, o1, o1, o1, o1, o1, o1, o0, o0, o0, o0, o0, o0, o0, o0, o0, o0, o0, o0, o0] rfl rfl (any_of HT_.out (by kernel_rfl)) (fun _ _ _ h => h) (Or.inl ⟨by rfl, qy⟩) qz ?_
          refine pure_ (i := 14) (N := some 147) #[o1, o1, o1, o1, o1, o1, o1, o1, o1, o1, o1, o1, o1, o1, o1, o0, o0, o0, o0, o0, o0, o0, o0, o0, o0, o0, o0] rfl rfl (any_of HT_.out (by kernel_rfl)) (fun _ _ _ h => h) (Or.inl ⟨by rfl, qy⟩) qz ?_
          refine pure_ (i := 15) (N := some 148) #[o1, o1, o1, o1, o1, o1, o1, o1, o1, o1, o1, o1, o1, o1, o1, o1, o0, o0, o0, o0, o0, o0, o0, o0, o0, o0, o0] rfl rfl (any_of HT_.out (by kernel_rfl)) (fun _ _ _ h => h) (Or.inl ⟨by rfl, qy⟩) qz ?_
          refine pure_ (i := 16) (N := some 149) (v := undef) (a' := ?_) #[o1, o1, o1, o1, o1, o1, o1, o1, o1, o1, o1, o1, o1, o1, o1, o1, o1, o0, o0, o0, o0, o0, o0, o0, o0, o0, o0] rfl rfl (any_of HT_.out (by kernel_rfl)) (fun _ _ _ h => h) (Or.inr ⟨by rfl, rfl⟩) ?_ ?_
          rotate_left
          · simp only [Act.put, zH, zI, zJ, i64_w, i32_w]
            rfl
          refine pure_ (i := 17) (N := some 150) (v := undef) (a' := ?_) #[o1, o1, o1, o1, o1, o1, o1, o1, o1, o1, o1, o1, o1, o1, o1, o1, o1, o1, o0, o0, o0, o0, o0, o0, o0, o0, o0] rfl rfl (any_of HT_.out (by kernel_rfl)) (fun _ _ _ h => h) (Or.inr ⟨by rfl, rfl⟩) ?_ ?_
          rotate_left
          · simp only [Act.put, zH, zI, zJ, i64_w, i32_w]
            rfl
          refine pure_ (i := 18) (N := some 151) (v := undef) (a' := ?_) #[o1, o1, o1, o1, o1, o1, o1, o1, o1, o1, o1, o1, o1, o1, o1, o1, o1, o1, o1, o0, o0, o0, o0, o0, o0, o0, o0] rfl rfl (any_of HT_.out (by kernel_rfl)) (fun _ _ _ h => h) (Or.inr ⟨by rfl, rfl⟩) ?_ ?_
          rotate_left
          · simp only [Act.put, zH, zI, zJ, i64_w, i32_w]
            rfl
          refine pure_ (i := 19) (N := some 152) (v := undef) (a' := ?_) #[o1, o1, o1, o1, o1, o1, o1, o1, o1, o1, o1, o1, o1, o1, o1, o1, o1, o1, o1, o1, o0, o0, o0, o0, o0, o0, o0] rfl rfl (any_of HT_.out (by kernel_rfl)) (fun _ _ _ h => h) (Or.inr ⟨by rfl, rfl⟩) ?_ ?_
          rotate_left
          · simp only [Act.put, zH, zI, zJ, i64_w, i32_w]
            rfl
          refine pure_ (i := 20) (N := some 153) (v := undef) (a' := ?_) #[o1, o1, o1, o1, o1, o1, o1, o1, o1, o1, o1, o1, o1, o1, o1, o1, o1, o1, o1, o1, o1, o0, o0, o0, o0, o0, o0] rfl rfl (any_of HT_.out (by kernel_rfl)) (fun _ _ _ h => h) (Or.inr ⟨by rfl, rfl⟩) ?_ ?_
          rotate_left
          · simp only [Act.put, zH, zI, zJ, i64_w, i32_w]
            rfl
          refine pure_ (i := 21) (N := some 154) (v := undef) (a' := ?_) #[o1, o1, o1, o1, o1, o1, o1, o1, o1, o1, o1, o1, o1, o1, o1, o1, o1, o1, o1, o1, o1, o1, o0, o0, o0, o0, o0] rfl rfl (any_of HT_.out (by kernel_rfl)) (fun _ _ _ h => h) (Or.inr ⟨by rfl, rfl⟩) ?_ ?_
          rotate_left
          · simp only [Act.put, zH, zI, zJ, i64_w, i32_w]
            rfl
          refine pure_ (i := 22) (N := some 155) (v := undef) (a' := ?_) #[o1, o1, o1, o1, o1, o1, o1, o1, o1, o1, o1, o1, o1, o1, o1, o1, o1, o1, o1, o1, o1, o1, o1, o0, o0, o0, o0] rfl rfl (any_of HT_.out (by kernel_rfl)) (fun _ _ _ h => h) (Or.inr ⟨by rfl, rfl⟩) ?_ ?_
          rotate_left
          · simp only [Act.put, zH, zI, zJ, i64_w, i32_w]
            rfl
          refine pure_ (i := 23) (N := some 156) (v := undef) (a' := ?_) #[o1, o1, o1, o1, o1, o1, o1, o1, o1, o1, o1, o1, o1, o1, o1, o1, o1, o1, o1, o1, o1, o1, o1, o1, o0, o0, o0] rfl rfl (any_of HT_.out (by kernel_rfl)) (fun _ _ _ h => h) (Or.inr ⟨by rfl, rfl⟩) ?_ ?_
          rotate_left
          · simp only [Act.put, zH, zI, zJ, i64_w, i32_w]
            rfl
          refine pure_ (i := 24) (N := some 157) #[o1, o1, o1, o1, o1, o1, o1, o1, o1, o1, o1, o1, o1, o1, o1, o1, o1, o1, o1, o1, o1, o1, o1, o1, o1, o0, o0] rfl rfl (any_of HT_.out (by kernel_rfl)) (fun _ _ _ h => h) (Or.inl ⟨by rfl, qy⟩) qz ?_
          refine one_ (i := 25) (N := none) #[o1, o1, o1, o1, o1, o1, o1, o1, o1, o1, o1, o1, o1, o1, o1, o1, o1, o1, o1, o1, o1, o1, o1, o1, o1, o1, o0] rfl rfl (one_of HT_.out (by kernel_rfl)) (by decide) (fun K hK => ?_)
          have hs185 : w184.cell? ⟨gb103, 0, none⟩ = some (.string (⟨#[]⟩ : ByteArray)) := (zF BK103.out 0).trans rfl; have hfs185 := zG BK103.out 0; have hns185_0 := NB101_103.out; have hns185_1 := NB102_103.out
          have hms185_0 := NB103_101.out
          have hms185_1 := NB103_102.out
          have hs186 : w184.cell? ⟨gb103, 1, none⟩ = some (.int .i64 0) := (zF BK103.out 1).trans rfl; have hfs186 := zG BK103.out 1; have hns186_0 := NB101_103.out; have hns186_1 := NB102_103.out
          have hms186_0 := NB103_101.out
          have hms186_1 := NB103_102.out
          have hs187 : w184.cell? ⟨gb103, 2, none⟩ = some (.int .i64 0) := (zF BK103.out 2).trans rfl; have hfs187 := zG BK103.out 2; have hns187_0 := NB101_103.out; have hns187_1 := NB102_103.out
          have hms187_0 := NB103_101.out
          have hms187_1 := NB103_102.out
          refine skip_ (w1 := ?_) (by rfl) rfl ?_ ?_
          rotate_left
          · go_simp
            rfl
          refine hK.out _ _ ⟨((cell_far (p := ⟨gb103, _, none⟩) NB101_103.out _).trans (((cell_far (p := ⟨gb103, _, none⟩) NB101_103.out _).trans (((cell_far (p := ⟨gb103, _, none⟩) NB101_103.out _).trans (hHeld.1)))))), ((cell_far (p := ⟨gb103, _, none⟩) NB101_103.out _).trans (((cell_far (p := ⟨gb103, _, none⟩) NB101_103.out _).trans (((cell_far (p := ⟨gb103, _, none⟩) NB101_103.out _).trans (hHeld.2.1)))))), ((cell_far (p := ⟨gb103, _, none⟩) NB101_103.out _).trans (((cell_far (p := ⟨gb103, _, none⟩) NB101_103.out _).trans (((cell_far (p := ⟨gb103, _, none⟩) NB101_103.out _).trans (hHeld.2.2))))))⟩ (fun hHeld => ?_)
          clear hK K
          refine pure_ (i := 26) (N := some 7) #[o1, o1, o1, o1, o1, o1, o1, o1, o1, o1, o1, o1, o1, o1, o1, o1, o1, o1, o1, o1, o1, o1, o1, o1, o1, o1, o1] rfl rfl (any_of HT_.out (by kernel_rfl)) (fun _ _ _ h => h) (Or.inl ⟨by rfl, qy⟩) qz ?_
          refine done_ (done_of HT_.out (by kernel_rfl)) ?_
          try go_wp2
          refine bodyPost_ret (results_ct rfl _ _ gb103 47 #[.string x102000_3, .int .i64 x102001_3, .int .i64 x102002_3] (0, 0) _ rfl (qV BK103.out) Try.underlying47 rfl (by kernel_rfl)) rfl ?_
          exact ⟨qE, by repeat (first | (with_reducible first | exact HI0.out | apply IsS56.alloc | apply IsS56.drewN | apply IsS56.drew | refine IsS56.far ?_ NB0_101.out _ | refine IsS56.far ?_ NB0_102.out _ | refine IsS56.far ?_ NB0_103.out _) | exact HI0.out), qH HI0.out HB.out, qJ HK.out⟩
        rw [if_neg c163] at H
        have c163b0 : (t186 == x102002_3) = false := beq_eq_false_iff_ne.mpr c163
        have c163b1 : (t186 != x102002_3) = true := bne_iff_ne.mpr c163
        simp only [zNq, zOq] at H
        obtain ⟨rfl, rfl, rfl, rfl, rfl, rfl, rfl, rfl⟩ := H
        try go_wp2_with (first | ((with_reducible refine zJq (f := 39) rfl ?_); refine goesL_ (some 129) rfl rfl Try.func39 (by kernel_rfl) rfl #[.pointer (some ⟨g, 0, none⟩)] rfl (by (try simp only [zR, zS, zT]); first | done | rfl | (simp only [zP, zQ]; rfl)) ?_; (with_reducible refine (strict_Reader_Err.calls g x1000_3 x1001_3 x1002_3 x1003_3 t181 x1000_3 x1001_3 x1002_3 x1003_3 w0 _ ?side1 ?side2 A160.out).mono ?_); (case side1 => repeat (first | (with_reducible first | exact HI0.out | apply IsS56.alloc | apply IsS56.drewN | apply IsS56.drew | refine IsS56.far ?_ NB0_101.out _ | refine IsS56.far ?_ NB0_102.out _ | refine IsS56.far ?_ NB0_103.out _) | exact HI0.out)); (case side2 => repeat (first | (with_reducible first | exact HB.out | apply zD | apply zB | apply zC | refine zE ?_ (IsS56.ge HI0.out) | refine zE ?_ GE101.out | refine zE ?_ GE102.out | refine zE ?_ GE103.out) | exact HB.out)); rintro e w188 ⟨rfl, hi, hb, hk⟩; refine ⟨_, rfl, ?_⟩; have n0_ := zA (KeepBut.blk hk (g' := gb101) (o := .cells #[.string x102000_3, .int .i64 x102001_3, .int .i64 x102002_3] 47 (0, 0)) (qW BK101.out) NB101_0.out (by simp)); have n1_ := zA (KeepBut.blk hk (g' := gb102) (o := .cells #[.int .i64 a2_0, .int .i64 a2_1, .int .i64 a2_2] 51 (0, 0)) (qW BK102.out) NB102_0.out (by simp)); have n2_ := zA (KeepBut.blk hk (g' := gb103) (o := .cells #[.string (⟨#[]⟩ : ByteArray), .int .i64 0, .int .i64 0] 47 (0, 0)) (qW BK103.out) NB103_0.out (by simp)); have n3_ := zA (zBq (qJ HK.out) hk (.inl rfl)); have n4_ := zA (hb); have n5_ := zA (hi); clear BK101 BK102 BK103 HK HB HI0; have BK101 := n0_; have BK102 := n1_; have BK103 := n2_; have HK := n3_; have HB := n4_; have HI0 := n5_; clear n0_ n1_ n2_ n3_ n4_ n5_; (try clear hb); (try clear hb2); (try clear hk); (try clear hi); (try simp only [errW_none, errW_some]); have CA161 := fun W => strict_Why.calls t181 t186 t187 W A161.out; try simp only [errW_none, errW_some] at CA161) | (go_at_call 38; (with_reducible refine (CA161 _).mono ?_); rintro e w189 ⟨rfl, hb⟩; have n0_ := zA (qX BK101.out hb); have n1_ := zA (qX BK102.out hb); have n2_ := zA (qX BK103.out hb); have n3_ := zA (IsS56.below (by repeat (first | (with_reducible first | exact HI0.out | apply IsS56.alloc | apply IsS56.drewN | apply IsS56.drew | refine IsS56.far ?_ NB0_101.out _ | refine IsS56.far ?_ NB0_102.out _ | refine IsS56.far ?_ NB0_103.out _) | exact HI0.out)) hb); have n4_ := zA (zBq (qJ HK.out) (KeepBut.of_below hb g none) (.inl rfl)); have n5_ := zA (zV (qH HI0.out HB.out) hb); clear BK101 BK102 BK103 HI0 HK HB; have BK101 := n0_; have BK102 := n1_; have BK103 := n2_; have HI0 := n3_; have HK := n4_; have HB := n5_; clear n0_ n1_ n2_ n3_ n4_ n5_; (try clear hb); (try clear hb2); (try clear hk); (try clear hi)))
        have n0_ := zA (zAq BK101.out); have n1_ := zA (zAq BK102.out); have n2_ := zA (zAq BK103.out); have n3_ := zA (IsS56.drew HI0.out); have n4_ := zA (zM HK.out); have n5_ := zA (zC HB.out); clear BK101; clear BK102; clear BK103; clear HI0; clear HK; clear HB; have BK101 := n0_; have BK102 := n1_; have BK103 := n2_; have HI0 := n3_; have HK := n4_; have HB := n5_; clear n0_ n1_ n2_ n3_ n4_ n5_
        refine start_ (n := 27) (S := fun w' => w'.cell? ⟨gb101, 0, none⟩ = some (.string x102000_3) ∧ w'.cell? ⟨gb101, 1, none⟩ = some (.int .i64 x102001_3) ∧ w'.cell? ⟨gb101, 2, none⟩ = some (.int .i64 x102002_3)) (ds := []) #[o0, o0, o0, o0, o0, o0, o0, o0, o0, o0, o0, o0, o0, o0, o0, o0, o0, o0, o0, o0, o0, o0, o0, o0, o0, o0, o0] (by kernel_rfl) rfl rfl ⟨(zF BK101.out 0).trans rfl, (zF BK101.out 1).trans rfl, (zF BK101.out 2).trans rfl⟩ (fun hHeld => ?_); refine with_tabW backhaullaw06_read.tab25 backhaullaw06_read.bits25 (fun HT_ HW_ => ?_)
        generalize w189.drew = w190 at BK101 BK102 BK103 HI0 HK HB hHeld ⊢
        refine pure_ (i := 1) (N := some 134) #[o0, o1, o0, o0, o0, o0, o0, o0, o0, o0, o0, o0, o0, o0, o0, o0, o0, o0, o0, o0, o0, o0, o0, o0, o0, o0, o0] rfl rfl (any_of HT_.out (by kernel_rfl)) (fun _ _ _ h => h) (Or.inl ⟨by rfl, qy⟩) qz ?_
        refine pure_ (i := 2) (N := some 135) #[o0, o1, o1, o0, o0, o0, o0, o0, o0, o0, o0, o0, o0, o0, o0, o0, o0, o0, o0, o0, o0, o0, o0, o0, o0, o0, o0] rfl rfl (any_of HT_.out (by kernel_rfl)) (fun _ _ _ h => h) (Or.inl ⟨by rfl, qy⟩) qz ?_
        refine pure_ (i := 3) (N := some 136) #[o0, o1, o1, o1, o0, o0, o0, o0, o0, o0, o0, o0, o0, o0, o0, o0, o0, o0, o0, o0, o0, o0, o0, o0, o0, o0, o0] rfl rfl (any_of HT_.out (by kernel_rfl)) (fun _ _ _ h => h) (Or.inl ⟨by rfl, qy⟩) qz ?_
        refine pure_ (i := 4) (N := some 137) #[o0, o1, o1, o1, o1, o0, o0, o0, o0, o0, o0, o0, o0, o0, o0, o0, o0, o0, o0, o0, o0, o0, o0, o0, o0, o0, o0] rfl rfl (any_of HT_.out (by kernel_rfl)) (fun _ _ _ h => h) (Or.inl ⟨by rfl, qy⟩) qz ?_
        refine take_ (i := 0) (N := some 133) (v := ?_) (a' := ?_) #[o1, o1, o1, o1, o1, o0, o0, o0, o0, o0, o0, o0, o0, o0, o0, o0, o0, o0, o0, o0, o0, o0, o0, o0, o0, o0, o0] rfl rfl (take_ofW HT_.out HW_.out (by kernel_rfl)) (fun _ _ _ h => h) (Or.inl ⟨by rfl, ?_⟩) hHeld ?_ ?_
        rotate_left
        · rintro w' ⟨s0, s1, s2⟩
          go_simp
          with_reducible rfl
        rotate_left
        · simp only [Act.put, zH, zI, zJ, i64_w, i32_w]
          rfl
        refine take_ (i := 5) (N := some 138) (v := ?_) (a' := ?_) #[o1, o1, o1, o1, o1, o1, o0, o0, o0, o0, o0, o0, o0, o0, o0, o0, o0, o0, o0, o0, o0, o0, o0, o0, o0, o0, o0] rfl rfl (take_ofW HT_.out HW_.out (by kernel_rfl)) (fun _ _ _ h => h) (Or.inl ⟨by rfl, ?_⟩) hHeld ?_ ?_
        rotate_left
        · rintro w' ⟨s0, s1, s2⟩
          go_simp
          with_reducible rfl
        rotate_left
        · simp only [Act.put, zH, zI, zJ, i64_w, i32_w]
          rfl
        refine pure_ (i := 6) (N := some 139) #[o1, o1, o1, o1, o1, o1, o1, o0, o0, o0, o0, o0, o0, o0, o0, o0, o0, o0, o0, o0, o0, o0, o0, o0, o0, o0, o0] rfl rfl (any_of HT_.out (by kernel_rfl)) (fun _ _ _ h => h) (Or.inl ⟨by rfl, qy⟩) qz ?_
        refine pure_ (i := 7) (N := some 140) #[o1, o1, o1, o1, o1, o1, o1, o1, o0, o0, o0, o0, o0, o0, o0, o0, o0, o0, o0, o0, o0, o0, o0, o0, o0, o0, o0] rfl rfl (any_of HT_.out (by kernel_rfl)) (fun _ _ _ h => h) (Or.inl ⟨by rfl, qy⟩) qz ?_
        refine pure_ (i := 8) (N := some 141) #[o1, o1, o1, o1, o1, o1, o1, o1, o1, o0, o0, o0, o0, o0, o0, o0, o0, o0, o0, o0, o0, o0, o0, o0, o0, o0, o0] rfl rfl (any_of HT_.out (by kernel_rfl)) (fun _ _ _ h => h) (Or.inl ⟨by rfl, qy⟩) qz ?_
        refine pure_ (i := 9) (N := some 142) (v := undef) (a' := ?_) #[o1, o1, o1, o1, o1, o1, o1, o1, o1, o1, o0, o0, o0, o0, o0, o0, o0, o0, o0, o0, o0, o0, o0, o0, o0, o0, o0] rfl rfl (any_of HT_.out (by kernel_rfl)) (fun _ _ _ h => h) (Or.inr ⟨by rfl, rfl⟩) ?_ ?_
        rotate_left
        · simp only [Act.put, zH, zI, zJ, i64_w, i32_w]
          rfl
        refine pure_ (i := 10) (N := some 143) (v := undef) (a' := ?_) #[o1, o1, o1, o1, o1, o1, o1, o1, o1, o1, o1, o0, o0, o0, o0, o0, o0, o0, o0, o0, o0, o0, o0, o0, o0, o0, o0] rfl rfl (any_of HT_.out (by kernel_rfl)) (fun _ _ _ h => h) (Or.inr ⟨by rfl, rfl⟩) ?_ ?_
        rotate_left
        · simp only [Act.put, zH, zI, zJ, i64_w, i32_w]
          rfl
        refine pure_ (i := 11) (N := some 144) (v := undef) (a' := ?_) #[o1, o1, o1, o1, o1, o1, o1, o1, o1, o1, o1, o1, o0, o0, o0, o0, o0, o0, o0, o0, o0, o0, o0, o0, o0, o0, o0] rfl rfl (any_of HT_.out (by kernel_rfl)) (fun _ _ _ h => h) (Or.inr ⟨by rfl, rfl⟩) ?_ ?_
        rotate_left
        · simp only [Act.put, zH, zI, zJ, i64_w, i32_w]
          rfl
        refine pure_ (i := 12) (N := some 145) (v := undef) (a' := ?_) #[o1, o1, o1, o1, o1, o1, o1, o1, o1, o1, o1, o1, o1, o0, o0, o0, o0, o0, o0, o0, o0, o0, o0, o0, o0, o0, o0] rfl rfl (any_of HT_.out (by kernel_rfl)) (fun _ _ _ h => h) (Or.inr ⟨by rfl, rfl⟩) ?_ ?_
        rotate_left
        · simp only [Act.put, zH, zI, zJ, i64_w, i32_w]
          rfl
        refine pure_ (i := 13) (N := some 146) (v := undef) (a' := ?_) #[o1, o1, o1, o1, o1, o1, o1, o1, o1, o1, o1, o1, o1, o1, o0, o0, o0, o0, o0, o0, o0, o0, o0, o0, o0, o0, o0] rfl rfl (any_of HT_.out (by kernel_rfl)) (fun _ _ _ h => h) (Or.inr ⟨by rfl, rfl⟩) ?_ ?_
        rotate_left
        · simp only [Act.put, zH, zI, zJ, i64_w, i32_w]
          rfl
        refine pure_ (i := 14) (N := some 147) #[o1, o1, o1, o1, o1, o1, o1, o1, o1, o1, o1, o1, o1, o1, o1, o0, o0, o0, o0, o0, o0, o0, o0, o0, o0, o0, o0] rfl rfl (any_of HT_.out (by kernel_rfl)) (fun _ _ _ h => h) (Or.inl ⟨by rfl, qy⟩) qz ?_
        refine pure_ (i := 15) (N := some 148) #[o1, o1, o1, o1, o1, o1, o1, o1, o1, o1, o1, o1, o1, o1, o1, o1, o0, o0, o0, o0, o0, o0, o0, o0, o0, o0, o0] rfl rfl (any_of HT_.out (by kernel_rfl)) (fun _ _ _ h => h) (Or.inl ⟨by rfl, qy⟩) qz ?_
        refine pure_ (i := 16) (N := some 149) (v := undef) (a' := ?_) #[o1, o1, o1, o1, o1, o1, o1, o1, o1, o1, o1, o1, o1, o1, o1, o1, o1, o0, o0, o0, o0, o0, o0, o0, o0, o0, o0] rfl rfl (any_of HT_.out (by kernel_rfl)) (fun _ _ _ h => h) (Or.inr ⟨by rfl, rfl⟩) ?_ ?_
        rotate_left
        · simp only [Act.put, zH, zI, zJ, i64_w, i32_w]
          rfl
        refine pure_ (i := 17) (N := some 150) (v := undef) (a' := ?_) #[o1, o1, o1, o1, o1, o1, o1, o1, o1, o1, o1, o1, o1, o1, o1, o1, o1, o1, o0, o0, o0, o0, o0, o0, o0, o0, o0] rfl rfl (any_of HT_.out (by kernel_rfl)) (fun _ _ _ h => h) (Or.inr ⟨by rfl, rfl⟩) ?_ ?_
        rotate_left
        · simp only [Act.put, zH, zI, zJ, i64_w, i32_w]
          rfl
        refine pure_ (i := 18) (N := some 151) (v := undef) (a' := ?_) #[o1, o1, o1, o1, o1, o1, o1, o1, o1, o1, o1, o1, o1, o1, o1, o1, o1, o1, o1, o0, o0, o0, o0, o0, o0, o0, o0] rfl rfl (any_of HT_.out (by kernel_rfl)) (fun _ _ _ h => h) (Or.inr ⟨by rfl, rfl⟩) ?_ ?_
        rotate_left
        · simp only [Act.put, zH, zI, zJ, i64_w, i32_w]
          rfl
        refine pure_ (i := 19) (N := some 152) (v := undef) (a' := ?_) #[o1, o1, o1, o1, o1, o1, o1, o1, o1, o1, o1, o1, o1, o1, o1, o1, o1, o1, o1, o1, o0, o0, o0, o0, o0, o0, o0] rfl rfl (any_of HT_.out (by kernel_rfl)) (fun _ _ _ h => h) (Or.inr ⟨by rfl, rfl⟩) ?_ ?_
        rotate_left
        · simp only [Act.put, zH, zI, zJ, i64_w, i32_w]
          rfl
        refine pure_ (i := 20) (N := some 153) (v := undef) (a' := ?_) #[o1, o1, o1, o1, o1, o1, o1, o1, o1, o1, o1, o1, o1, o1, o1, o1, o1, o1, o1, o1, o1, o0, o0, o0, o0, o0, o0] rfl rfl (any_of HT_.out (by kernel_rfl)) (fun _ _ _ h => h) (Or.inr ⟨by rfl, rfl⟩) ?_ ?_
        rotate_left
        · simp only [Act.put, zH, zI, zJ, i64_w, i32_w]
          rfl
        refine pure_ (i := 21) (N := some 154) (v := undef) (a' := ?_) #[o1, o1, o1, o1, o1, o1, o1, o1, o1, o1, o1, o1, o1, o1, o1, o1, o1, o1, o1, o1, o1, o1, o0, o0, o0, o0, o0] rfl rfl (any_of HT_.out (by kernel_rfl)) (fun _ _ _ h => h) (Or.inr ⟨by rfl, rfl⟩) ?_ ?_
        rotate_left
        · simp only [Act.put, zH, zI, zJ, i64_w, i32_w]
          rfl
        refine pure_ (i := 22) (N := some 155) (v := undef) (a' := ?_) #[o1, o1, o1, o1, o1, o1, o1, o1, o1, o1, o1, o1, o1, o1, o1, o1, o1, o1, o1, o1, o1, o1, o1, o0, o0, o0, o0] rfl rfl (any_of HT_.out (by kernel_rfl)) (fun _ _ _ h => h) (Or.inr ⟨by rfl, rfl⟩) ?_ ?_
        rotate_left
        · simp only [Act.put, zH, zI, zJ, i64_w, i32_w]
          rfl
        refine pure_ (i := 23) (N := some 156) (v := undef) (a' := ?_) #[o1, o1, o1, o1, o1, o1, o1, o1, o1, o1, o1, o1, o1, o1, o1, o1, o1, o1, o1, o1, o1, o1, o1, o1, o0, o0, o0] rfl rfl (any_of HT_.out (by kernel_rfl)) (fun _ _ _ h => h) (Or.inr ⟨by rfl, rfl⟩) ?_ ?_
        rotate_left
        · simp only [Act.put, zH, zI, zJ, i64_w, i32_w]
          rfl
        refine pure_ (i := 24) (N := some 157) #[o1, o1, o1, o1, o1, o1, o1, o1, o1, o1, o1, o1, o1, o1, o1, o1, o1, o1, o1, o1, o1, o1, o1, o1, o1, o0, o0] rfl rfl (any_of HT_.out (by kernel_rfl)) (fun _ _ _ h => h) (Or.inl ⟨by rfl, qy⟩) qz ?_
        refine one_ (i := 25) (N := none) #[o1, o1, o1, o1, o1, o1, o1, o1, o1, o1, o1, o1, o1, o1, o1, o1, o1, o1, o1, o1, o1, o1, o1, o1, o1, o1, o0] rfl rfl (one_of HT_.out (by kernel_rfl)) (by decide) (fun K hK => ?_)
        have hs191 : w190.cell? ⟨gb103, 0, none⟩ = some (.string (⟨#[]⟩ : ByteArray)) := (zF BK103.out 0).trans rfl; have hfs191 := zG BK103.out 0; have hns191_0 := NB101_103.out; have hns191_1 := NB102_103.out
        have hms191_0 := NB103_101.out
        have hms191_1 := NB103_102.out
        have hs192 : w190.cell? ⟨gb103, 1, none⟩ = some (.int .i64 0) := (zF BK103.out 1).trans rfl; have hfs192 := zG BK103.out 1; have hns192_0 := NB101_103.out; have hns192_1 := NB102_103.out
        have hms192_0 := NB103_101.out
        have hms192_1 := NB103_102.out
        have hs193 : w190.cell? ⟨gb103, 2, none⟩ = some (.int .i64 0) := (zF BK103.out 2).trans rfl; have hfs193 := zG BK103.out 2; have hns193_0 := NB101_103.out; have hns193_1 := NB102_103.out
        have hms193_0 := NB103_101.out
        have hms193_1 := NB103_102.out
        refine skip_ (w1 := ?_) (by rfl) rfl ?_ ?_
        rotate_left
        · go_simp
          rfl
        refine hK.out _ _ ⟨((cell_far (p := ⟨gb103, _, none⟩) NB101_103.out _).trans (((cell_far (p := ⟨gb103, _, none⟩) NB101_103.out _).trans (((cell_far (p := ⟨gb103, _, none⟩) NB101_103.out _).trans (hHeld.1)))))), ((cell_far (p := ⟨gb103, _, none⟩) NB101_103.out _).trans (((cell_far (p := ⟨gb103, _, none⟩) NB101_103.out _).trans (((cell_far (p := ⟨gb103, _, none⟩) NB101_103.out _).trans (hHeld.2.1)))))), ((cell_far (p := ⟨gb103, _, none⟩) NB101_103.out _).trans (((cell_far (p := ⟨gb103, _, none⟩) NB101_103.out _).trans (((cell_far (p := ⟨gb103, _, none⟩) NB101_103.out _).trans (hHeld.2.2))))))⟩ (fun hHeld => ?_)
        clear hK K
        refine pure_ (i := 26) (N := some 7) #[o1, o1, o1, o1, o1, o1, o1, o1, o1, o1, o1, o1, o1, o1, o1, o1, o1, o1, o1, o1, o1, o1, o1, o1, o1, o1, o1] rfl rfl (any_of HT_.out (by kernel_rfl)) (fun _ _ _ h => h) (Or.inl ⟨by rfl, qy⟩) qz ?_
        refine done_ (done_of HT_.out (by kernel_rfl)) ?_
        try go_wp2
        refine bodyPost_ret (results_ct rfl _ _ gb103 47 #[.string x102000_3, .int .i64 x102001_3, .int .i64 x102002_3] (0, 0) _ rfl (qV BK103.out) Try.underlying47 rfl (by kernel_rfl)) rfl ?_
        exact ⟨qE, by repeat (first | (with_reducible first | exact HI0.out | apply IsS56.alloc | apply IsS56.drewN | apply IsS56.drew | refine IsS56.far ?_ NB0_101.out _ | refine IsS56.far ?_ NB0_102.out _ | refine IsS56.far ?_ NB0_103.out _) | exact HI0.out), qH HI0.out HB.out, qJ HK.out⟩
      replace c162 := Bool.eq_false_iff.mpr c162
      subst c162
      have H1 : (some (x102000_3, x102001_3, x102002_3, false, x1000_3, x1001_3, x1002_3, x1003_3)) = some (r1, r2, r3, r4, r5, r6, r7, r8) := by first | (rw [if_neg (show ¬ (false = true) by decide)] at H; exact H) | rfl
      clear H
      have H := H1
      clear H1
      simp only [zNq, zOq] at H
      obtain ⟨rfl, rfl, rfl, rfl, rfl, rfl, rfl, rfl⟩ := H
      try go_wp2_with (first | ((with_reducible refine zJq (f := 39) rfl ?_); refine goesL_ (some 129) rfl rfl Try.func39 (by kernel_rfl) rfl #[.pointer (some ⟨g, 0, none⟩)] rfl (by (try simp only [zR, zS, zT]); first | done | rfl | (simp only [zP, zQ]; rfl)) ?_; (with_reducible refine (strict_Reader_Err.calls g x1000_3 x1001_3 x1002_3 x1003_3 t181 x1000_3 x1001_3 x1002_3 x1003_3 w0 _ ?side1 ?side2 A160.out).mono ?_); (case side1 => repeat (first | (with_reducible first | exact HI0.out | apply IsS56.alloc | apply IsS56.drewN | apply IsS56.drew | refine IsS56.far ?_ NB0_101.out _ | refine IsS56.far ?_ NB0_102.out _ | refine IsS56.far ?_ NB0_103.out _) | exact HI0.out)); (case side2 => repeat (first | (with_reducible first | exact HB.out | apply zD | apply zB | apply zC | refine zE ?_ (IsS56.ge HI0.out) | refine zE ?_ GE101.out | refine zE ?_ GE102.out | refine zE ?_ GE103.out) | exact HB.out)); rintro e w194 ⟨rfl, hi, hb, hk⟩; refine ⟨_, rfl, ?_⟩; have n0_ := zA (KeepBut.blk hk (g' := gb101) (o := .cells #[.string x102000_3, .int .i64 x102001_3, .int .i64 x102002_3] 47 (0, 0)) (qW BK101.out) NB101_0.out (by simp)); have n1_ := zA (KeepBut.blk hk (g' := gb102) (o := .cells #[.int .i64 a2_0, .int .i64 a2_1, .int .i64 a2_2] 51 (0, 0)) (qW BK102.out) NB102_0.out (by simp)); have n2_ := zA (KeepBut.blk hk (g' := gb103) (o := .cells #[.string (⟨#[]⟩ : ByteArray), .int .i64 0, .int .i64 0] 47 (0, 0)) (qW BK103.out) NB103_0.out (by simp)); have n3_ := zA (zBq (qJ HK.out) hk (.inl rfl)); have n4_ := zA (hb); have n5_ := zA (hi); clear BK101 BK102 BK103 HK HB HI0; have BK101 := n0_; have BK102 := n1_; have BK103 := n2_; have HK := n3_; have HB := n4_; have HI0 := n5_; clear n0_ n1_ n2_ n3_ n4_ n5_; (try clear hb); (try clear hb2); (try clear hk); (try clear hi); (try simp only [errW_none, errW_some]); have CA161 := fun W => strict_Why.calls t181 t186 t187 W A161.out; try simp only [errW_none, errW_some] at CA161) | (go_at_call 38; (with_reducible refine (CA161 _).mono ?_); rintro e w195 ⟨rfl, hb⟩; have n0_ := zA (qX BK101.out hb); have n1_ := zA (qX BK102.out hb); have n2_ := zA (qX BK103.out hb); have n3_ := zA (IsS56.below (by repeat (first | (with_reducible first | exact HI0.out | apply IsS56.alloc | apply IsS56.drewN | apply IsS56.drew | refine IsS56.far ?_ NB0_101.out _ | refine IsS56.far ?_ NB0_102.out _ | refine IsS56.far ?_ NB0_103.out _) | exact HI0.out)) hb); have n4_ := zA (zBq (qJ HK.out) (KeepBut.of_below hb g none) (.inl rfl)); have n5_ := zA (zV (qH HI0.out HB.out) hb); clear BK101 BK102 BK103 HI0 HK HB; have BK101 := n0_; have BK102 := n1_; have BK103 := n2_; have HI0 := n3_; have HK := n4_; have HB := n5_; clear n0_ n1_ n2_ n3_ n4_ n5_; (try clear hb); (try clear hb2); (try clear hk); (try clear hi)))
      have n0_ := zA (zAq BK101.out); have n1_ := zA (zAq BK102.out); have n2_ := zA (zAq BK103.out); have n3_ := zA (IsS56.drew HI0.out); have n4_ := zA (zM HK.out); have n5_ := zA (zC HB.out); clear BK101; clear BK102; clear BK103; clear HI0; clear HK; clear HB; have BK101 := n0_; have BK102 := n1_; have BK103 := n2_; have HI0 := n3_; have HK := n4_; have HB := n5_; clear n0_ n1_ n2_ n3_ n4_ n5_
      refine start_ (n := 27) (S := fun w' => w'.cell? ⟨gb101, 0, none⟩ = some (.string x102000_3) ∧ w'.cell? ⟨gb101, 1, none⟩ = some (.int .i64 x102001_3) ∧ w'.cell? ⟨gb101, 2, none⟩ = some (.int .i64 x102002_3)) (ds := []) #[o0, o0, o0, o0, o0, o0, o0, o0, o0, o0, o0, o0, o0, o0, o0, o0, o0, o0, o0, o0, o0, o0, o0, o0, o0, o0, o0] (by kernel_rfl) rfl rfl ⟨(zF BK101.out 0).trans rfl, (zF BK101.out 1).trans rfl, (zF BK101.out 2).trans rfl⟩ (fun hHeld => ?_); refine with_tabW backhaullaw06_read.tab25 backhaullaw06_read.bits25 (fun HT_ HW_ => ?_)
      generalize w195.drew = w196 at BK101 BK102 BK103 HI0 HK HB hHeld ⊢
      refine pure_ (i := 1) (N := some 134) #[o0, o1, o0, o0, o0, o0, o0, o0, o0, o0, o0, o0, o0, o0, o0, o0, o0, o0, o0, o0, o0, o0, o0, o0, o0, o0, o0] rfl rfl (any_of HT_.out (by kernel_rfl)) (fun _ _ _ h => h) (Or.inl ⟨by rfl, qy⟩) qz ?_
      refine pure_ (i := 2) (N := some 135) #[o0, o1, o1, o0, o0, o0, o0, o0, o0, o0, o0, o0, o0, o0, o0, o0, o0, o0, o0, o0, o0, o0, o0, o0, o0, o0, o0] rfl rfl (any_of HT_.out (by kernel_rfl)) (fun _ _ _ h => h) (Or.inl ⟨by rfl, qy⟩) qz ?_
      refine pure_ (i := 3) (N := some 136) (v := undef) (a' := ?_) #[o0, o1, o1, o1, o0, o0, o0, o0, o0, o0, o0, o0, o0, o0, o0, o0, o0, o0, o0, o0, o0, o0, o0, o0, o0, o0, o0] rfl rfl (any_of HT_.out (by kernel_rfl)) (fun _ _ _ h => h) (Or.inr ⟨by rfl, rfl⟩) ?_ ?_
      rotate_left
      · simp only [Act.put, zH, zI, zJ, i64_w, i32_w]
        rfl
      refine pure_ (i := 4) (N := some 137) (v := undef) (a' := ?_) #[o0, o1, o1, o1, o1, o0, o0, o0, o0, o0, o0, o0, o0, o0, o0, o0, o0, o0, o0, o0, o0, o0, o0, o0, o0, o0, o0] rfl rfl (any_of HT_.out (by kernel_rfl)) (fun _ _ _ h => h) (Or.inr ⟨by rfl, rfl⟩) ?_ ?_
      rotate_left
      · simp only [Act.put, zH, zI, zJ, i64_w, i32_w]
        rfl
      refine pure_ (i := 5) (N := some 138) (v := undef) (a' := ?_) #[o0, o1, o1, o1, o1, o1, o0, o0, o0, o0, o0, o0, o0, o0, o0, o0, o0, o0, o0, o0, o0, o0, o0, o0, o0, o0, o0] rfl rfl (any_of HT_.out (by kernel_rfl)) (fun _ _ _ h => h) (Or.inr ⟨by rfl, rfl⟩) ?_ ?_
      rotate_left
      · simp only [Act.put, zH, zI, zJ, i64_w, i32_w]
        rfl
      refine pure_ (i := 6) (N := some 139) (v := undef) (a' := ?_) #[o0, o1, o1, o1, o1, o1, o1, o0, o0, o0, o0, o0, o0, o0, o0, o0, o0, o0, o0, o0, o0, o0, o0, o0, o0, o0, o0] rfl rfl (any_of HT_.out (by kernel_rfl)) (fun _ _ _ h => h) (Or.inr ⟨by rfl, rfl⟩) ?_ ?_
      rotate_left
      · simp only [Act.put, zH, zI, zJ, i64_w, i32_w]
        rfl
      refine pure_ (i := 7) (N := some 140) #[o0, o1, o1, o1, o1, o1, o1, o1, o0, o0, o0, o0, o0, o0, o0, o0, o0, o0, o0, o0, o0, o0, o0, o0, o0, o0, o0] rfl rfl (any_of HT_.out (by kernel_rfl)) (fun _ _ _ h => h) (Or.inl ⟨by rfl, qy⟩) qz ?_
      refine pure_ (i := 8) (N := some 141) #[o0, o1, o1, o1, o1, o1, o1, o1, o1, o0, o0, o0, o0, o0, o0, o0, o0, o0, o0, o0, o0, o0, o0, o0, o0, o0, o0] rfl rfl (any_of HT_.out (by kernel_rfl)) (fun _ _ _ h => h) (Or.inl ⟨by rfl, qy⟩) qz ?_
      refine pure_ (i := 9) (N := some 142) (v := undef) (a' := ?_) #[o0, o1, o1, o1, o1, o1, o1, o1, o1, o1, o0, o0, o0, o0, o0, o0, o0, o0, o0, o0, o0, o0, o0, o0, o0, o0, o0] rfl rfl (any_of HT_.out (by kernel_rfl)) (fun _ _ _ h => h) (Or.inr ⟨by rfl, rfl⟩) ?_ ?_
      rotate_left
      · simp only [Act.put, zH, zI, zJ, i64_w, i32_w]
        rfl
      refine pure_ (i := 10) (N := some 143) (v := undef) (a' := ?_) #[o0, o1, o1, o1, o1, o1, o1, o1, o1, o1, o1, o0, o0, o0, o0, o0, o0, o0, o0, o0, o0, o0, o0, o0, o0, o0, o0] rfl rfl (any_of HT_.out (by kernel_rfl)) (fun _ _ _ h => h) (Or.inr ⟨by rfl, rfl⟩) ?_ ?_
      rotate_left
      · simp only [Act.put, zH, zI, zJ, i64_w, i32_w]
        rfl
      refine pure_ (i := 11) (N := some 144) (v := undef) (a' := ?_) #[o0, o1, o1, o1, o1, o1, o1, o1, o1, o1, o1, o1, o0, o0, o0, o0, o0, o0, o0, o0, o0, o0, o0, o0, o0, o0, o0] rfl rfl (any_of HT_.out (by kernel_rfl)) (fun _ _ _ h => h) (Or.inr ⟨by rfl, rfl⟩) ?_ ?_
      rotate_left
      · simp only [Act.put, zH, zI, zJ, i64_w, i32_w]
        rfl
      refine pure_ (i := 12) (N := some 145) (v := undef) (a' := ?_) #[o0, o1, o1, o1, o1, o1, o1, o1, o1, o1, o1, o1, o1, o0, o0, o0, o0, o0, o0, o0, o0, o0, o0, o0, o0, o0, o0] rfl rfl (any_of HT_.out (by kernel_rfl)) (fun _ _ _ h => h) (Or.inr ⟨by rfl, rfl⟩) ?_ ?_
      rotate_left
      · simp only [Act.put, zH, zI, zJ, i64_w, i32_w]
        rfl
      refine pure_ (i := 13) (N := some 146) (v := undef) (a' := ?_) #[o0, o1, o1, o1, o1, o1, o1, o1, o1, o1, o1, o1, o1, o1, o0, o0, o0, o0, o0, o0, o0, o0, o0, o0, o0, o0, o0] rfl rfl (any_of HT_.out (by kernel_rfl)) (fun _ _ _ h => h) (Or.inr ⟨by rfl, rfl⟩) ?_ ?_
      rotate_left
      · simp only [Act.put, zH, zI, zJ, i64_w, i32_w]
        rfl
      refine pure_ (i := 14) (N := some 147) #[o0, o1, o1, o1, o1, o1, o1, o1, o1, o1, o1, o1, o1, o1, o1, o0, o0, o0, o0, o0, o0, o0, o0, o0, o0, o0, o0] rfl rfl (any_of HT_.out (by kernel_rfl)) (fun _ _ _ h => h) (Or.inl ⟨by rfl, qy⟩) qz ?_
      refine pure_ (i := 15) (N := some 148) #[o0, o1, o1, o1, o1, o1, o1, o1, o1, o1, o1, o1, o1, o1, o1, o1, o0, o0, o0, o0, o0, o0, o0, o0, o0, o0, o0] rfl rfl (any_of HT_.out (by kernel_rfl)) (fun _ _ _ h => h) (Or.inl ⟨by rfl, qy⟩) qz ?_
      refine pure_ (i := 16) (N := some 149) (v := undef) (a' := ?_) #[o0, o1, o1, o1, o1, o1, o1, o1, o1, o1, o1, o1, o1, o1, o1, o1, o1, o0, o0, o0, o0, o0, o0, o0, o0, o0, o0] rfl rfl (any_of HT_.out (by kernel_rfl)) (fun _ _ _ h => h) (Or.inr ⟨by rfl, rfl⟩) ?_ ?_
      rotate_left
      · simp only [Act.put, zH, zI, zJ, i64_w, i32_w]
        rfl
      refine pure_ (i := 17) (N := some 150) (v := undef) (a' := ?_) #[o0, o1, o1, o1, o1, o1, o1, o1, o1, o1, o1, o1, o1, o1, o1, o1, o1, o1, o0, o0, o0, o0, o0, o0, o0, o0, o0] rfl rfl (any_of HT_.out (by kernel_rfl)) (fun _ _ _ h => h) (Or.inr ⟨by rfl, rfl⟩) ?_ ?_
      rotate_left
      · simp only [Act.put, zH, zI, zJ, i64_w, i32_w]
        rfl
      refine pure_ (i := 18) (N := some 151) (v := undef) (a' := ?_) #[o0, o1, o1, o1, o1, o1, o1, o1, o1, o1, o1, o1, o1, o1, o1, o1, o1, o1, o1, o0, o0, o0, o0, o0, o0, o0, o0] rfl rfl (any_of HT_.out (by kernel_rfl)) (fun _ _ _ h => h) (Or.inr ⟨by rfl, rfl⟩) ?_ ?_
      rotate_left
      · simp only [Act.put, zH, zI, zJ, i64_w, i32_w]
        rfl
      refine pure_ (i := 19) (N := some 152) (v := undef) (a' := ?_) #[o0, o1, o1, o1, o1, o1, o1, o1, o1, o1, o1, o1, o1, o1, o1, o1, o1, o1, o1, o1, o0, o0, o0, o0, o0, o0, o0] rfl rfl (any_of HT_.out (by kernel_rfl)) (fun _ _ _ h => h) (Or.inr ⟨by rfl, rfl⟩) ?_ ?_
      rotate_left
      · simp only [Act.put, zH, zI, zJ, i64_w, i32_w]
        rfl
      refine pure_ (i := 20) (N := some 153) (v := undef) (a' := ?_) #[o0, o1, o1, o1, o1, o1, o1, o1, o1, o1, o1, o1, o1, o1, o1, o1, o1, o1, o1, o1, o1, o0, o0, o0, o0, o0, o0] rfl rfl (any_of HT_.out (by kernel_rfl)) (fun _ _ _ h => h) (Or.inr ⟨by rfl, rfl⟩) ?_ ?_
      rotate_left
      · simp only [Act.put, zH, zI, zJ, i64_w, i32_w]
        rfl
      refine pure_ (i := 21) (N := some 154) (v := undef) (a' := ?_) #[o0, o1, o1, o1, o1, o1, o1, o1, o1, o1, o1, o1, o1, o1, o1, o1, o1, o1, o1, o1, o1, o1, o0, o0, o0, o0, o0] rfl rfl (any_of HT_.out (by kernel_rfl)) (fun _ _ _ h => h) (Or.inr ⟨by rfl, rfl⟩) ?_ ?_
      rotate_left
      · simp only [Act.put, zH, zI, zJ, i64_w, i32_w]
        rfl
      refine pure_ (i := 22) (N := some 155) (v := undef) (a' := ?_) #[o0, o1, o1, o1, o1, o1, o1, o1, o1, o1, o1, o1, o1, o1, o1, o1, o1, o1, o1, o1, o1, o1, o1, o0, o0, o0, o0] rfl rfl (any_of HT_.out (by kernel_rfl)) (fun _ _ _ h => h) (Or.inr ⟨by rfl, rfl⟩) ?_ ?_
      rotate_left
      · simp only [Act.put, zH, zI, zJ, i64_w, i32_w]
        rfl
      refine pure_ (i := 23) (N := some 156) (v := undef) (a' := ?_) #[o0, o1, o1, o1, o1, o1, o1, o1, o1, o1, o1, o1, o1, o1, o1, o1, o1, o1, o1, o1, o1, o1, o1, o1, o0, o0, o0] rfl rfl (any_of HT_.out (by kernel_rfl)) (fun _ _ _ h => h) (Or.inr ⟨by rfl, rfl⟩) ?_ ?_
      rotate_left
      · simp only [Act.put, zH, zI, zJ, i64_w, i32_w]
        rfl
      refine pure_ (i := 24) (N := some 157) #[o0, o1, o1, o1, o1, o1, o1, o1, o1, o1, o1, o1, o1, o1, o1, o1, o1, o1, o1, o1, o1, o1, o1, o1, o1, o0, o0] rfl rfl (any_of HT_.out (by kernel_rfl)) (fun _ _ _ h => h) (Or.inl ⟨by rfl, qy⟩) qz ?_
      refine take_ (i := 0) (N := some 133) (v := ?_) (a' := ?_) #[o1, o1, o1, o1, o1, o1, o1, o1, o1, o1, o1, o1, o1, o1, o1, o1, o1, o1, o1, o1, o1, o1, o1, o1, o1, o0, o0] rfl rfl (take_ofW HT_.out HW_.out (by kernel_rfl)) (fun _ _ _ h => h) (Or.inl ⟨by rfl, ?_⟩) hHeld ?_ ?_
      rotate_left
      · rintro w' ⟨s0, s1, s2⟩
        go_simp
        with_reducible rfl
      rotate_left
      · simp only [Act.put, zH, zI, zJ, i64_w, i32_w]
        rfl
      refine one_ (i := 25) (N := none) #[o1, o1, o1, o1, o1, o1, o1, o1, o1, o1, o1, o1, o1, o1, o1, o1, o1, o1, o1, o1, o1, o1, o1, o1, o1, o1, o0] rfl rfl (one_of HT_.out (by kernel_rfl)) (by decide) (fun K hK => ?_)
      have hs197 : w196.cell? ⟨gb103, 0, none⟩ = some (.string (⟨#[]⟩ : ByteArray)) := (zF BK103.out 0).trans rfl; have hfs197 := zG BK103.out 0; have hns197_0 := NB101_103.out; have hns197_1 := NB102_103.out
      have hms197_0 := NB103_101.out
      have hms197_1 := NB103_102.out
      have hs198 : w196.cell? ⟨gb103, 1, none⟩ = some (.int .i64 0) := (zF BK103.out 1).trans rfl; have hfs198 := zG BK103.out 1; have hns198_0 := NB101_103.out; have hns198_1 := NB102_103.out
      have hms198_0 := NB103_101.out
      have hms198_1 := NB103_102.out
      have hs199 : w196.cell? ⟨gb103, 2, none⟩ = some (.int .i64 0) := (zF BK103.out 2).trans rfl; have hfs199 := zG BK103.out 2; have hns199_0 := NB101_103.out; have hns199_1 := NB102_103.out
      have hms199_0 := NB103_101.out
      have hms199_1 := NB103_102.out
      refine skip_ (w1 := ?_) (by rfl) rfl ?_ ?_
      rotate_left
      · go_simp
        rfl
      refine hK.out _ _ ⟨((cell_far (p := ⟨gb103, _, none⟩) NB101_103.out _).trans (((cell_far (p := ⟨gb103, _, none⟩) NB101_103.out _).trans (((cell_far (p := ⟨gb103, _, none⟩) NB101_103.out _).trans (hHeld.1)))))), ((cell_far (p := ⟨gb103, _, none⟩) NB101_103.out _).trans (((cell_far (p := ⟨gb103, _, none⟩) NB101_103.out _).trans (((cell_far (p := ⟨gb103, _, none⟩) NB101_103.out _).trans (hHeld.2.1)))))), ((cell_far (p := ⟨gb103, _, none⟩) NB101_103.out _).trans (((cell_far (p := ⟨gb103, _, none⟩) NB101_103.out _).trans (((cell_far (p := ⟨gb103, _, none⟩) NB101_103.out _).trans (hHeld.2.2))))))⟩ (fun hHeld => ?_)
      clear hK K
      refine pure_ (i := 26) (N := some 7) #[o1, o1, o1, o1, o1, o1, o1, o1, o1, o1, o1, o1, o1, o1, o1, o1, o1, o1, o1, o1, o1, o1, o1, o1, o1, o1, o1] rfl rfl (any_of HT_.out (by kernel_rfl)) (fun _ _ _ h => h) (Or.inl ⟨by rfl, qy⟩) qz ?_
      refine done_ (done_of HT_.out (by kernel_rfl)) ?_
      try go_wp2
      refine bodyPost_ret (results_ct rfl _ _ gb103 47 #[.string x102000_3, .int .i64 x102001_3, .int .i64 x102002_3] (0, 0) _ rfl (qV BK103.out) Try.underlying47 rfl (by kernel_rfl)) rfl ?_
      exact ⟨qE, by repeat (first | (with_reducible first | exact HI0.out | apply IsS56.alloc | apply IsS56.drewN | apply IsS56.drew | refine IsS56.far ?_ NB0_101.out _ | refine IsS56.far ?_ NB0_102.out _ | refine IsS56.far ?_ NB0_103.out _) | exact HI0.out), qH HI0.out HB.out, qJ HK.out⟩
end Go.Proofs.Ytakkhomjpflkbaa.F
