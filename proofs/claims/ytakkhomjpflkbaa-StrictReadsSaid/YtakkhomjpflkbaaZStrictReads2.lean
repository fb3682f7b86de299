-- merged and pruned by prune.py (the session's own program); its words go back to the kit's print
import Derived.Test.YtakkhomjpflkbaaProg
import Derived.Below
import Derived.Deep.Draws
import Derived.Deep.AppendLies
import Derived.Maps.AppendAt
import Derived.OwnWalk
import Derived.Laws.BytesArg
import Derived.Laws.MakeOwn
import Derived.Laws.OwnMore
import Derived.Deep.OwnRows
import Derived.Tactics
import Derived.Lib.ConvBytes
import Derived.Laws.Slices
import Derived.WalkKit
import Derived.KernelRfl
import Derived.RowKit3
import Derived.Deep.LoopGhost
import Derived.Deep.QuietTactic
import Derived.BigQuiet
import Derived.WideLaws
import Derived.Deep.DeepCutAuto
import Derived.Deep.CutBlock
import Derived.Deep.RegionHeld3
import Derived.Laws.Rows
import Derived.Lib.AppendStr
import Derived.ArgAppend
import Derived.Laws.IdiomCopy
import Derived.OrdersHeld
import Derived.Laws.BitsLemmas
import Derived.RowKit
import Derived.Laws.StructEq
import Derived.Deep.RegionLawGrows
import Derived.Lib.SliceRun
import Derived.Lib.OthersKept
import Derived.Lib.RuneCount
import Derived.Laws.Cover4
import Derived.Outline
import Derived.Shelf.Strings.Builder1
import Derived.Shelf.Strings.BuilderF
import Derived.Shelf.Strings.BuilderK
import Derived.Shelf.Utf8.RuneCount
import Derived.Shelf.Strings.Prefix
import Derived.Test.YtakkhomjpflkbaaZStrictReads1
namespace Go.Proofs.Ytakkhomjpflkbaa.F
open Go.RowKit Go.Proofs.YtakkhomjpflkbaaX Go.Proofs.YtakkhomjpflkbaaW.PrintWords Go.Proofs.YtakkhomjpflkbaaW.PrintLast Go.Proofs.YtakkhomjpflkbaaW.PrintMore
attribute [local go_sem] max2_int min2_int max_two min_two max_three min_three max_four min_four   
attribute [local go_sem high] str_geq str_leq str_gtr
set_option linter.unusedVariables false
set_option linter.unusedSimpArgs false
def strict_Reader_Serial.f (k : Nat) (s0_0 : ByteArray) (s0_1 : Int) (s0_2 : Option (Int × Int)) (s0_3 : Bool) : Option (ByteArray × ByteArray × Int × Option (Int × Int) × Bool) := (strict_Reader_goes.f s0_0 s0_1 s0_2 s0_3).bind fun bt101 => (if bt101.1 = true then ((octet_Take.f k bt101.2.1 bt101.2.2.1 16).bind fun bt106 => (if bt106.2.2 = 0 then ((serial_Check.f bt106.1).bind fun t110 => ((strict_Reader_done.f bt101.2.1 bt101.2.2.1 bt101.2.2.2.1 bt101.2.2.2.2 bt106.2.1 t110).bind fun bt111 => (if bt111.1 = true then (some (bt106.1, bt111.2.1, bt111.2.2.1, bt111.2.2.2.1, bt111.2.2.2.2)) else (some ((⟨#[]⟩ : ByteArray), bt111.2.1, bt111.2.2.1, bt111.2.2.2.1, bt111.2.2.2.2))))) else ((strict_Reader_done.f bt101.2.1 bt101.2.2.1 bt101.2.2.2.1 bt101.2.2.2.2 bt106.2.1 bt106.2.2).bind fun bt116 => (if bt116.1 = true then (some (bt106.1, bt116.2.1, bt116.2.2.1, bt116.2.2.2.1, bt116.2.2.2.2)) else (some ((⟨#[]⟩ : ByteArray), bt116.2.1, bt116.2.2.1, bt116.2.2.2.1, bt116.2.2.2.2)))))) else (some ((⟨#[]⟩ : ByteArray), bt101.2.1, bt101.2.2.1, bt101.2.2.2.1, bt101.2.2.2.2)))
theorem strict_Reader_Serial.mono : ∀ a0 a1 a2 a3 k, LeO (strict_Reader_Serial.f k a0 a1 a2 a3) (strict_Reader_Serial.f (k + 1) a0 a1 a2 a3) := by
  intro a0 a1 a2 a3 k
  unfold strict_Reader_Serial.f
  repeat' first
      | (with_reducible exact octet_Take.mono _ _ _ _)
      | (with_reducible exact LeO.refl _)
      | (with_reducible exact LeO.none _)
      | (with_reducible refine LeO.ite ?_ ?_)
      | (with_reducible refine LeO.bind ?_ (fun _ => ?_))
      | exact octet_Take.mono _ _ _ _
      | exact LeO.none _
      | refine LeO.ite ?_ ?_
      | refine LeO.bind ?_ (fun _ => ?_)
def strict_Reader_Serial.T3 : Bool × List (List Nat × List Nat) := (true, [([], []), ([0], [0]), ([1], [1]), ([2], [2]), ([], []), ([4], [4]), ([5], [5]), ([6], [6]), ([3, 7], [3, 7]), ([8], [8]), ([9], [9]), ([9], [9]), ([], []), ([12, 10, 8, 0, 1, 2, 3, 4, 5, 6, 7, 8, 9, 10, 12], [10, 12]), ([11, 13, 0, 1, 2, 3, 4, 5, 6, 7, 8, 9, 10, 11, 12, 13], [11])])
def strict_Reader_Serial.B3 : List Nat := [0, 1, 3, 7, 0, 16, 48, 112, 255, 511, 1023, 1023, 0, 6143, 16383]
theorem strict_Reader_Serial.tab3 : rtab .any (opsOf Try.f43 3) = strict_Reader_Serial.T3 := by kernel_rfl
theorem strict_Reader_Serial.bits3 : waitsOk strict_Reader_Serial.T3.2 strict_Reader_Serial.B3 = true := by kernel_rfl
set_option maxHeartbeats 8000000 in
set_option maxRecDepth 100000 in
theorem strict_Reader_Serial.calls (k : Nat) (g : Nat) (s0_0 : ByteArray) (s0_1 : Int) (s0_2 : Option (Int × Int)) (s0_3 : Bool) (r1 : ByteArray) (r2 : ByteArray) (r3 : Int) (r4 : Option (Int × Int)) (r5 : Bool) (w0 w : World) (hI : IsS56 w0 w g s0_0 s0_1 s0_2 s0_3) (hB : Below w0.heap.size w0 w) (h : strict_Reader_Serial.f k s0_0 s0_1 s0_2 s0_3 = some (r1, r2, r3, r4, r5)) :
    Calls Try.prog 43 #[.pointer (some ⟨g, 0, none⟩)] w fun e w' => e = .returned (.string r1) ∧ IsS56 w0 w' g r2 r3 r4 r5 ∧ Below w0.heap.size w0 w' ∧ KeepBut w w' g none := by
  have hu207 := Try.underlying207
  have HI0 := zA hI
  have HK := zA (KeepBut.refl w g none)
  have HL := zA hB.size
  clear hI
  have HW0 := zA hB.size
  have HB := zA hB
  clear hB
  have H : ((strict_Reader_goes.f s0_0 s0_1 s0_2 s0_3).bind fun bt101 => (if bt101.1 = true then ((octet_Take.f k bt101.2.1 bt101.2.2.1 16).bind fun bt106 => (if bt106.2.2 = 0 then ((serial_Check.f bt106.1).bind fun t110 => ((strict_Reader_done.f bt101.2.1 bt101.2.2.1 bt101.2.2.2.1 bt101.2.2.2.2 bt106.2.1 t110).bind fun bt111 => (if bt111.1 = true then (some (bt106.1, bt111.2.1, bt111.2.2.1, bt111.2.2.2.1, bt111.2.2.2.2)) else (some ((⟨#[]⟩ : ByteArray), bt111.2.1, bt111.2.2.1, bt111.2.2.2.1, bt111.2.2.2.2))))) else ((strict_Reader_done.f bt101.2.1 bt101.2.2.1 bt101.2.2.2.1 bt101.2.2.2.2 bt106.2.1 bt106.2.2).bind fun bt116 => (if bt116.1 = true then (some (bt106.1, bt116.2.1, bt116.2.2.1, bt116.2.2.2.1, bt116.2.2.2.2)) else (some ((⟨#[]⟩ : ByteArray), bt116.2.1, bt116.2.2.1, bt116.2.2.2.1, bt116.2.2.2.2)))))) else (some ((⟨#[]⟩ : ByteArray), bt101.2.1, bt101.2.2.1, bt101.2.2.2.1, bt101.2.2.2.2)))) = some (r1, r2, r3, r4, r5) := h
  clear h
  replace H := Option.bind_eq_some_iff.mp H
  obtain ⟨⟨t101, s0_0, s0_1, s0_2, s0_3⟩, A20, H⟩ := H
  obtain ⟨rfl, rfl, rfl, rfl⟩ := strict_Reader_goes.same A20
  replace H : (if t101 = true then ((octet_Take.f k s0_0 s0_1 16).bind fun bt106 => (if bt106.2.2 = 0 then ((serial_Check.f bt106.1).bind fun t110 => ((strict_Reader_done.f s0_0 s0_1 s0_2 s0_3 bt106.2.1 t110).bind fun bt111 => (if bt111.1 = true then (some (bt106.1, bt111.2.1, bt111.2.2.1, bt111.2.2.2.1, bt111.2.2.2.2)) else (some ((⟨#[]⟩ : ByteArray), bt111.2.1, bt111.2.2.1, bt111.2.2.2.1, bt111.2.2.2.2))))) else ((strict_Reader_done.f s0_0 s0_1 s0_2 s0_3 bt106.2.1 bt106.2.2).bind fun bt116 => (if bt116.1 = true then (some (bt106.1, bt116.2.1, bt116.2.2.1, bt116.2.2.2.1, bt116.2.2.2.2)) else (some ((⟨#[]⟩ : ByteArray), bt116.2.1, bt116.2.2.1, bt116.2.2.2.1, bt116.2.2.2.2)))))) else (some ((⟨#[]⟩ : ByteArray), s0_0, s0_1, s0_2, s0_3))) = some (r1, r2, r3, r4, r5) := H
  have A2 := zA A20
  clear A20
  by_cases c3 : t101 = true
  · subst c3
    have H1 : ((octet_Take.f k s0_0 s0_1 16).bind fun bt106 => (if bt106.2.2 = 0 then ((serial_Check.f bt106.1).bind fun t110 => ((strict_Reader_done.f s0_0 s0_1 s0_2 s0_3 bt106.2.1 t110).bind fun bt111 => (if bt111.1 = true then (some (bt106.1, bt111.2.1, bt111.2.2.1, bt111.2.2.2.1, bt111.2.2.2.2)) else (some ((⟨#[]⟩ : ByteArray), bt111.2.1, bt111.2.2.1, bt111.2.2.2.1, bt111.2.2.2.2))))) else ((strict_Reader_done.f s0_0 s0_1 s0_2 s0_3 bt106.2.1 bt106.2.2).bind fun bt116 => (if bt116.1 = true then (some (bt106.1, bt116.2.1, bt116.2.2.1, bt116.2.2.2.1, bt116.2.2.2.2)) else (some ((⟨#[]⟩ : ByteArray), bt116.2.1, bt116.2.2.1, bt116.2.2.2.1, bt116.2.2.2.2)))))) = some (r1, r2, r3, r4, r5) := by first | (rw [if_pos rfl] at H; exact H) | rfl
    clear H; have H := H1; clear H1; replace H := Option.bind_eq_some_iff.mp H; obtain ⟨⟨t106, t107, t108⟩, A40, H⟩ := H; replace H : (if t108 = 0 then ((serial_Check.f t106).bind fun t110 => ((strict_Reader_done.f s0_0 s0_1 s0_2 s0_3 t107 t110).bind fun bt111 => (if bt111.1 = true then (some (t106, bt111.2.1, bt111.2.2.1, bt111.2.2.2.1, bt111.2.2.2.2)) else (some ((⟨#[]⟩ : ByteArray), bt111.2.1, bt111.2.2.1, bt111.2.2.2.1, bt111.2.2.2.2))))) else ((strict_Reader_done.f s0_0 s0_1 s0_2 s0_3 t107 t108).bind fun bt116 => (if bt116.1 = true then (some (t106, bt116.2.1, bt116.2.2.1, bt116.2.2.2.1, bt116.2.2.2.2)) else (some ((⟨#[]⟩ : ByteArray), bt116.2.1, bt116.2.2.1, bt116.2.2.2.1, bt116.2.2.2.2))))) = some (r1, r2, r3, r4, r5) := H; have A4 := zA A40; clear A40; by_cases c5 : t108 = 0
    · rw [if_pos c5] at H
      have c5b0 : (t108 == 0) = true := beq_iff_eq.mpr c5; have c5b1 : (t108 != 0) = false := bne_eq_false_iff_eq.mpr c5; clear c5; replace H := Option.bind_eq_some_iff.mp H; obtain ⟨t110, A60, H⟩ := H; replace H : ((strict_Reader_done.f s0_0 s0_1 s0_2 s0_3 t107 t110).bind fun bt111 => (if bt111.1 = true then (some (t106, bt111.2.1, bt111.2.2.1, bt111.2.2.2.1, bt111.2.2.2.2)) else (some ((⟨#[]⟩ : ByteArray), bt111.2.1, bt111.2.2.1, bt111.2.2.2.1, bt111.2.2.2.2)))) = some (r1, r2, r3, r4, r5) := H; have A6 := zA A60; clear A60; replace H := Option.bind_eq_some_iff.mp H; obtain ⟨⟨t111, t112, t113, t114, t115⟩, A70, H⟩ := H; replace H : (if t111 = true then (some (t106, t112, t113, t114, t115)) else (some ((⟨#[]⟩ : ByteArray), t112, t113, t114, t115))) = some (r1, r2, r3, r4, r5) := H; have A7 := zA A70; clear A70; by_cases c8 : t111 = true
      · subst c8
        have H1 : (some (t106, t112, t113, t114, t115)) = some (r1, r2, r3, r4, r5) := by first | (rw [if_pos rfl] at H; exact H) | rfl
        clear H; have H := H1; clear H1; simp only [zNq, zOq] at H; obtain ⟨rfl, rfl, rfl, rfl, rfl⟩ := H; go_enter Try.func43, Try.ntmps43; try go_wp2_with (first | ((with_reducible refine zJq (f := 133) rfl ?_); refine goesL_ (some 6) rfl rfl Try.func133 (by kernel_rfl) rfl #[.pointer (some ⟨g, 0, none⟩)] rfl (by (try simp only [zR, zS, zT]); first | done | rfl | (simp only [zP, zQ]; rfl)) ?_; (with_reducible refine (strict_Reader_goes.calls g s0_0 s0_1 s0_2 s0_3 true s0_0 s0_1 s0_2 s0_3 w0 _ ?side1 ?side2 A2.out).mono ?_); (case side1 => repeat (first | (with_reducible first | exact HI0.out | apply IsS56.alloc | apply IsS56.drewN | apply IsS56.drew) | exact HI0.out)); (case side2 => repeat (first | (with_reducible first | exact HB.out | apply zD | apply zB | apply zC | refine zE ?_ (IsS56.ge HI0.out)) | exact HB.out)); rintro e w9 ⟨rfl, hi, hb, hk⟩; refine ⟨_, rfl, ?_⟩; have n0_ := zA (zBq (qJ HK.out) hk (.inl rfl)); have n1_ := zA (hb); have n2_ := zA (hi); clear HK HB HI0; have HK := n0_; have HB := n1_; have HI0 := n2_; clear n0_ n1_ n2_; (try clear hb); (try clear hb2); (try clear hk); (try clear hi); (try simp only [errW_none, errW_some]); have BKp0 : Aside0 (w9.heap[g]? = some (.cells #[.string s0_0, .int .i64 s0_1, errW s0_2, .bool s0_3] 56 (0, 0))) := ⟨by obtain ⟨hb_, _⟩ := HI0.out; exact hb_⟩))
        have n0_ := zA (zAq BKp0.out); have n1_ := zA (IsS56.drew HI0.out); have n2_ := zA (zM HK.out); have n3_ := zA (zC HB.out); clear BKp0; clear HI0; clear HK; clear HB; have BKp0 := n0_; have HI0 := n1_; have HK := n2_; have HB := n3_; clear n0_ n1_ n2_ n3_; refine start_ (n := 15) (S := fun w' => w'.cell? ⟨g, 0, none⟩ = some (.string s0_0) ∧ w'.cell? ⟨g, 1, none⟩ = some (.int .i64 s0_1) ∧ w'.cell? ⟨g, 2, none⟩ = some (errW s0_2) ∧ w'.cell? ⟨g, 3, none⟩ = some (.bool s0_3)) (ds := []) #[o0, o0, o0, o0, o0, o0, o0, o0, o0, o0, o0, o0, o0, o0, o0] (by kernel_rfl) rfl rfl ⟨(zF BKp0.out 0).trans rfl, (zF BKp0.out 1).trans rfl, (zF BKp0.out 2).trans rfl, (zF BKp0.out 3).trans rfl⟩ (fun hHeld => ?_); refine with_tabW strict_Reader_Serial.tab3 strict_Reader_Serial.bits3 (fun HT_ HW_ => ?_); generalize w9.drew = w10 at BKp0 HI0 HK HB hHeld ⊢; refine pure_ (i := 0) (N := some 9) #[o1, o0, o0, o0, o0, o0, o0, o0, o0, o0, o0, o0, o0, o0, o0] rfl rfl (any_of HT_.out (by kernel_rfl)) (fun _ _ _ h => h) (Or.inl ⟨by rfl, qy⟩) qz ?_; refine pure_ (i := 1) (N := some 10) #[o1, o1, o0, o0, o0, o0, o0, o0, o0, o0, o0, o0, o0, o0, o0] rfl rfl (any_of HT_.out (by kernel_rfl)) (fun _ _ _ h => h) (Or.inl ⟨by rfl, qy⟩) qz ?_; refine pure_ (i := 2) (N := some 11) #[o1, o1, o1, o0, o0, o0, o0, o0, o0, o0, o0, o0, o0, o0, o0] rfl rfl (any_of HT_.out (by kernel_rfl)) (fun _ _ _ h => h) (Or.inl ⟨by rfl, qy⟩) qz ?_; refine pure_ (i := 4) (N := some 13) #[o1, o1, o1, o0, o1, o0, o0, o0, o0, o0, o0, o0, o0, o0, o0] rfl rfl (any_of HT_.out (by kernel_rfl)) (fun _ _ _ h => h) (Or.inl ⟨by rfl, qy⟩) qz ?_; refine pure_ (i := 5) (N := some 14) #[o1, o1, o1, o0, o1, o1, o0, o0, o0, o0, o0, o0, o0, o0, o0] rfl rfl (any_of HT_.out (by kernel_rfl)) (fun _ _ _ h => h) (Or.inl ⟨by rfl, qy⟩) qz ?_; refine pure_ (i := 6) (N := some 15) #[o1, o1, o1, o0, o1, o1, o1, o0, o0, o0, o0, o0, o0, o0, o0] rfl rfl (any_of HT_.out (by kernel_rfl)) (fun _ _ _ h => h) (Or.inl ⟨by rfl, qy⟩) qz ?_; refine take_ (i := 3) (N := some 12) (v := ?_) (a' := ?_) #[o1, o1, o1, o1, o1, o1, o1, o0, o0, o0, o0, o0, o0, o0, o0] rfl rfl (take_ofW HT_.out HW_.out (by kernel_rfl)) (fun _ _ _ h => h) (Or.inl ⟨by rfl, ?_⟩) hHeld ?_ ?_; rotate_left
        · rintro w' ⟨s0, s1, s2, s3⟩
          go_simp; with_reducible rfl
        rotate_left
        · simp only [Act.put, zH, zI, zJ, i64_w, i32_w]
          rfl
        refine take_ (i := 7) (N := some 16) (v := ?_) (a' := ?_) #[o1, o1, o1, o1, o1, o1, o1, o1, o0, o0, o0, o0, o0, o0, o0] rfl rfl (take_ofW HT_.out HW_.out (by kernel_rfl)) (fun _ _ _ h => h) (Or.inl ⟨by rfl, ?_⟩) hHeld ?_ ?_; rotate_left
        · rintro w' ⟨s0, s1, s2, s3⟩
          go_simp; with_reducible rfl
        rotate_left
        · simp only [Act.put, zH, zI, zJ, i64_w, i32_w]
          rfl
        refine join_ (σ := Nat) 2 #[o1, o1, o1, o1, o1, o1, o1, o1, o1, o1, o1, o1, o1, o0, o0] (fun s_ => [(17, .tuple #[.agg #[.string t106, .int .i64 t107], .int .i64 t108]), (3, .pointer (some ⟨s_, 0, none⟩)), (8, .tuple #[.agg #[.string t106, .int .i64 t107], .int .i64 t108]), (18, .agg #[.string t106, .int .i64 t107]), (19, .int .i64 t108)]) (fun s_ w' => (w'.cell? ⟨g, 0, none⟩ = some (.string s0_0) ∧ w'.cell? ⟨g, 1, none⟩ = some (.int .i64 s0_1) ∧ w'.cell? ⟨g, 2, none⟩ = some (errW s0_2) ∧ w'.cell? ⟨g, 3, none⟩ = some (.bool s0_3)) ∧ (w'.heap[s_]? = some (.cells #[.string (⟨#[]⟩ : ByteArray), .int .i64 0] 207 (0, 0))) ∧ (w'.heap[g]? = some (.cells #[.string s0_0, .int .i64 s0_1, errW s0_2, .bool s0_3] 56 (0, 0))) ∧ (w.heap.size ≤ s_) ∧ (w0.heap.size ≤ s_) ∧ (g ≠ s_) ∧ (s_ ≠ g) ∧ (IsS56 w0 w' g s0_0 s0_1 s0_2 s0_3) ∧ (KeepBut w w' g none) ∧ (Below w0.heap.size w0 w')) ?_ ?_; rotate_left
        · intro hCont
          refine two_ (i := 8) (j := 12) (Ni := some 17) (Nj := some 3) #[o1, o1, o1, o1, o1, o1, o1, o1, o1, o0, o0, o0, o0, o0, o0] #[o1, o1, o1, o1, o1, o1, o1, o1, o0, o0, o0, o0, o1, o0, o0] rfl rfl rfl rfl (two_of HT_.out (by kernel_rfl)) (by decide) (by decide) (fun K hK => ?_) (fun K hK => ?_)
          · skip
            refine goes_ Try.func136 (by kernel_rfl) rfl #[.string s0_0, .int .i64 s0_1, .int .i64 16] (by rfl) rfl rfl (by (try simp only [zR, zS, zT]); first | done | rfl | (simp only [zP, zQ]; rfl)) ?_; with_reducible refine (octet_Take.calls k s0_0 s0_1 16 t106 t107 t108 _ A4.out).mono ?_
            rintro e w11 ⟨rfl, hb⟩; refine ⟨_, rfl, ?_⟩; have n0_ := zA (IsS56.below (by repeat (first | (with_reducible first | exact HI0.out | apply IsS56.alloc | apply IsS56.drewN | apply IsS56.drew | refine IsS56.far ?_ NB0_0.out _) | exact HI0.out)) hb); have n1_ := zA (qX BKp0.out hb); have n2_ := zA (zBq (qJ HK.out) (KeepBut.of_below hb g none) (.inl rfl)); have n3_ := zA (zV (qH HI0.out HB.out) hb); clear HI0; clear BKp0; clear HK; clear HB; have HI0 := n0_; have BKp0 := n1_; have HK := n2_; have HB := n3_; clear n0_ n1_ n2_ n3_; (try clear hb); (try clear hb2); (try clear hk); (try clear hi); refine hK.out _ _ ⟨(zF BKp0.out 0).trans rfl, (zF BKp0.out 1).trans rfl, (zF BKp0.out 2).trans rfl, (zF BKp0.out 3).trans rfl⟩ (fun hHeld => ?_); clear hK K; refine norm_ (a' := ?_) ?_ ?_; rotate_left
            · show Act.put _ (some 17) _ = _
              simp only [Act.put, zH, zI, zJ, i64_w, i32_w]; rfl
            refine pure_ (i := 9) (N := some 8) #[o1, o1, o1, o1, o1, o1, o1, o1, o1, o1, o0, o0, o0, o0, o0] rfl rfl (any_of HT_.out (by kernel_rfl)) (fun _ _ _ h => h) (Or.inl ⟨by rfl, qy⟩) qz ?_; refine pure_ (i := 10) (N := some 18) #[o1, o1, o1, o1, o1, o1, o1, o1, o1, o1, o1, o0, o0, o0, o0] rfl rfl (any_of HT_.out (by kernel_rfl)) (fun _ _ _ h => h) (Or.inl ⟨by rfl, qy⟩) qz ?_; refine pure_ (i := 11) (N := some 19) #[o1, o1, o1, o1, o1, o1, o1, o1, o1, o1, o1, o1, o0, o0, o0] rfl rfl (any_of HT_.out (by kernel_rfl)) (fun _ _ _ h => h) (Or.inl ⟨by rfl, qy⟩) qz ?_; refine one_ (i := 12) (N := some 3) #[o1, o1, o1, o1, o1, o1, o1, o1, o1, o1, o1, o1, o1, o0, o0] rfl rfl (one_of HT_.out (by kernel_rfl)) (by decide) (fun K hK => ?_); refine box_step ?hg (N := 3) ?hd (cs := #[.string (⟨#[]⟩ : ByteArray), .int .i64 0]) (t := 207) ?hr ?_; (case hd => rfl); (case hg => rfl); (case hr => first | (go_simp; done) | (go_simp; rfl)); intro gb109 hg w12 hbox hb; have n0_ := zA (IsS56.below (by repeat (first | (with_reducible first | exact HI0.out | apply IsS56.alloc | apply IsS56.drewN | apply IsS56.drew | refine IsS56.far ?_ NB0_0.out _) | exact HI0.out)) hb); have n1_ := zA (qX BKp0.out hb); have n2_ := zA (zBq (qJ HK.out) (KeepBut.of_below hb g none) (.inl rfl)); have n3_ := zA (zV (qH HI0.out HB.out) hb); have n4_ := zA (hbox); have n5_ := zA ((by rw [hg]; exact (keep_size (w := w) (g := g) (row := none) (qJ HK.out)) : w.heap.size ≤ gb109)); have n6_ := zA ((Nat.le_trans HW0.out (by rw [hg]; exact (keep_size (w := w) (g := g) (row := none) (qJ HK.out)) : w.heap.size ≤ gb109) : w0.heap.size ≤ gb109)); have n7_ := zA ((by rw [hg]; exact zLq (qL BKp0.out) : g ≠ gb109)); have n8_ := zA ((by rw [hg]; exact zMq (qL BKp0.out) : gb109 ≠ g)); have n9_ := zA ((by rw [hg]; exact zLq (IsS56.lt (show IsS56 w0 _ g s0_0 s0_1 s0_2 s0_3 from by repeat (first | (with_reducible first | exact HI0.out | apply IsS56.alloc | apply IsS56.drewN | apply IsS56.drew | refine IsS56.far ?_ NB0_0.out _) | exact HI0.out))) : g ≠ gb109)); have n10_ := zA ((by rw [hg]; exact zMq (IsS56.lt (show IsS56 w0 _ g s0_0 s0_1 s0_2 s0_3 from by repeat (first | (with_reducible first | exact HI0.out | apply IsS56.alloc | apply IsS56.drewN | apply IsS56.drew | refine IsS56.far ?_ NB0_0.out _) | exact HI0.out))) : gb109 ≠ g)); clear HI0; clear BKp0; clear HK; clear HB; have HI0 := n0_; have BKp0 := n1_; have HK := n2_; have HB := n3_; have BK109 := n4_; have GW109 := n5_; have GE109 := n6_; have NB0_109 := n7_; have NB109_0 := n8_; have NB0_109 := n9_; have NB109_0 := n10_; clear n0_ n1_ n2_ n3_ n4_ n5_ n6_ n7_ n8_ n9_ n10_; clear hb hbox hg; refine hK.out _ _ ⟨(zF BKp0.out 0).trans rfl, (zF BKp0.out 1).trans rfl, (zF BKp0.out 2).trans rfl, (zF BKp0.out 3).trans rfl⟩ (fun hHeld => ?_)
            clear hK K; refine norm_ (a' := ?_) ?_ ?_; rotate_left
            · show Act.put _ (some 3) _ = _
              simp only [Act.put, zH, zI, zJ, i64_w, i32_w]; rfl
            exact norm_ (by simp only [putAll, Act.put, zH, zI, zJ]) (hCont (gb109) _ ⟨hHeld, (qW BK109.out), (qW BKp0.out), GW109.out, GE109.out, NB0_109.out, NB109_0.out, (by repeat (first | (with_reducible first | exact HI0.out | apply IsS56.alloc | apply IsS56.drewN | apply IsS56.drew | refine IsS56.far ?_ NB0_0.out _ | refine IsS56.far ?_ NB0_109.out _) | exact HI0.out)), (qJ HK.out), (qH HI0.out HB.out)⟩)
          skip; refine box_step ?hg (N := 3) ?hd (cs := #[.string (⟨#[]⟩ : ByteArray), .int .i64 0]) (t := 207) ?hr ?_; (case hd => rfl); (case hg => rfl); (case hr => first | (go_simp; done) | (go_simp; rfl)); intro gb109 hg w11 hbox hb; have n0_ := zA (IsS56.below (by repeat (first | (with_reducible first | exact HI0.out | apply IsS56.alloc | apply IsS56.drewN | apply IsS56.drew | refine IsS56.far ?_ NB0_0.out _) | exact HI0.out)) hb); have n1_ := zA (qX BKp0.out hb); have n2_ := zA (zBq (qJ HK.out) (KeepBut.of_below hb g none) (.inl rfl)); have n3_ := zA (zV (qH HI0.out HB.out) hb); have n4_ := zA (hbox); have n5_ := zA ((by rw [hg]; exact (keep_size (w := w) (g := g) (row := none) (qJ HK.out)) : w.heap.size ≤ gb109)); have n6_ := zA ((Nat.le_trans HW0.out (by rw [hg]; exact (keep_size (w := w) (g := g) (row := none) (qJ HK.out)) : w.heap.size ≤ gb109) : w0.heap.size ≤ gb109)); have n7_ := zA ((by rw [hg]; exact zLq (qL BKp0.out) : g ≠ gb109)); have n8_ := zA ((by rw [hg]; exact zMq (qL BKp0.out) : gb109 ≠ g)); have n9_ := zA ((by rw [hg]; exact zLq (IsS56.lt (show IsS56 w0 _ g s0_0 s0_1 s0_2 s0_3 from by repeat (first | (with_reducible first | exact HI0.out | apply IsS56.alloc | apply IsS56.drewN | apply IsS56.drew | refine IsS56.far ?_ NB0_0.out _) | exact HI0.out))) : g ≠ gb109)); have n10_ := zA ((by rw [hg]; exact zMq (IsS56.lt (show IsS56 w0 _ g s0_0 s0_1 s0_2 s0_3 from by repeat (first | (with_reducible first | exact HI0.out | apply IsS56.alloc | apply IsS56.drewN | apply IsS56.drew | refine IsS56.far ?_ NB0_0.out _) | exact HI0.out))) : gb109 ≠ g)); clear HI0; clear BKp0; clear HK; clear HB; have HI0 := n0_; have BKp0 := n1_; have HK := n2_; have HB := n3_; have BK109 := n4_; have GW109 := n5_; have GE109 := n6_; have NB0_109 := n7_; have NB109_0 := n8_; have NB0_109 := n9_; have NB109_0 := n10_; clear n0_ n1_ n2_ n3_ n4_ n5_ n6_ n7_ n8_ n9_ n10_; clear hb hbox hg; refine hK.out _ _ ⟨(zF BKp0.out 0).trans rfl, (zF BKp0.out 1).trans rfl, (zF BKp0.out 2).trans rfl, (zF BKp0.out 3).trans rfl⟩ (fun hHeld => ?_); clear hK K; refine norm_ (a' := ?_) ?_ ?_; rotate_left
          · show Act.put _ (some 3) _ = _
            simp only [Act.put, zH, zI, zJ, i64_w, i32_w]; rfl
          refine one_ (i := 8) (N := some 17) #[o1, o1, o1, o1, o1, o1, o1, o1, o1, o0, o0, o0, o1, o0, o0] rfl rfl (one_of HT_.out (by kernel_rfl)) (by decide) (fun K hK => ?_); refine goes_ Try.func136 (by kernel_rfl) rfl #[.string s0_0, .int .i64 s0_1, .int .i64 16] (by rfl) rfl rfl (by (try simp only [zR, zS, zT]); first | done | rfl | (simp only [zP, zQ]; rfl)) ?_; with_reducible refine (octet_Take.calls k s0_0 s0_1 16 t106 t107 t108 _ A4.out).mono ?_
          rintro e w12 ⟨rfl, hb⟩; refine ⟨_, rfl, ?_⟩; have n0_ := zA (IsS56.below (by repeat (first | (with_reducible first | exact HI0.out | apply IsS56.alloc | apply IsS56.drewN | apply IsS56.drew | refine IsS56.far ?_ NB0_0.out _ | refine IsS56.far ?_ NB0_109.out _) | exact HI0.out)) hb); have n1_ := zA (qX BKp0.out hb); have n2_ := zA (qX BK109.out hb); have n3_ := zA (zBq (qJ HK.out) (KeepBut.of_below hb g none) (.inl rfl)); have n4_ := zA (zV (qH HI0.out HB.out) hb); clear HI0; clear BKp0; clear BK109; clear HK; clear HB; have HI0 := n0_; have BKp0 := n1_; have BK109 := n2_; have HK := n3_; have HB := n4_; clear n0_ n1_ n2_ n3_ n4_; (try clear hb); (try clear hb2); (try clear hk); (try clear hi); refine hK.out _ _ ⟨(zF BKp0.out 0).trans rfl, (zF BKp0.out 1).trans rfl, (zF BKp0.out 2).trans rfl, (zF BKp0.out 3).trans rfl⟩ (fun hHeld => ?_); clear hK K; refine norm_ (a' := ?_) ?_ ?_; rotate_left
          · show Act.put _ (some 17) _ = _
            simp only [Act.put, zH, zI, zJ, i64_w, i32_w]; rfl
          refine pure_ (i := 9) (N := some 8) #[o1, o1, o1, o1, o1, o1, o1, o1, o1, o1, o0, o0, o1, o0, o0] rfl rfl (any_of HT_.out (by kernel_rfl)) (fun _ _ _ h => h) (Or.inl ⟨by rfl, qy⟩) qz ?_; refine pure_ (i := 10) (N := some 18) #[o1, o1, o1, o1, o1, o1, o1, o1, o1, o1, o1, o0, o1, o0, o0] rfl rfl (any_of HT_.out (by kernel_rfl)) (fun _ _ _ h => h) (Or.inl ⟨by rfl, qy⟩) qz ?_; refine pure_ (i := 11) (N := some 19) #[o1, o1, o1, o1, o1, o1, o1, o1, o1, o1, o1, o1, o1, o0, o0] rfl rfl (any_of HT_.out (by kernel_rfl)) (fun _ _ _ h => h) (Or.inl ⟨by rfl, qy⟩) qz ?_; exact norm_ (by simp only [putAll, Act.put, zH, zI, zJ]) (hCont (gb109) _ ⟨hHeld, (qW BK109.out), (qW BKp0.out), GW109.out, GE109.out, NB0_109.out, NB109_0.out, (by repeat (first | (with_reducible first | exact HI0.out | apply IsS56.alloc | apply IsS56.drewN | apply IsS56.drew | refine IsS56.far ?_ NB0_0.out _ | refine IsS56.far ?_ NB0_109.out _) | exact HI0.out)), (qJ HK.out), (qH HI0.out HB.out)⟩)
        rintro gb109 w13 ⟨hS_, h0_, h1_, h2_, h3_, h4_, h5_, h6_, h7_, h8_⟩; have n0_ : Aside0 (w13.heap[gb109]? = some (.cells #[.string (⟨#[]⟩ : ByteArray), .int .i64 0] 207 (0, 0))) := ⟨h0_⟩
        have n1_ : Aside0 (w13.heap[g]? = some (.cells #[.string s0_0, .int .i64 s0_1, errW s0_2, .bool s0_3] 56 (0, 0))) := ⟨h1_⟩
        have n2_ : Aside0 (w.heap.size ≤ gb109) := ⟨h2_⟩
        have n3_ : Aside0 (w0.heap.size ≤ gb109) := ⟨h3_⟩
        have n4_ : Aside0 (g ≠ gb109) := ⟨h4_⟩
        have n5_ : Aside0 (gb109 ≠ g) := ⟨h5_⟩
        have n6_ : Aside0 (IsS56 w0 w13 g s0_0 s0_1 s0_2 s0_3) := ⟨h6_⟩
        have n7_ : Aside0 (KeepBut w w13 g none) := ⟨h7_⟩
        have n8_ : Aside0 (Below w0.heap.size w0 w13) := ⟨h8_⟩
        clear BKp0; clear HI0; clear HK; clear HB; clear h0_ h1_ h2_ h3_ h4_ h5_ h6_ h7_ h8_; have BK109 := n0_; have BKp0 := n1_; have GW109 := n2_; have GE109 := n3_; have NB0_109 := n4_; have NB109_0 := n5_; have HI0 := n6_; have HK := n7_; have HB := n8_; clear n0_ n1_ n2_ n3_ n4_ n5_ n6_ n7_ n8_; have hHeld : w13.cell? ⟨g, 0, none⟩ = some (.string s0_0) ∧ w13.cell? ⟨g, 1, none⟩ = some (.int .i64 s0_1) ∧ w13.cell? ⟨g, 2, none⟩ = some (errW s0_2) ∧ w13.cell? ⟨g, 3, none⟩ = some (.bool s0_3) := hS_; refine norm_ (a' := ?_) ?_ ?_; rotate_left
        · simp only [putAll, Act.put, zH, zI, zJ]
          rfl
        refine one_ (i := 13) (N := none) #[o1, o1, o1, o1, o1, o1, o1, o1, o1, o1, o1, o1, o1, o1, o0] rfl rfl (one_of HT_.out (by kernel_rfl)) (by decide) (fun K hK => ?_); have hs14 : w13.cell? ⟨gb109, 0, none⟩ = some (.string (⟨#[]⟩ : ByteArray)) := (zF BK109.out 0).trans rfl; have hfs14 := zG BK109.out 0; have hns14_0 := NB0_109.out; have hms14_0 := NB109_0.out; have hs15 : w13.cell? ⟨gb109, 1, none⟩ = some (.int .i64 0) := (zF BK109.out 1).trans rfl; have hfs15 := zG BK109.out 1; have hns15_0 := NB0_109.out; have hms15_0 := NB109_0.out; refine skip_ (w1 := ?_) (by rfl) rfl ?_ ?_; rotate_left
        · go_simp
          rfl
        refine hK.out _ _ ⟨((cell_far (p := ⟨gb109, _, none⟩) NB0_109.out _).trans (((cell_far (p := ⟨gb109, _, none⟩) NB0_109.out _).trans (hHeld.1)))), ((cell_far (p := ⟨gb109, _, none⟩) NB0_109.out _).trans (((cell_far (p := ⟨gb109, _, none⟩) NB0_109.out _).trans (hHeld.2.1)))), ((cell_far (p := ⟨gb109, _, none⟩) NB0_109.out _).trans (((cell_far (p := ⟨gb109, _, none⟩) NB0_109.out _).trans (hHeld.2.2.1)))), ((cell_far (p := ⟨gb109, _, none⟩) NB0_109.out _).trans (((cell_far (p := ⟨gb109, _, none⟩) NB0_109.out _).trans (hHeld.2.2.2))))⟩ (fun hHeld => ?_); clear hK K; refine pure_ (i := 14) (N := some 4) #[o1, o1, o1, o1, o1, o1, o1, o1, o1, o1, o1, o1, o1, o1, o1] rfl rfl (any_of HT_.out (by kernel_rfl)) (fun _ _ _ h => h) (Or.inl ⟨by rfl, qy⟩) qz ?_; refine done_ (done_of HT_.out (by kernel_rfl)) ?_; clear BKp0; have hnb16 := NB109_0.out; have hnc16 := NB0_109.out; obtain ⟨_, _, _, _⟩ := qc2f BK109.out; try go_wp2_with (first | ((with_reducible refine zJq (f := 137) rfl ?_); refine goesL_ (some 24) rfl rfl Try.func137 (by kernel_rfl) rfl #[.string t106] rfl (by (try simp only [zR, zS, zT]); first | done | rfl | (simp only [zP, zQ]; rfl)) ?_; (with_reducible refine (serial_Check.calls t106 t110 _ A6.out).mono ?_); rintro e w18 ⟨rfl, hb⟩; refine ⟨_, rfl, ?_⟩; have n0_ := zA (IsS56.below (show IsS56 w0 ((w13.setCell ⟨gb109, 0, none⟩ (.string t106)).setCell ⟨gb109, 1, none⟩ (.int .i64 t107)) g s0_0 s0_1 s0_2 s0_3 from by repeat (first | (with_reducible first | exact HI0.out | apply IsS56.alloc | apply IsS56.drewN | apply IsS56.drew | refine IsS56.far ?_ NB0_109.out _) | exact HI0.out)) hb); have n1_ := zA (zX (g := gb109) (o := .cells #[.string t106, .int .i64 t107] 207 (0, 0)) (qV BK109.out) hb); have n2_ := zA (zBq (qJ HK.out) (KeepBut.of_below hb g none) (.inl rfl)); have n3_ := zA (zV (qH HI0.out HB.out) hb); clear HI0 BK109 HK HB; have HI0 := n0_; have BK109 := n1_; have HK := n2_; have HB := n3_; clear n0_ n1_ n2_ n3_; (try clear hb); (try clear hb2); (try clear hk); (try clear hi); obtain ⟨_, _, _, _⟩ := qc2f BK109.out) | ((with_reducible refine zJq (f := 135) rfl ?_); refine goesL_ (some 29) rfl rfl Try.func135 (by kernel_rfl) rfl #[.pointer (some ⟨g, 0, none⟩), .int .i64 t107, .int .i64 t110] rfl (by (try simp only [zR, zS, zT]); first | done | rfl | (simp only [zP, zQ]; rfl)) ?_; (with_reducible refine (strict_Reader_done.calls g s0_0 s0_1 s0_2 s0_3 t107 t110 true t112 t113 t114 t115 w0 _ ?side1 ?side2 A7.out).mono ?_); (case side1 => repeat (first | (with_reducible first | exact HI0.out | apply IsS56.alloc | apply IsS56.drewN | apply IsS56.drew | refine IsS56.far ?_ NB0_109.out _) | exact HI0.out)); (case side2 => repeat (first | (with_reducible first | exact HB.out | apply zD | apply zB | apply zC | refine zE ?_ (IsS56.ge HI0.out) | refine zE ?_ GE109.out) | exact HB.out)); rintro e w20 ⟨rfl, hi, hb, hk⟩; refine ⟨_, rfl, ?_⟩; have n0_ := zA (KeepBut.blk hk (g' := gb109) (o := .cells #[.string t106, .int .i64 t107] 207 (0, 0)) (qW BK109.out) NB109_0.out (by simp)); have n1_ := zA (zBq (qJ HK.out) hk (.inl rfl)); have n2_ := zA (hb); have n3_ := zA (hi); clear BK109 HK HB HI0; have BK109 := n0_; have HK := n1_; have HB := n2_; have HI0 := n3_; clear n0_ n1_ n2_ n3_; (try clear hb); (try clear hb2); (try clear hk); (try clear hi); (try simp only [errW_none, errW_some]); obtain ⟨_, _, _, _⟩ := qc2f BK109.out))
        go_ret; exact ⟨qE, by repeat (first | (with_reducible first | exact HI0.out | apply IsS56.alloc | apply IsS56.drewN | apply IsS56.drew | refine IsS56.far ?_ NB0_109.out _) | exact HI0.out), qH HI0.out HB.out, qJ HK.out⟩
      replace c8 := Bool.eq_false_iff.mpr c8; subst c8; have H1 : (some ((⟨#[]⟩ : ByteArray), t112, t113, t114, t115)) = some (r1, r2, r3, r4, r5) := by first | (rw [if_neg (show ¬ (false = true) by decide)] at H; exact H) | rfl
      clear H; have H := H1; clear H1; simp only [zNq, zOq] at H; obtain ⟨rfl, rfl, rfl, rfl, rfl⟩ := H; go_enter Try.func43, Try.ntmps43; try go_wp2_with (first | ((with_reducible refine zJq (f := 133) rfl ?_); refine goesL_ (some 6) rfl rfl Try.func133 (by kernel_rfl) rfl #[.pointer (some ⟨g, 0, none⟩)] rfl (by (try simp only [zR, zS, zT]); first | done | rfl | (simp only [zP, zQ]; rfl)) ?_; (with_reducible refine (strict_Reader_goes.calls g s0_0 s0_1 s0_2 s0_3 true s0_0 s0_1 s0_2 s0_3 w0 _ ?side1 ?side2 A2.out).mono ?_); (case side1 => repeat (first | (with_reducible first | exact HI0.out | apply IsS56.alloc | apply IsS56.drewN | apply IsS56.drew) | exact HI0.out)); (case side2 => repeat (first | (with_reducible first | exact HB.out | apply zD | apply zB | apply zC | refine zE ?_ (IsS56.ge HI0.out)) | exact HB.out)); rintro e w22 ⟨rfl, hi, hb, hk⟩; refine ⟨_, rfl, ?_⟩; have n0_ := zA (zBq (qJ HK.out) hk (.inl rfl)); have n1_ := zA (hb); have n2_ := zA (hi); clear HK HB HI0; have HK := n0_; have HB := n1_; have HI0 := n2_; clear n0_ n1_ n2_; (try clear hb); (try clear hb2); (try clear hk); (try clear hi); (try simp only [errW_none, errW_some]); have BKp0 : Aside0 (w22.heap[g]? = some (.cells #[.string s0_0, .int .i64 s0_1, errW s0_2, .bool s0_3] 56 (0, 0))) := ⟨by obtain ⟨hb_, _⟩ := HI0.out; exact hb_⟩))
      have n0_ := zA (zAq BKp0.out); have n1_ := zA (IsS56.drew HI0.out); have n2_ := zA (zM HK.out); have n3_ := zA (zC HB.out); clear BKp0; clear HI0; clear HK; clear HB; have BKp0 := n0_; have HI0 := n1_; have HK := n2_; have HB := n3_; clear n0_ n1_ n2_ n3_; refine start_ (n := 15) (S := fun w' => w'.cell? ⟨g, 0, none⟩ = some (.string s0_0) ∧ w'.cell? ⟨g, 1, none⟩ = some (.int .i64 s0_1) ∧ w'.cell? ⟨g, 2, none⟩ = some (errW s0_2) ∧ w'.cell? ⟨g, 3, none⟩ = some (.bool s0_3)) (ds := []) #[o0, o0, o0, o0, o0, o0, o0, o0, o0, o0, o0, o0, o0, o0, o0] (by kernel_rfl) rfl rfl ⟨(zF BKp0.out 0).trans rfl, (zF BKp0.out 1).trans rfl, (zF BKp0.out 2).trans rfl, (zF BKp0.out 3).trans rfl⟩ (fun hHeld => ?_); refine with_tabW strict_Reader_Serial.tab3 strict_Reader_Serial.bits3 (fun HT_ HW_ => ?_); generalize w22.drew = w23 at BKp0 HI0 HK HB hHeld ⊢; refine pure_ (i := 0) (N := some 9) #[o1, o0, o0, o0, o0, o0, o0, o0, o0, o0, o0, o0, o0, o0, o0] rfl rfl (any_of HT_.out (by kernel_rfl)) (fun _ _ _ h => h) (Or.inl ⟨by rfl, qy⟩) qz ?_; refine pure_ (i := 1) (N := some 10) #[o1, o1, o0, o0, o0, o0, o0, o0, o0, o0, o0, o0, o0, o0, o0] rfl rfl (any_of HT_.out (by kernel_rfl)) (fun _ _ _ h => h) (Or.inl ⟨by rfl, qy⟩) qz ?_; refine pure_ (i := 2) (N := some 11) #[o1, o1, o1, o0, o0, o0, o0, o0, o0, o0, o0, o0, o0, o0, o0] rfl rfl (any_of HT_.out (by kernel_rfl)) (fun _ _ _ h => h) (Or.inl ⟨by rfl, qy⟩) qz ?_; refine pure_ (i := 4) (N := some 13) #[o1, o1, o1, o0, o1, o0, o0, o0, o0, o0, o0, o0, o0, o0, o0] rfl rfl (any_of HT_.out (by kernel_rfl)) (fun _ _ _ h => h) (Or.inl ⟨by rfl, qy⟩) qz ?_; refine pure_ (i := 5) (N := some 14) #[o1, o1, o1, o0, o1, o1, o0, o0, o0, o0, o0, o0, o0, o0, o0] rfl rfl (any_of HT_.out (by kernel_rfl)) (fun _ _ _ h => h) (Or.inl ⟨by rfl, qy⟩) qz ?_; refine pure_ (i := 6) (N := some 15) #[o1, o1, o1, o0, o1, o1, o1, o0, o0, o0, o0, o0, o0, o0, o0] rfl rfl (any_of HT_.out (by kernel_rfl)) (fun _ _ _ h => h) (Or.inl ⟨by rfl, qy⟩) qz ?_; refine take_ (i := 3) (N := some 12) (v := ?_) (a' := ?_) #[o1, o1, o1, o1, o1, o1, o1, o0, o0, o0, o0, o0, o0, o0, o0] rfl rfl (take_ofW HT_.out HW_.out (by kernel_rfl)) (fun _ _ _ h => h) (Or.inl ⟨by rfl, ?_⟩) hHeld ?_ ?_; rotate_left
      · rintro w' ⟨s0, s1, s2, s3⟩
        go_simp; with_reducible rfl
      rotate_left
      · simp only [Act.put, zH, zI, zJ, i64_w, i32_w]
        rfl
      refine take_ (i := 7) (N := some 16) (v := ?_) (a' := ?_) #[o1, o1, o1, o1, o1, o1, o1, o1, o0, o0, o0, o0, o0, o0, o0] rfl rfl (take_ofW HT_.out HW_.out (by kernel_rfl)) (fun _ _ _ h => h) (Or.inl ⟨by rfl, ?_⟩) hHeld ?_ ?_; rotate_left
      · rintro w' ⟨s0, s1, s2, s3⟩
        go_simp; with_reducible rfl
      rotate_left
      · simp only [Act.put, zH, zI, zJ, i64_w, i32_w]
        rfl
      refine join_ (σ := Nat) 2 #[o1, o1, o1, o1, o1, o1, o1, o1, o1, o1, o1, o1, o1, o0, o0] (fun s_ => [(17, .tuple #[.agg #[.string t106, .int .i64 t107], .int .i64 t108]), (3, .pointer (some ⟨s_, 0, none⟩)), (8, .tuple #[.agg #[.string t106, .int .i64 t107], .int .i64 t108]), (18, .agg #[.string t106, .int .i64 t107]), (19, .int .i64 t108)]) (fun s_ w' => (w'.cell? ⟨g, 0, none⟩ = some (.string s0_0) ∧ w'.cell? ⟨g, 1, none⟩ = some (.int .i64 s0_1) ∧ w'.cell? ⟨g, 2, none⟩ = some (errW s0_2) ∧ w'.cell? ⟨g, 3, none⟩ = some (.bool s0_3)) ∧ (w'.heap[s_]? = some (.cells #[.string (⟨#[]⟩ : ByteArray), .int .i64 0] 207 (0, 0))) ∧ (w'.heap[g]? = some (.cells #[.string s0_0, .int .i64 s0_1, errW s0_2, .bool s0_3] 56 (0, 0))) ∧ (w.heap.size ≤ s_) ∧ (w0.heap.size ≤ s_) ∧ (g ≠ s_) ∧ (s_ ≠ g) ∧ (IsS56 w0 w' g s0_0 s0_1 s0_2 s0_3) ∧ (KeepBut w w' g none) ∧ (Below w0.heap.size w0 w')) ?_ ?_; rotate_left
      · intro hCont
        refine two_ (i := 8) (j := 12) (Ni := some 17) (Nj := some 3) #[o1, o1, o1, o1, o1, o1, o1, o1, o1, o0, o0, o0, o0, o0, o0] #[o1, o1, o1, o1, o1, o1, o1, o1, o0, o0, o0, o0, o1, o0, o0] rfl rfl rfl rfl (two_of HT_.out (by kernel_rfl)) (by decide) (by decide) (fun K hK => ?_) (fun K hK => ?_)
        · skip
          refine goes_ Try.func136 (by kernel_rfl) rfl #[.string s0_0, .int .i64 s0_1, .int .i64 16] (by rfl) rfl rfl (by (try simp only [zR, zS, zT]); first | done | rfl | (simp only [zP, zQ]; rfl)) ?_; with_reducible refine (octet_Take.calls k s0_0 s0_1 16 t106 t107 t108 _ A4.out).mono ?_
          rintro e w24 ⟨rfl, hb⟩; refine ⟨_, rfl, ?_⟩; have n0_ := zA (IsS56.below (by repeat (first | (with_reducible first | exact HI0.out | apply IsS56.alloc | apply IsS56.drewN | apply IsS56.drew | refine IsS56.far ?_ NB0_0.out _) | exact HI0.out)) hb); have n1_ := zA (qX BKp0.out hb); have n2_ := zA (zBq (qJ HK.out) (KeepBut.of_below hb g none) (.inl rfl)); have n3_ := zA (zV (qH HI0.out HB.out) hb); clear HI0; clear BKp0; clear HK; clear HB; have HI0 := n0_; have BKp0 := n1_; have HK := n2_; have HB := n3_; clear n0_ n1_ n2_ n3_; (try clear hb); (try clear hb2); (try clear hk); (try clear hi); refine hK.out _ _ ⟨(zF BKp0.out 0).trans rfl, (zF BKp0.out 1).trans rfl, (zF BKp0.out 2).trans rfl, (zF BKp0.out 3).trans rfl⟩ (fun hHeld => ?_); clear hK K; refine norm_ (a' := ?_) ?_ ?_; rotate_left
          · show Act.put _ (some 17) _ = _
            simp only [Act.put, zH, zI, zJ, i64_w, i32_w]; rfl
          refine pure_ (i := 9) (N := some 8) #[o1, o1, o1, o1, o1, o1, o1, o1, o1, o1, o0, o0, o0, o0, o0] rfl rfl (any_of HT_.out (by kernel_rfl)) (fun _ _ _ h => h) (Or.inl ⟨by rfl, qy⟩) qz ?_; refine pure_ (i := 10) (N := some 18) #[o1, o1, o1, o1, o1, o1, o1, o1, o1, o1, o1, o0, o0, o0, o0] rfl rfl (any_of HT_.out (by kernel_rfl)) (fun _ _ _ h => h) (Or.inl ⟨by rfl, qy⟩) qz ?_; refine pure_ (i := 11) (N := some 19) #[o1, o1, o1, o1, o1, o1, o1, o1, o1, o1, o1, o1, o0, o0, o0] rfl rfl (any_of HT_.out (by kernel_rfl)) (fun _ _ _ h => h) (Or.inl ⟨by rfl, qy⟩) qz ?_; refine one_ (i := 12) (N := some 3) #[o1, o1, o1, o1, o1, o1, o1, o1, o1, o1, o1, o1, o1, o0, o0] rfl rfl (one_of HT_.out (by kernel_rfl)) (by decide) (fun K hK => ?_); refine box_step ?hg (N := 3) ?hd (cs := #[.string (⟨#[]⟩ : ByteArray), .int .i64 0]) (t := 207) ?hr ?_; (case hd => rfl); (case hg => rfl); (case hr => first | (go_simp; done) | (go_simp; rfl)); intro gb109 hg w25 hbox hb; have n0_ := zA (IsS56.below (by repeat (first | (with_reducible first | exact HI0.out | apply IsS56.alloc | apply IsS56.drewN | apply IsS56.drew | refine IsS56.far ?_ NB0_0.out _) | exact HI0.out)) hb); have n1_ := zA (qX BKp0.out hb); have n2_ := zA (zBq (qJ HK.out) (KeepBut.of_below hb g none) (.inl rfl)); have n3_ := zA (zV (qH HI0.out HB.out) hb); have n4_ := zA (hbox); have n5_ := zA ((by rw [hg]; exact (keep_size (w := w) (g := g) (row := none) (qJ HK.out)) : w.heap.size ≤ gb109)); have n6_ := zA ((Nat.le_trans HW0.out (by rw [hg]; exact (keep_size (w := w) (g := g) (row := none) (qJ HK.out)) : w.heap.size ≤ gb109) : w0.heap.size ≤ gb109)); have n7_ := zA ((by rw [hg]; exact zLq (qL BKp0.out) : g ≠ gb109)); have n8_ := zA ((by rw [hg]; exact zMq (qL BKp0.out) : gb109 ≠ g)); have n9_ := zA ((by rw [hg]; exact zLq (IsS56.lt (show IsS56 w0 _ g s0_0 s0_1 s0_2 s0_3 from by repeat (first | (with_reducible first | exact HI0.out | apply IsS56.alloc | apply IsS56.drewN | apply IsS56.drew | refine IsS56.far ?_ NB0_0.out _) | exact HI0.out))) : g ≠ gb109)); have n10_ := zA ((by rw [hg]; exact zMq (IsS56.lt (show IsS56 w0 _ g s0_0 s0_1 s0_2 s0_3 from by repeat (first | (with_reducible first | exact HI0.out | apply IsS56.alloc | apply IsS56.drewN | apply IsS56.drew | refine IsS56.far ?_ NB0_0.out _) | exact HI0.out))) : gb109 ≠ g)); clear HI0; clear BKp0; clear HK; clear HB; have HI0 := n0_; have BKp0 := n1_; have HK := n2_; have HB := n3_; have BK109 := n4_; have GW109 := n5_; have GE109 := n6_; have NB0_109 := n7_; have NB109_0 := n8_; have NB0_109 := n9_; have NB109_0 := n10_; clear n0_ n1_ n2_ n3_ n4_ n5_ n6_ n7_ n8_ n9_ n10_; clear hb hbox hg; refine hK.out _ _ ⟨(zF BKp0.out 0).trans rfl, (zF BKp0.out 1).trans rfl, (zF BKp0.out 2).trans rfl, (zF BKp0.out 3).trans rfl⟩ (fun hHeld => ?_)
          clear hK K; refine norm_ (a' := ?_) ?_ ?_; rotate_left
          · show Act.put _ (some 3) _ = _
            simp only [Act.put, zH, zI, zJ, i64_w, i32_w]; rfl
          exact norm_ (by simp only [putAll, Act.put, zH, zI, zJ]) (hCont (gb109) _ ⟨hHeld, (qW BK109.out), (qW BKp0.out), GW109.out, GE109.out, NB0_109.out, NB109_0.out, (by repeat (first | (with_reducible first | exact HI0.out | apply IsS56.alloc | apply IsS56.drewN | apply IsS56.drew | refine IsS56.far ?_ NB0_0.out _ | refine IsS56.far ?_ NB0_109.out _) | exact HI0.out)), (qJ HK.out), (qH HI0.out HB.out)⟩)
        skip; refine box_step ?hg (N := 3) ?hd (cs := #[.string (⟨#[]⟩ : ByteArray), .int .i64 0]) (t := 207) ?hr ?_; (case hd => rfl); (case hg => rfl); (case hr => first | (go_simp; done) | (go_simp; rfl)); intro gb109 hg w24 hbox hb; have n0_ := zA (IsS56.below (by repeat (first | (with_reducible first | exact HI0.out | apply IsS56.alloc | apply IsS56.drewN | apply IsS56.drew | refine IsS56.far ?_ NB0_0.out _) | exact HI0.out)) hb); have n1_ := zA (qX BKp0.out hb); have n2_ := zA (zBq (qJ HK.out) (KeepBut.of_below hb g none) (.inl rfl)); have n3_ := zA (zV (qH HI0.out HB.out) hb); have n4_ := zA (hbox); have n5_ := zA ((by rw [hg]; exact (keep_size (w := w) (g := g) (row := none) (qJ HK.out)) : w.heap.size ≤ gb109)); have n6_ := zA ((Nat.le_trans HW0.out (by rw [hg]; exact (keep_size (w := w) (g := g) (row := none) (qJ HK.out)) : w.heap.size ≤ gb109) : w0.heap.size ≤ gb109)); have n7_ := zA ((by rw [hg]; exact zLq (qL BKp0.out) : g ≠ gb109)); have n8_ := zA ((by rw [hg]; exact zMq (qL BKp0.out) : gb109 ≠ g)); have n9_ := zA ((by rw [hg]; exact zLq (IsS56.lt (show IsS56 w0 _ g s0_0 s0_1 s0_2 s0_3 from by repeat (first | (with_reducible first | exact HI0.out | apply IsS56.alloc | apply IsS56.drewN | apply IsS56.drew | refine IsS56.far ?_ NB0_0.out _) | exact HI0.out))) : g ≠ gb109)); have n10_ := zA ((by rw [hg]; exact zMq (IsS56.lt (show IsS56 w0 _ g s0_0 s0_1 s0_2 s0_3 from by repeat (first | (with_reducible first | exact HI0.out | apply IsS56.alloc | apply IsS56.drewN | apply IsS56.drew | refine IsS56.far ?_ NB0_0.out _) | exact HI0.out))) : gb109 ≠ g)); clear HI0; clear BKp0; clear HK; clear HB; have HI0 := n0_; have BKp0 := n1_; have HK := n2_; have HB := n3_; have BK109 := n4_; have GW109 := n5_; have GE109 := n6_; have NB0_109 := n7_; have NB109_0 := n8_; have NB0_109 := n9_; have NB109_0 := n10_; clear n0_ n1_ n2_ n3_ n4_ n5_ n6_ n7_ n8_ n9_ n10_; clear hb hbox hg; refine hK.out _ _ ⟨(zF BKp0.out 0).trans rfl, (zF BKp0.out 1).trans rfl, (zF BKp0.out 2).trans rfl, (zF BKp0.out 3).trans rfl⟩ (fun hHeld => ?_); clear hK K; refine norm_ (a' := ?_) ?_ ?_; rotate_left
        · show Act.put _ (some 3) _ = _
          simp only [Act.put, zH, zI, zJ, i64_w, i32_w]; rfl
        refine one_ (i := 8) (N := some 17) #[o1, o1, o1, o1, o1, o1, o1, o1, o1, o0, o0, o0, o1, o0, o0] rfl rfl (one_of HT_.out (by kernel_rfl)) (by decide) (fun K hK => ?_); refine goes_ Try.func136 (by kernel_rfl) rfl #[.string s0_0, .int .i64 s0_1, .int .i64 16] (by rfl) rfl rfl (by (try simp only [zR, zS, zT]); first | done | rfl | (simp only [zP, zQ]; rfl)) ?_; with_reducible refine (octet_Take.calls k s0_0 s0_1 16 t106 t107 t108 _ A4.out).mono ?_
        rintro e w25 ⟨rfl, hb⟩; refine ⟨_, rfl, ?_⟩; have n0_ := zA (IsS56.below (by repeat (first | (with_reducible first | exact HI0.out | apply IsS56.alloc | apply IsS56.drewN | apply IsS56.drew | refine IsS56.far ?_ NB0_0.out _ | refine IsS56.far ?_ NB0_109.out _) | exact HI0.out)) hb); have n1_ := zA (qX BKp0.out hb); have n2_ := zA (qX BK109.out hb); have n3_ := zA (zBq (qJ HK.out) (KeepBut.of_below hb g none) (.inl rfl)); have n4_ := zA (zV (qH HI0.out HB.out) hb); clear HI0; clear BKp0; clear BK109; clear HK; clear HB; have HI0 := n0_; have BKp0 := n1_; have BK109 := n2_; have HK := n3_; have HB := n4_; clear n0_ n1_ n2_ n3_ n4_; (try clear hb); (try clear hb2); (try clear hk); (try clear hi); refine hK.out _ _ ⟨(zF BKp0.out 0).trans rfl, (zF BKp0.out 1).trans rfl, (zF BKp0.out 2).trans rfl, (zF BKp0.out 3).trans rfl⟩ (fun hHeld => ?_); clear hK K; refine norm_ (a' := ?_) ?_ ?_; rotate_left
        · show Act.put _ (some 17) _ = _
          simp only [Act.put, zH, zI, zJ, i64_w, i32_w]; rfl
        refine pure_ (i := 9) (N := some 8) #[o1, o1, o1, o1, o1, o1, o1, o1, o1, o1, o0, o0, o1, o0, o0] rfl rfl (any_of HT_.out (by kernel_rfl)) (fun _ _ _ h => h) (Or.inl ⟨by rfl, qy⟩) qz ?_; refine pure_ (i := 10) (N := some 18) #[o1, o1, o1, o1, o1, o1, o1, o1, o1, o1, o1, o0, o1, o0, o0] rfl rfl (any_of HT_.out (by kernel_rfl)) (fun _ _ _ h => h) (Or.inl ⟨by rfl, qy⟩) qz ?_; refine pure_ (i := 11) (N := some 19) #[o1, o1, o1, o1, o1, o1, o1, o1, o1, o1, o1, o1, o1, o0, o0] rfl rfl (any_of HT_.out (by kernel_rfl)) (fun _ _ _ h => h) (Or.inl ⟨by rfl, qy⟩) qz ?_; exact norm_ (by simp only [putAll, Act.put, zH, zI, zJ]) (hCont (gb109) _ ⟨hHeld, (qW BK109.out), (qW BKp0.out), GW109.out, GE109.out, NB0_109.out, NB109_0.out, (by repeat (first | (with_reducible first | exact HI0.out | apply IsS56.alloc | apply IsS56.drewN | apply IsS56.drew | refine IsS56.far ?_ NB0_0.out _ | refine IsS56.far ?_ NB0_109.out _) | exact HI0.out)), (qJ HK.out), (qH HI0.out HB.out)⟩)
      rintro gb109 w26 ⟨hS_, h0_, h1_, h2_, h3_, h4_, h5_, h6_, h7_, h8_⟩; have n0_ : Aside0 (w26.heap[gb109]? = some (.cells #[.string (⟨#[]⟩ : ByteArray), .int .i64 0] 207 (0, 0))) := ⟨h0_⟩
      have n1_ : Aside0 (w26.heap[g]? = some (.cells #[.string s0_0, .int .i64 s0_1, errW s0_2, .bool s0_3] 56 (0, 0))) := ⟨h1_⟩
      have n2_ : Aside0 (w.heap.size ≤ gb109) := ⟨h2_⟩
      have n3_ : Aside0 (w0.heap.size ≤ gb109) := ⟨h3_⟩
      have n4_ : Aside0 (g ≠ gb109) := ⟨h4_⟩
      have n5_ : Aside0 (gb109 ≠ g) := ⟨h5_⟩
      have n6_ : Aside0 (IsS56 w0 w26 g s0_0 s0_1 s0_2 s0_3) := ⟨h6_⟩
      have n7_ : Aside0 (KeepBut w w26 g none) := ⟨h7_⟩
      have n8_ : Aside0 (Below w0.heap.size w0 w26) := ⟨h8_⟩
      clear BKp0; clear HI0; clear HK; clear HB; clear h0_ h1_ h2_ h3_ h4_ h5_ h6_ h7_ h8_; have BK109 := n0_; have BKp0 := n1_; have GW109 := n2_; have GE109 := n3_; have NB0_109 := n4_; have NB109_0 := n5_; have HI0 := n6_; have HK := n7_; have HB := n8_; clear n0_ n1_ n2_ n3_ n4_ n5_ n6_ n7_ n8_; have hHeld : w26.cell? ⟨g, 0, none⟩ = some (.string s0_0) ∧ w26.cell? ⟨g, 1, none⟩ = some (.int .i64 s0_1) ∧ w26.cell? ⟨g, 2, none⟩ = some (errW s0_2) ∧ w26.cell? ⟨g, 3, none⟩ = some (.bool s0_3) := hS_; refine norm_ (a' := ?_) ?_ ?_; rotate_left
      · simp only [putAll, Act.put, zH, zI, zJ]
        rfl
      refine one_ (i := 13) (N := none) #[o1, o1, o1, o1, o1, o1, o1, o1, o1, o1, o1, o1, o1, o1, o0] rfl rfl (one_of HT_.out (by kernel_rfl)) (by decide) (fun K hK => ?_); have hs27 : w26.cell? ⟨gb109, 0, none⟩ = some (.string (⟨#[]⟩ : ByteArray)) := (zF BK109.out 0).trans rfl; have hfs27 := zG BK109.out 0; have hns27_0 := NB0_109.out; have hms27_0 := NB109_0.out; have hs28 : w26.cell? ⟨gb109, 1, none⟩ = some (.int .i64 0) := (zF BK109.out 1).trans rfl; have hfs28 := zG BK109.out 1; have hns28_0 := NB0_109.out; have hms28_0 := NB109_0.out; refine skip_ (w1 := ?_) (by rfl) rfl ?_ ?_; rotate_left
      · go_simp
        rfl
      refine hK.out _ _ ⟨((cell_far (p := ⟨gb109, _, none⟩) NB0_109.out _).trans (((cell_far (p := ⟨gb109, _, none⟩) NB0_109.out _).trans (hHeld.1)))), ((cell_far (p := ⟨gb109, _, none⟩) NB0_109.out _).trans (((cell_far (p := ⟨gb109, _, none⟩) NB0_109.out _).trans (hHeld.2.1)))), ((cell_far (p := ⟨gb109, _, none⟩) NB0_109.out _).trans (((cell_far (p := ⟨gb109, _, none⟩) NB0_109.out _).trans (hHeld.2.2.1)))), ((cell_far (p := ⟨gb109, _, none⟩) NB0_109.out _).trans (((cell_far (p := ⟨gb109, _, none⟩) NB0_109.out _).trans (hHeld.2.2.2))))⟩ (fun hHeld => ?_); clear hK K; refine pure_ (i := 14) (N := some 4) #[o1, o1, o1, o1, o1, o1, o1, o1, o1, o1, o1, o1, o1, o1, o1] rfl rfl (any_of HT_.out (by kernel_rfl)) (fun _ _ _ h => h) (Or.inl ⟨by rfl, qy⟩) qz ?_; refine done_ (done_of HT_.out (by kernel_rfl)) ?_; clear BKp0; have hnb29 := NB109_0.out; have hnc29 := NB0_109.out; obtain ⟨_, _, _, _⟩ := qc2f BK109.out; try go_wp2_with (first | ((with_reducible refine zJq (f := 137) rfl ?_); refine goesL_ (some 24) rfl rfl Try.func137 (by kernel_rfl) rfl #[.string t106] rfl (by (try simp only [zR, zS, zT]); first | done | rfl | (simp only [zP, zQ]; rfl)) ?_; (with_reducible refine (serial_Check.calls t106 t110 _ A6.out).mono ?_); rintro e w31 ⟨rfl, hb⟩; refine ⟨_, rfl, ?_⟩; have n0_ := zA (IsS56.below (show IsS56 w0 ((w26.setCell ⟨gb109, 0, none⟩ (.string t106)).setCell ⟨gb109, 1, none⟩ (.int .i64 t107)) g s0_0 s0_1 s0_2 s0_3 from by repeat (first | (with_reducible first | exact HI0.out | apply IsS56.alloc | apply IsS56.drewN | apply IsS56.drew | refine IsS56.far ?_ NB0_109.out _) | exact HI0.out)) hb); have n1_ := zA (zX (g := gb109) (o := .cells #[.string t106, .int .i64 t107] 207 (0, 0)) (qV BK109.out) hb); have n2_ := zA (zBq (qJ HK.out) (KeepBut.of_below hb g none) (.inl rfl)); have n3_ := zA (zV (qH HI0.out HB.out) hb); clear HI0 BK109 HK HB; have HI0 := n0_; have BK109 := n1_; have HK := n2_; have HB := n3_; clear n0_ n1_ n2_ n3_; (try clear hb); (try clear hb2); (try clear hk); (try clear hi); obtain ⟨_, _, _, _⟩ := qc2f BK109.out) | ((with_reducible refine zJq (f := 135) rfl ?_); refine goesL_ (some 29) rfl rfl Try.func135 (by kernel_rfl) rfl #[.pointer (some ⟨g, 0, none⟩), .int .i64 t107, .int .i64 t110] rfl (by (try simp only [zR, zS, zT]); first | done | rfl | (simp only [zP, zQ]; rfl)) ?_; (with_reducible refine (strict_Reader_done.calls g s0_0 s0_1 s0_2 s0_3 t107 t110 false t112 t113 t114 t115 w0 _ ?side1 ?side2 A7.out).mono ?_); (case side1 => repeat (first | (with_reducible first | exact HI0.out | apply IsS56.alloc | apply IsS56.drewN | apply IsS56.drew | refine IsS56.far ?_ NB0_109.out _) | exact HI0.out)); (case side2 => repeat (first | (with_reducible first | exact HB.out | apply zD | apply zB | apply zC | refine zE ?_ (IsS56.ge HI0.out) | refine zE ?_ GE109.out) | exact HB.out)); rintro e w33 ⟨rfl, hi, hb, hk⟩; refine ⟨_, rfl, ?_⟩; have n0_ := zA (KeepBut.blk hk (g' := gb109) (o := .cells #[.string t106, .int .i64 t107] 207 (0, 0)) (qW BK109.out) NB109_0.out (by simp)); have n1_ := zA (zBq (qJ HK.out) hk (.inl rfl)); have n2_ := zA (hb); have n3_ := zA (hi); clear BK109 HK HB HI0; have BK109 := n0_; have HK := n1_; have HB := n2_; have HI0 := n3_; clear n0_ n1_ n2_ n3_; (try clear hb); (try clear hb2); (try clear hk); (try clear hi); (try simp only [errW_none, errW_some])))
      go_ret; exact ⟨qE, by repeat (first | (with_reducible first | exact HI0.out | apply IsS56.alloc | apply IsS56.drewN | apply IsS56.drew | refine IsS56.far ?_ NB0_109.out _) | exact HI0.out), qH HI0.out HB.out, qJ HK.out⟩
    rw [if_neg c5] at H; have c5b0 : (t108 == 0) = false := beq_eq_false_iff_ne.mpr c5; have c5b1 : (t108 != 0) = true := bne_iff_ne.mpr c5; replace H := Option.bind_eq_some_iff.mp H; obtain ⟨⟨t116, t117, t118, t119, t120⟩, A340, H⟩ := H; replace H : (if t116 = true then (some (t106, t117, t118, t119, t120)) else (some ((⟨#[]⟩ : ByteArray), t117, t118, t119, t120))) = some (r1, r2, r3, r4, r5) := H; have A34 := zA A340; clear A340; by_cases c35 : t116 = true
    · subst c35
      have H1 : (some (t106, t117, t118, t119, t120)) = some (r1, r2, r3, r4, r5) := by first | (rw [if_pos rfl] at H; exact H) | rfl
      clear H; have H := H1; clear H1; simp only [zNq, zOq] at H; obtain ⟨rfl, rfl, rfl, rfl, rfl⟩ := H; go_enter Try.func43, Try.ntmps43; try go_wp2_with (first | ((with_reducible refine zJq (f := 133) rfl ?_); refine goesL_ (some 6) rfl rfl Try.func133 (by kernel_rfl) rfl #[.pointer (some ⟨g, 0, none⟩)] rfl (by (try simp only [zR, zS, zT]); first | done | rfl | (simp only [zP, zQ]; rfl)) ?_; (with_reducible refine (strict_Reader_goes.calls g s0_0 s0_1 s0_2 s0_3 true s0_0 s0_1 s0_2 s0_3 w0 _ ?side1 ?side2 A2.out).mono ?_); (case side1 => repeat (first | (with_reducible first | exact HI0.out | apply IsS56.alloc | apply IsS56.drewN | apply IsS56.drew) | exact HI0.out)); (case side2 => repeat (first | (with_reducible first | exact HB.out | apply zD | apply zB | apply zC | refine zE ?_ (IsS56.ge HI0.out)) | exact HB.out)); rintro e w36 ⟨rfl, hi, hb, hk⟩; refine ⟨_, rfl, ?_⟩; have n0_ := zA (zBq (qJ HK.out) hk (.inl rfl)); have n1_ := zA (hb); have n2_ := zA (hi); clear HK HB HI0; have HK := n0_; have HB := n1_; have HI0 := n2_; clear n0_ n1_ n2_; (try clear hb); (try clear hb2); (try clear hk); (try clear hi); (try simp only [errW_none, errW_some]); have BKp0 : Aside0 (w36.heap[g]? = some (.cells #[.string s0_0, .int .i64 s0_1, errW s0_2, .bool s0_3] 56 (0, 0))) := ⟨by obtain ⟨hb_, _⟩ := HI0.out; exact hb_⟩))
      have n0_ := zA (zAq BKp0.out); have n1_ := zA (IsS56.drew HI0.out); have n2_ := zA (zM HK.out); have n3_ := zA (zC HB.out); clear BKp0; clear HI0; clear HK; clear HB; have BKp0 := n0_; have HI0 := n1_; have HK := n2_; have HB := n3_; clear n0_ n1_ n2_ n3_; refine start_ (n := 15) (S := fun w' => w'.cell? ⟨g, 0, none⟩ = some (.string s0_0) ∧ w'.cell? ⟨g, 1, none⟩ = some (.int .i64 s0_1) ∧ w'.cell? ⟨g, 2, none⟩ = some (errW s0_2) ∧ w'.cell? ⟨g, 3, none⟩ = some (.bool s0_3)) (ds := []) #[o0, o0, o0, o0, o0, o0, o0, o0, o0, o0, o0, o0, o0, o0, o0] (by kernel_rfl) rfl rfl ⟨(zF BKp0.out 0).trans rfl, (zF BKp0.out 1).trans rfl, (zF BKp0.out 2).trans rfl, (zF BKp0.out 3).trans rfl⟩ (fun hHeld => ?_); refine with_tabW strict_Reader_Serial.tab3 strict_Reader_Serial.bits3 (fun HT_ HW_ => ?_); generalize w36.drew = w37 at BKp0 HI0 HK HB hHeld ⊢; refine pure_ (i := 0) (N := some 9) #[o1, o0, o0, o0, o0, o0, o0, o0, o0, o0, o0, o0, o0, o0, o0] rfl rfl (any_of HT_.out (by kernel_rfl)) (fun _ _ _ h => h) (Or.inl ⟨by rfl, qy⟩) qz ?_; refine pure_ (i := 1) (N := some 10) #[o1, o1, o0, o0, o0, o0, o0, o0, o0, o0, o0, o0, o0, o0, o0] rfl rfl (any_of HT_.out (by kernel_rfl)) (fun _ _ _ h => h) (Or.inl ⟨by rfl, qy⟩) qz ?_; refine pure_ (i := 2) (N := some 11) #[o1, o1, o1, o0, o0, o0, o0, o0, o0, o0, o0, o0, o0, o0, o0] rfl rfl (any_of HT_.out (by kernel_rfl)) (fun _ _ _ h => h) (Or.inl ⟨by rfl, qy⟩) qz ?_; refine pure_ (i := 4) (N := some 13) #[o1, o1, o1, o0, o1, o0, o0, o0, o0, o0, o0, o0, o0, o0, o0] rfl rfl (any_of HT_.out (by kernel_rfl)) (fun _ _ _ h => h) (Or.inl ⟨by rfl, qy⟩) qz ?_; refine pure_ (i := 5) (N := some 14) #[o1, o1, o1, o0, o1, o1, o0, o0, o0, o0, o0, o0, o0, o0, o0] rfl rfl (any_of HT_.out (by kernel_rfl)) (fun _ _ _ h => h) (Or.inl ⟨by rfl, qy⟩) qz ?_; refine pure_ (i := 6) (N := some 15) #[o1, o1, o1, o0, o1, o1, o1, o0, o0, o0, o0, o0, o0, o0, o0] rfl rfl (any_of HT_.out (by kernel_rfl)) (fun _ _ _ h => h) (Or.inl ⟨by rfl, qy⟩) qz ?_; refine take_ (i := 3) (N := some 12) (v := ?_) (a' := ?_) #[o1, o1, o1, o1, o1, o1, o1, o0, o0, o0, o0, o0, o0, o0, o0] rfl rfl (take_ofW HT_.out HW_.out (by kernel_rfl)) (fun _ _ _ h => h) (Or.inl ⟨by rfl, ?_⟩) hHeld ?_ ?_; rotate_left
      · rintro w' ⟨s0, s1, s2, s3⟩
        go_simp; with_reducible rfl
      rotate_left
      · simp only [Act.put, zH, zI, zJ, i64_w, i32_w]
        rfl
      refine take_ (i := 7) (N := some 16) (v := ?_) (a' := ?_) #[o1, o1, o1, o1, o1, o1, o1, o1, o0, o0, o0, o0, o0, o0, o0] rfl rfl (take_ofW HT_.out HW_.out (by kernel_rfl)) (fun _ _ _ h => h) (Or.inl ⟨by rfl, ?_⟩) hHeld ?_ ?_; rotate_left
      · rintro w' ⟨s0, s1, s2, s3⟩
        go_simp; with_reducible rfl
      rotate_left
      · simp only [Act.put, zH, zI, zJ, i64_w, i32_w]
        rfl
      refine join_ (σ := Nat) 2 #[o1, o1, o1, o1, o1, o1, o1, o1, o1, o1, o1, o1, o1, o0, o0] (fun s_ => [(17, .tuple #[.agg #[.string t106, .int .i64 t107], .int .i64 t108]), (3, .pointer (some ⟨s_, 0, none⟩)), (8, .tuple #[.agg #[.string t106, .int .i64 t107], .int .i64 t108]), (18, .agg #[.string t106, .int .i64 t107]), (19, .int .i64 t108)]) (fun s_ w' => (w'.cell? ⟨g, 0, none⟩ = some (.string s0_0) ∧ w'.cell? ⟨g, 1, none⟩ = some (.int .i64 s0_1) ∧ w'.cell? ⟨g, 2, none⟩ = some (errW s0_2) ∧ w'.cell? ⟨g, 3, none⟩ = some (.bool s0_3)) ∧ (w'.heap[s_]? = some (.cells #[.string (⟨#[]⟩ : ByteArray), .int .i64 0] 207 (0, 0))) ∧ (w'.heap[g]? = some (.cells #[.string s0_0, .int .i64 s0_1, errW s0_2, .bool s0_3] 56 (0, 0))) ∧ (w.heap.size ≤ s_) ∧ (w0.heap.size ≤ s_) ∧ (g ≠ s_) ∧ (s_ ≠ g) ∧ (IsS56 w0 w' g s0_0 s0_1 s0_2 s0_3) ∧ (KeepBut w w' g none) ∧ (Below w0.heap.size w0 w')) ?_ ?_; rotate_left
      · intro hCont
        refine two_ (i := 8) (j := 12) (Ni := some 17) (Nj := some 3) #[o1, o1, o1, o1, o1, o1, o1, o1, o1, o0, o0, o0, o0, o0, o0] #[o1, o1, o1, o1, o1, o1, o1, o1, o0, o0, o0, o0, o1, o0, o0] rfl rfl rfl rfl (two_of HT_.out (by kernel_rfl)) (by decide) (by decide) (fun K hK => ?_) (fun K hK => ?_)
        · skip
          refine goes_ Try.func136 (by kernel_rfl) rfl #[.string s0_0, .int .i64 s0_1, .int .i64 16] (by rfl) rfl rfl (by (try simp only [zR, zS, zT]); first | done | rfl | (simp only [zP, zQ]; rfl)) ?_; with_reducible refine (octet_Take.calls k s0_0 s0_1 16 t106 t107 t108 _ A4.out).mono ?_
          rintro e w38 ⟨rfl, hb⟩; refine ⟨_, rfl, ?_⟩; have n0_ := zA (IsS56.below (by repeat (first | (with_reducible first | exact HI0.out | apply IsS56.alloc | apply IsS56.drewN | apply IsS56.drew | refine IsS56.far ?_ NB0_0.out _) | exact HI0.out)) hb); have n1_ := zA (qX BKp0.out hb); have n2_ := zA (zBq (qJ HK.out) (KeepBut.of_below hb g none) (.inl rfl)); have n3_ := zA (zV (qH HI0.out HB.out) hb); clear HI0; clear BKp0; clear HK; clear HB; have HI0 := n0_; have BKp0 := n1_; have HK := n2_; have HB := n3_; clear n0_ n1_ n2_ n3_; (try clear hb); (try clear hb2); (try clear hk); (try clear hi); refine hK.out _ _ ⟨(zF BKp0.out 0).trans rfl, (zF BKp0.out 1).trans rfl, (zF BKp0.out 2).trans rfl, (zF BKp0.out 3).trans rfl⟩ (fun hHeld => ?_); clear hK K; refine norm_ (a' := ?_) ?_ ?_; rotate_left
          · show Act.put _ (some 17) _ = _
            simp only [Act.put, zH, zI, zJ, i64_w, i32_w]; rfl
          refine pure_ (i := 9) (N := some 8) #[o1, o1, o1, o1, o1, o1, o1, o1, o1, o1, o0, o0, o0, o0, o0] rfl rfl (any_of HT_.out (by kernel_rfl)) (fun _ _ _ h => h) (Or.inl ⟨by rfl, qy⟩) qz ?_; refine pure_ (i := 10) (N := some 18) #[o1, o1, o1, o1, o1, o1, o1, o1, o1, o1, o1, o0, o0, o0, o0] rfl rfl (any_of HT_.out (by kernel_rfl)) (fun _ _ _ h => h) (Or.inl ⟨by rfl, qy⟩) qz ?_; refine pure_ (i := 11) (N := some 19) #[o1, o1, o1, o1, o1, o1, o1, o1, o1, o1, o1, o1, o0, o0, o0] rfl rfl (any_of HT_.out (by kernel_rfl)) (fun _ _ _ h => h) (Or.inl ⟨by rfl, qy⟩) qz ?_; refine one_ (i := 12) (N := some 3) #[o1, o1, o1, o1, o1, o1, o1, o1, o1, o1, o1, o1, o1, o0, o0] rfl rfl (one_of HT_.out (by kernel_rfl)) (by decide) (fun K hK => ?_); refine box_step ?hg (N := 3) ?hd (cs := #[.string (⟨#[]⟩ : ByteArray), .int .i64 0]) (t := 207) ?hr ?_; (case hd => rfl); (case hg => rfl); (case hr => first | (go_simp; done) | (go_simp; rfl)); intro gb109 hg w39 hbox hb; have n0_ := zA (IsS56.below (by repeat (first | (with_reducible first | exact HI0.out | apply IsS56.alloc | apply IsS56.drewN | apply IsS56.drew | refine IsS56.far ?_ NB0_0.out _) | exact HI0.out)) hb); have n1_ := zA (qX BKp0.out hb); have n2_ := zA (zBq (qJ HK.out) (KeepBut.of_below hb g none) (.inl rfl)); have n3_ := zA (zV (qH HI0.out HB.out) hb); have n4_ := zA (hbox); have n5_ := zA ((by rw [hg]; exact (keep_size (w := w) (g := g) (row := none) (qJ HK.out)) : w.heap.size ≤ gb109)); have n6_ := zA ((Nat.le_trans HW0.out (by rw [hg]; exact (keep_size (w := w) (g := g) (row := none) (qJ HK.out)) : w.heap.size ≤ gb109) : w0.heap.size ≤ gb109)); have n7_ := zA ((by rw [hg]; exact zLq (qL BKp0.out) : g ≠ gb109)); have n8_ := zA ((by rw [hg]; exact zMq (qL BKp0.out) : gb109 ≠ g)); have n9_ := zA ((by rw [hg]; exact zLq (IsS56.lt (show IsS56 w0 _ g s0_0 s0_1 s0_2 s0_3 from by repeat (first | (with_reducible first | exact HI0.out | apply IsS56.alloc | apply IsS56.drewN | apply IsS56.drew | refine IsS56.far ?_ NB0_0.out _) | exact HI0.out))) : g ≠ gb109)); have n10_ := zA ((by rw [hg]; exact zMq (IsS56.lt (show IsS56 w0 _ g s0_0 s0_1 s0_2 s0_3 from by repeat (first | (with_reducible first | exact HI0.out | apply IsS56.alloc | apply IsS56.drewN | apply IsS56.drew | refine IsS56.far ?_ NB0_0.out _) | exact HI0.out))) : gb109 ≠ g)); clear HI0; clear BKp0; clear HK; clear HB; have HI0 := n0_; have BKp0 := n1_; have HK := n2_; have HB := n3_; have BK109 := n4_; have GW109 := n5_; have GE109 := n6_; have NB0_109 := n7_; have NB109_0 := n8_; have NB0_109 := n9_; have NB109_0 := n10_; clear n0_ n1_ n2_ n3_ n4_ n5_ n6_ n7_ n8_ n9_ n10_; clear hb hbox hg; refine hK.out _ _ ⟨(zF BKp0.out 0).trans rfl, (zF BKp0.out 1).trans rfl, (zF BKp0.out 2).trans rfl, (zF BKp0.out 3).trans rfl⟩ (fun hHeld => ?_)
          clear hK K; refine norm_ (a' := ?_) ?_ ?_; rotate_left
          · show Act.put _ (some 3) _ = _
            simp only [Act.put, zH, zI, zJ, i64_w, i32_w]; rfl
          exact norm_ (by simp only [putAll, Act.put, zH, zI, zJ]) (hCont (gb109) _ ⟨hHeld, (qW BK109.out), (qW BKp0.out), GW109.out, GE109.out, NB0_109.out, NB109_0.out, (by repeat (first | (with_reducible first | exact HI0.out | apply IsS56.alloc | apply IsS56.drewN | apply IsS56.drew | refine IsS56.far ?_ NB0_0.out _ | refine IsS56.far ?_ NB0_109.out _) | exact HI0.out)), (qJ HK.out), (qH HI0.out HB.out)⟩)
        skip; refine box_step ?hg (N := 3) ?hd (cs := #[.string (⟨#[]⟩ : ByteArray), .int .i64 0]) (t := 207) ?hr ?_; (case hd => rfl); (case hg => rfl); (case hr => first | (go_simp; done) | (go_simp; rfl)); intro gb109 hg w38 hbox hb; have n0_ := zA (IsS56.below (by repeat (first | (with_reducible first | exact HI0.out | apply IsS56.alloc | apply IsS56.drewN | apply IsS56.drew | refine IsS56.far ?_ NB0_0.out _) | exact HI0.out)) hb); have n1_ := zA (qX BKp0.out hb); have n2_ := zA (zBq (qJ HK.out) (KeepBut.of_below hb g none) (.inl rfl)); have n3_ := zA (zV (qH HI0.out HB.out) hb); have n4_ := zA (hbox); have n5_ := zA ((by rw [hg]; exact (keep_size (w := w) (g := g) (row := none) (qJ HK.out)) : w.heap.size ≤ gb109)); have n6_ := zA ((Nat.le_trans HW0.out (by rw [hg]; exact (keep_size (w := w) (g := g) (row := none) (qJ HK.out)) : w.heap.size ≤ gb109) : w0.heap.size ≤ gb109)); have n7_ := zA ((by rw [hg]; exact zLq (qL BKp0.out) : g ≠ gb109)); have n8_ := zA ((by rw [hg]; exact zMq (qL BKp0.out) : gb109 ≠ g)); have n9_ := zA ((by rw [hg]; exact zLq (IsS56.lt (show IsS56 w0 _ g s0_0 s0_1 s0_2 s0_3 from by repeat (first | (with_reducible first | exact HI0.out | apply IsS56.alloc | apply IsS56.drewN | apply IsS56.drew | refine IsS56.far ?_ NB0_0.out _) | exact HI0.out))) : g ≠ gb109)); have n10_ := zA ((by rw [hg]; exact zMq (IsS56.lt (show IsS56 w0 _ g s0_0 s0_1 s0_2 s0_3 from by repeat (first | (with_reducible first | exact HI0.out | apply IsS56.alloc | apply IsS56.drewN | apply IsS56.drew | refine IsS56.far ?_ NB0_0.out _) | exact HI0.out))) : gb109 ≠ g)); clear HI0; clear BKp0; clear HK; clear HB; have HI0 := n0_; have BKp0 := n1_; have HK := n2_; have HB := n3_; have BK109 := n4_; have GW109 := n5_; have GE109 := n6_; have NB0_109 := n7_; have NB109_0 := n8_; have NB0_109 := n9_; have NB109_0 := n10_; clear n0_ n1_ n2_ n3_ n4_ n5_ n6_ n7_ n8_ n9_ n10_; clear hb hbox hg; refine hK.out _ _ ⟨(zF BKp0.out 0).trans rfl, (zF BKp0.out 1).trans rfl, (zF BKp0.out 2).trans rfl, (zF BKp0.out 3).trans rfl⟩ (fun hHeld => ?_); clear hK K; refine norm_ (a' := ?_) ?_ ?_; rotate_left
        · show Act.put _ (some 3) _ = _
          simp only [Act.put, zH, zI, zJ, i64_w, i32_w]; rfl
        refine one_ (i := 8) (N := some 17) #[o1, o1, o1, o1, o1, o1, o1, o1, o1, o0, o0, o0, o1, o0, o0] rfl rfl (one_of HT_.out (by kernel_rfl)) (by decide) (fun K hK => ?_); refine goes_ Try.func136 (by kernel_rfl) rfl #[.string s0_0, .int .i64 s0_1, .int .i64 16] (by rfl) rfl rfl (by (try simp only [zR, zS, zT]); first | done | rfl | (simp only [zP, zQ]; rfl)) ?_; with_reducible refine (octet_Take.calls k s0_0 s0_1 16 t106 t107 t108 _ A4.out).mono ?_
        rintro e w39 ⟨rfl, hb⟩; refine ⟨_, rfl, ?_⟩; have n0_ := zA (IsS56.below (by repeat (first | (with_reducible first | exact HI0.out | apply IsS56.alloc | apply IsS56.drewN | apply IsS56.drew | refine IsS56.far ?_ NB0_0.out _ | refine IsS56.far ?_ NB0_109.out _) | exact HI0.out)) hb); have n1_ := zA (qX BKp0.out hb); have n2_ := zA (qX BK109.out hb); have n3_ := zA (zBq (qJ HK.out) (KeepBut.of_below hb g none) (.inl rfl)); have n4_ := zA (zV (qH HI0.out HB.out) hb); clear HI0; clear BKp0; clear BK109; clear HK; clear HB; have HI0 := n0_; have BKp0 := n1_; have BK109 := n2_; have HK := n3_; have HB := n4_; clear n0_ n1_ n2_ n3_ n4_; (try clear hb); (try clear hb2); (try clear hk); (try clear hi); refine hK.out _ _ ⟨(zF BKp0.out 0).trans rfl, (zF BKp0.out 1).trans rfl, (zF BKp0.out 2).trans rfl, (zF BKp0.out 3).trans rfl⟩ (fun hHeld => ?_); clear hK K; refine norm_ (a' := ?_) ?_ ?_; rotate_left
        · show Act.put _ (some 17) _ = _
          simp only [Act.put, zH, zI, zJ, i64_w, i32_w]; rfl
        refine pure_ (i := 9) (N := some 8) #[o1, o1, o1, o1, o1, o1, o1, o1, o1, o1, o0, o0, o1, o0, o0] rfl rfl (any_of HT_.out (by kernel_rfl)) (fun _ _ _ h => h) (Or.inl ⟨by rfl, qy⟩) qz ?_; refine pure_ (i := 10) (N := some 18) #[o1, o1, o1, o1, o1, o1, o1, o1, o1, o1, o1, o0, o1, o0, o0] rfl rfl (any_of HT_.out (by kernel_rfl)) (fun _ _ _ h => h) (Or.inl ⟨by rfl, qy⟩) qz ?_; refine pure_ (i := 11) (N := some 19) #[o1, o1, o1, o1, o1, o1, o1, o1, o1, o1, o1, o1, o1, o0, o0] rfl rfl (any_of HT_.out (by kernel_rfl)) (fun _ _ _ h => h) (Or.inl ⟨by rfl, qy⟩) qz ?_; exact norm_ (by simp only [putAll, Act.put, zH, zI, zJ]) (hCont (gb109) _ ⟨hHeld, (qW BK109.out), (qW BKp0.out), GW109.out, GE109.out, NB0_109.out, NB109_0.out, (by repeat (first | (with_reducible first | exact HI0.out | apply IsS56.alloc | apply IsS56.drewN | apply IsS56.drew | refine IsS56.far ?_ NB0_0.out _ | refine IsS56.far ?_ NB0_109.out _) | exact HI0.out)), (qJ HK.out), (qH HI0.out HB.out)⟩)
      rintro gb109 w40 ⟨hS_, h0_, h1_, h2_, h3_, h4_, h5_, h6_, h7_, h8_⟩; have n0_ : Aside0 (w40.heap[gb109]? = some (.cells #[.string (⟨#[]⟩ : ByteArray), .int .i64 0] 207 (0, 0))) := ⟨h0_⟩
      have n1_ : Aside0 (w40.heap[g]? = some (.cells #[.string s0_0, .int .i64 s0_1, errW s0_2, .bool s0_3] 56 (0, 0))) := ⟨h1_⟩
      have n2_ : Aside0 (w.heap.size ≤ gb109) := ⟨h2_⟩
      have n3_ : Aside0 (w0.heap.size ≤ gb109) := ⟨h3_⟩
      have n4_ : Aside0 (g ≠ gb109) := ⟨h4_⟩
      have n5_ : Aside0 (gb109 ≠ g) := ⟨h5_⟩
      have n6_ : Aside0 (IsS56 w0 w40 g s0_0 s0_1 s0_2 s0_3) := ⟨h6_⟩
      have n7_ : Aside0 (KeepBut w w40 g none) := ⟨h7_⟩
      have n8_ : Aside0 (Below w0.heap.size w0 w40) := ⟨h8_⟩
      clear BKp0; clear HI0; clear HK; clear HB; clear h0_ h1_ h2_ h3_ h4_ h5_ h6_ h7_ h8_; have BK109 := n0_; have BKp0 := n1_; have GW109 := n2_; have GE109 := n3_; have NB0_109 := n4_; have NB109_0 := n5_; have HI0 := n6_; have HK := n7_; have HB := n8_; clear n0_ n1_ n2_ n3_ n4_ n5_ n6_ n7_ n8_; have hHeld : w40.cell? ⟨g, 0, none⟩ = some (.string s0_0) ∧ w40.cell? ⟨g, 1, none⟩ = some (.int .i64 s0_1) ∧ w40.cell? ⟨g, 2, none⟩ = some (errW s0_2) ∧ w40.cell? ⟨g, 3, none⟩ = some (.bool s0_3) := hS_; refine norm_ (a' := ?_) ?_ ?_; rotate_left
      · simp only [putAll, Act.put, zH, zI, zJ]
        rfl
      refine one_ (i := 13) (N := none) #[o1, o1, o1, o1, o1, o1, o1, o1, o1, o1, o1, o1, o1, o1, o0] rfl rfl (one_of HT_.out (by kernel_rfl)) (by decide) (fun K hK => ?_); have hs41 : w40.cell? ⟨gb109, 0, none⟩ = some (.string (⟨#[]⟩ : ByteArray)) := (zF BK109.out 0).trans rfl; have hfs41 := zG BK109.out 0; have hns41_0 := NB0_109.out; have hms41_0 := NB109_0.out; have hs42 : w40.cell? ⟨gb109, 1, none⟩ = some (.int .i64 0) := (zF BK109.out 1).trans rfl; have hfs42 := zG BK109.out 1; have hns42_0 := NB0_109.out; have hms42_0 := NB109_0.out; refine skip_ (w1 := ?_) (by rfl) rfl ?_ ?_; rotate_left
      · go_simp
        rfl
      refine hK.out _ _ ⟨((cell_far (p := ⟨gb109, _, none⟩) NB0_109.out _).trans (((cell_far (p := ⟨gb109, _, none⟩) NB0_109.out _).trans (hHeld.1)))), ((cell_far (p := ⟨gb109, _, none⟩) NB0_109.out _).trans (((cell_far (p := ⟨gb109, _, none⟩) NB0_109.out _).trans (hHeld.2.1)))), ((cell_far (p := ⟨gb109, _, none⟩) NB0_109.out _).trans (((cell_far (p := ⟨gb109, _, none⟩) NB0_109.out _).trans (hHeld.2.2.1)))), ((cell_far (p := ⟨gb109, _, none⟩) NB0_109.out _).trans (((cell_far (p := ⟨gb109, _, none⟩) NB0_109.out _).trans (hHeld.2.2.2))))⟩ (fun hHeld => ?_); clear hK K; refine pure_ (i := 14) (N := some 4) #[o1, o1, o1, o1, o1, o1, o1, o1, o1, o1, o1, o1, o1, o1, o1] rfl rfl (any_of HT_.out (by kernel_rfl)) (fun _ _ _ h => h) (Or.inl ⟨by rfl, qy⟩) qz ?_; refine done_ (done_of HT_.out (by kernel_rfl)) ?_; clear BKp0; have hnb43 := NB109_0.out; have hnc43 := NB0_109.out; obtain ⟨_, _, _, _⟩ := qc2f BK109.out; try go_wp2_with (first | ((with_reducible refine zJq (f := 135) rfl ?_); refine goesL_ (some 29) rfl rfl Try.func135 (by kernel_rfl) rfl #[.pointer (some ⟨g, 0, none⟩), .int .i64 t107, .int .i64 t108] rfl (by (try simp only [zR, zS, zT]); first | done | rfl | (simp only [zP, zQ]; rfl)) ?_; (with_reducible refine (strict_Reader_done.calls g s0_0 s0_1 s0_2 s0_3 t107 t108 true t117 t118 t119 t120 w0 _ ?side1 ?side2 A34.out).mono ?_); (case side1 => repeat (first | (with_reducible first | exact HI0.out | apply IsS56.alloc | apply IsS56.drewN | apply IsS56.drew | refine IsS56.far ?_ NB0_109.out _) | exact HI0.out)); (case side2 => repeat (first | (with_reducible first | exact HB.out | apply zD | apply zB | apply zC | refine zE ?_ (IsS56.ge HI0.out) | refine zE ?_ GE109.out) | exact HB.out)); rintro e w45 ⟨rfl, hi, hb, hk⟩; refine ⟨_, rfl, ?_⟩; have n0_ := zA (KeepBut.blk hk (g' := gb109) (o := .cells #[.string t106, .int .i64 t107] 207 (0, 0)) (qV BK109.out) NB109_0.out (by simp)); have n1_ := zA (zBq (qJ HK.out) hk (.inl rfl)); have n2_ := zA (hb); have n3_ := zA (hi); clear BK109 HK HB HI0; have BK109 := n0_; have HK := n1_; have HB := n2_; have HI0 := n3_; clear n0_ n1_ n2_ n3_; (try clear hb); (try clear hb2); (try clear hk); (try clear hi); (try simp only [errW_none, errW_some]); obtain ⟨_, _, _, _⟩ := qc2f BK109.out))
      go_ret; exact ⟨qE, by repeat (first | (with_reducible first | exact HI0.out | apply IsS56.alloc | apply IsS56.drewN | apply IsS56.drew | refine IsS56.far ?_ NB0_109.out _) | exact HI0.out), qH HI0.out HB.out, qJ HK.out⟩
    replace c35 := Bool.eq_false_iff.mpr c35; subst c35; have H1 : (some ((⟨#[]⟩ : ByteArray), t117, t118, t119, t120)) = some (r1, r2, r3, r4, r5) := by first | (rw [if_neg (show ¬ (false = true) by decide)] at H; exact H) | rfl
    clear H; have H := H1; clear H1; simp only [zNq, zOq] at H; obtain ⟨rfl, rfl, rfl, rfl, rfl⟩ := H; go_enter Try.func43, Try.ntmps43; try go_wp2_with (first | ((with_reducible refine zJq (f := 133) rfl ?_); refine goesL_ (some 6) rfl rfl Try.func133 (by kernel_rfl) rfl #[.pointer (some ⟨g, 0, none⟩)] rfl (by (try simp only [zR, zS, zT]); first | done | rfl | (simp only [zP, zQ]; rfl)) ?_; (with_reducible refine (strict_Reader_goes.calls g s0_0 s0_1 s0_2 s0_3 true s0_0 s0_1 s0_2 s0_3 w0 _ ?side1 ?side2 A2.out).mono ?_); (case side1 => repeat (first | (with_reducible first | exact HI0.out | apply IsS56.alloc | apply IsS56.drewN | apply IsS56.drew) | exact HI0.out)); (case side2 => repeat (first | (with_reducible first | exact HB.out | apply zD | apply zB | apply zC | refine zE ?_ (IsS56.ge HI0.out)) | exact HB.out)); rintro e w47 ⟨rfl, hi, hb, hk⟩; refine ⟨_, rfl, ?_⟩; have n0_ := zA (zBq (qJ HK.out) hk (.inl rfl)); have n1_ := zA (hb); have n2_ := zA (hi); clear HK HB HI0; have HK := n0_; have HB := n1_; have HI0 := n2_; clear n0_ n1_ n2_; (try clear hb); (try clear hb2); (try clear hk); (try clear hi); (try simp only [errW_none, errW_some]); have BKp0 : Aside0 (w47.heap[g]? = some (.cells #[.string s0_0, .int .i64 s0_1, errW s0_2, .bool s0_3] 56 (0, 0))) := ⟨by obtain ⟨hb_, _⟩ := HI0.out; exact hb_⟩))
    have n0_ := zA (zAq BKp0.out); have n1_ := zA (IsS56.drew HI0.out); have n2_ := zA (zM HK.out); have n3_ := zA (zC HB.out); clear BKp0; clear HI0; clear HK; clear HB; have BKp0 := n0_; have HI0 := n1_; have HK := n2_; have HB := n3_; clear n0_ n1_ n2_ n3_; refine start_ (n := 15) (S := fun w' => w'.cell? ⟨g, 0, none⟩ = some (.string s0_0) ∧ w'.cell? ⟨g, 1, none⟩ = some (.int .i64 s0_1) ∧ w'.cell? ⟨g, 2, none⟩ = some (errW s0_2) ∧ w'.cell? ⟨g, 3, none⟩ = some (.bool s0_3)) (ds := []) #[o0, o0, o0, o0, o0, o0, o0, o0, o0, o0, o0, o0, o0, o0, o0] (by kernel_rfl) rfl rfl ⟨(zF BKp0.out 0).trans rfl, (zF BKp0.out 1).trans rfl, (zF BKp0.out 2).trans rfl, (zF BKp0.out 3).trans rfl⟩ (fun hHeld => ?_); refine with_tabW strict_Reader_Serial.tab3 strict_Reader_Serial.bits3 (fun HT_ HW_ => ?_); generalize w47.drew = w48 at BKp0 HI0 HK HB hHeld ⊢; refine pure_ (i := 0) (N := some 9) #[o1, o0, o0, o0, o0, o0, o0, o0, o0, o0, o0, o0, o0, o0, o0] rfl rfl (any_of HT_.out (by kernel_rfl)) (fun _ _ _ h => h) (Or.inl ⟨by rfl, qy⟩) qz ?_; refine pure_ (i := 1) (N := some 10) #[o1, o1, o0, o0, o0, o0, o0, o0, o0, o0, o0, o0, o0, o0, o0] rfl rfl (any_of HT_.out (by kernel_rfl)) (fun _ _ _ h => h) (Or.inl ⟨by rfl, qy⟩) qz ?_; refine pure_ (i := 2) (N := some 11) #[o1, o1, o1, o0, o0, o0, o0, o0, o0, o0, o0, o0, o0, o0, o0] rfl rfl (any_of HT_.out (by kernel_rfl)) (fun _ _ _ h => h) (Or.inl ⟨by rfl, qy⟩) qz ?_; refine pure_ (i := 4) (N := some 13) #[o1, o1, o1, o0, o1, o0, o0, o0, o0, o0, o0, o0, o0, o0, o0] rfl rfl (any_of HT_.out (by kernel_rfl)) (fun _ _ _ h => h) (Or.inl ⟨by rfl, qy⟩) qz ?_; refine pure_ (i := 5) (N := some 14) #[o1, o1, o1, o0, o1, o1, o0, o0, o0, o0, o0, o0, o0, o0, o0] rfl rfl (any_of HT_.out (by kernel_rfl)) (fun _ _ _ h => h) (Or.inl ⟨by rfl, qy⟩) qz ?_; refine pure_ (i := 6) (N := some 15) #[o1, o1, o1, o0, o1, o1, o1, o0, o0, o0, o0, o0, o0, o0, o0] rfl rfl (any_of HT_.out (by kernel_rfl)) (fun _ _ _ h => h) (Or.inl ⟨by rfl, qy⟩) qz ?_; refine take_ (i := 3) (N := some 12) (v := ?_) (a' := ?_) #[o1, o1, o1, o1, o1, o1, o1, o0, o0, o0, o0, o0, o0, o0, o0] rfl rfl (take_ofW HT_.out HW_.out (by kernel_rfl)) (fun _ _ _ h => h) (Or.inl ⟨by rfl, ?_⟩) hHeld ?_ ?_; rotate_left
    · rintro w' ⟨s0, s1, s2, s3⟩
      go_simp; with_reducible rfl
    rotate_left
    · simp only [Act.put, zH, zI, zJ, i64_w, i32_w]
      rfl
    refine take_ (i := 7) (N := some 16) (v := ?_) (a' := ?_) #[o1, o1, o1, o1, o1, o1, o1, o1, o0, o0, o0, o0, o0, o0, o0] rfl rfl (take_ofW HT_.out HW_.out (by kernel_rfl)) (fun _ _ _ h => h) (Or.inl ⟨by rfl, ?_⟩) hHeld ?_ ?_; rotate_left
    · rintro w' ⟨s0, s1, s2, s3⟩
      go_simp; with_reducible rfl
    rotate_left
    · simp only [Act.put, zH, zI, zJ, i64_w, i32_w]
      rfl
    refine join_ (σ := Nat) 2 #[o1, o1, o1, o1, o1, o1, o1, o1, o1, o1, o1, o1, o1, o0, o0] (fun s_ => [(17, .tuple #[.agg #[.string t106, .int .i64 t107], .int .i64 t108]), (3, .pointer (some ⟨s_, 0, none⟩)), (8, .tuple #[.agg #[.string t106, .int .i64 t107], .int .i64 t108]), (18, .agg #[.string t106, .int .i64 t107]), (19, .int .i64 t108)]) (fun s_ w' => (w'.cell? ⟨g, 0, none⟩ = some (.string s0_0) ∧ w'.cell? ⟨g, 1, none⟩ = some (.int .i64 s0_1) ∧ w'.cell? ⟨g, 2, none⟩ = some (errW s0_2) ∧ w'.cell? ⟨g, 3, none⟩ = some (.bool s0_3)) ∧ (w'.heap[s_]? = some (.cells #[.string (⟨#[]⟩ : ByteArray), .int .i64 0] 207 (0, 0))) ∧ (w'.heap[g]? = some (.cells #[.string s0_0, .int .i64 s0_1, errW s0_2, .bool s0_3] 56 (0, 0))) ∧ (w.heap.size ≤ s_) ∧ (w0.heap.size ≤ s_) ∧ (g ≠ s_) ∧ (s_ ≠ g) ∧ (IsS56 w0 w' g s0_0 s0_1 s0_2 s0_3) ∧ (KeepBut w w' g none) ∧ (Below w0.heap.size w0 w')) ?_ ?_; rotate_left
    · intro hCont
      refine two_ (i := 8) (j := 12) (Ni := some 17) (Nj := some 3) #[o1, o1, o1, o1, o1, o1, o1, o1, o1, o0, o0, o0, o0, o0, o0] #[o1, o1, o1, o1, o1, o1, o1, o1, o0, o0, o0, o0, o1, o0, o0] rfl rfl rfl rfl (two_of HT_.out (by kernel_rfl)) (by decide) (by decide) (fun K hK => ?_) (fun K hK => ?_)
      · skip
        refine goes_ Try.func136 (by kernel_rfl) rfl #[.string s0_0, .int .i64 s0_1, .int .i64 16] (by rfl) rfl rfl (by (try simp only [zR, zS, zT]); first | done | rfl | (simp only [zP, zQ]; rfl)) ?_; with_reducible refine (octet_Take.calls k s0_0 s0_1 16 t106 t107 t108 _ A4.out).mono ?_
        rintro e w49 ⟨rfl, hb⟩; refine ⟨_, rfl, ?_⟩; have n0_ := zA (IsS56.below (by repeat (first | (with_reducible first | exact HI0.out | apply IsS56.alloc | apply IsS56.drewN | apply IsS56.drew | refine IsS56.far ?_ NB0_0.out _) | exact HI0.out)) hb); have n1_ := zA (qX BKp0.out hb); have n2_ := zA (zBq (qJ HK.out) (KeepBut.of_below hb g none) (.inl rfl)); have n3_ := zA (zV (qH HI0.out HB.out) hb); clear HI0; clear BKp0; clear HK; clear HB; have HI0 := n0_; have BKp0 := n1_; have HK := n2_; have HB := n3_; clear n0_ n1_ n2_ n3_; (try clear hb); (try clear hb2); (try clear hk); (try clear hi); refine hK.out _ _ ⟨(zF BKp0.out 0).trans rfl, (zF BKp0.out 1).trans rfl, (zF BKp0.out 2).trans rfl, (zF BKp0.out 3).trans rfl⟩ (fun hHeld => ?_); clear hK K; refine norm_ (a' := ?_) ?_ ?_; rotate_left
        · show Act.put _ (some 17) _ = _
          simp only [Act.put, zH, zI, zJ, i64_w, i32_w]; rfl
        refine pure_ (i := 9) (N := some 8) #[o1, o1, o1, o1, o1, o1, o1, o1, o1, o1, o0, o0, o0, o0, o0] rfl rfl (any_of HT_.out (by kernel_rfl)) (fun _ _ _ h => h) (Or.inl ⟨by rfl, qy⟩) qz ?_; refine pure_ (i := 10) (N := some 18) #[o1, o1, o1, o1, o1, o1, o1, o1, o1, o1, o1, o0, o0, o0, o0] rfl rfl (any_of HT_.out (by kernel_rfl)) (fun _ _ _ h => h) (Or.inl ⟨by rfl, qy⟩) qz ?_; refine pure_ (i := 11) (N := some 19) #[o1, o1, o1, o1, o1, o1, o1, o1, o1, o1, o1, o1, o0, o0, o0] rfl rfl (any_of HT_.out (by kernel_rfl)) (fun _ _ _ h => h) (Or.inl ⟨by rfl, qy⟩) qz ?_; refine one_ (i := 12) (N := some 3) #[o1, o1, o1, o1, o1, o1, o1, o1, o1, o1, o1, o1, o1, o0, o0] rfl rfl (one_of HT_.out (by kernel_rfl)) (by decide) (fun K hK => ?_); refine box_step ?hg (N := 3) ?hd (cs := #[.string (⟨#[]⟩ : ByteArray), .int .i64 0]) (t := 207) ?hr ?_; (case hd => rfl); (case hg => rfl); (case hr => first | (go_simp; done) | (go_simp; rfl)); intro gb109 hg w50 hbox hb; have n0_ := zA (IsS56.below (by repeat (first | (with_reducible first | exact HI0.out | apply IsS56.alloc | apply IsS56.drewN | apply IsS56.drew | refine IsS56.far ?_ NB0_0.out _) | exact HI0.out)) hb); have n1_ := zA (qX BKp0.out hb); have n2_ := zA (zBq (qJ HK.out) (KeepBut.of_below hb g none) (.inl rfl)); have n3_ := zA (zV (qH HI0.out HB.out) hb); have n4_ := zA (hbox); have n5_ := zA ((by rw [hg]; exact (keep_size (w := w) (g := g) (row := none) (qJ HK.out)) : w.heap.size ≤ gb109)); have n6_ := zA ((Nat.le_trans HW0.out (by rw [hg]; exact (keep_size (w := w) (g := g) (row := none) (qJ HK.out)) : w.heap.size ≤ gb109) : w0.heap.size ≤ gb109)); have n7_ := zA ((by rw [hg]; exact zLq (qL BKp0.out) : g ≠ gb109)); have n8_ := zA ((by rw [hg]; exact zMq (qL BKp0.out) : gb109 ≠ g)); have n9_ := zA ((by rw [hg]; exact zLq (IsS56.lt (show IsS56 w0 _ g s0_0 s0_1 s0_2 s0_3 from by repeat (first | (with_reducible first | exact HI0.out | apply IsS56.alloc | apply IsS56.drewN | apply IsS56.drew | refine IsS56.far ?_ NB0_0.out _) | exact HI0.out))) : g ≠ gb109)); have n10_ := zA ((by rw [hg]; exact zMq (IsS56.lt (show IsS56 w0 _ g s0_0 s0_1 s0_2 s0_3 from by repeat (first | (with_reducible first | exact HI0.out | apply IsS56.alloc | apply IsS56.drewN | apply IsS56.drew | refine IsS56.far ?_ NB0_0.out _) | exact HI0.out))) : gb109 ≠ g)); clear HI0; clear BKp0; clear HK; clear HB; have HI0 := n0_; have BKp0 := n1_; have HK := n2_; have HB := n3_; have BK109 := n4_; have GW109 := n5_; have GE109 := n6_; have NB0_109 := n7_; have NB109_0 := n8_; have NB0_109 := n9_; have NB109_0 := n10_; clear n0_ n1_ n2_ n3_ n4_ n5_ n6_ n7_ n8_ n9_ n10_; clear hb hbox hg; refine hK.out _ _ ⟨(zF BKp0.out 0).trans rfl, (zF BKp0.out 1).trans rfl, (zF BKp0.out 2).trans rfl, (zF BKp0.out 3).trans rfl⟩ (fun hHeld => ?_)
        clear hK K; refine norm_ (a' := ?_) ?_ ?_; rotate_left
        · show Act.put _ (some 3) _ = _
          simp only [Act.put, zH, zI, zJ, i64_w, i32_w]; rfl
        exact norm_ (by simp only [putAll, Act.put, zH, zI, zJ]) (hCont (gb109) _ ⟨hHeld, (qW BK109.out), (qW BKp0.out), GW109.out, GE109.out, NB0_109.out, NB109_0.out, (by repeat (first | (with_reducible first | exact HI0.out | apply IsS56.alloc | apply IsS56.drewN | apply IsS56.drew | refine IsS56.far ?_ NB0_0.out _ | refine IsS56.far ?_ NB0_109.out _) | exact HI0.out)), (qJ HK.out), (qH HI0.out HB.out)⟩)
      skip; refine box_step ?hg (N := 3) ?hd (cs := #[.string (⟨#[]⟩ : ByteArray), .int .i64 0]) (t := 207) ?hr ?_; (case hd => rfl); (case hg => rfl); (case hr => first | (go_simp; done) | (go_simp; rfl)); intro gb109 hg w49 hbox hb; have n0_ := zA (IsS56.below (by repeat (first | (with_reducible first | exact HI0.out | apply IsS56.alloc | apply IsS56.drewN | apply IsS56.drew | refine IsS56.far ?_ NB0_0.out _) | exact HI0.out)) hb); have n1_ := zA (qX BKp0.out hb); have n2_ := zA (zBq (qJ HK.out) (KeepBut.of_below hb g none) (.inl rfl)); have n3_ := zA (zV (qH HI0.out HB.out) hb); have n4_ := zA (hbox); have n5_ := zA ((by rw [hg]; exact (keep_size (w := w) (g := g) (row := none) (qJ HK.out)) : w.heap.size ≤ gb109)); have n6_ := zA ((Nat.le_trans HW0.out (by rw [hg]; exact (keep_size (w := w) (g := g) (row := none) (qJ HK.out)) : w.heap.size ≤ gb109) : w0.heap.size ≤ gb109)); have n7_ := zA ((by rw [hg]; exact zLq (qL BKp0.out) : g ≠ gb109)); have n8_ := zA ((by rw [hg]; exact zMq (qL BKp0.out) : gb109 ≠ g)); have n9_ := zA ((by rw [hg]; exact zLq (IsS56.lt (show IsS56 w0 _ g s0_0 s0_1 s0_2 s0_3 from by repeat (first | (with_reducible first | exact HI0.out | apply IsS56.alloc | apply IsS56.drewN | apply IsS56.drew | refine IsS56.far ?_ NB0_0.out _) | exact HI0.out))) : g ≠ gb109)); have n10_ := zA ((by rw [hg]; exact zMq (IsS56.lt (show IsS56 w0 _ g s0_0 s0_1 s0_2 s0_3 from by repeat (first | (with_reducible first | exact HI0.out | apply IsS56.alloc | apply IsS56.drewN | apply IsS56.drew | refine IsS56.far ?_ NB0_0.out _) | exact HI0.out))) : gb109 ≠ g)); clear HI0; clear BKp0; clear HK; clear HB; have HI0 := n0_; have BKp0 := n1_; have HK := n2_; have HB := n3_; have BK109 := n4_; have GW109 := n5_; have GE109 := n6_; have NB0_109 := n7_; have NB109_0 := n8_; have NB0_109 := n9_; have NB109_0 := n10_; clear n0_ n1_ n2_ n3_ n4_ n5_ n6_ n7_ n8_ n9_ n10_; clear hb hbox hg; refine hK.out _ _ ⟨(zF BKp0.out 0).trans rfl, (zF BKp0.out 1).trans rfl, (zF BKp0.out 2).trans rfl, (zF BKp0.out 3).trans rfl⟩ (fun hHeld => ?_); clear hK K; refine norm_ (a' := ?_) ?_ ?_; rotate_left
      · show Act.put _ (some 3) _ = _
        simp only [Act.put, zH, zI, zJ, i64_w, i32_w]; rfl
      refine one_ (i := 8) (N := some 17) #[o1, o1, o1, o1, o1, o1, o1, o1, o1, o0, o0, o0, o1, o0, o0] rfl rfl (one_of HT_.out (by kernel_rfl)) (by decide) (fun K hK => ?_); refine goes_ Try.func136 (by kernel_rfl) rfl #[.string s0_0, .int .i64 s0_1, .int .i64 16] (by rfl) rfl rfl (by (try simp only [zR, zS, zT]); first | done | rfl | (simp only [zP, zQ]; rfl)) ?_; with_reducible refine (octet_Take.calls k s0_0 s0_1 16 t106 t107 t108 _ A4.out).mono ?_
      rintro e w50 ⟨rfl, hb⟩; refine ⟨_, rfl, ?_⟩; have n0_ := zA (IsS56.below (by repeat (first | (with_reducible first | exact HI0.out | apply IsS56.alloc | apply IsS56.drewN | apply IsS56.drew | refine IsS56.far ?_ NB0_0.out _ | refine IsS56.far ?_ NB0_109.out _) | exact HI0.out)) hb); have n1_ := zA (qX BKp0.out hb); have n2_ := zA (qX BK109.out hb); have n3_ := zA (zBq (qJ HK.out) (KeepBut.of_below hb g none) (.inl rfl)); have n4_ := zA (zV (qH HI0.out HB.out) hb); clear HI0; clear BKp0; clear BK109; clear HK; clear HB; have HI0 := n0_; have BKp0 := n1_; have BK109 := n2_; have HK := n3_; have HB := n4_; clear n0_ n1_ n2_ n3_ n4_; (try clear hb); (try clear hb2); (try clear hk); (try clear hi); refine hK.out _ _ ⟨(zF BKp0.out 0).trans rfl, (zF BKp0.out 1).trans rfl, (zF BKp0.out 2).trans rfl, (zF BKp0.out 3).trans rfl⟩ (fun hHeld => ?_); clear hK K; refine norm_ (a' := ?_) ?_ ?_; rotate_left
      · show Act.put _ (some 17) _ = _
        simp only [Act.put, zH, zI, zJ, i64_w, i32_w]; rfl
      refine pure_ (i := 9) (N := some 8) #[o1, o1, o1, o1, o1, o1, o1, o1, o1, o1, o0, o0, o1, o0, o0] rfl rfl (any_of HT_.out (by kernel_rfl)) (fun _ _ _ h => h) (Or.inl ⟨by rfl, qy⟩) qz ?_; refine pure_ (i := 10) (N := some 18) #[o1, o1, o1, o1, o1, o1, o1, o1, o1, o1, o1, o0, o1, o0, o0] rfl rfl (any_of HT_.out (by kernel_rfl)) (fun _ _ _ h => h) (Or.inl ⟨by rfl, qy⟩) qz ?_; refine pure_ (i := 11) (N := some 19) #[o1, o1, o1, o1, o1, o1, o1, o1, o1, o1, o1, o1, o1, o0, o0] rfl rfl (any_of HT_.out (by kernel_rfl)) (fun _ _ _ h => h) (Or.inl ⟨by rfl, qy⟩) qz ?_; exact norm_ (by simp only [putAll, Act.put, zH, zI, zJ]) (hCont (gb109) _ ⟨hHeld, (qW BK109.out), (qW BKp0.out), GW109.out, GE109.out, NB0_109.out, NB109_0.out, (by repeat (first | (with_reducible first | exact HI0.out | apply IsS56.alloc | apply IsS56.drewN | apply IsS56.drew | refine IsS56.far ?_ NB0_0.out _ | refine IsS56.far ?_ NB0_109.out _) | exact HI0.out)), (qJ HK.out), (qH HI0.out HB.out)⟩)
    rintro gb109 w51 ⟨hS_, h0_, h1_, h2_, h3_, h4_, h5_, h6_, h7_, h8_⟩; have n0_ : Aside0 (w51.heap[gb109]? = some (.cells #[.string (⟨#[]⟩ : ByteArray), .int .i64 0] 207 (0, 0))) := ⟨h0_⟩
    have n1_ : Aside0 (w51.heap[g]? = some (.cells #[.string s0_0, .int .i64 s0_1, errW s0_2, .bool s0_3] 56 (0, 0))) := ⟨h1_⟩
    have n2_ : Aside0 (w.heap.size ≤ gb109) := ⟨h2_⟩
    have n3_ : Aside0 (w0.heap.size ≤ gb109) := ⟨h3_⟩
    have n4_ : Aside0 (g ≠ gb109) := ⟨h4_⟩
    have n5_ : Aside0 (gb109 ≠ g) := ⟨h5_⟩
    have n6_ : Aside0 (IsS56 w0 w51 g s0_0 s0_1 s0_2 s0_3) := ⟨h6_⟩
    have n7_ : Aside0 (KeepBut w w51 g none) := ⟨h7_⟩
    have n8_ : Aside0 (Below w0.heap.size w0 w51) := ⟨h8_⟩
    clear BKp0; clear HI0; clear HK; clear HB; clear h0_ h1_ h2_ h3_ h4_ h5_ h6_ h7_ h8_; have BK109 := n0_; have BKp0 := n1_; have GW109 := n2_; have GE109 := n3_; have NB0_109 := n4_; have NB109_0 := n5_; have HI0 := n6_; have HK := n7_; have HB := n8_; clear n0_ n1_ n2_ n3_ n4_ n5_ n6_ n7_ n8_; have hHeld : w51.cell? ⟨g, 0, none⟩ = some (.string s0_0) ∧ w51.cell? ⟨g, 1, none⟩ = some (.int .i64 s0_1) ∧ w51.cell? ⟨g, 2, none⟩ = some (errW s0_2) ∧ w51.cell? ⟨g, 3, none⟩ = some (.bool s0_3) := hS_; refine norm_ (a' := ?_) ?_ ?_; rotate_left
    · simp only [putAll, Act.put, zH, zI, zJ]
      rfl
    refine one_ (i := 13) (N := none) #[o1, o1, o1, o1, o1, o1, o1, o1, o1, o1, o1, o1, o1, o1, o0] rfl rfl (one_of HT_.out (by kernel_rfl)) (by decide) (fun K hK => ?_); have hs52 : w51.cell? ⟨gb109, 0, none⟩ = some (.string (⟨#[]⟩ : ByteArray)) := (zF BK109.out 0).trans rfl; have hfs52 := zG BK109.out 0; have hns52_0 := NB0_109.out; have hms52_0 := NB109_0.out; have hs53 : w51.cell? ⟨gb109, 1, none⟩ = some (.int .i64 0) := (zF BK109.out 1).trans rfl; have hfs53 := zG BK109.out 1; have hns53_0 := NB0_109.out; have hms53_0 := NB109_0.out; refine skip_ (w1 := ?_) (by rfl) rfl ?_ ?_; rotate_left
    · go_simp
      rfl
    refine hK.out _ _ ⟨((cell_far (p := ⟨gb109, _, none⟩) NB0_109.out _).trans (((cell_far (p := ⟨gb109, _, none⟩) NB0_109.out _).trans (hHeld.1)))), ((cell_far (p := ⟨gb109, _, none⟩) NB0_109.out _).trans (((cell_far (p := ⟨gb109, _, none⟩) NB0_109.out _).trans (hHeld.2.1)))), ((cell_far (p := ⟨gb109, _, none⟩) NB0_109.out _).trans (((cell_far (p := ⟨gb109, _, none⟩) NB0_109.out _).trans (hHeld.2.2.1)))), ((cell_far (p := ⟨gb109, _, none⟩) NB0_109.out _).trans (((cell_far (p := ⟨gb109, _, none⟩) NB0_109.out _).trans (hHeld.2.2.2))))⟩ (fun hHeld => ?_); clear hK K; refine pure_ (i := 14) (N := some 4) #[o1, o1, o1, o1, o1, o1, o1, o1, o1, o1, o1, o1, o1, o1, o1] rfl rfl (any_of HT_.out (by kernel_rfl)) (fun _ _ _ h => h) (Or.inl ⟨by rfl, qy⟩) qz ?_; refine done_ (done_of HT_.out (by kernel_rfl)) ?_; clear BKp0; have hnb54 := NB109_0.out; have hnc54 := NB0_109.out; obtain ⟨_, _, _, _⟩ := qc2f BK109.out; try go_wp2_with (first | ((with_reducible refine zJq (f := 135) rfl ?_); refine goesL_ (some 29) rfl rfl Try.func135 (by kernel_rfl) rfl #[.pointer (some ⟨g, 0, none⟩), .int .i64 t107, .int .i64 t108] rfl (by (try simp only [zR, zS, zT]); first | done | rfl | (simp only [zP, zQ]; rfl)) ?_; (with_reducible refine (strict_Reader_done.calls g s0_0 s0_1 s0_2 s0_3 t107 t108 false t117 t118 t119 t120 w0 _ ?side1 ?side2 A34.out).mono ?_); (case side1 => repeat (first | (with_reducible first | exact HI0.out | apply IsS56.alloc | apply IsS56.drewN | apply IsS56.drew | refine IsS56.far ?_ NB0_109.out _) | exact HI0.out)); (case side2 => repeat (first | (with_reducible first | exact HB.out | apply zD | apply zB | apply zC | refine zE ?_ (IsS56.ge HI0.out) | refine zE ?_ GE109.out) | exact HB.out)); rintro e w56 ⟨rfl, hi, hb, hk⟩; refine ⟨_, rfl, ?_⟩; have n0_ := zA (KeepBut.blk hk (g' := gb109) (o := .cells #[.string t106, .int .i64 t107] 207 (0, 0)) (qV BK109.out) NB109_0.out (by simp)); have n1_ := zA (zBq (qJ HK.out) hk (.inl rfl)); have n2_ := zA (hb); have n3_ := zA (hi); clear BK109 HK HB HI0; have BK109 := n0_; have HK := n1_; have HB := n2_; have HI0 := n3_; clear n0_ n1_ n2_ n3_; (try clear hb); (try clear hb2); (try clear hk); (try clear hi); (try simp only [errW_none, errW_some])))
    go_ret; exact ⟨qE, by repeat (first | (with_reducible first | exact HI0.out | apply IsS56.alloc | apply IsS56.drewN | apply IsS56.drew | refine IsS56.far ?_ NB0_109.out _) | exact HI0.out), qH HI0.out HB.out, qJ HK.out⟩
  replace c3 := Bool.eq_false_iff.mpr c3
  subst c3
  have H1 : (some ((⟨#[]⟩ : ByteArray), s0_0, s0_1, s0_2, s0_3)) = some (r1, r2, r3, r4, r5) := by first | (rw [if_neg (show ¬ (false = true) by decide)] at H; exact H) | rfl
  clear H
  have H := H1
  clear H1
  simp only [zNq, zOq] at H
  obtain ⟨rfl, rfl, rfl, rfl, rfl⟩ := H
  go_enter Try.func43, Try.ntmps43
  go_wp2_with (first | ((with_reducible refine zJq (f := 133) rfl ?_); refine goesL_ (some 6) rfl rfl Try.func133 (by kernel_rfl) rfl #[.pointer (some ⟨g, 0, none⟩)] rfl (by (try simp only [zR, zS, zT]); first | done | rfl | (simp only [zP, zQ]; rfl)) ?_; (with_reducible refine (strict_Reader_goes.calls g s0_0 s0_1 s0_2 s0_3 false s0_0 s0_1 s0_2 s0_3 w0 _ ?side1 ?side2 A2.out).mono ?_); (case side1 => repeat (first | (with_reducible first | exact HI0.out | apply IsS56.alloc | apply IsS56.drewN | apply IsS56.drew) | exact HI0.out)); (case side2 => repeat (first | (with_reducible first | exact HB.out | apply zD | apply zB | apply zC | refine zE ?_ (IsS56.ge HI0.out)) | exact HB.out)); rintro e w57 ⟨rfl, hi, hb, hk⟩; refine ⟨_, rfl, ?_⟩; have n0_ := zA (zBq (qJ HK.out) hk (.inl rfl)); have n1_ := zA (hb); have n2_ := zA (hi); clear HK HB HI0; have HK := n0_; have HB := n1_; have HI0 := n2_; clear n0_ n1_ n2_; (try clear hb); (try clear hb2); (try clear hk); (try clear hi); (try simp only [errW_none, errW_some])))
  go_ret
  exact ⟨qE, by repeat (first | (with_reducible first | exact HI0.out | apply IsS56.alloc | apply IsS56.drewN | apply IsS56.drew) | exact HI0.out), qH HI0.out HB.out, qJ HK.out⟩
def strict_Why_cn22_3.f  : Option (Int × Int) := some (2, 0)
set_option maxHeartbeats 8000000 in
set_option maxRecDepth 100000 in
theorem strict_Why_cn22_3.calls  (r1 : Int) (r2 : Int) (w : World) (h : strict_Why_cn22_3.f  = some (r1, r2)) :
    Calls Try.prog 38 #[.iface 22 (.int .i64 3)] w fun e w' => e = .returned (.tuple #[.int .i64 r1, .int .i64 r2]) ∧ Below w.heap.size w w' := by
  have hu192 := Try.underlying192
  have hu54 := Try.underlying54
  have htc : ∀ (W : World), (Instr.typeAssert (.iface 22 (.int .i64 3)) 54 192 true).run Try.prog W = .ok (.tuple #[.agg #[.int .i64 0, .int .i64 0], .bool false]) W := fun W => by rfl
  have hta : ∀ (v : Value) (W : World), (Instr.typeAssert (.iface 192 v) 54 192 true).run Try.prog W = .ok (.tuple #[v, .bool true]) W := fun v W => by rfl
  have HB := zA (Below.refl w.heap.size w)
  have H : (some (2, 0)) = some (r1, r2) := h
  clear h
  simp only [zNq, zOq] at H
  obtain ⟨rfl, rfl⟩ := H
  go_enter Try.func38, Try.ntmps38
  go_wp2_with (first | ((with_reducible refine gate_dst (N := 4) rfl ?_); refine box_event qr (N := 4) qr (cs := #[.int .i64 0, .int .i64 0]) (t := 192) qg ?_; intro gb101 hg w2 hbox hb; have n0_ := zA (zV qB hb); have n1_ := zA (hbox); have n2_ := zA ((qS : w.heap.size ≤ gb101)); have n3_ := zA ((qS : w.heap.size ≤ gb101)); clear HB; have HB := n0_; have BK101 := n1_; have GW101 := n2_; have GE101 := n3_; clear n0_ n1_ n2_ n3_ hb hbox hg; obtain ⟨hcz3_0, hcz3_1, hfz3_0, hfz3_1⟩ := qc2f BK101.out))
  repeat (go_quiet (first | ((with_reducible refine gate_dst (N := 4) rfl ?_); refine box_event qr (N := 4) qr (cs := #[.int .i64 0, .int .i64 0]) (t := 192) qg ?_; intro gb101 hg w2 hbox hb; have n0_ := zA (zV qB hb); have n1_ := zA (hbox); have n2_ := zA ((qS : w.heap.size ≤ gb101)); have n3_ := zA ((qS : w.heap.size ≤ gb101)); clear HB; have HB := n0_; have BK101 := n1_; have GW101 := n2_; have GE101 := n3_; clear n0_ n1_ n2_ n3_ hb hbox hg; obtain ⟨hcz3_0, hcz3_1, hfz3_0, hfz3_1⟩ := qc2f BK101.out)); try go_wp2_with (first | ((with_reducible refine gate_dst (N := 4) rfl ?_); refine box_event qr (N := 4) qr (cs := #[.int .i64 0, .int .i64 0]) (t := 192) qg ?_; intro gb101 hg w2 hbox hb; have n0_ := zA (zV qB hb); have n1_ := zA (hbox); have n2_ := zA ((qS : w.heap.size ≤ gb101)); have n3_ := zA ((qS : w.heap.size ≤ gb101)); clear HB; have HB := n0_; have BK101 := n1_; have GW101 := n2_; have GE101 := n3_; clear n0_ n1_ n2_ n3_ hb hbox hg; obtain ⟨hcz3_0, hcz3_1, hfz3_0, hfz3_1⟩ := qc2f BK101.out)))
  go_ret2
  exact ⟨qE, qB⟩
end Go.Proofs.Ytakkhomjpflkbaa.F
namespace Go.Proofs.Ytakkhomjpflkbaa.F
open Go.RowKit Go.Proofs.YtakkhomjpflkbaaX Go.Proofs.YtakkhomjpflkbaaW.PrintWords Go.Proofs.YtakkhomjpflkbaaW.PrintLast Go.Proofs.YtakkhomjpflkbaaW.PrintMore
attribute [local go_sem] max2_int min2_int max_two min_two max_three min_three max_four min_four   
attribute [local go_sem high] str_geq str_leq str_gtr
set_option linter.unusedVariables false
set_option linter.unusedSimpArgs false
attribute [local go_sem high] eqA192
def backhaullaw06_awake.f  : Option (Bool) := some true
set_option maxHeartbeats 8000000 in
set_option maxRecDepth 100000 in
theorem backhaullaw06_awake.calls (r : Bool)  (w : World) (h : backhaullaw06_awake.f  = some r) :
    Calls Try.prog 35 #[] w fun e w' => e = .returned (.bool r) ∧ Below w.heap.size w w' := by
  obtain rfl : r = true := by injection h with h; exact h.symm
  have hu192 := Try.underlying192
  have hu54 := Try.underlying54
  have HB := zA (Below.refl w.heap.size w)
  have H : ((strict_New.f (⟨#[1, 7]⟩ : ByteArray)).bind fun bt101 => ((strict_Reader_Num.f 1000 bt101.1 bt101.2.1 bt101.2.2.1 bt101.2.2.2 1 9).bind fun bt106 => ((strict_Reader_Num.f 1000 bt106.2.1 bt106.2.2.1 bt106.2.2.2.1 bt106.2.2.2.2 1 6).bind fun bt111 => ((strict_Reader_Err.f bt111.2.1 bt111.2.2.1 bt111.2.2.2.1 bt111.2.2.2.2).bind fun bt116 => ((strict_Why.f bt116.1).bind fun bt121 => (if bt121.1 = 3 then ((strict_Reader_Err.f bt116.2.1 bt116.2.2.1 bt116.2.2.2.1 bt116.2.2.2.2).bind fun bt123 => ((strict_Must.f bt123.1).bind fun bt128 => ((strict_Why_cn22_3.f).bind fun bt131 => ((strict_Why.f none).bind fun bt133 => (if bt106.1 = 1 then (if bt111.1 = 0 then (if bt121.2 = 1 then ((strict_Reader_At.f bt123.2.1 bt123.2.2.1 bt123.2.2.2.1 bt123.2.2.2.2).bind fun bt135 => (if bt135.1 = 1 then (if (bt128.1 == 3 && (bt128.2 == 1)) = true then ((strict_Fault_Error.f 1000 bt128.1 bt128.2).bind fun t140 => (if t140.toList = ([101, 114, 114, 111, 114, 32, 51] : List UInt8) then (if bt131.1 = 2 then (if bt133.1 = 0 then ((strict_New.f (⟨#[0, 1, 65]⟩ : ByteArray)).bind fun bt141 => ((strict_Reader_Serial.f 1000 bt141.1 bt141.2.1 bt141.2.2.1 bt141.2.2.2).bind fun bt146 => (if bt146.1.toList = ([65] : List UInt8) then (some true) else (some false)))) else (some false)) else (some false)) else (some false))) else (some false)) else (some false))) else (some false)) else (some false)) else (some false)))))) else (some false))))))) = some true := by decide +kernel
  replace H := Option.bind_eq_some_iff.mp H
  obtain ⟨⟨t101, t102, t103, t104⟩, A10, H⟩ := H
  replace H : ((strict_Reader_Num.f 1000 t101 t102 t103 t104 1 9).bind fun bt106 => ((strict_Reader_Num.f 1000 bt106.2.1 bt106.2.2.1 bt106.2.2.2.1 bt106.2.2.2.2 1 6).bind fun bt111 => ((strict_Reader_Err.f bt111.2.1 bt111.2.2.1 bt111.2.2.2.1 bt111.2.2.2.2).bind fun bt116 => ((strict_Why.f bt116.1).bind fun bt121 => (if bt121.1 = 3 then ((strict_Reader_Err.f bt116.2.1 bt116.2.2.1 bt116.2.2.2.1 bt116.2.2.2.2).bind fun bt123 => ((strict_Must.f bt123.1).bind fun bt128 => ((strict_Why_cn22_3.f).bind fun bt131 => ((strict_Why.f none).bind fun bt133 => (if bt106.1 = 1 then (if bt111.1 = 0 then (if bt121.2 = 1 then ((strict_Reader_At.f bt123.2.1 bt123.2.2.1 bt123.2.2.2.1 bt123.2.2.2.2).bind fun bt135 => (if bt135.1 = 1 then (if (bt128.1 == 3 && (bt128.2 == 1)) = true then ((strict_Fault_Error.f 1000 bt128.1 bt128.2).bind fun t140 => (if t140.toList = ([101, 114, 114, 111, 114, 32, 51] : List UInt8) then (if bt131.1 = 2 then (if bt133.1 = 0 then ((strict_New.f (⟨#[0, 1, 65]⟩ : ByteArray)).bind fun bt141 => ((strict_Reader_Serial.f 1000 bt141.1 bt141.2.1 bt141.2.2.1 bt141.2.2.2).bind fun bt146 => (if bt146.1.toList = ([65] : List UInt8) then (some true) else (some false)))) else (some false)) else (some false)) else (some false))) else (some false)) else (some false))) else (some false)) else (some false)) else (some false)))))) else (some false)))))) = some true := H
  have A1 := zA A10
  clear A10
  replace H := Option.bind_eq_some_iff.mp H
  obtain ⟨⟨t106, t107, t108, t109, t110⟩, A20, H⟩ := H
  replace H : ((strict_Reader_Num.f 1000 t107 t108 t109 t110 1 6).bind fun bt111 => ((strict_Reader_Err.f bt111.2.1 bt111.2.2.1 bt111.2.2.2.1 bt111.2.2.2.2).bind fun bt116 => ((strict_Why.f bt116.1).bind fun bt121 => (if bt121.1 = 3 then ((strict_Reader_Err.f bt116.2.1 bt116.2.2.1 bt116.2.2.2.1 bt116.2.2.2.2).bind fun bt123 => ((strict_Must.f bt123.1).bind fun bt128 => ((strict_Why_cn22_3.f).bind fun bt131 => ((strict_Why.f none).bind fun bt133 => (if t106 = 1 then (if bt111.1 = 0 then (if bt121.2 = 1 then ((strict_Reader_At.f bt123.2.1 bt123.2.2.1 bt123.2.2.2.1 bt123.2.2.2.2).bind fun bt135 => (if bt135.1 = 1 then (if (bt128.1 == 3 && (bt128.2 == 1)) = true then ((strict_Fault_Error.f 1000 bt128.1 bt128.2).bind fun t140 => (if t140.toList = ([101, 114, 114, 111, 114, 32, 51] : List UInt8) then (if bt131.1 = 2 then (if bt133.1 = 0 then ((strict_New.f (⟨#[0, 1, 65]⟩ : ByteArray)).bind fun bt141 => ((strict_Reader_Serial.f 1000 bt141.1 bt141.2.1 bt141.2.2.1 bt141.2.2.2).bind fun bt146 => (if bt146.1.toList = ([65] : List UInt8) then (some true) else (some false)))) else (some false)) else (some false)) else (some false))) else (some false)) else (some false))) else (some false)) else (some false)) else (some false)))))) else (some false))))) = some true := H
  have A2 := zA A20
  clear A20
  replace H := Option.bind_eq_some_iff.mp H
  obtain ⟨⟨t111, t112, t113, t114, t115⟩, A30, H⟩ := H
  replace H : ((strict_Reader_Err.f t112 t113 t114 t115).bind fun bt116 => ((strict_Why.f bt116.1).bind fun bt121 => (if bt121.1 = 3 then ((strict_Reader_Err.f bt116.2.1 bt116.2.2.1 bt116.2.2.2.1 bt116.2.2.2.2).bind fun bt123 => ((strict_Must.f bt123.1).bind fun bt128 => ((strict_Why_cn22_3.f).bind fun bt131 => ((strict_Why.f none).bind fun bt133 => (if t106 = 1 then (if t111 = 0 then (if bt121.2 = 1 then ((strict_Reader_At.f bt123.2.1 bt123.2.2.1 bt123.2.2.2.1 bt123.2.2.2.2).bind fun bt135 => (if bt135.1 = 1 then (if (bt128.1 == 3 && (bt128.2 == 1)) = true then ((strict_Fault_Error.f 1000 bt128.1 bt128.2).bind fun t140 => (if t140.toList = ([101, 114, 114, 111, 114, 32, 51] : List UInt8) then (if bt131.1 = 2 then (if bt133.1 = 0 then ((strict_New.f (⟨#[0, 1, 65]⟩ : ByteArray)).bind fun bt141 => ((strict_Reader_Serial.f 1000 bt141.1 bt141.2.1 bt141.2.2.1 bt141.2.2.2).bind fun bt146 => (if bt146.1.toList = ([65] : List UInt8) then (some true) else (some false)))) else (some false)) else (some false)) else (some false))) else (some false)) else (some false))) else (some false)) else (some false)) else (some false)))))) else (some false)))) = some true := H
  have A3 := zA A30
  clear A30
  replace H := Option.bind_eq_some_iff.mp H
  obtain ⟨⟨t116, t112, t113, t114, t115⟩, A40, H⟩ := H
  obtain ⟨rfl, rfl, rfl, rfl⟩ := strict_Reader_Err.same A40
  replace H : ((strict_Why.f t116).bind fun bt121 => (if bt121.1 = 3 then ((strict_Reader_Err.f t112 t113 t114 t115).bind fun bt123 => ((strict_Must.f bt123.1).bind fun bt128 => ((strict_Why_cn22_3.f).bind fun bt131 => ((strict_Why.f none).bind fun bt133 => (if t106 = 1 then (if t111 = 0 then (if bt121.2 = 1 then ((strict_Reader_At.f bt123.2.1 bt123.2.2.1 bt123.2.2.2.1 bt123.2.2.2.2).bind fun bt135 => (if bt135.1 = 1 then (if (bt128.1 == 3 && (bt128.2 == 1)) = true then ((strict_Fault_Error.f 1000 bt128.1 bt128.2).bind fun t140 => (if t140.toList = ([101, 114, 114, 111, 114, 32, 51] : List UInt8) then (if bt131.1 = 2 then (if bt133.1 = 0 then ((strict_New.f (⟨#[0, 1, 65]⟩ : ByteArray)).bind fun bt141 => ((strict_Reader_Serial.f 1000 bt141.1 bt141.2.1 bt141.2.2.1 bt141.2.2.2).bind fun bt146 => (if bt146.1.toList = ([65] : List UInt8) then (some true) else (some false)))) else (some false)) else (some false)) else (some false))) else (some false)) else (some false))) else (some false)) else (some false)) else (some false)))))) else (some false))) = some true := H
  have A4 := zA A40
  clear A40
  replace H := Option.bind_eq_some_iff.mp H
  obtain ⟨⟨t121, t122⟩, A50, H⟩ := H
  replace H : (if t121 = 3 then ((strict_Reader_Err.f t112 t113 t114 t115).bind fun bt123 => ((strict_Must.f bt123.1).bind fun bt128 => ((strict_Why_cn22_3.f).bind fun bt131 => ((strict_Why.f none).bind fun bt133 => (if t106 = 1 then (if t111 = 0 then (if t122 = 1 then ((strict_Reader_At.f bt123.2.1 bt123.2.2.1 bt123.2.2.2.1 bt123.2.2.2.2).bind fun bt135 => (if bt135.1 = 1 then (if (bt128.1 == 3 && (bt128.2 == 1)) = true then ((strict_Fault_Error.f 1000 bt128.1 bt128.2).bind fun t140 => (if t140.toList = ([101, 114, 114, 111, 114, 32, 51] : List UInt8) then (if bt131.1 = 2 then (if bt133.1 = 0 then ((strict_New.f (⟨#[0, 1, 65]⟩ : ByteArray)).bind fun bt141 => ((strict_Reader_Serial.f 1000 bt141.1 bt141.2.1 bt141.2.2.1 bt141.2.2.2).bind fun bt146 => (if bt146.1.toList = ([65] : List UInt8) then (some true) else (some false)))) else (some false)) else (some false)) else (some false))) else (some false)) else (some false))) else (some false)) else (some false)) else (some false)))))) else (some false)) = some true := H
  have A5 := zA A50
  clear A50
  by_cases c6 : t121 = 3
  · rw [if_pos c6] at H
    have c6b0 : (t121 == 3) = true := beq_iff_eq.mpr c6; have c6b1 : (t121 != 3) = false := bne_eq_false_iff_eq.mpr c6; clear c6; replace H := Option.bind_eq_some_iff.mp H; obtain ⟨⟨t123, t112, t113, t114, t115⟩, A70, H⟩ := H; obtain ⟨rfl, rfl, rfl, rfl⟩ := strict_Reader_Err.same A70; replace H : ((strict_Must.f t123).bind fun bt128 => ((strict_Why_cn22_3.f).bind fun bt131 => ((strict_Why.f none).bind fun bt133 => (if t106 = 1 then (if t111 = 0 then (if t122 = 1 then ((strict_Reader_At.f t112 t113 t114 t115).bind fun bt135 => (if bt135.1 = 1 then (if (bt128.1 == 3 && (bt128.2 == 1)) = true then ((strict_Fault_Error.f 1000 bt128.1 bt128.2).bind fun t140 => (if t140.toList = ([101, 114, 114, 111, 114, 32, 51] : List UInt8) then (if bt131.1 = 2 then (if bt133.1 = 0 then ((strict_New.f (⟨#[0, 1, 65]⟩ : ByteArray)).bind fun bt141 => ((strict_Reader_Serial.f 1000 bt141.1 bt141.2.1 bt141.2.2.1 bt141.2.2.2).bind fun bt146 => (if bt146.1.toList = ([65] : List UInt8) then (some true) else (some false)))) else (some false)) else (some false)) else (some false))) else (some false)) else (some false))) else (some false)) else (some false)) else (some false))))) = some true := H; have A7 := zA A70; clear A70; replace H := Option.bind_eq_some_iff.mp H; obtain ⟨⟨t128, t129⟩, A80, H⟩ := H; replace H : ((strict_Why_cn22_3.f).bind fun bt131 => ((strict_Why.f none).bind fun bt133 => (if t106 = 1 then (if t111 = 0 then (if t122 = 1 then ((strict_Reader_At.f t112 t113 t114 t115).bind fun bt135 => (if bt135.1 = 1 then (if (t128 == 3 && (t129 == 1)) = true then ((strict_Fault_Error.f 1000 t128 t129).bind fun t140 => (if t140.toList = ([101, 114, 114, 111, 114, 32, 51] : List UInt8) then (if bt131.1 = 2 then (if bt133.1 = 0 then ((strict_New.f (⟨#[0, 1, 65]⟩ : ByteArray)).bind fun bt141 => ((strict_Reader_Serial.f 1000 bt141.1 bt141.2.1 bt141.2.2.1 bt141.2.2.2).bind fun bt146 => (if bt146.1.toList = ([65] : List UInt8) then (some true) else (some false)))) else (some false)) else (some false)) else (some false))) else (some false)) else (some false))) else (some false)) else (some false)) else (some false)))) = some true := H; have A8 := zA A80; clear A80; replace H := Option.bind_eq_some_iff.mp H; obtain ⟨⟨t131, t132⟩, A90, H⟩ := H; replace H : ((strict_Why.f none).bind fun bt133 => (if t106 = 1 then (if t111 = 0 then (if t122 = 1 then ((strict_Reader_At.f t112 t113 t114 t115).bind fun bt135 => (if bt135.1 = 1 then (if (t128 == 3 && (t129 == 1)) = true then ((strict_Fault_Error.f 1000 t128 t129).bind fun t140 => (if t140.toList = ([101, 114, 114, 111, 114, 32, 51] : List UInt8) then (if t131 = 2 then (if bt133.1 = 0 then ((strict_New.f (⟨#[0, 1, 65]⟩ : ByteArray)).bind fun bt141 => ((strict_Reader_Serial.f 1000 bt141.1 bt141.2.1 bt141.2.2.1 bt141.2.2.2).bind fun bt146 => (if bt146.1.toList = ([65] : List UInt8) then (some true) else (some false)))) else (some false)) else (some false)) else (some false))) else (some false)) else (some false))) else (some false)) else (some false)) else (some false))) = some true := H
    have A9 := zA A90; clear A90; replace H := Option.bind_eq_some_iff.mp H; obtain ⟨⟨t133, t134⟩, A100, H⟩ := H; replace H : (if t106 = 1 then (if t111 = 0 then (if t122 = 1 then ((strict_Reader_At.f t112 t113 t114 t115).bind fun bt135 => (if bt135.1 = 1 then (if (t128 == 3 && (t129 == 1)) = true then ((strict_Fault_Error.f 1000 t128 t129).bind fun t140 => (if t140.toList = ([101, 114, 114, 111, 114, 32, 51] : List UInt8) then (if t131 = 2 then (if t133 = 0 then ((strict_New.f (⟨#[0, 1, 65]⟩ : ByteArray)).bind fun bt141 => ((strict_Reader_Serial.f 1000 bt141.1 bt141.2.1 bt141.2.2.1 bt141.2.2.2).bind fun bt146 => (if bt146.1.toList = ([65] : List UInt8) then (some true) else (some false)))) else (some false)) else (some false)) else (some false))) else (some false)) else (some false))) else (some false)) else (some false)) else (some false)) = some true := H; have A10 := zA A100; clear A100; by_cases c11 : t106 = 1
    · rw [if_pos c11] at H
      have c11b0 : (t106 == 1) = true := beq_iff_eq.mpr c11; have c11b1 : (t106 != 1) = false := bne_eq_false_iff_eq.mpr c11; clear c11; by_cases c12 : t111 = 0
      · rw [if_pos c12] at H
        have c12b0 : (t111 == 0) = true := beq_iff_eq.mpr c12; have c12b1 : (t111 != 0) = false := bne_eq_false_iff_eq.mpr c12; clear c12; by_cases c13 : t122 = 1
        · rw [if_pos c13] at H
          have c13b0 : (t122 == 1) = true := beq_iff_eq.mpr c13; have c13b1 : (t122 != 1) = false := bne_eq_false_iff_eq.mpr c13; clear c13; replace H := Option.bind_eq_some_iff.mp H; obtain ⟨⟨t135, t112, t113, t114, t115⟩, A140, H⟩ := H; obtain ⟨rfl, rfl, rfl, rfl⟩ := strict_Reader_At.same A140; replace H : (if t135 = 1 then (if (t128 == 3 && (t129 == 1)) = true then ((strict_Fault_Error.f 1000 t128 t129).bind fun t140 => (if t140.toList = ([101, 114, 114, 111, 114, 32, 51] : List UInt8) then (if t131 = 2 then (if t133 = 0 then ((strict_New.f (⟨#[0, 1, 65]⟩ : ByteArray)).bind fun bt141 => ((strict_Reader_Serial.f 1000 bt141.1 bt141.2.1 bt141.2.2.1 bt141.2.2.2).bind fun bt146 => (if bt146.1.toList = ([65] : List UInt8) then (some true) else (some false)))) else (some false)) else (some false)) else (some false))) else (some false)) else (some false)) = some true := H; have A14 := zA A140; clear A140; by_cases c15 : t135 = 1
          · rw [if_pos c15] at H
            have c15b0 : (t135 == 1) = true := beq_iff_eq.mpr c15; have c15b1 : (t135 != 1) = false := bne_eq_false_iff_eq.mpr c15; clear c15; by_cases c16 : (t128 == 3 && (t129 == 1)) = true
            · rw [if_pos c16] at H
              have c16b0 : (t128 == 3 && (t129 == 1)) = true := c16; (try (have c16b1 : decide (t128 = 3 && (t129 == 1)) = true := by simpa using c16))
              (try (have c16b2 : (t128 == 3 && (t129 == 1)) = true := by simpa using c16))
              clear c16; replace H := Option.bind_eq_some_iff.mp H; obtain ⟨t140, A170, H⟩ := H; replace H : (if t140.toList = ([101, 114, 114, 111, 114, 32, 51] : List UInt8) then (if t131 = 2 then (if t133 = 0 then ((strict_New.f (⟨#[0, 1, 65]⟩ : ByteArray)).bind fun bt141 => ((strict_Reader_Serial.f 1000 bt141.1 bt141.2.1 bt141.2.2.1 bt141.2.2.2).bind fun bt146 => (if bt146.1.toList = ([65] : List UInt8) then (some true) else (some false)))) else (some false)) else (some false)) else (some false)) = some true := H; have A17 := zA A170; clear A170; by_cases c18 : t140.toList = ([101, 114, 114, 111, 114, 32, 51] : List UInt8)
              · rw [if_pos c18] at H
                have c18b0 : (t140.toList == ([101, 114, 114, 111, 114, 32, 51] : List UInt8)) = true := beq_iff_eq.mpr c18; have c18b1 : (t140.toList != ([101, 114, 114, 111, 114, 32, 51] : List UInt8)) = false := bne_eq_false_iff_eq.mpr c18; clear c18; by_cases c19 : t131 = 2
                · rw [if_pos c19] at H
                  have c19b0 : (t131 == 2) = true := beq_iff_eq.mpr c19; have c19b1 : (t131 != 2) = false := bne_eq_false_iff_eq.mpr c19; clear c19; by_cases c20 : t133 = 0
                  · rw [if_pos c20] at H
                    have c20b0 : (t133 == 0) = true := beq_iff_eq.mpr c20; have c20b1 : (t133 != 0) = false := bne_eq_false_iff_eq.mpr c20; clear c20; replace H := Option.bind_eq_some_iff.mp H; obtain ⟨⟨t141, t142, t143, t144⟩, A210, H⟩ := H; replace H : ((strict_Reader_Serial.f 1000 t141 t142 t143 t144).bind fun bt146 => (if bt146.1.toList = ([65] : List UInt8) then (some true) else (some false))) = some true := H; have A21 := zA A210; clear A210; replace H := Option.bind_eq_some_iff.mp H; obtain ⟨⟨t146, t147, t148, t149, t150⟩, A220, H⟩ := H; replace H : (if t146.toList = ([65] : List UInt8) then (some true) else (some false)) = some true := H; have A22 := zA A220; clear A220; by_cases c23 : t146.toList = ([65] : List UInt8)
                    · rw [if_pos c23] at H
                      have c23b0 : (t146.toList == ([65] : List UInt8)) = true := beq_iff_eq.mpr c23; have c23b1 : (t146.toList != ([65] : List UInt8)) = false := bne_eq_false_iff_eq.mpr c23; clear c23; clear H; go_enter Try.func35, Try.ntmps35; go_wp2_with (first | ((with_reducible refine zJq (f := 36) rfl ?_); refine goesL_ (some 11) rfl rfl Try.func36 (by kernel_rfl) rfl #[.string (⟨#[1, 7]⟩ : ByteArray)] rfl (by (try simp only [zR, zS, zT]); first | done | rfl | (simp only [zP, zQ]; rfl)) ?_; (with_reducible refine (strict_New.calls (⟨#[1, 7]⟩ : ByteArray) t101 t102 t103 t104 w _ ?side1 A1.out).mono ?_); (case side1 => repeat (first | (with_reducible first | exact HB.out | apply zD | apply zB | apply zC) | exact HB.out)); rintro e w24 ⟨g105, rfl, hi, hb, hb2⟩; refine ⟨_, rfl, ?_⟩; have n0_ := zA (hb); have n1_ := zA (hi); clear HB; have HB := n0_; have HI105 := n1_; clear n0_ n1_; (try clear hb); (try clear hb2); (try clear hk); (try clear hi); (try simp only [errW_none, errW_some])) | ((with_reducible refine zJq (f := 41) rfl ?_); refine goesL_ (some 13) rfl rfl Try.func41 (by kernel_rfl) rfl #[.pointer (some ⟨g105, 0, none⟩), .int .i64 1, .int .i64 9] rfl (by (try simp only [zR, zS, zT]); first | done | rfl | (simp only [zP, zQ]; rfl)) ?_; (with_reducible refine (strict_Reader_Num.calls 1000 g105 t101 t102 t103 t104 1 9 t106 t107 t108 t109 t110 w _ ?side1 ?side2 A2.out).mono ?_); (case side1 => repeat (first | (with_reducible first | exact HI105.out | apply IsS56.alloc | apply IsS56.drewN | apply IsS56.drew) | exact HI105.out)); (case side2 => repeat (first | (with_reducible first | exact HB.out | apply zD | apply zB | apply zC | refine zE ?_ (IsS56.ge HI105.out)) | exact HB.out)); rintro e w25 ⟨rfl, hi, hb, hk⟩; refine ⟨_, rfl, ?_⟩; have n0_ := zA (hb); have n1_ := zA (hi); clear HB HI105; have HB := n0_; have HI105 := n1_; clear n0_ n1_; (try clear hb); (try clear hb2); (try clear hk); (try clear hi); (try simp only [errW_none, errW_some])) | ((with_reducible refine zJq (f := 41) rfl ?_); refine goesL_ (some 15) rfl rfl Try.func41 (by kernel_rfl) rfl #[.pointer (some ⟨g105, 0, none⟩), .int .i64 1, .int .i64 6] rfl (by (try simp only [zR, zS, zT]); first | done | rfl | (simp only [zP, zQ]; rfl)) ?_; (with_reducible refine (strict_Reader_Num.calls 1000 g105 t107 t108 t109 t110 1 6 t111 t112 t113 t114 t115 w _ ?side1 ?side2 A3.out).mono ?_); (case side1 => repeat (first | (with_reducible first | exact HI105.out | apply IsS56.alloc | apply IsS56.drewN | apply IsS56.drew) | exact HI105.out)); (case side2 => repeat (first | (with_reducible first | exact HB.out | apply zD | apply zB | apply zC | refine zE ?_ (IsS56.ge HI105.out)) | exact HB.out)); rintro e w26 ⟨rfl, hi, hb, hk⟩; refine ⟨_, rfl, ?_⟩; have n0_ := zA (hb); have n1_ := zA (hi); clear HB HI105; have HB := n0_; have HI105 := n1_; clear n0_ n1_; (try clear hb); (try clear hb2); (try clear hk); (try clear hi); (try simp only [errW_none, errW_some])) | ((with_reducible refine zJq (f := 39) rfl ?_); refine goesL_ (some 18) rfl rfl Try.func39 (by kernel_rfl) rfl #[.pointer (some ⟨g105, 0, none⟩)] rfl (by (try simp only [zR, zS, zT]); first | done | rfl | (simp only [zP, zQ]; rfl)) ?_; (with_reducible refine (strict_Reader_Err.calls g105 t112 t113 t114 t115 t116 t112 t113 t114 t115 w _ ?side1 ?side2 A4.out).mono ?_); (case side1 => repeat (first | (with_reducible first | exact HI105.out | apply IsS56.alloc | apply IsS56.drewN | apply IsS56.drew) | exact HI105.out)); (case side2 => repeat (first | (with_reducible first | exact HB.out | apply zD | apply zB | apply zC | refine zE ?_ (IsS56.ge HI105.out)) | exact HB.out)); rintro e w27 ⟨rfl, hi, hb, hk⟩; refine ⟨_, rfl, ?_⟩; have n0_ := zA (hb); have n1_ := zA (hi); clear HB HI105; have HB := n0_; have HI105 := n1_; clear n0_ n1_; (try clear hb); (try clear hb2); (try clear hk); (try clear hi); (try simp only [errW_none, errW_some]); have CA5 := fun W => strict_Why.calls t116 t121 t122 W A5.out; try simp only [errW_none, errW_some] at CA5) | (go_at_call 38; (with_reducible refine (CA5 _).mono ?_); rintro e w28 ⟨rfl, hb⟩; have n0_ := zA (IsS56.below (by repeat (first | (with_reducible first | exact HI105.out | apply IsS56.alloc | apply IsS56.drewN | apply IsS56.drew) | exact HI105.out)) hb); have n1_ := zA (zV (qH HI105.out HB.out) hb); clear HI105 HB; have HI105 := n0_; have HB := n1_; clear n0_ n1_; (try clear hb); (try clear hb2); (try clear hk); (try clear hi)) | ((with_reducible refine zJq (f := 39) rfl ?_); refine goesL_ (some 25) rfl rfl Try.func39 (by kernel_rfl) rfl #[.pointer (some ⟨g105, 0, none⟩)] rfl (by (try simp only [zR, zS, zT]); first | done | rfl | (simp only [zP, zQ]; rfl)) ?_; (with_reducible refine (strict_Reader_Err.calls g105 t112 t113 t114 t115 t123 t112 t113 t114 t115 w _ ?side1 ?side2 A7.out).mono ?_); (case side1 => repeat (first | (with_reducible first | exact HI105.out | apply IsS56.alloc | apply IsS56.drewN | apply IsS56.drew) | exact HI105.out)); (case side2 => repeat (first | (with_reducible first | exact HB.out | apply zD | apply zB | apply zC | refine zE ?_ (IsS56.ge HI105.out)) | exact HB.out)); rintro e w29 ⟨rfl, hi, hb, hk⟩; refine ⟨_, rfl, ?_⟩; have n0_ := zA (hb); have n1_ := zA (hi); clear HB HI105; have HB := n0_; have HI105 := n1_; clear n0_ n1_; (try clear hb); (try clear hb2); (try clear hk); (try clear hi); (try simp only [errW_none, errW_some]); have CA8 := fun W => strict_Must.calls t123 t128 t129 W A8.out; try simp only [errW_none, errW_some] at CA8) | (go_at_call 127; (with_reducible refine (CA8 _).mono ?_); rintro e w30 ⟨rfl, hb⟩; have n0_ := zA (IsS56.below (by repeat (first | (with_reducible first | exact HI105.out | apply IsS56.alloc | apply IsS56.drewN | apply IsS56.drew) | exact HI105.out)) hb); have n1_ := zA (zV (qH HI105.out HB.out) hb); clear HI105 HB; have HI105 := n0_; have HB := n1_; clear n0_ n1_; (try clear hb); (try clear hb2); (try clear hk); (try clear hi)) | ((with_reducible refine gate_dst (N := 6) rfl ?_); refine box_event qr (N := 6) qr (cs := #[.int .i64 0, .int .i64 0]) (t := 192) qg ?_; intro gb130 hg w31 hbox hb; have n0_ := zA (IsS56.below (by repeat (first | (with_reducible first | exact HI105.out | apply IsS56.alloc | apply IsS56.drewN | apply IsS56.drew) | exact HI105.out)) hb); have n1_ := zA (zV (qH HI105.out HB.out) hb); have n2_ := zA (hbox); have n3_ := zA ((by rw [hg]; exact (zW (qH HI105.out HB.out)) : w.heap.size ≤ gb130)); have n4_ := zA ((by rw [hg]; exact (zW (qH HI105.out HB.out)) : w.heap.size ≤ gb130)); have n5_ := zA ((by rw [hg]; exact zLq (IsS56.lt (show IsS56 w _ g105 t112 t113 t114 t115 from by repeat (first | (with_reducible first | exact HI105.out | apply IsS56.alloc | apply IsS56.drewN | apply IsS56.drew) | exact HI105.out))) : g105 ≠ gb130)); have n6_ := zA ((by rw [hg]; exact zMq (IsS56.lt (show IsS56 w _ g105 t112 t113 t114 t115 from by repeat (first | (with_reducible first | exact HI105.out | apply IsS56.alloc | apply IsS56.drewN | apply IsS56.drew) | exact HI105.out))) : gb130 ≠ g105)); clear HI105 HB; have HI105 := n0_; have HB := n1_; have BK130 := n2_; have GW130 := n3_; have GE130 := n4_; have NB105_130 := n5_; have NB130_105 := n6_; clear n0_ n1_ n2_ n3_ n4_ n5_ n6_ hb hbox hg; have hnb32 := NB130_105.out; have hnc32 := NB105_130.out; obtain ⟨_, _, _, _⟩ := qc2f BK130.out) | (go_at_call 38; (with_reducible refine (strict_Why_cn22_3.calls  t131 t132 _ A9.out).mono ?_); rintro e w34 ⟨rfl, hb⟩; have n0_ := zA (IsS56.below (show IsS56 w ((w31.setCell ⟨gb130, 0, none⟩ (.int .i64 t128)).setCell ⟨gb130, 1, none⟩ (.int .i64 t129)) g105 t112 t113 t114 t115 from by repeat (first | (with_reducible first | exact HI105.out | apply IsS56.alloc | apply IsS56.drewN | apply IsS56.drew | refine IsS56.far ?_ NB105_130.out _) | exact HI105.out)) hb); have n1_ := zA (zX (g := gb130) (o := .cells #[.int .i64 t128, .int .i64 t129] 192 (0, 0)) (qV BK130.out) hb); have n2_ := zA (zV (qH HI105.out HB.out) hb); clear HI105 BK130 HB; have HI105 := n0_; have BK130 := n1_; have HB := n2_; clear n0_ n1_ n2_; (try clear hb); (try clear hb2); (try clear hk); (try clear hi); have CA10 := fun W => strict_Why.calls none t133 t134 W A10.out; try simp only [errW_none, errW_some] at CA10) | (go_at_call 38; (with_reducible refine (CA10 _).mono ?_); rintro e w35 ⟨rfl, hb⟩; have n0_ := zA (IsS56.below (by repeat (first | (with_reducible first | exact HI105.out | apply IsS56.alloc | apply IsS56.drewN | apply IsS56.drew | refine IsS56.far ?_ NB105_130.out _) | exact HI105.out)) hb); have n1_ := zA (qX BK130.out hb); have n2_ := zA (zV (qH HI105.out HB.out) hb); clear HI105 BK130 HB; have HI105 := n0_; have BK130 := n1_; have HB := n2_; clear n0_ n1_ n2_; (try clear hb); (try clear hb2); (try clear hk); (try clear hi)) | (go_at_call 40; (with_reducible refine (strict_Reader_At.calls g105 t112 t113 t114 t115 t135 t112 t113 t114 t115 w _ ?side1 ?side2 A14.out).mono ?_); (case side1 => repeat (first | (with_reducible first | exact HI105.out | apply IsS56.alloc | apply IsS56.drewN | apply IsS56.drew | refine IsS56.far ?_ NB105_130.out _) | exact HI105.out)); (case side2 => repeat (first | (with_reducible first | exact HB.out | apply zD | apply zB | apply zC | refine zE ?_ (IsS56.ge HI105.out) | refine zE ?_ GE130.out) | exact HB.out)); rintro e w36 ⟨rfl, hi, hb, hk⟩; have n0_ := zA (KeepBut.blk hk (g' := gb130) (o := .cells #[.int .i64 t128, .int .i64 t129] 192 (0, 0)) (qW BK130.out) NB130_105.out (by simp)); have n1_ := zA (hb); have n2_ := zA (hi); clear BK130 HB HI105; have BK130 := n0_; have HB := n1_; have HI105 := n2_; clear n0_ n1_ n2_; (try clear hb); (try clear hb2); (try clear hk); (try clear hi); (try simp only [errW_none, errW_some]); obtain ⟨_, _, _, _⟩ := qc2f BK130.out) | (go_at_call 128; (with_reducible refine (strict_Fault_Error.calls 1000 t128 t129 t140 _ A17.out).mono ?_); rintro e w38 ⟨rfl, hb⟩; have n0_ := zA (IsS56.below (by repeat (first | (with_reducible first | exact HI105.out | apply IsS56.alloc | apply IsS56.drewN | apply IsS56.drew | refine IsS56.far ?_ NB105_130.out _) | exact HI105.out)) hb); have n1_ := zA (qX BK130.out hb); have n2_ := zA (zV (qH HI105.out HB.out) hb); clear HI105 BK130 HB; have HI105 := n0_; have BK130 := n1_; have HB := n2_; clear n0_ n1_ n2_; (try clear hb); (try clear hb2); (try clear hk); (try clear hi)) | (go_at_call 36; (with_reducible refine (strict_New.calls (⟨#[0, 1, 65]⟩ : ByteArray) t141 t142 t143 t144 w _ ?side1 A21.out).mono ?_); (case side1 => repeat (first | (with_reducible first | exact HB.out | apply zD | apply zB | apply zC | refine zE ?_ (IsS56.ge HI105.out) | refine zE ?_ GE130.out) | exact HB.out)); rintro e w39 ⟨g145, rfl, hi, hb, hb2⟩; have n0_ := zA (qX BK130.out hb2); have n1_ := zA (hb); have n2_ := zA (hi); have n3_ := zA (IsS56.ne_blk hi (qX BK130.out hb2) (by decide)); have n4_ := zA (Ne.symm (IsS56.ne_blk hi (qX BK130.out hb2) (by decide))); clear BK130 HB; have BK130 := n0_; have HB := n1_; have HI145 := n2_; have NB145_130 := n3_; have NB130_145 := n4_; clear n0_ n1_ n2_ n3_ n4_; (try clear hb); (try clear hb2); (try clear hk); (try clear hi); (try simp only [errW_none, errW_some])) | (go_at_call 43; (with_reducible refine (strict_Reader_Serial.calls 1000 g145 t141 t142 t143 t144 t146 t147 t148 t149 t150 w _ ?side1 ?side2 A22.out).mono ?_); (case side1 => repeat (first | (with_reducible first | exact HI145.out | apply IsS56.alloc | apply IsS56.drewN | apply IsS56.drew | refine IsS56.far ?_ NB145_130.out _) | exact HI145.out)); (case side2 => repeat (first | (with_reducible first | exact HB.out | apply zD | apply zB | apply zC | refine zE ?_ (IsS56.ge HI145.out) | refine zE ?_ GE130.out) | exact HB.out)); rintro e w40 ⟨rfl, hi, hb, hk⟩; have n0_ := zA (KeepBut.blk hk (g' := gb130) (o := .cells #[.int .i64 t128, .int .i64 t129] 192 (0, 0)) (qW BK130.out) NB130_145.out (by simp)); have n1_ := zA (hb); have n2_ := zA (hi); clear BK130 HB HI145; have BK130 := n0_; have HB := n1_; have HI145 := n2_; clear n0_ n1_ n2_; (try clear hb); (try clear hb2); (try clear hk); (try clear hi); (try simp only [errW_none, errW_some])))
                      go_ret; exact ⟨qE, qH HI145.out HB.out⟩
                    rw [if_neg c23] at H; have c23b0 : (t146.toList == ([65] : List UInt8)) = false := beq_eq_false_iff_ne.mpr c23; have c23b1 : (t146.toList != ([65] : List UInt8)) = true := bne_iff_ne.mpr c23; exact absurd H (by simp)
                  rw [if_neg c20] at H; have c20b0 : (t133 == 0) = false := beq_eq_false_iff_ne.mpr c20; have c20b1 : (t133 != 0) = true := bne_iff_ne.mpr c20; exact absurd H (by simp)
                rw [if_neg c19] at H; have c19b0 : (t131 == 2) = false := beq_eq_false_iff_ne.mpr c19; have c19b1 : (t131 != 2) = true := bne_iff_ne.mpr c19; exact absurd H (by simp)
              rw [if_neg c18] at H; have c18b0 : (t140.toList == ([101, 114, 114, 111, 114, 32, 51] : List UInt8)) = false := beq_eq_false_iff_ne.mpr c18; have c18b1 : (t140.toList != ([101, 114, 114, 111, 114, 32, 51] : List UInt8)) = true := bne_iff_ne.mpr c18; exact absurd H (by simp)
            rw [if_neg c16] at H; have c16b0 : (t128 == 3 && (t129 == 1)) = false := by simpa using c16
            (try (have c16b1 : decide (t128 = 3 && (t129 == 1)) = false := by simpa using c16))
            (try (have c16b2 : (t128 == 3 && (t129 == 1)) = false := by simpa using c16))
            (try (have c16b3 : ¬ (t128 = 3 && (t129 == 1)) := by simpa using c16))
            clear c16; exact absurd H (by simp)
          rw [if_neg c15] at H; have c15b0 : (t135 == 1) = false := beq_eq_false_iff_ne.mpr c15; have c15b1 : (t135 != 1) = true := bne_iff_ne.mpr c15; exact absurd H (by simp)
        rw [if_neg c13] at H; have c13b0 : (t122 == 1) = false := beq_eq_false_iff_ne.mpr c13; have c13b1 : (t122 != 1) = true := bne_iff_ne.mpr c13; exact absurd H (by simp)
      rw [if_neg c12] at H; have c12b0 : (t111 == 0) = false := beq_eq_false_iff_ne.mpr c12; have c12b1 : (t111 != 0) = true := bne_iff_ne.mpr c12; exact absurd H (by simp)
    rw [if_neg c11] at H; have c11b0 : (t106 == 1) = false := beq_eq_false_iff_ne.mpr c11; have c11b1 : (t106 != 1) = true := bne_iff_ne.mpr c11; exact absurd H (by simp)
  rw [if_neg c6] at H
  have c6b0 : (t121 == 3) = false := beq_eq_false_iff_ne.mpr c6
  have c6b1 : (t121 != 3) = true := bne_iff_ne.mpr c6
  exact absurd H (by simp)
def backhaulref05_wide.f (a0 : Int) : Option (Bool) := if a0 = 1 then (some true) else (if a0 = 2 then (some true) else (if a0 = 4 then (some true) else (some (a0 == 8))))
set_option maxHeartbeats 8000000 in
set_option maxRecDepth 100000 in
theorem backhaulref05_wide.calls (a0 : Int) (r : Bool) (w : World) (h : backhaulref05_wide.f a0 = some r) :
    Calls Try.prog 203 #[.int .i64 a0] w fun e w' => e = .returned (.bool r) ∧ Drawn0 w w' := by
  have H : (if a0 = 1 then (some true) else (if a0 = 2 then (some true) else (if a0 = 4 then (some true) else (some (a0 == 8))))) = some r := h
  clear h
  by_cases c2 : a0 = 1
  · rw [if_pos c2] at H
    have c2b0 : (a0 == 1) = true := beq_iff_eq.mpr c2; have c2b1 : (a0 != 1) = false := bne_eq_false_iff_eq.mpr c2; clear c2; obtain rfl := zKq H; go_enter Try.func203, Try.ntmps203; go_wp2; go_ret; exact ⟨by first | rfl | (simp; done) | (simp [*]; done), by repeat (first | exact Drawn0.refl _ | apply Drawn0.step)⟩
  rw [if_neg c2] at H
  have c2b0 : (a0 == 1) = false := beq_eq_false_iff_ne.mpr c2
  have c2b1 : (a0 != 1) = true := bne_iff_ne.mpr c2
  by_cases c3 : a0 = 2
  · rw [if_pos c3] at H
    have c3b0 : (a0 == 2) = true := beq_iff_eq.mpr c3; have c3b1 : (a0 != 2) = false := bne_eq_false_iff_eq.mpr c3; clear c3; obtain rfl := zKq H; go_enter Try.func203, Try.ntmps203; go_wp2; go_ret; exact ⟨by first | rfl | (simp; done) | (simp [*]; done), by repeat (first | exact Drawn0.refl _ | apply Drawn0.step)⟩
  rw [if_neg c3] at H
  have c3b0 : (a0 == 2) = false := beq_eq_false_iff_ne.mpr c3
  have c3b1 : (a0 != 2) = true := bne_iff_ne.mpr c3
  by_cases c4 : a0 = 4
  · rw [if_pos c4] at H
    have c4b0 : (a0 == 4) = true := beq_iff_eq.mpr c4; have c4b1 : (a0 != 4) = false := bne_eq_false_iff_eq.mpr c4; clear c4; obtain rfl := zKq H; go_enter Try.func203, Try.ntmps203; go_wp2; go_ret; exact ⟨by first | rfl | (simp; done) | (simp [*]; done), by repeat (first | exact Drawn0.refl _ | apply Drawn0.step)⟩
  rw [if_neg c4] at H
  have c4b0 : (a0 == 4) = false := beq_eq_false_iff_ne.mpr c4
  have c4b1 : (a0 != 4) = true := bne_iff_ne.mpr c4
  obtain rfl := zKq H
  go_enter Try.func203, Try.ntmps203
  go_wp2
  go_ret
  exact ⟨by first | rfl | (simp; done) | (simp [*]; done), by repeat (first | exact Drawn0.refl _ | apply Drawn0.step)⟩
mutual
def backhaulref05_Get.j0 : Nat → ByteArray → Int → Int → Bool → Option (Int × Int × Int)
  | 0, _, _, _, _ => none
  | k + 1, x0, x1, x2, x23 => if x23 = true then (some (0, 0, 2)) else (if (wrap64 ((x0.size : Int) - x1)) < x2 then (some (0, 0, 4)) else (if x2 = 8 then (if 0 ≤ x1 then (if x1 < (x0.size : Int) then (backhaulref05_Get.j1 k x0 x1 x2 (decide ((bt x0 x1) > 127))) else (none)) else (none)) else (backhaulref05_Get.j1 k x0 x1 x2 false)))
def backhaulref05_Get.j1 : Nat → ByteArray → Int → Int → Bool → Option (Int × Int × Int)
  | 0, _, _, _, _ => none
  | k + 1, x0, x1, x2, x37 => if x37 = true then (some (0, 0, 8)) else (backhaulref05_Get.l0 k x0 x1 x2 0 x1)
def backhaulref05_Get.l0 : Nat → ByteArray → Int → Int → Int → Int → Option (Int × Int × Int)
  | 0, _, _, _, _, _ => none
  | k + 1, x0, x1, x2, x9, x10 => if x10 < (wrap64 (x1 + x2)) then (if 0 ≤ x10 then (if x10 < (x0.size : Int) then (backhaulref05_Get.l0 k x0 x1 x2 (wrap64 ((wrap64 (256 * x9)) + (wrap64 (bt x0 x10)))) (wrap64 (x10 + 1))) else (none)) else (none)) else (some (x9, wrap64 (x1 + x2), 0))
end
def backhaulref05_Get.f (k : Nat) (a0 : ByteArray) (a1 : Int) (a2 : Int) : Option (Int × Int × Int) := (backhaulref05_wide.f a2).bind fun t101 => (if t101 = true then (if a1 < 0 then (backhaulref05_Get.j0 k a0 a1 a2 true) else (backhaulref05_Get.j0 k a0 a1 a2 (decide (a1 > (a0.size : Int))))) else (backhaulref05_Get.j0 k a0 a1 a2 true))
theorem backhaulref05_Get.mono_l : ∀ k, (∀ y0 y1 y2 y3, LeO (backhaulref05_Get.j0 k y0 y1 y2 y3) (backhaulref05_Get.j0 (k + 1) y0 y1 y2 y3)) ∧ (∀ y0 y1 y2 y3, LeO (backhaulref05_Get.j1 k y0 y1 y2 y3) (backhaulref05_Get.j1 (k + 1) y0 y1 y2 y3)) ∧ (∀ y0 y1 y2 y3 y4, LeO (backhaulref05_Get.l0 k y0 y1 y2 y3 y4) (backhaulref05_Get.l0 (k + 1) y0 y1 y2 y3 y4))
  | 0 => ⟨fun _ _ _ _ r h => by simp [backhaulref05_Get.j0] at h, fun _ _ _ _ r h => by simp [backhaulref05_Get.j1] at h, fun _ _ _ _ _ r h => by simp [backhaulref05_Get.l0] at h⟩
  | k + 1 => by
    obtain ⟨ih0, ih1, ih2⟩ := backhaulref05_Get.mono_l k
    refine ⟨?_, ?_, ?_⟩
    · intro y0 y1 y2 y3
      unfold backhaulref05_Get.j0
      repeat' first
      | (with_reducible exact ih0 _ _ _ _)
      | (with_reducible exact ih1 _ _ _ _)
      | (with_reducible exact ih2 _ _ _ _ _)
      | (with_reducible exact LeO.refl _)
      | (with_reducible exact LeO.none _)
      | (with_reducible refine LeO.ite ?_ ?_)
      | (with_reducible refine LeO.bind ?_ (fun _ => ?_))
      | exact ih0 _ _ _ _
      | exact ih1 _ _ _ _
      | exact ih2 _ _ _ _ _
      | exact LeO.none _
      | refine LeO.ite ?_ ?_
      | refine LeO.bind ?_ (fun _ => ?_)
    · intro y0 y1 y2 y3
      unfold backhaulref05_Get.j1
      repeat' first
      | (with_reducible exact ih0 _ _ _ _)
      | (with_reducible exact ih1 _ _ _ _)
      | (with_reducible exact ih2 _ _ _ _ _)
      | (with_reducible exact LeO.refl _)
      | (with_reducible exact LeO.none _)
      | (with_reducible refine LeO.ite ?_ ?_)
      | (with_reducible refine LeO.bind ?_ (fun _ => ?_))
      | exact ih0 _ _ _ _
      | exact ih1 _ _ _ _
      | exact ih2 _ _ _ _ _
      | exact LeO.none _
      | refine LeO.ite ?_ ?_
      | refine LeO.bind ?_ (fun _ => ?_)
    intro y0 y1 y2 y3 y4
    unfold backhaulref05_Get.l0
    repeat' first
    | (with_reducible exact ih0 _ _ _ _)
    | (with_reducible exact ih1 _ _ _ _)
    | (with_reducible exact ih2 _ _ _ _ _)
    | (with_reducible exact LeO.refl _)
    | (with_reducible exact LeO.none _)
    | (with_reducible refine LeO.ite ?_ ?_)
    | (with_reducible refine LeO.bind ?_ (fun _ => ?_))
    | exact ih0 _ _ _ _
    | exact ih1 _ _ _ _
    | exact ih2 _ _ _ _ _
    | exact LeO.none _
    | refine LeO.ite ?_ ?_
    | refine LeO.bind ?_ (fun _ => ?_)
theorem backhaulref05_Get.mono : ∀ a0 a1 a2 k, LeO (backhaulref05_Get.f k a0 a1 a2) (backhaulref05_Get.f (k + 1) a0 a1 a2) := by
  intro a0 a1 a2 k
  obtain ⟨ih0, ih1, ih2⟩ := backhaulref05_Get.mono_l k
  unfold backhaulref05_Get.f
  repeat' first
      | (with_reducible exact ih0 _ _ _ _)
      | (with_reducible exact ih1 _ _ _ _)
      | (with_reducible exact ih2 _ _ _ _ _)
      | (with_reducible exact LeO.refl _)
      | (with_reducible exact LeO.none _)
      | (with_reducible refine LeO.ite ?_ ?_)
      | (with_reducible refine LeO.bind ?_ (fun _ => ?_))
      | exact ih0 _ _ _ _
      | exact ih1 _ _ _ _
      | exact ih2 _ _ _ _ _
      | exact LeO.none _
      | refine LeO.ite ?_ ?_
      | refine LeO.bind ?_ (fun _ => ?_)
set_option maxHeartbeats 8000000 in
set_option maxRecDepth 100000 in
theorem backhaulref05_Get.calls (k : Nat) (a0 : ByteArray) (a1 : Int) (a2 : Int) (r1 : Int) (r2 : Int) (r3 : Int) (w : World) (h : backhaulref05_Get.f k a0 a1 a2 = some (r1, r2, r3)) :
    Calls Try.prog 204 #[.string a0, .int .i64 a1, .int .i64 a2] w fun e w' => e = .returned (.tuple #[.int .i64 r1, .int .i64 r2, .int .i64 r3]) ∧ Drawn0 w w' := by
  have H : ((backhaulref05_wide.f a2).bind fun t101 => (if t101 = true then (if a1 < 0 then (backhaulref05_Get.j0 k a0 a1 a2 true) else (backhaulref05_Get.j0 k a0 a1 a2 (decide (a1 > (a0.size : Int))))) else (backhaulref05_Get.j0 k a0 a1 a2 true))) = some (r1, r2, r3) := h
  clear h
  have HC4 := zA H
  clear H
  go_enter Try.func204, Try.ntmps204
  go_upto_region 1 with (fail)
  go_cut [23] (fun v23 wc => ∃ (kq : Nat) (x23_3 : Bool), v23 = .bool x23_3 ∧ Aside0 (backhaulref05_Get.j0 kq a0 a1 a2 x23_3 = some (r1, r2, r3)) ∧ Aside0 (kq ≤ k) ∧ Drawn0 w wc)
  case first =>
    have H := HC4.out; clear HC4; replace H := Option.bind_eq_some_iff.mp H; obtain ⟨t101, A50, H⟩ := H; replace H : (if t101 = true then (if a1 < 0 then (backhaulref05_Get.j0 k a0 a1 a2 true) else (backhaulref05_Get.j0 k a0 a1 a2 (decide (a1 > (a0.size : Int))))) else (backhaulref05_Get.j0 k a0 a1 a2 true)) = some (r1, r2, r3) := H; have A5 := zA A50; clear A50; by_cases c6 : t101 = true
    · subst c6
      have H1 : (if a1 < 0 then (backhaulref05_Get.j0 k a0 a1 a2 true) else (backhaulref05_Get.j0 k a0 a1 a2 (decide (a1 > (a0.size : Int))))) = some (r1, r2, r3) := by first | (rw [if_pos rfl] at H; exact H) | rfl
      clear H; have H := H1; clear H1; by_cases c7 : a1 < 0
      · rw [if_pos c7] at H
        have c7b0 : decide (a1 < 0) = true := zFq c7; clear c7; (first | rw [c7b0] | (simp only [i64_w, i32_w]; rw [c7b0]) | skip)
        have H' := zA H; clear H; go_wp2_with (first | ((with_reducible refine zJq (f := 203) rfl ?_); refine goesL_ (some 12) rfl rfl Try.func203 (by kernel_rfl) rfl #[.int .i64 a2] rfl (by (try simp only [zR, zS, zT]); first | done | rfl | (simp only [zP, zQ]; rfl)) ?_; (with_reducible refine (backhaulref05_wide.calls a2 true _ A5.out).mono ?_); rintro e w' ⟨rfl, ⟨nd, rfl⟩⟩; refine ⟨_, rfl, ?_⟩)); go_meet
        case rel => exact ⟨_, (true), (by first | rfl | (simp; done) | (simp [*]; done)), H', ⟨by first | omega | exact Nat.le_refl _⟩, by repeat (first | exact Drawn0.refl _ | apply Drawn0.step)⟩
      rw [if_neg c7] at H; have c7b0 : decide (a1 < 0) = false := zGq c7; clear c7; (first | rw [c7b0] | (simp only [i64_w, i32_w]; rw [c7b0]) | skip)
      have H' := zA H; clear H; go_wp2_with (first | ((with_reducible refine zJq (f := 203) rfl ?_); refine goesL_ (some 12) rfl rfl Try.func203 (by kernel_rfl) rfl #[.int .i64 a2] rfl (by (try simp only [zR, zS, zT]); first | done | rfl | (simp only [zP, zQ]; rfl)) ?_; (with_reducible refine (backhaulref05_wide.calls a2 true _ A5.out).mono ?_); rintro e w' ⟨rfl, ⟨nd, rfl⟩⟩; refine ⟨_, rfl, ?_⟩)); go_meet
      case rel => exact ⟨_, (decide (a1 > (a0.size : Int))), (by first | rfl | (simp; done) | (simp [*]; done)), H', ⟨by first | omega | exact Nat.le_refl _⟩, by repeat (first | exact Drawn0.refl _ | apply Drawn0.step)⟩
    replace c6 := Bool.eq_false_iff.mpr c6; subst c6; have H1 : (backhaulref05_Get.j0 k a0 a1 a2 true) = some (r1, r2, r3) := by first | (rw [if_neg (show ¬ (false = true) by decide)] at H; exact H) | rfl
    clear H; have H := H1; clear H1; have H' := zA H; clear H; go_wp2_with (first | ((with_reducible refine zJq (f := 203) rfl ?_); refine goesL_ (some 12) rfl rfl Try.func203 (by kernel_rfl) rfl #[.int .i64 a2] rfl (by (try simp only [zR, zS, zT]); first | done | rfl | (simp only [zP, zQ]; rfl)) ?_; (with_reducible refine (backhaulref05_wide.calls a2 false _ A5.out).mono ?_); rintro e w' ⟨rfl, ⟨nd, rfl⟩⟩; refine ⟨_, rfl, ?_⟩)); go_meet
    case rel => exact ⟨_, (true), (by first | rfl | (simp; done) | (simp [*]; done)), H', ⟨by first | omega | exact Nat.le_refl _⟩, by repeat (first | exact Drawn0.refl _ | apply Drawn0.step)⟩
  case rest =>
    clear HC4; try clear c2
    try clear p2
    try clear c6
    try clear c7
    try clear c7b0
    obtain ⟨kq, x23_3, rfl, HA, HJ3, ⟨mc3, rfl⟩⟩ := hcut; cases kq with
    | zero => exact absurd HA.out (by simp [backhaulref05_Get.j0])
    | succ kj3 =>
      have H := HA.out; clear HA; simp only [backhaulref05_Get.j0] at H; by_cases c8 : x23_3 = true
      · subst c8
        have H1 : (some (0, 0, 2)) = some (r1, r2, r3) := by first | (rw [if_pos rfl] at H; exact H) | rfl
        clear H; have H := H1; clear H1; simp only [zNq, zOq] at H; obtain ⟨rfl, rfl, rfl⟩ := H; go_wp2; go_ret3; exact ⟨by first | rfl | (simp; done) | (simp [*]; done), by repeat (first | exact Drawn0.refl _ | apply Drawn0.step)⟩
      replace c8 := Bool.eq_false_iff.mpr c8; subst c8; have H1 : (if (wrap64 ((a0.size : Int) - a1)) < a2 then (some (0, 0, 4)) else (if a2 = 8 then (if 0 ≤ a1 then (if a1 < (a0.size : Int) then (backhaulref05_Get.j1 kj3 a0 a1 a2 (decide ((bt a0 a1) > 127))) else (none)) else (none)) else (backhaulref05_Get.j1 kj3 a0 a1 a2 false))) = some (r1, r2, r3) := by first | (rw [if_neg (show ¬ (false = true) by decide)] at H; exact H) | rfl
      clear H; have H := H1; clear H1; by_cases c9 : (wrap64 ((a0.size : Int) - a1)) < a2
      · rw [if_pos c9] at H
        have c9b0 : decide ((wrap64 ((a0.size : Int) - a1)) < a2) = true := zFq c9; clear c9; simp only [zNq, zOq] at H; obtain ⟨rfl, rfl, rfl⟩ := H; go_wp2; go_ret3; exact ⟨by first | rfl | (simp; done) | (simp [*]; done), by repeat (first | exact Drawn0.refl _ | apply Drawn0.step)⟩
      rw [if_neg c9] at H; have c9b0 : decide ((wrap64 ((a0.size : Int) - a1)) < a2) = false := zGq c9; clear c9; have HC10 := zA H; clear H; go_upto_region 5 with (fail)
      go_cut [37] (fun v37 wc => ∃ (kq : Nat) (x37_9 : Bool), v37 = .bool x37_9 ∧ Aside0 (backhaulref05_Get.j1 kq a0 a1 a2 x37_9 = some (r1, r2, r3)) ∧ Aside0 (kq ≤ kj3) ∧ Drawn0 w wc)
      case first =>
        have H := HC10.out; clear HC10; by_cases c11 : a2 = 8
        · rw [if_pos c11] at H
          have c11b0 : (a2 == 8) = true := beq_iff_eq.mpr c11; have c11b1 : (a2 != 8) = false := bne_eq_false_iff_eq.mpr c11; clear c11; (first | rw [c11b0] | (simp only [i64_w, i32_w]; rw [c11b0]) | skip)
          by_cases c12 : 0 ≤ a1
          · rw [if_pos c12] at H
            have c12b0 : decide (0 ≤ a1) = true := zFq c12; clear c12; by_cases c13 : a1 < (a0.size : Int)
            · rw [if_pos c13] at H
              have c13b0 : decide (a1 < (a0.size : Int)) = true := zFq c13; clear c13; have H' := zA H; clear H; have p14 : 0 ≤ (a1 : Int) := of_decide_eq_true qA; have q14 : a1 < (a0.size : Int) := of_decide_eq_true qA; have hx14 := bt_at a0 a1; replace p14 := eq_true p14; replace q14 := eq_true q14; go_wp2; go_meet
              case rel => exact ⟨_, (decide ((bt a0 a1) > 127)), (by first | rfl | (simp; done) | (simp [*]; done)), H', ⟨by have := HJ3.out; first | omega | exact Nat.le_refl _⟩, by repeat (first | exact Drawn0.refl _ | apply Drawn0.step)⟩
            rw [if_neg c13] at H; exact absurd H (by simp)
          rw [if_neg c12] at H; exact absurd H (by simp)
        rw [if_neg c11] at H; have c11b0 : (a2 == 8) = false := beq_eq_false_iff_ne.mpr c11; have c11b1 : (a2 != 8) = true := bne_iff_ne.mpr c11; (first | rw [c11b0] | (simp only [i64_w, i32_w]; rw [c11b0]) | skip)
        have H' := zA H; clear H; go_wp2; go_meet
        case rel => exact ⟨_, (false), (by first | rfl | (simp; done) | (simp [*]; done)), H', ⟨by have := HJ3.out; first | omega | exact Nat.le_refl _⟩, by repeat (first | exact Drawn0.refl _ | apply Drawn0.step)⟩
      case rest =>
        clear HC10; try clear c1
        try clear p1
        try clear q1
        try clear hx1
        try clear c2
        try clear p2
        try clear c3
        try clear c6
        try clear p6
        try clear c7
        try clear c7b0
        try clear c8
        try clear c9
        try clear c9b0
        try clear c11
        try clear c11b0
        try clear c11b1
        try clear c12
        try clear c12b0
        try clear c13
        try clear c13b0
        try clear p14
        try clear q14
        try clear hx14
        try clear p14
        try clear p2
        try clear q14
        obtain ⟨kq, x37_9, rfl, HA, HJ9, ⟨mc9, rfl⟩⟩ := hcut; cases kq with
        | zero => exact absurd HA.out (by simp [backhaulref05_Get.j1])
        | succ kj9 =>
          have H := HA.out; clear HA; simp only [backhaulref05_Get.j1] at H; by_cases c15 : x37_9 = true
          · subst c15
            have H1 : (some (0, 0, 8)) = some (r1, r2, r3) := by first | (rw [if_pos rfl] at H; exact H) | rfl
            clear H; have H := H1; clear H1; simp only [zNq, zOq] at H; obtain ⟨rfl, rfl, rfl⟩ := H; go_wp2; go_ret3; exact ⟨by first | rfl | (simp; done) | (simp [*]; done), by repeat (first | exact Drawn0.refl _ | apply Drawn0.step)⟩
          replace c15 := Bool.eq_false_iff.mpr c15; subst c15; have H1 : (backhaulref05_Get.l0 kj9 a0 a1 a2 0 a1) = some (r1, r2, r3) := by first | (rw [if_neg (show ¬ (false = true) by decide)] at H; exact H) | rfl
          clear H; have H := H1; clear H1; have H' := zA H; clear H; go_wp2; go_loopg [9, 10] kj9 (fun kq v9 v10 w' => ∃ (x9_3 : Int) (x10_3 : Int), v9 = .int .i64 x9_3 ∧ v10 = .int .i64 x10_3 ∧ Aside0 (backhaulref05_Get.l0 kq a0 a1 a2 x9_3 x10_3 = some (r1, r2, r3)) ∧ Aside0 (kq ≤ kj9) ∧ Drawn0 w w')
          case atStart => exact ⟨(0), (a1), (by first | rfl | (simp; done) | (simp [*]; done)), (by first | rfl | (simp; done) | (simp [*]; done)), H', ⟨Nat.le_refl _⟩, by repeat (first | exact Drawn0.refl _ | apply Drawn0.step)⟩
          case round =>
            clear H'; try clear c1
            try clear p1
            try clear q1
            try clear hx1
            try clear c2
            try clear p2
            try clear c3
            try clear c6
            try clear p6
            try clear c7
            try clear c7b0
            try clear c8
            try clear c9
            try clear c9b0
            try clear c11
            try clear c11b0
            try clear c11b1
            try clear c12
            try clear c12b0
            try clear c13
            try clear c13b0
            try clear p14
            try clear q14
            try clear hx14
            try clear c15
            try clear p1
            try clear p14
            try clear p2
            try clear p6
            try clear q1
            try clear q14
            obtain ⟨x9_3, x10_3, rfl, rfl, HA, HK3, ⟨m3, rfl⟩⟩ := hrel; cases gk with
            | zero => exact absurd HA.out (by simp [backhaulref05_Get.l0])
            | succ k3 =>
              have H := HA.out; clear HA; simp only [backhaulref05_Get.l0] at H; by_cases c16 : x10_3 < (wrap64 (a1 + a2))
              · rw [if_pos c16] at H
                have c16b0 : decide (x10_3 < (wrap64 (a1 + a2))) = true := zFq c16; clear c16; by_cases c17 : 0 ≤ x10_3
                · rw [if_pos c17] at H
                  have c17b0 : decide (0 ≤ x10_3) = true := zFq c17; clear c17; by_cases c18 : x10_3 < (a0.size : Int)
                  · rw [if_pos c18] at H
                    have c18b0 : decide (x10_3 < (a0.size : Int)) = true := zFq c18; clear c18; have H' := zA H; clear H; have p19 : 0 ≤ (x10_3 : Int) := of_decide_eq_true qA; have q19 : x10_3 < (a0.size : Int) := of_decide_eq_true qA; have hx19 := bt_at a0 x10_3; replace p19 := eq_true p19; replace q19 := eq_true q19; go_wp2; go_roundg k3
                    case measure => have := HJ3.out; have := HJ9.out; have := HK3.out; omega
                    case rel => exact ⟨(wrap64 ((wrap64 (256 * x9_3)) + (wrap64 (bt a0 x10_3)))), (wrap64 (x10_3 + 1)), (by first | rfl | (simp; done) | (simp [*]; done)), (by first | rfl | (simp; done) | (simp [*]; done)), H', ⟨by have := HJ3.out; have := HJ9.out; have := HK3.out; omega⟩, by repeat (first | exact Drawn0.refl _ | apply Drawn0.step)⟩
                  rw [if_neg c18] at H; exact absurd H (by simp)
                rw [if_neg c17] at H; exact absurd H (by simp)
              rw [if_neg c16] at H; have c16b0 : decide (x10_3 < (wrap64 (a1 + a2))) = false := zGq c16; clear c16; simp only [zNq, zOq] at H; obtain ⟨rfl, rfl, rfl⟩ := H; go_wp2; go_ret3; exact ⟨by first | rfl | (simp; done) | (simp [*]; done), by repeat (first | exact Drawn0.refl _ | apply Drawn0.step)⟩
def backhaulref06_moved.f (a0_0 : ByteArray) (a0_1 : Int) (a0_2 : Int) (a1 : Int) (a2 : Int) : Option (ByteArray × Int × Int) := if a2 = 0 then (some (a0_0, a1, a0_2)) else (some (a0_0, a0_1, a2))
set_option maxHeartbeats 8000000 in
set_option maxRecDepth 100000 in
theorem backhaulref06_moved.calls (a0_0 : ByteArray) (a0_1 : Int) (a0_2 : Int) (a1 : Int) (a2 : Int) (r1 : ByteArray) (r2 : Int) (r3 : Int) (w : World) (h : backhaulref06_moved.f a0_0 a0_1 a0_2 a1 a2 = some (r1, r2, r3)) :
    Calls Try.prog 205 #[.agg #[.string a0_0, .int .i64 a0_1, .int .i64 a0_2], .int .i64 a1, .int .i64 a2] w fun e w' => e = .returned (.agg #[.string r1, .int .i64 r2, .int .i64 r3]) ∧ Below w.heap.size w w' := by
  have hu47 := Try.underlying47
  have HB := zA (Below.refl w.heap.size w)
  have H : (if a2 = 0 then (some (a0_0, a1, a0_2)) else (some (a0_0, a0_1, a2))) = some (r1, r2, r3) := h
  clear h
  by_cases c4 : a2 = 0
  · rw [if_pos c4] at H
    have c4b0 : (a2 == 0) = true := beq_iff_eq.mpr c4; have c4b1 : (a2 != 0) = false := bne_eq_false_iff_eq.mpr c4; clear c4; simp only [zNq, zOq] at H; obtain ⟨rfl, rfl, rfl⟩ := H; go_enter Try.func205, Try.ntmps205; go_wp2_with (first | ((with_reducible refine gate_dst (N := 3) rfl ?_); refine box_event qr (N := 3) qr (cs := #[.string a0_0, .int .i64 a0_1, .int .i64 a0_2]) (t := 47) qg ?_; intro gb101 hg w5 hbox hb; have n0_ := zA (zV qB hb); have n1_ := zA (hbox); have n2_ := zA ((qS : w.heap.size ≤ gb101)); have n3_ := zA ((qS : w.heap.size ≤ gb101)); clear HB; have HB := n0_; have BK101 := n1_; have GW101 := n2_; have GE101 := n3_; clear n0_ n1_ n2_ n3_ hb hbox hg) | ((with_reducible refine gate_dst (N := 6) rfl ?_); refine box_event qr (N := 6) qr (cs := #[.string (⟨#[]⟩ : ByteArray), .int .i64 0, .int .i64 0]) (t := 47) qg ?_; intro gb102 hg w6 hbox hb; have n0_ := zA (qX BK101.out hb); have n1_ := zA (zV qB hb); have n2_ := zA (hbox); have n3_ := zA ((qS : w.heap.size ≤ gb102)); have n4_ := zA ((qS : w.heap.size ≤ gb102)); have n5_ := zA ((by rw [hg]; exact zLq (qL BK101.out) : gb101 ≠ gb102)); have n6_ := zA ((by rw [hg]; exact zMq (qL BK101.out) : gb102 ≠ gb101)); clear BK101 HB; have BK101 := n0_; have HB := n1_; have BK102 := n2_; have GW102 := n3_; have GE102 := n4_; have NB101_102 := n5_; have NB102_101 := n6_; clear n0_ n1_ n2_ n3_ n4_ n5_ n6_ hb hbox hg; have hnb7 := NB101_102.out; have hnc7 := NB102_101.out; obtain ⟨_, _, _, _, _, _⟩ := qc3f BK101.out; obtain ⟨_, _, _, _, _, _⟩ := qc3f BK102.out)); refine bodyPost_ret (results_cell_row rfl _ _ gb102 47 #[.string a0_0, .int .i64 a1, .int .i64 a0_2] (0, 0) _ rfl (qV BK102.out) Try.underlying47 rfl (by kernel_rfl)) rfl ?_; exact ⟨qE, qB⟩
  rw [if_neg c4] at H
  have c4b0 : (a2 == 0) = false := beq_eq_false_iff_ne.mpr c4
  have c4b1 : (a2 != 0) = true := bne_iff_ne.mpr c4
  simp only [zNq, zOq] at H
  obtain ⟨rfl, rfl, rfl⟩ := H
  go_enter Try.func205, Try.ntmps205
  go_wp2_with (first | ((with_reducible refine gate_dst (N := 3) rfl ?_); refine box_event qr (N := 3) qr (cs := #[.string a0_0, .int .i64 a0_1, .int .i64 a0_2]) (t := 47) qg ?_; intro gb101 hg w10 hbox hb; have n0_ := zA (zV qB hb); have n1_ := zA (hbox); have n2_ := zA ((qS : w.heap.size ≤ gb101)); have n3_ := zA ((qS : w.heap.size ≤ gb101)); clear HB; have HB := n0_; have BK101 := n1_; have GW101 := n2_; have GE101 := n3_; clear n0_ n1_ n2_ n3_ hb hbox hg) | ((with_reducible refine gate_dst (N := 6) rfl ?_); refine box_event qr (N := 6) qr (cs := #[.string (⟨#[]⟩ : ByteArray), .int .i64 0, .int .i64 0]) (t := 47) qg ?_; intro gb102 hg w11 hbox hb; have n0_ := zA (qX BK101.out hb); have n1_ := zA (zV qB hb); have n2_ := zA (hbox); have n3_ := zA ((qS : w.heap.size ≤ gb102)); have n4_ := zA ((qS : w.heap.size ≤ gb102)); have n5_ := zA ((by rw [hg]; exact zLq (qL BK101.out) : gb101 ≠ gb102)); have n6_ := zA ((by rw [hg]; exact zMq (qL BK101.out) : gb102 ≠ gb101)); clear BK101 HB; have BK101 := n0_; have HB := n1_; have BK102 := n2_; have GW102 := n3_; have GE102 := n4_; have NB101_102 := n5_; have NB102_101 := n6_; clear n0_ n1_ n2_ n3_ n4_ n5_ n6_ hb hbox hg; have hnb12 := NB101_102.out; have hnc12 := NB102_101.out; obtain ⟨_, _, _, _, _, _⟩ := qc3f BK101.out; obtain ⟨_, _, _, _, _, _⟩ := qc3f BK102.out))
  refine bodyPost_ret (results_cell_row rfl _ _ gb102 47 #[.string a0_0, .int .i64 a0_1, .int .i64 a2] (0, 0) _ rfl (qV BK102.out) Try.underlying47 rfl (by kernel_rfl)) rfl ?_
  exact ⟨qE, qB⟩
def backhaulref06_Num.j0 : Nat → Int → Int → Int → Bool → ByteArray → Int → Int → Option (ByteArray × Int × Int × Int)
  | 0, _, _, _, _, _, _, _ => none
  | k + 1, x8, x9, x10, x31, x102000, x102001, x102002 => if x31 = true then ((backhaulref06_moved.f x102000 x102001 x102002 x9 3).bind fun bt106 => (some (bt106.1, bt106.2.1, bt106.2.2, 0))) else (if x10 = 0 then ((backhaulref06_moved.f x102000 x102001 x102002 x9 x10).bind fun bt109 => (some (bt109.1, bt109.2.1, bt109.2.2, x8))) else ((backhaulref06_moved.f x102000 x102001 x102002 x9 x10).bind fun bt112 => (some (bt112.1, bt112.2.1, bt112.2.2, 0))))
def backhaulref06_Num.f (k : Nat) (a0_0 : ByteArray) (a0_1 : Int) (a0_2 : Int) (a1 : Int) (a2 : Int) : Option (ByteArray × Int × Int × Int) := if a0_2 = 0 then ((backhaulref05_Get.f k a0_0 a0_1 a1).bind fun bt103 => (if bt103.2.2 = 0 then (backhaulref06_Num.j0 k bt103.1 bt103.2.1 bt103.2.2 (decide (bt103.1 > a2)) a0_0 a0_1 a0_2) else (backhaulref06_Num.j0 k bt103.1 bt103.2.1 bt103.2.2 false a0_0 a0_1 a0_2))) else (some (a0_0, a0_1, a0_2, 0))
theorem backhaulref06_Num.mono_l : ∀ k, (∀ y0 y1 y2 y3 y4 y5 y6, LeO (backhaulref06_Num.j0 k y0 y1 y2 y3 y4 y5 y6) (backhaulref06_Num.j0 (k + 1) y0 y1 y2 y3 y4 y5 y6))
  | 0 => fun _ _ _ _ _ _ _ r h => by simp [backhaulref06_Num.j0] at h
  | k + 1 => by
    have ih0 := backhaulref06_Num.mono_l k
    intro y0 y1 y2 y3 y4 y5 y6
    unfold backhaulref06_Num.j0
    repeat' first
    | (with_reducible exact ih0 _ _ _ _ _ _ _)
    | (with_reducible exact backhaulref05_Get.mono _ _ _ _)
    | (with_reducible exact LeO.refl _)
    | (with_reducible exact LeO.none _)
    | (with_reducible refine LeO.ite ?_ ?_)
    | (with_reducible refine LeO.bind ?_ (fun _ => ?_))
    | exact ih0 _ _ _ _ _ _ _
    | exact backhaulref05_Get.mono _ _ _ _
    | exact LeO.none _
    | refine LeO.ite ?_ ?_
    | refine LeO.bind ?_ (fun _ => ?_)
theorem backhaulref06_Num.mono : ∀ a0 a1 a2 a3 a4 k, LeO (backhaulref06_Num.f k a0 a1 a2 a3 a4) (backhaulref06_Num.f (k + 1) a0 a1 a2 a3 a4) := by
  intro a0 a1 a2 a3 a4 k
  have ih0 := backhaulref06_Num.mono_l k
  unfold backhaulref06_Num.f
  repeat' first
      | (with_reducible exact ih0 _ _ _ _ _ _ _)
      | (with_reducible exact backhaulref05_Get.mono _ _ _ _)
      | (with_reducible exact LeO.refl _)
      | (with_reducible exact LeO.none _)
      | (with_reducible refine LeO.ite ?_ ?_)
      | (with_reducible refine LeO.bind ?_ (fun _ => ?_))
      | exact ih0 _ _ _ _ _ _ _
      | exact backhaulref05_Get.mono _ _ _ _
      | exact LeO.none _
      | refine LeO.ite ?_ ?_
      | refine LeO.bind ?_ (fun _ => ?_)
set_option maxHeartbeats 8000000 in
set_option maxRecDepth 100000 in
theorem backhaulref06_Num.calls (k : Nat) (a0_0 : ByteArray) (a0_1 : Int) (a0_2 : Int) (a1 : Int) (a2 : Int) (r1 : ByteArray) (r2 : Int) (r3 : Int) (r4 : Int) (w : World) (h : backhaulref06_Num.f k a0_0 a0_1 a0_2 a1 a2 = some (r1, r2, r3, r4)) :
    Calls Try.prog 120 #[.agg #[.string a0_0, .int .i64 a0_1, .int .i64 a0_2], .int .i64 a1, .int .i64 a2] w fun e w' => e = .returned (.tuple #[.agg #[.string r1, .int .i64 r2, .int .i64 r3], .int .i64 r4]) ∧ Below w.heap.size w w' := by
  have hu47 := Try.underlying47
  have HB := zA (Below.refl w.heap.size w)
  have H : (if a0_2 = 0 then ((backhaulref05_Get.f k a0_0 a0_1 a1).bind fun bt103 => (if bt103.2.2 = 0 then (backhaulref06_Num.j0 k bt103.1 bt103.2.1 bt103.2.2 (decide (bt103.1 > a2)) a0_0 a0_1 a0_2) else (backhaulref06_Num.j0 k bt103.1 bt103.2.1 bt103.2.2 false a0_0 a0_1 a0_2))) else (some (a0_0, a0_1, a0_2, 0))) = some (r1, r2, r3, r4) := h
  clear h
  by_cases c4 : a0_2 = 0
  · rw [if_pos c4] at H
    have c4b0 : (a0_2 == 0) = true := beq_iff_eq.mpr c4; have c4b1 : (a0_2 != 0) = false := bne_eq_false_iff_eq.mpr c4; clear c4; replace H := Option.bind_eq_some_iff.mp H; obtain ⟨⟨t103, t104, t105⟩, A50, H⟩ := H; replace H : (if t105 = 0 then (backhaulref06_Num.j0 k t103 t104 t105 (decide (t103 > a2)) a0_0 a0_1 a0_2) else (backhaulref06_Num.j0 k t103 t104 t105 false a0_0 a0_1 a0_2)) = some (r1, r2, r3, r4) := H; have A5 := zA A50; clear A50; have HC6 := zA H; clear H; go_enter Try.func120, Try.ntmps120; go_upto_region 4 with (first | ((with_reducible refine gate_dst (N := 3) rfl ?_); refine box_event qr (N := 3) qr (cs := #[.string a0_0, .int .i64 a0_1, .int .i64 a0_2]) (t := 47) qg ?_; intro gb101 hg w7 hbox hb; have n0_ := zA (zV qB hb); have n1_ := zA (hbox); have n2_ := zA ((qS : w.heap.size ≤ gb101)); have n3_ := zA ((qS : w.heap.size ≤ gb101)); clear HB; have HB := n0_; have BK101 := n1_; have GW101 := n2_; have GE101 := n3_; clear n0_ n1_ n2_ n3_ hb hbox hg) | ((with_reducible refine gate_dst (N := 6) rfl ?_); refine box_event qr (N := 6) qr (cs := #[.string (⟨#[]⟩ : ByteArray), .int .i64 0, .int .i64 0]) (t := 47) qg ?_; intro gb102 hg w8 hbox hb; have n0_ := zA (qX BK101.out hb); have n1_ := zA (zV qB hb); have n2_ := zA (hbox); have n3_ := zA ((qS : w.heap.size ≤ gb102)); have n4_ := zA ((qS : w.heap.size ≤ gb102)); have n5_ := zA ((by rw [hg]; exact zLq (qL BK101.out) : gb101 ≠ gb102)); have n6_ := zA ((by rw [hg]; exact zMq (qL BK101.out) : gb102 ≠ gb101)); clear BK101 HB; have BK101 := n0_; have HB := n1_; have BK102 := n2_; have GW102 := n3_; have GE102 := n4_; have NB101_102 := n5_; have NB102_101 := n6_; clear n0_ n1_ n2_ n3_ n4_ n5_ n6_ hb hbox hg; have hnb9 := NB101_102.out; have hnc9 := NB102_101.out; obtain ⟨_, _, _, _, _, _⟩ := qc3f BK101.out) | ((with_reducible refine zJq (f := 204) rfl ?_); refine goesL_ (some 21) rfl rfl Try.func204 (by kernel_rfl) rfl #[.string a0_0, .int .i64 a0_1, .int .i64 a1] rfl (by (try simp only [zR, zS, zT]); first | done | rfl | (simp only [zP, zQ]; rfl)) ?_; (with_reducible refine (backhaulref05_Get.calls k a0_0 a0_1 a1 t103 t104 t105 _ A5.out).mono ?_); rintro e w' ⟨rfl, ⟨nd, rfl⟩⟩; refine ⟨_, rfl, ?_⟩))
    (try simp only [Act.put, zH, zI, zJ])
    go_cut [31] (fun v31 wc => ∃ (kq : Nat) (x31_5 : Bool), v31 = .bool x31_5 ∧ Aside0 (backhaulref06_Num.j0 kq t103 t104 t105 x31_5 a0_0 a0_1 a0_2 = some (r1, r2, r3, r4)) ∧ Aside0 (kq ≤ k) ∧ Aside0 (wc.heap[gb101]? = some (.cells #[.string a0_0, .int .i64 a0_1, .int .i64 a0_2] 47 (0, 0))) ∧ Aside0 (wc.heap[gb102]? = some (.cells #[.string (⟨#[]⟩ : ByteArray), .int .i64 0, .int .i64 0] 47 (0, 0))) ∧ Aside0 (Below w.heap.size w wc))
    case first =>
      have H := HC6.out; clear HC6; by_cases c11 : t105 = 0
      · rw [if_pos c11] at H
        have c11b0 : (t105 == 0) = true := beq_iff_eq.mpr c11; have c11b1 : (t105 != 0) = false := bne_eq_false_iff_eq.mpr c11; clear c11; (first | rw [c11b0] | (simp only [i64_w, i32_w]; rw [c11b0]) | skip)
        have H' := zA H; clear H; go_wp2; go_meet
        case rel => exact ⟨_, (decide (t103 > a2)), (by first | rfl | (simp; done) | (simp [*]; done)), H', ⟨by first | omega | exact Nat.le_refl _⟩, ⟨by exact BK101.out⟩, ⟨by exact BK102.out⟩, ⟨qB⟩⟩
      rw [if_neg c11] at H; have c11b0 : (t105 == 0) = false := beq_eq_false_iff_ne.mpr c11; have c11b1 : (t105 != 0) = true := bne_iff_ne.mpr c11; (first | rw [c11b0] | (simp only [i64_w, i32_w]; rw [c11b0]) | skip)
      have H' := zA H; clear H; go_wp2; go_meet
      case rel => exact ⟨_, (false), (by first | rfl | (simp; done) | (simp [*]; done)), H', ⟨by first | omega | exact Nat.le_refl _⟩, ⟨by exact BK101.out⟩, ⟨by exact BK102.out⟩, ⟨qB⟩⟩
    case rest =>
      clear HC6; try clear c1
      try clear c2
      try clear p2
      try clear c4
      try clear c4b0
      try clear c4b1
      try clear c9
      try clear c11
      try clear c11b0
      try clear c11b1
      obtain ⟨kq, x31_5, rfl, HA, HJ5, BK101, BK102, HB⟩ := hcut; cases kq with
      | zero => exact absurd HA.out (by simp [backhaulref06_Num.j0])
      | succ kj5 =>
        have H := HA.out; clear HA; simp only [backhaulref06_Num.j0] at H; by_cases c12 : x31_5 = true
        · subst c12
          have H1 : ((backhaulref06_moved.f a0_0 a0_1 a0_2 t104 3).bind fun bt106 => (some (bt106.1, bt106.2.1, bt106.2.2, 0))) = some (r1, r2, r3, r4) := by first | (rw [if_pos rfl] at H; exact H) | rfl
          clear H; have H := H1; clear H1; replace H := Option.bind_eq_some_iff.mp H; obtain ⟨⟨t106, t107, t108⟩, A130, H⟩ := H; replace H : (some (t106, t107, t108, 0)) = some (r1, r2, r3, r4) := H; have A13 := zA A130; clear A130; simp only [zNq, zOq] at H; obtain ⟨rfl, rfl, rfl, rfl⟩ := H; have hnb14 := NB101_102.out; have hnc14 := NB102_101.out; obtain ⟨_, _, _, _, _, _⟩ := qc3f BK101.out; go_wp2_with (first | ((with_reducible refine zJq (f := 205) rfl ?_); refine goesL_ (some 37) rfl rfl Try.func205 (by kernel_rfl) rfl #[.agg #[.string a0_0, .int .i64 a0_1, .int .i64 a0_2], .int .i64 t104, .int .i64 3] rfl (by (try simp only [zR, zS, zT]); first | done | rfl | (simp only [zP, zQ]; rfl)) ?_; (with_reducible refine (backhaulref06_moved.calls a0_0 a0_1 a0_2 t104 3 t106 t107 t108 _ A13.out).mono ?_); rintro e w16 ⟨rfl, hb⟩; refine ⟨_, rfl, ?_⟩; have n0_ := zA (qX BK101.out hb); have n1_ := zA (qX BK102.out hb); have n2_ := zA (zV qB hb); clear BK101 BK102 HB; have BK101 := n0_; have BK102 := n1_; have HB := n2_; clear n0_ n1_ n2_; (try clear hb); (try clear hb2); (try clear hk); (try clear hi); obtain ⟨_, _, _, _, _, _⟩ := qc3f BK102.out)); refine bodyPost_ret (results_ct rfl _ _ gb102 47 #[.string t106, .int .i64 t107, .int .i64 t108] (0, 0) _ rfl (qV BK102.out) Try.underlying47 rfl (by kernel_rfl)) rfl ?_; exact ⟨qE, qB⟩
        replace c12 := Bool.eq_false_iff.mpr c12; subst c12; have H1 : (if t105 = 0 then ((backhaulref06_moved.f a0_0 a0_1 a0_2 t104 t105).bind fun bt109 => (some (bt109.1, bt109.2.1, bt109.2.2, t103))) else ((backhaulref06_moved.f a0_0 a0_1 a0_2 t104 t105).bind fun bt112 => (some (bt112.1, bt112.2.1, bt112.2.2, 0)))) = some (r1, r2, r3, r4) := by first | (rw [if_neg (show ¬ (false = true) by decide)] at H; exact H) | rfl
        clear H; have H := H1; clear H1; by_cases c18 : t105 = 0
        · rw [if_pos c18] at H
          have c18b0 : (t105 == 0) = true := beq_iff_eq.mpr c18; have c18b1 : (t105 != 0) = false := bne_eq_false_iff_eq.mpr c18; clear c18; replace H := Option.bind_eq_some_iff.mp H; obtain ⟨⟨t109, t110, t111⟩, A190, H⟩ := H; replace H : (some (t109, t110, t111, t103)) = some (r1, r2, r3, r4) := H; have A19 := zA A190; clear A190; simp only [zNq, zOq] at H; obtain ⟨rfl, rfl, rfl, rfl⟩ := H; have hnb20 := NB101_102.out; have hnc20 := NB102_101.out; obtain ⟨_, _, _, _, _, _⟩ := qc3f BK101.out; go_wp2_with (first | ((with_reducible refine zJq (f := 205) rfl ?_); refine goesL_ (some 37) rfl rfl Try.func205 (by kernel_rfl) rfl #[.agg #[.string a0_0, .int .i64 a0_1, .int .i64 a0_2], .int .i64 t104, .int .i64 t105] rfl (by (try simp only [zR, zS, zT]); first | done | rfl | (simp only [zP, zQ]; rfl)) ?_; (with_reducible refine (backhaulref06_moved.calls a0_0 a0_1 a0_2 t104 t105 t109 t110 t111 _ A19.out).mono ?_); rintro e w22 ⟨rfl, hb⟩; refine ⟨_, rfl, ?_⟩; have n0_ := zA (qX BK101.out hb); have n1_ := zA (qX BK102.out hb); have n2_ := zA (zV qB hb); clear BK101 BK102 HB; have BK101 := n0_; have BK102 := n1_; have HB := n2_; clear n0_ n1_ n2_; (try clear hb); (try clear hb2); (try clear hk); (try clear hi); obtain ⟨_, _, _, _, _, _⟩ := qc3f BK102.out)); refine bodyPost_ret (results_ct rfl _ _ gb102 47 #[.string t109, .int .i64 t110, .int .i64 t111] (0, 0) _ rfl (qV BK102.out) Try.underlying47 rfl (by kernel_rfl)) rfl ?_; exact ⟨qE, qB⟩
        rw [if_neg c18] at H; have c18b0 : (t105 == 0) = false := beq_eq_false_iff_ne.mpr c18; have c18b1 : (t105 != 0) = true := bne_iff_ne.mpr c18; replace H := Option.bind_eq_some_iff.mp H; obtain ⟨⟨t112, t113, t114⟩, A240, H⟩ := H; replace H : (some (t112, t113, t114, 0)) = some (r1, r2, r3, r4) := H; have A24 := zA A240; clear A240; simp only [zNq, zOq] at H; obtain ⟨rfl, rfl, rfl, rfl⟩ := H; have hnb25 := NB101_102.out; have hnc25 := NB102_101.out; obtain ⟨_, _, _, _, _, _⟩ := qc3f BK101.out; go_wp2_with (first | ((with_reducible refine zJq (f := 205) rfl ?_); refine goesL_ (some 37) rfl rfl Try.func205 (by kernel_rfl) rfl #[.agg #[.string a0_0, .int .i64 a0_1, .int .i64 a0_2], .int .i64 t104, .int .i64 t105] rfl (by (try simp only [zR, zS, zT]); first | done | rfl | (simp only [zP, zQ]; rfl)) ?_; (with_reducible refine (backhaulref06_moved.calls a0_0 a0_1 a0_2 t104 t105 t112 t113 t114 _ A24.out).mono ?_); rintro e w27 ⟨rfl, hb⟩; refine ⟨_, rfl, ?_⟩; have n0_ := zA (qX BK101.out hb); have n1_ := zA (qX BK102.out hb); have n2_ := zA (zV qB hb); clear BK101 BK102 HB; have BK101 := n0_; have BK102 := n1_; have HB := n2_; clear n0_ n1_ n2_; (try clear hb); (try clear hb2); (try clear hk); (try clear hi); obtain ⟨_, _, _, _, _, _⟩ := qc3f BK102.out)); refine bodyPost_ret (results_ct rfl _ _ gb102 47 #[.string t112, .int .i64 t113, .int .i64 t114] (0, 0) _ rfl (qV BK102.out) Try.underlying47 rfl (by kernel_rfl)) rfl ?_; exact ⟨qE, qB⟩
  rw [if_neg c4] at H
  have c4b0 : (a0_2 == 0) = false := beq_eq_false_iff_ne.mpr c4
  have c4b1 : (a0_2 != 0) = true := bne_iff_ne.mpr c4
  simp only [zNq, zOq] at H
  obtain ⟨rfl, rfl, rfl, rfl⟩ := H
  go_enter Try.func120, Try.ntmps120
  go_wp2_with (first | ((with_reducible refine gate_dst (N := 3) rfl ?_); refine box_event qr (N := 3) qr (cs := #[.string a0_0, .int .i64 a0_1, .int .i64 a0_2]) (t := 47) qg ?_; intro gb101 hg w29 hbox hb; have n0_ := zA (zV qB hb); have n1_ := zA (hbox); have n2_ := zA ((qS : w.heap.size ≤ gb101)); have n3_ := zA ((qS : w.heap.size ≤ gb101)); clear HB; have HB := n0_; have BK101 := n1_; have GW101 := n2_; have GE101 := n3_; clear n0_ n1_ n2_ n3_ hb hbox hg) | ((with_reducible refine gate_dst (N := 6) rfl ?_); refine box_event qr (N := 6) qr (cs := #[.string (⟨#[]⟩ : ByteArray), .int .i64 0, .int .i64 0]) (t := 47) qg ?_; intro gb102 hg w30 hbox hb; have n0_ := zA (qX BK101.out hb); have n1_ := zA (zV qB hb); have n2_ := zA (hbox); have n3_ := zA ((qS : w.heap.size ≤ gb102)); have n4_ := zA ((qS : w.heap.size ≤ gb102)); have n5_ := zA ((by rw [hg]; exact zLq (qL BK101.out) : gb101 ≠ gb102)); have n6_ := zA ((by rw [hg]; exact zMq (qL BK101.out) : gb102 ≠ gb101)); clear BK101 HB; have BK101 := n0_; have HB := n1_; have BK102 := n2_; have GW102 := n3_; have GE102 := n4_; have NB101_102 := n5_; have NB102_101 := n6_; clear n0_ n1_ n2_ n3_ n4_ n5_ n6_ hb hbox hg; have hnb31 := NB101_102.out; have hnc31 := NB102_101.out; obtain ⟨_, _, _, _, _, _⟩ := qc3f BK101.out; obtain ⟨_, _, _, _, _, _⟩ := qc3f BK102.out))
  refine bodyPost_ret (results_ct rfl _ _ gb102 47 #[.string a0_0, .int .i64 a0_1, .int .i64 a0_2] (0, 0) _ rfl (qV BK102.out) Try.underlying47 rfl (by kernel_rfl)) rfl ?_
  exact ⟨qE, qB⟩
mutual
def backhaulref05_Unrow.j0 : Nat → ByteArray → Int → Int → Int → Bool → Option (List Int × Int × Int)
  | 0, _, _, _, _, _ => none
  | k + 1, x0, x1, x2, x3, x35 => if x35 = true then (some (([] : List Int), 0, 2)) else ((backhaulref05_Get.f k x0 x1 2).bind fun bt102 => (if bt102.2.2 = 0 then (if bt102.1 > x3 then (backhaulref05_Unrow.j1 k x0 x2 bt102.1 bt102.2.1 true) else (backhaulref05_Unrow.j1 k x0 x2 bt102.1 bt102.2.1 (decide (bt102.1 > 1000)))) else (some (([] : List Int), 0, bt102.2.2))))
def backhaulref05_Unrow.j1 : Nat → ByteArray → Int → Int → Int → Bool → Option (List Int × Int × Int)
  | 0, _, _, _, _, _ => none
  | k + 1, x0, x2, x11, x12, x52 => if x52 = true then (some (([] : List Int), 0, 3)) else (backhaulref05_Unrow.l0 k x0 x2 x11 x12 ([] : List Int) 0)
def backhaulref05_Unrow.l0 : Nat → ByteArray → Int → Int → Int → List Int → Int → Option (List Int × Int × Int)
  | 0, _, _, _, _, _, _ => none
  | k + 1, x0, x2, x11, x12, x14, x15 => if x15 < x11 then ((backhaulref05_Get.f k x0 x12 x2).bind fun bt105 => (if bt105.2.2 = 0 then (if x14.length < 17592186044416 then (backhaulref05_Unrow.l0 k x0 x2 x11 bt105.2.1 (x14 ++ [bt105.1]) (wrap64 (x15 + 1))) else (none)) else (some (([] : List Int), 0, bt105.2.2)))) else (some (x14, x12, 0))
end
def backhaulref05_Unrow.f (k : Nat) (a0 : ByteArray) (a1 : Int) (a2 : Int) (a3 : Int) : Option (List Int × Int × Int) := (backhaulref05_wide.f a2).bind fun t101 => (if t101 = true then (if a1 < 0 then (backhaulref05_Unrow.j0 k a0 a1 a2 a3 true) else (if a1 > (a0.size : Int) then (backhaulref05_Unrow.j0 k a0 a1 a2 a3 true) else (backhaulref05_Unrow.j0 k a0 a1 a2 a3 (decide (a3 < 0))))) else (backhaulref05_Unrow.j0 k a0 a1 a2 a3 true))
theorem backhaulref05_Unrow.mono_l : ∀ k, (∀ y0 y1 y2 y3 y4, LeO (backhaulref05_Unrow.j0 k y0 y1 y2 y3 y4) (backhaulref05_Unrow.j0 (k + 1) y0 y1 y2 y3 y4)) ∧ (∀ y0 y1 y2 y3 y4, LeO (backhaulref05_Unrow.j1 k y0 y1 y2 y3 y4) (backhaulref05_Unrow.j1 (k + 1) y0 y1 y2 y3 y4)) ∧ (∀ y0 y1 y2 y3 y4 y5, LeO (backhaulref05_Unrow.l0 k y0 y1 y2 y3 y4 y5) (backhaulref05_Unrow.l0 (k + 1) y0 y1 y2 y3 y4 y5))
  | 0 => ⟨fun _ _ _ _ _ r h => by simp [backhaulref05_Unrow.j0] at h, fun _ _ _ _ _ r h => by simp [backhaulref05_Unrow.j1] at h, fun _ _ _ _ _ _ r h => by simp [backhaulref05_Unrow.l0] at h⟩
  | k + 1 => by
    obtain ⟨ih0, ih1, ih2⟩ := backhaulref05_Unrow.mono_l k
    refine ⟨?_, ?_, ?_⟩
    · intro y0 y1 y2 y3 y4
      unfold backhaulref05_Unrow.j0
      repeat' first
      | (with_reducible exact ih0 _ _ _ _ _)
      | (with_reducible exact ih1 _ _ _ _ _)
      | (with_reducible exact ih2 _ _ _ _ _ _)
      | (with_reducible exact backhaulref05_Get.mono _ _ _ _)
      | (with_reducible exact LeO.refl _)
      | (with_reducible exact LeO.none _)
      | (with_reducible refine LeO.ite ?_ ?_)
      | (with_reducible refine LeO.bind ?_ (fun _ => ?_))
      | exact ih0 _ _ _ _ _
      | exact ih1 _ _ _ _ _
      | exact ih2 _ _ _ _ _ _
      | exact backhaulref05_Get.mono _ _ _ _
      | exact LeO.none _
      | refine LeO.ite ?_ ?_
      | refine LeO.bind ?_ (fun _ => ?_)
    · intro y0 y1 y2 y3 y4
      unfold backhaulref05_Unrow.j1
      repeat' first
      | (with_reducible exact ih0 _ _ _ _ _)
      | (with_reducible exact ih1 _ _ _ _ _)
      | (with_reducible exact ih2 _ _ _ _ _ _)
      | (with_reducible exact backhaulref05_Get.mono _ _ _ _)
      | (with_reducible exact LeO.refl _)
      | (with_reducible exact LeO.none _)
      | (with_reducible refine LeO.ite ?_ ?_)
      | (with_reducible refine LeO.bind ?_ (fun _ => ?_))
      | exact ih0 _ _ _ _ _
      | exact ih1 _ _ _ _ _
      | exact ih2 _ _ _ _ _ _
      | exact backhaulref05_Get.mono _ _ _ _
      | exact LeO.none _
      | refine LeO.ite ?_ ?_
      | refine LeO.bind ?_ (fun _ => ?_)
    intro y0 y1 y2 y3 y4 y5
    unfold backhaulref05_Unrow.l0
    repeat' first
    | (with_reducible exact ih0 _ _ _ _ _)
    | (with_reducible exact ih1 _ _ _ _ _)
    | (with_reducible exact ih2 _ _ _ _ _ _)
    | (with_reducible exact backhaulref05_Get.mono _ _ _ _)
    | (with_reducible exact LeO.refl _)
    | (with_reducible exact LeO.none _)
    | (with_reducible refine LeO.ite ?_ ?_)
    | (with_reducible refine LeO.bind ?_ (fun _ => ?_))
    | exact ih0 _ _ _ _ _
    | exact ih1 _ _ _ _ _
    | exact ih2 _ _ _ _ _ _
    | exact backhaulref05_Get.mono _ _ _ _
    | exact LeO.none _
    | refine LeO.ite ?_ ?_
    | refine LeO.bind ?_ (fun _ => ?_)
theorem backhaulref05_Unrow.mono : ∀ a0 a1 a2 a3 k, LeO (backhaulref05_Unrow.f k a0 a1 a2 a3) (backhaulref05_Unrow.f (k + 1) a0 a1 a2 a3) := by
  intro a0 a1 a2 a3 k
  obtain ⟨ih0, ih1, ih2⟩ := backhaulref05_Unrow.mono_l k
  unfold backhaulref05_Unrow.f
  repeat' first
      | (with_reducible exact ih0 _ _ _ _ _)
      | (with_reducible exact ih1 _ _ _ _ _)
      | (with_reducible exact ih2 _ _ _ _ _ _)
      | (with_reducible exact backhaulref05_Get.mono _ _ _ _)
      | (with_reducible exact LeO.refl _)
      | (with_reducible exact LeO.none _)
      | (with_reducible refine LeO.ite ?_ ?_)
      | (with_reducible refine LeO.bind ?_ (fun _ => ?_))
      | exact ih0 _ _ _ _ _
      | exact ih1 _ _ _ _ _
      | exact ih2 _ _ _ _ _ _
      | exact backhaulref05_Get.mono _ _ _ _
      | exact LeO.none _
      | refine LeO.ite ?_ ?_
      | refine LeO.bind ?_ (fun _ => ?_)
set_option maxHeartbeats 8000000 in
set_option maxRecDepth 100000 in
theorem backhaulref05_Unrow.calls (k : Nat) (a0 : ByteArray) (a1 : Int) (a2 : Int) (a3 : Int) (r1 : List Int) (r2 : Int) (r3 : Int) (w : World) (h : backhaulref05_Unrow.f k a0 a1 a2 a3 = some (r1, r2, r3)) :
    Calls Try.prog 206 #[.string a0, .int .i64 a1, .int .i64 a2, .int .i64 a3] w fun e w' => ∃ v0_ : Value, e = .returned (.tuple #[v0_, .int .i64 r2, .int .i64 r3]) ∧ Kd.R (Kd.int .i64) 3 w' w.heap.size (fun _ => True) v0_ r1 ∧ Below w.heap.size w w' := by
  have HB := zA (Below.refl w.heap.size w)
  have H : ((backhaulref05_wide.f a2).bind fun t101 => (if t101 = true then (if a1 < 0 then (backhaulref05_Unrow.j0 k a0 a1 a2 a3 true) else (if a1 > (a0.size : Int) then (backhaulref05_Unrow.j0 k a0 a1 a2 a3 true) else (backhaulref05_Unrow.j0 k a0 a1 a2 a3 (decide (a3 < 0))))) else (backhaulref05_Unrow.j0 k a0 a1 a2 a3 true))) = some (r1, r2, r3) := h
  clear h
  have HC5 := zA H
  clear H
  go_enter Try.func206, Try.ntmps206
  go_upto_region 1 with (fail)
  go_cut [35] (fun v35 wc => ∃ (kq : Nat) (x35_4 : Bool), v35 = .bool x35_4 ∧ Aside0 (backhaulref05_Unrow.j0 kq a0 a1 a2 a3 x35_4 = some (r1, r2, r3)) ∧ Aside0 (kq ≤ k) ∧ Aside0 (Below w.heap.size w wc))
  case first =>
    have H := HC5.out; clear HC5; replace H := Option.bind_eq_some_iff.mp H; obtain ⟨t101, A60, H⟩ := H; replace H : (if t101 = true then (if a1 < 0 then (backhaulref05_Unrow.j0 k a0 a1 a2 a3 true) else (if a1 > (a0.size : Int) then (backhaulref05_Unrow.j0 k a0 a1 a2 a3 true) else (backhaulref05_Unrow.j0 k a0 a1 a2 a3 (decide (a3 < 0))))) else (backhaulref05_Unrow.j0 k a0 a1 a2 a3 true)) = some (r1, r2, r3) := H; have A6 := zA A60; clear A60; by_cases c7 : t101 = true
    · subst c7
      have H1 : (if a1 < 0 then (backhaulref05_Unrow.j0 k a0 a1 a2 a3 true) else (if a1 > (a0.size : Int) then (backhaulref05_Unrow.j0 k a0 a1 a2 a3 true) else (backhaulref05_Unrow.j0 k a0 a1 a2 a3 (decide (a3 < 0))))) = some (r1, r2, r3) := by first | (rw [if_pos rfl] at H; exact H) | rfl
      clear H; have H := H1; clear H1; by_cases c8 : a1 < 0
      · rw [if_pos c8] at H
        have c8b0 : decide (a1 < 0) = true := zFq c8; clear c8; (first | rw [c8b0] | (simp only [i64_w, i32_w]; rw [c8b0]) | skip)
        have H' := zA H; clear H; go_wp2_with (first | ((with_reducible refine zJq (f := 203) rfl ?_); refine goesL_ (some 20) rfl rfl Try.func203 (by kernel_rfl) rfl #[.int .i64 a2] rfl (by (try simp only [zR, zS, zT]); first | done | rfl | (simp only [zP, zQ]; rfl)) ?_; (with_reducible refine (backhaulref05_wide.calls a2 true _ A6.out).mono ?_); rintro e w' ⟨rfl, ⟨nd, rfl⟩⟩; refine ⟨_, rfl, ?_⟩)); go_meet
        case rel => exact ⟨_, (true), (by first | rfl | (simp; done) | (simp [*]; done)), H', ⟨by first | omega | exact Nat.le_refl _⟩, ⟨qB⟩⟩
      rw [if_neg c8] at H; have c8b0 : decide (a1 < 0) = false := zGq c8; clear c8; (first | rw [c8b0] | (simp only [i64_w, i32_w]; rw [c8b0]) | skip)
      by_cases c9 : a1 > (a0.size : Int)
      · rw [if_pos c9] at H
        have c9b0 : decide ((a0.size : Int) < a1) = true := zFq c9; clear c9; have H' := zA H; clear H; go_wp2_with (first | ((with_reducible refine zJq (f := 203) rfl ?_); refine goesL_ (some 20) rfl rfl Try.func203 (by kernel_rfl) rfl #[.int .i64 a2] rfl (by (try simp only [zR, zS, zT]); first | done | rfl | (simp only [zP, zQ]; rfl)) ?_; (with_reducible refine (backhaulref05_wide.calls a2 true _ A6.out).mono ?_); rintro e w' ⟨rfl, ⟨nd, rfl⟩⟩; refine ⟨_, rfl, ?_⟩)); go_meet
        case rel => exact ⟨_, (true), (by first | rfl | (simp; done) | (simp [*]; done)), H', ⟨by first | omega | exact Nat.le_refl _⟩, ⟨qB⟩⟩
      rw [if_neg c9] at H; have c9b0 : decide ((a0.size : Int) < a1) = false := zGq c9; clear c9; have H' := zA H; clear H; go_wp2_with (first | ((with_reducible refine zJq (f := 203) rfl ?_); refine goesL_ (some 20) rfl rfl Try.func203 (by kernel_rfl) rfl #[.int .i64 a2] rfl (by (try simp only [zR, zS, zT]); first | done | rfl | (simp only [zP, zQ]; rfl)) ?_; (with_reducible refine (backhaulref05_wide.calls a2 true _ A6.out).mono ?_); rintro e w' ⟨rfl, ⟨nd, rfl⟩⟩; refine ⟨_, rfl, ?_⟩)); go_meet
      case rel => exact ⟨_, (decide (a3 < 0)), (by first | rfl | (simp; done) | (simp [*]; done)), H', ⟨by first | omega | exact Nat.le_refl _⟩, ⟨qB⟩⟩
    replace c7 := Bool.eq_false_iff.mpr c7; subst c7; have H1 : (backhaulref05_Unrow.j0 k a0 a1 a2 a3 true) = some (r1, r2, r3) := by first | (rw [if_neg (show ¬ (false = true) by decide)] at H; exact H) | rfl
    clear H; have H := H1; clear H1; have H' := zA H; clear H; go_wp2_with (first | ((with_reducible refine zJq (f := 203) rfl ?_); refine goesL_ (some 20) rfl rfl Try.func203 (by kernel_rfl) rfl #[.int .i64 a2] rfl (by (try simp only [zR, zS, zT]); first | done | rfl | (simp only [zP, zQ]; rfl)) ?_; (with_reducible refine (backhaulref05_wide.calls a2 false _ A6.out).mono ?_); rintro e w' ⟨rfl, ⟨nd, rfl⟩⟩; refine ⟨_, rfl, ?_⟩)); go_meet
    case rel => exact ⟨_, (true), (by first | rfl | (simp; done) | (simp [*]; done)), H', ⟨by first | omega | exact Nat.le_refl _⟩, ⟨qB⟩⟩
  case rest =>
    clear HC5; try clear c2
    try clear p2
    try clear c7
    try clear c8
    try clear c8b0
    try clear c9
    try clear c9b0
    obtain ⟨kq, x35_4, rfl, HA, HJ4, HB⟩ := hcut; cases kq with
    | zero => exact absurd HA.out (by simp [backhaulref05_Unrow.j0])
    | succ kj4 =>
      have H := HA.out; clear HA; simp only [backhaulref05_Unrow.j0] at H; by_cases c10 : x35_4 = true
      · subst c10
        have H1 : (some (([] : List Int), 0, 2)) = some (r1, r2, r3) := by first | (rw [if_pos rfl] at H; exact H) | rfl
        clear H; have H := H1; clear H1; simp only [zNq, zOq] at H; obtain ⟨rfl, rfl, rfl⟩ := H; go_wp2; go_ret3; exact ⟨_, qE, qN, qB⟩
      replace c10 := Bool.eq_false_iff.mpr c10; subst c10; have H1 : ((backhaulref05_Get.f kj4 a0 a1 2).bind fun bt102 => (if bt102.2.2 = 0 then (if bt102.1 > a3 then (backhaulref05_Unrow.j1 kj4 a0 a2 bt102.1 bt102.2.1 true) else (backhaulref05_Unrow.j1 kj4 a0 a2 bt102.1 bt102.2.1 (decide (bt102.1 > 1000)))) else (some (([] : List Int), 0, bt102.2.2)))) = some (r1, r2, r3) := by first | (rw [if_neg (show ¬ (false = true) by decide)] at H; exact H) | rfl
      clear H; have H := H1; clear H1; replace H := Option.bind_eq_some_iff.mp H; obtain ⟨⟨t102, t103, t104⟩, A110, H⟩ := H; replace H : (if t104 = 0 then (if t102 > a3 then (backhaulref05_Unrow.j1 kj4 a0 a2 t102 t103 true) else (backhaulref05_Unrow.j1 kj4 a0 a2 t102 t103 (decide (t102 > 1000)))) else (some (([] : List Int), 0, t104))) = some (r1, r2, r3) := H; have A11 := zA A110; clear A110; by_cases c12 : t104 = 0
      · rw [if_pos c12] at H
        have c12b0 : (t104 == 0) = true := beq_iff_eq.mpr c12; have c12b1 : (t104 != 0) = false := bne_eq_false_iff_eq.mpr c12; clear c12; have HC13 := zA H; clear H; go_upto_region 6 with (first | ((with_reducible refine zJq (f := 204) rfl ?_); refine goesL_ (some 39) rfl rfl Try.func204 (by kernel_rfl) rfl #[.string a0, .int .i64 a1, .int .i64 2] rfl (by (try simp only [zR, zS, zT]); first | done | rfl | (simp only [zP, zQ]; rfl)) ?_; (with_reducible refine (backhaulref05_Get.calls kj4 a0 a1 2 t102 t103 t104 _ A11.out).mono ?_); rintro e w' ⟨rfl, ⟨nd, rfl⟩⟩; refine ⟨_, rfl, ?_⟩))
        (try simp only [Act.put, zH, zI, zJ])
        go_cut [52] (fun v52 wc => ∃ (kq : Nat) (x52_12 : Bool), v52 = .bool x52_12 ∧ Aside0 (backhaulref05_Unrow.j1 kq a0 a2 t102 t103 x52_12 = some (r1, r2, r3)) ∧ Aside0 (kq ≤ kj4) ∧ Aside0 (Below w.heap.size w wc))
        case first =>
          have H := HC13.out; clear HC13; by_cases c14 : t102 > a3
          · rw [if_pos c14] at H
            have c14b0 : decide (a3 < t102) = true := zFq c14; clear c14; (first | rw [c14b0] | (simp only [i64_w, i32_w]; rw [c14b0]) | skip)
            have H' := zA H; clear H; go_wp2; go_meet
            case rel => exact ⟨_, (true), (by first | rfl | (simp; done) | (simp [*]; done)), H', ⟨by have := HJ4.out; first | omega | exact Nat.le_refl _⟩, ⟨qB⟩⟩
          rw [if_neg c14] at H; have c14b0 : decide (a3 < t102) = false := zGq c14; clear c14; (first | rw [c14b0] | (simp only [i64_w, i32_w]; rw [c14b0]) | skip)
          have H' := zA H; clear H; go_wp2; go_meet
          case rel => exact ⟨_, (decide (t102 > 1000)), (by first | rfl | (simp; done) | (simp [*]; done)), H', ⟨by have := HJ4.out; first | omega | exact Nat.le_refl _⟩, ⟨qB⟩⟩
        case rest =>
          clear HC13; try clear c1
          try clear c2
          try clear p2
          try clear c7
          try clear c8
          try clear c8b0
          try clear c9
          try clear c9b0
          try clear c10
          try clear c12
          try clear c12b0
          try clear c12b1
          try clear c14
          try clear c14b0
          try clear p2
          obtain ⟨kq, x52_12, rfl, HA, HJ12, HB⟩ := hcut; cases kq with
          | zero => exact absurd HA.out (by simp [backhaulref05_Unrow.j1])
          | succ kj12 =>
            have H := HA.out; clear HA; simp only [backhaulref05_Unrow.j1] at H; by_cases c15 : x52_12 = true
            · subst c15
              have H1 : (some (([] : List Int), 0, 3)) = some (r1, r2, r3) := by first | (rw [if_pos rfl] at H; exact H) | rfl
              clear H; have H := H1; clear H1; simp only [zNq, zOq] at H; obtain ⟨rfl, rfl, rfl⟩ := H; go_wp2; go_ret3; exact ⟨_, qE, qN, qB⟩
            replace c15 := Bool.eq_false_iff.mpr c15; subst c15; have H1 : (backhaulref05_Unrow.l0 kj12 a0 a2 t102 t103 ([] : List Int) 0) = some (r1, r2, r3) := by first | (rw [if_neg (show ¬ (false = true) by decide)] at H; exact H) | rfl
            clear H; have H := H1; clear H1; have H' := zA H; clear H; go_wp2; go_loopg [12, 14, 15] kj12 (fun kq v12 v14 v15 w' => ∃ (x12_3 : Int) (x14_3 : List Int) (x15_3 : Int), v12 = .int .i64 x12_3 ∧ v15 = .int .i64 x15_3 ∧ Aside0 (backhaulref05_Unrow.l0 kq a0 a2 t102 x12_3 x14_3 x15_3 = some (r1, r2, r3)) ∧ Aside0 (kq ≤ kj12) ∧ Aside0 (Kd.R (Kd.int .i64) 3 w' w.heap.size (fun _ => True) v14 x14_3) ∧ Aside0 (Below w.heap.size w w'))
            case atStart => exact ⟨(t103), (([] : List Int)), (0), (by first | rfl | (simp; done) | (simp [*]; done)), (by first | rfl | (simp; done) | (simp [*]; done)), H', ⟨Nat.le_refl _⟩, ⟨qN⟩, ⟨qB⟩⟩
            case round =>
              clear H'; try clear c1
              try clear c2
              try clear p2
              try clear c7
              try clear c8
              try clear c8b0
              try clear c9
              try clear c9b0
              try clear c10
              try clear c12
              try clear c12b0
              try clear c12b1
              try clear c14
              try clear c14b0
              try clear c15
              try clear p2
              obtain ⟨x12_3, x14_3, x15_3, rfl, rfl, HA, HK3, HO_14, HB⟩ := hrel; cases gk with
              | zero => exact absurd HA.out (by simp [backhaulref05_Unrow.l0])
              | succ k3 =>
                have H := HA.out; clear HA; simp only [backhaulref05_Unrow.l0] at H; by_cases c16 : x15_3 < t102
                · rw [if_pos c16] at H
                  have c16b0 : decide (x15_3 < t102) = true := zFq c16; clear c16; replace H := Option.bind_eq_some_iff.mp H; obtain ⟨⟨t105, t106, t107⟩, A170, H⟩ := H; replace H : (if t107 = 0 then (if x14_3.length < 17592186044416 then (backhaulref05_Unrow.l0 k3 a0 a2 t102 t106 (x14_3 ++ [t105]) (wrap64 (x15_3 + 1))) else (none)) else (some (([] : List Int), 0, t107))) = some (r1, r2, r3) := H; have A17 := zA A170; clear A170; by_cases c18 : t107 = 0
                  · rw [if_pos c18] at H
                    have c18b0 : (t107 == 0) = true := beq_iff_eq.mpr c18; have c18b1 : (t107 != 0) = false := bne_eq_false_iff_eq.mpr c18; clear c18; by_cases c19 : x14_3.length < 17592186044416
                    · rw [if_pos c19] at H
                      have LMc19 := zA c19; clear c19; obtain ⟨y108, hy108⟩ : ∃ y_ : List Int, y_ = (x14_3 ++ [t105]) := ⟨_, rfl⟩
                      replace H : (backhaulref05_Unrow.l0 k3 a0 a2 t102 t106 y108 (wrap64 (x15_3 + 1))) = some (r1, r2, r3) := by first | (rw [hy108]; with_reducible exact H) | (have H2_ := (Option.bind_some _ _).symm.trans H; rw [hy108]; with_reducible exact H2_) | (have H2_ := (Option.bind_some _ _).symm.trans H; with_reducible exact H2_) | with_reducible exact H | (rw [hy108]; exact H) | exact H
                      have Ny108 := zA hy108; clear hy108; have H' := zA H; clear H; go_wp2_with (first | ((with_reducible refine zJq (f := 204) rfl ?_); refine goesL_ (some 62) rfl rfl Try.func204 (by kernel_rfl) rfl #[.string a0, .int .i64 x12_3, .int .i64 a2] rfl (by (try simp only [zR, zS, zT]); first | done | rfl | (simp only [zP, zQ]; rfl)) ?_; (with_reducible refine (backhaulref05_Get.calls k3 a0 x12_3 a2 t105 t106 t107 _ A17.out).mono ?_); rintro e w' ⟨rfl, ⟨nd, rfl⟩⟩; refine ⟨_, rfl, ?_⟩) | ((with_reducible refine gate_builtin (b := .append) (xs := #[.tmp 69, .tmp 71]) rfl ?_); (try (refine gate_guard (by rfl) ?_; dsimp only)); at_builtin; refine Kd.R_append (Kd.int .i64) (w0 := w) w.heap.size rfl (.tmp 69) (.tmp 71) 23 3 (.int .i64 0) 8 rfl Try.underlying23 info3 rfl (by decide) (by omega) u14 x14_3 t105 [.int .i64 t105] (fun _ => True) (fun _ => False) rfl rfl ?aP (fun _ hk => hk.elim) ?aF ?aO ?aB ?aS ?aL ?_; (case aP => exact rfl); (case aB => exact qB); (case aF => exact (fun _ _ => trivial)); (case aO => exact (by (with_reducible repeat (first | apply Kd.R_alloc | apply Kd.R_drewN | apply Kd.R_drew)); exact HO_14.out)); (case aS => exact (zW qB)); (case aL => have := LMc19.out; omega); intro v109 w20 ho hb hg hat; rw [← Ny108.out] at ho; have n0_ := zA (hb); have n1_ := zA (ho); clear HB HO_14; have HB := n0_; have HO110 := n1_; clear n0_ n1_ ho hb hg hat)); go_roundg k3
                      case measure => have := HJ4.out; have := HJ12.out; have := HK3.out; omega
                      case rel => exact ⟨(t106), (y108), (wrap64 (x15_3 + 1)), (by first | rfl | (simp; done) | (simp [*]; done)), (by first | rfl | (simp; done) | (simp [*]; done)), H', ⟨by have := HJ4.out; have := HJ12.out; have := HK3.out; omega⟩, ⟨by (with_reducible repeat (first | apply Kd.R_alloc | apply Kd.R_drewN | apply Kd.R_drew)); exact HO110.out⟩, ⟨qB⟩⟩
                    rw [if_neg c19] at H; exact absurd H (by simp)
                  rw [if_neg c18] at H; have c18b0 : (t107 == 0) = false := beq_eq_false_iff_ne.mpr c18; have c18b1 : (t107 != 0) = true := bne_iff_ne.mpr c18; simp only [zNq, zOq] at H; obtain ⟨rfl, rfl, rfl⟩ := H; go_wp2_with (first | ((with_reducible refine zJq (f := 204) rfl ?_); refine goesL_ (some 62) rfl rfl Try.func204 (by kernel_rfl) rfl #[.string a0, .int .i64 x12_3, .int .i64 a2] rfl (by (try simp only [zR, zS, zT]); first | done | rfl | (simp only [zP, zQ]; rfl)) ?_; (with_reducible refine (backhaulref05_Get.calls k3 a0 x12_3 a2 t105 t106 t107 _ A17.out).mono ?_); rintro e w' ⟨rfl, ⟨nd, rfl⟩⟩; refine ⟨_, rfl, ?_⟩)); go_ret3; exact ⟨_, qE, qN, qB⟩
                rw [if_neg c16] at H; have c16b0 : decide (x15_3 < t102) = false := zGq c16; clear c16; simp only [zNq, zOq] at H; obtain ⟨rfl, rfl, rfl⟩ := H; go_wp2; go_ret3; exact ⟨_, qE, by (with_reducible repeat (first | apply Kd.R_alloc | apply Kd.R_drewN | apply Kd.R_drew)); exact HO_14.out, qB⟩
      rw [if_neg c12] at H; have c12b0 : (t104 == 0) = false := beq_eq_false_iff_ne.mpr c12; have c12b1 : (t104 != 0) = true := bne_iff_ne.mpr c12; simp only [zNq, zOq] at H; obtain ⟨rfl, rfl, rfl⟩ := H; go_wp2_with (first | ((with_reducible refine zJq (f := 204) rfl ?_); refine goesL_ (some 39) rfl rfl Try.func204 (by kernel_rfl) rfl #[.string a0, .int .i64 a1, .int .i64 2] rfl (by (try simp only [zR, zS, zT]); first | done | rfl | (simp only [zP, zQ]; rfl)) ?_; (with_reducible refine (backhaulref05_Get.calls kj4 a0 a1 2 t102 t103 t104 _ A11.out).mono ?_); rintro e w' ⟨rfl, ⟨nd, rfl⟩⟩; refine ⟨_, rfl, ?_⟩)); go_ret3; exact ⟨_, qE, qN, qB⟩
def backhaulref06_Row.f (k : Nat) (a0_0 : ByteArray) (a0_1 : Int) (a0_2 : Int) (a1 : Int) (a2 : Int) : Option (ByteArray × Int × Int × List Int) := if a0_2 = 0 then ((backhaulref05_Unrow.f k a0_0 a0_1 a1 a2).bind fun bt103 => ((backhaulref06_moved.f a0_0 a0_1 a0_2 bt103.2.1 bt103.2.2).bind fun bt108 => (some (bt108.1, bt108.2.1, bt108.2.2, bt103.1)))) else (some (a0_0, a0_1, a0_2, ([] : List Int)))
theorem backhaulref06_Row.mono : ∀ a0 a1 a2 a3 a4 k, LeO (backhaulref06_Row.f k a0 a1 a2 a3 a4) (backhaulref06_Row.f (k + 1) a0 a1 a2 a3 a4) := by
  intro a0 a1 a2 a3 a4 k
  unfold backhaulref06_Row.f
  repeat' first
      | (with_reducible exact backhaulref05_Unrow.mono _ _ _ _ _)
      | (with_reducible exact LeO.refl _)
      | (with_reducible exact LeO.none _)
      | (with_reducible refine LeO.ite ?_ ?_)
      | (with_reducible refine LeO.bind ?_ (fun _ => ?_))
      | exact backhaulref05_Unrow.mono _ _ _ _ _
      | exact LeO.none _
      | refine LeO.ite ?_ ?_
      | refine LeO.bind ?_ (fun _ => ?_)
set_option maxHeartbeats 8000000 in
set_option maxRecDepth 100000 in
theorem backhaulref06_Row.calls (k : Nat) (a0_0 : ByteArray) (a0_1 : Int) (a0_2 : Int) (a1 : Int) (a2 : Int) (r1 : ByteArray) (r2 : Int) (r3 : Int) (r4 : List Int) (w : World) (h : backhaulref06_Row.f k a0_0 a0_1 a0_2 a1 a2 = some (r1, r2, r3, r4)) :
    Calls Try.prog 121 #[.agg #[.string a0_0, .int .i64 a0_1, .int .i64 a0_2], .int .i64 a1, .int .i64 a2] w fun e w' => ∃ v3_ : Value, e = .returned (.tuple #[.agg #[.string r1, .int .i64 r2, .int .i64 r3], v3_]) ∧ Kd.R (Kd.int .i64) 3 w' w.heap.size (fun _ => True) v3_ r4 ∧ Below w.heap.size w w' := by
  have hu47 := Try.underlying47
  have HB := zA (Below.refl w.heap.size w)
  have H : (if a0_2 = 0 then ((backhaulref05_Unrow.f k a0_0 a0_1 a1 a2).bind fun bt103 => ((backhaulref06_moved.f a0_0 a0_1 a0_2 bt103.2.1 bt103.2.2).bind fun bt108 => (some (bt108.1, bt108.2.1, bt108.2.2, bt103.1)))) else (some (a0_0, a0_1, a0_2, ([] : List Int)))) = some (r1, r2, r3, r4) := h
  clear h
  by_cases c4 : a0_2 = 0
  · rw [if_pos c4] at H
    have c4b0 : (a0_2 == 0) = true := beq_iff_eq.mpr c4; have c4b1 : (a0_2 != 0) = false := bne_eq_false_iff_eq.mpr c4; clear c4; replace H := Option.bind_eq_some_iff.mp H; obtain ⟨⟨t103, t104, t105⟩, A50, H⟩ := H; replace H : ((backhaulref06_moved.f a0_0 a0_1 a0_2 t104 t105).bind fun bt108 => (some (bt108.1, bt108.2.1, bt108.2.2, t103))) = some (r1, r2, r3, r4) := H; have A5 := zA A50; clear A50; replace H := Option.bind_eq_some_iff.mp H; obtain ⟨⟨t108, t109, t110⟩, A60, H⟩ := H; replace H : (some (t108, t109, t110, t103)) = some (r1, r2, r3, r4) := H; have A6 := zA A60; clear A60; simp only [zNq, zOq] at H; obtain ⟨rfl, rfl, rfl, rfl⟩ := H; go_enter Try.func121, Try.ntmps121; go_wp2_with (first | ((with_reducible refine gate_dst (N := 3) rfl ?_); refine box_event qr (N := 3) qr (cs := #[.string a0_0, .int .i64 a0_1, .int .i64 a0_2]) (t := 47) qg ?_; intro gb101 hg w7 hbox hb; have n0_ := zA (zV qB hb); have n1_ := zA (hbox); have n2_ := zA ((qS : w.heap.size ≤ gb101)); have n3_ := zA ((qS : w.heap.size ≤ gb101)); clear HB; have HB := n0_; have BK101 := n1_; have GW101 := n2_; have GE101 := n3_; clear n0_ n1_ n2_ n3_ hb hbox hg) | ((with_reducible refine gate_dst (N := 6) rfl ?_); refine box_event qr (N := 6) qr (cs := #[.string (⟨#[]⟩ : ByteArray), .int .i64 0, .int .i64 0]) (t := 47) qg ?_; intro gb102 hg w8 hbox hb; have n0_ := zA (qX BK101.out hb); have n1_ := zA (zV qB hb); have n2_ := zA (hbox); have n3_ := zA ((qS : w.heap.size ≤ gb102)); have n4_ := zA ((qS : w.heap.size ≤ gb102)); have n5_ := zA ((by rw [hg]; exact zLq (qL BK101.out) : gb101 ≠ gb102)); have n6_ := zA ((by rw [hg]; exact zMq (qL BK101.out) : gb102 ≠ gb101)); clear BK101 HB; have BK101 := n0_; have HB := n1_; have BK102 := n2_; have GW102 := n3_; have GE102 := n4_; have NB101_102 := n5_; have NB102_101 := n6_; clear n0_ n1_ n2_ n3_ n4_ n5_ n6_ hb hbox hg; have hnb9 := NB101_102.out; have hnc9 := NB102_101.out; obtain ⟨_, _, _, _, _, _⟩ := qc3f BK101.out) | ((with_reducible refine zJq (f := 206) rfl ?_); refine goesL_ (some 22) rfl rfl Try.func206 (by kernel_rfl) rfl #[.string a0_0, .int .i64 a0_1, .int .i64 a1, .int .i64 a2] rfl (by (try simp only [zR, zS, zT]); first | done | rfl | (simp only [zP, zQ]; rfl)) ?_; (with_reducible refine (backhaulref05_Unrow.calls k a0_0 a0_1 a1 a2 t103 t104 t105 _ A5.out).mono ?_); rintro e w11 ⟨v106, rfl, ho0, hb⟩; refine ⟨_, rfl, ?_⟩; have n0_ := zA (Kd.R_lower ho0 (zW qB)); have n1_ := zA (qX BK101.out hb); have n2_ := zA (qX BK102.out hb); have n3_ := zA (zV qB hb); clear BK101 BK102 HB; have HO107 := n0_; have BK101 := n1_; have BK102 := n2_; have HB := n3_; clear n0_ n1_ n2_ n3_; (try clear hb); (try clear hb2); (try clear hk); (try clear hi); (try clear ho0); obtain ⟨_, _, _, _, _, _⟩ := qc3f BK101.out) | ((with_reducible refine zJq (f := 205) rfl ?_); refine goesL_ (some 29) rfl rfl Try.func205 (by kernel_rfl) rfl #[.agg #[.string a0_0, .int .i64 a0_1, .int .i64 a0_2], .int .i64 t104, .int .i64 t105] rfl (by (try simp only [zR, zS, zT]); first | done | rfl | (simp only [zP, zQ]; rfl)) ?_; (with_reducible refine (backhaulref06_moved.calls a0_0 a0_1 a0_2 t104 t105 t108 t109 t110 _ A6.out).mono ?_); rintro e w13 ⟨rfl, hb⟩; refine ⟨_, rfl, ?_⟩; have n0_ := zA (Kd.R_below (by (with_reducible repeat (first | apply Kd.R_alloc | apply Kd.R_drewN | apply Kd.R_drew)); exact HO107.out) hb); have n1_ := zA (qX BK101.out hb); have n2_ := zA (qX BK102.out hb); have n3_ := zA (zV qB hb); clear HO107 BK101 BK102 HB; have HO107 := n0_; have BK101 := n1_; have BK102 := n2_; have HB := n3_; clear n0_ n1_ n2_ n3_; (try clear hb); (try clear hb2); (try clear hk); (try clear hi); obtain ⟨_, _, _, _, _, _⟩ := qc3f BK102.out))
    refine bodyPost_ret (results_ct rfl _ _ gb102 47 #[.string t108, .int .i64 t109, .int .i64 t110] (0, 0) _ rfl (qV BK102.out) Try.underlying47 rfl (by kernel_rfl)) rfl ?_; exact ⟨_, qE, by (with_reducible repeat (first | apply Kd.R_alloc | apply Kd.R_drewN | apply Kd.R_drew)); exact Kd.R_mono (Kd.R_far (p := ⟨gb102, 2, none⟩) (Kd.R_far (p := ⟨gb102, 1, none⟩) (Kd.R_far (p := ⟨gb102, 0, none⟩) (Kd.R_types HO107.out BK102.out (by decide)) (fun _ hk => hk.2) (.string t108)) (fun _ hk => hk.2) (.int .i64 t109)) (fun _ hk => hk.2) (.int .i64 t110)) (fun _ hk => trivial), qB⟩
  rw [if_neg c4] at H
  have c4b0 : (a0_2 == 0) = false := beq_eq_false_iff_ne.mpr c4
  have c4b1 : (a0_2 != 0) = true := bne_iff_ne.mpr c4
  simp only [zNq, zOq] at H
  obtain ⟨rfl, rfl, rfl, rfl⟩ := H
  go_enter Try.func121, Try.ntmps121
  go_wp2_with (first | ((with_reducible refine gate_dst (N := 3) rfl ?_); refine box_event qr (N := 3) qr (cs := #[.string a0_0, .int .i64 a0_1, .int .i64 a0_2]) (t := 47) qg ?_; intro gb101 hg w15 hbox hb; have n0_ := zA (zV qB hb); have n1_ := zA (hbox); have n2_ := zA ((qS : w.heap.size ≤ gb101)); have n3_ := zA ((qS : w.heap.size ≤ gb101)); clear HB; have HB := n0_; have BK101 := n1_; have GW101 := n2_; have GE101 := n3_; clear n0_ n1_ n2_ n3_ hb hbox hg) | ((with_reducible refine gate_dst (N := 6) rfl ?_); refine box_event qr (N := 6) qr (cs := #[.string (⟨#[]⟩ : ByteArray), .int .i64 0, .int .i64 0]) (t := 47) qg ?_; intro gb102 hg w16 hbox hb; have n0_ := zA (qX BK101.out hb); have n1_ := zA (zV qB hb); have n2_ := zA (hbox); have n3_ := zA ((qS : w.heap.size ≤ gb102)); have n4_ := zA ((qS : w.heap.size ≤ gb102)); have n5_ := zA ((by rw [hg]; exact zLq (qL BK101.out) : gb101 ≠ gb102)); have n6_ := zA ((by rw [hg]; exact zMq (qL BK101.out) : gb102 ≠ gb101)); clear BK101 HB; have BK101 := n0_; have HB := n1_; have BK102 := n2_; have GW102 := n3_; have GE102 := n4_; have NB101_102 := n5_; have NB102_101 := n6_; clear n0_ n1_ n2_ n3_ n4_ n5_ n6_ hb hbox hg; have hnb17 := NB101_102.out; have hnc17 := NB102_101.out; obtain ⟨_, _, _, _, _, _⟩ := qc3f BK101.out; obtain ⟨_, _, _, _, _, _⟩ := qc3f BK102.out))
  refine bodyPost_ret (results_ct rfl _ _ gb102 47 #[.string a0_0, .int .i64 a0_1, .int .i64 a0_2] (0, 0) _ rfl (qV BK102.out) Try.underlying47 rfl (by kernel_rfl)) rfl ?_
  exact ⟨_, qE, qN, qB⟩
def backhaulref06_End.f (a0_0 : ByteArray) (a0_1 : Int) (a0_2 : Int) : Option (ByteArray × Int × Int) := if a0_2 = 0 then (if a0_1 < (a0_0.size : Int) then (some (a0_0, a0_1, 6)) else (some (a0_0, a0_1, a0_2))) else (some (a0_0, a0_1, a0_2))
set_option maxHeartbeats 8000000 in
set_option maxRecDepth 100000 in
theorem backhaulref06_End.calls (a0_0 : ByteArray) (a0_1 : Int) (a0_2 : Int) (r1 : ByteArray) (r2 : Int) (r3 : Int) (w : World) (h : backhaulref06_End.f a0_0 a0_1 a0_2 = some (r1, r2, r3)) :
    Calls Try.prog 122 #[.agg #[.string a0_0, .int .i64 a0_1, .int .i64 a0_2]] w fun e w' => e = .returned (.agg #[.string r1, .int .i64 r2, .int .i64 r3]) ∧ Below w.heap.size w w' := by
  have hu47 := Try.underlying47
  have HB := zA (Below.refl w.heap.size w)
  have H : (if a0_2 = 0 then (if a0_1 < (a0_0.size : Int) then (some (a0_0, a0_1, 6)) else (some (a0_0, a0_1, a0_2))) else (some (a0_0, a0_1, a0_2))) = some (r1, r2, r3) := h
  clear h
  by_cases c2 : a0_2 = 0
  · rw [if_pos c2] at H
    have c2b0 : (a0_2 == 0) = true := beq_iff_eq.mpr c2; have c2b1 : (a0_2 != 0) = false := bne_eq_false_iff_eq.mpr c2; clear c2; by_cases c3 : a0_1 < (a0_0.size : Int)
    · rw [if_pos c3] at H
      have c3b0 : decide (a0_1 < (a0_0.size : Int)) = true := zFq c3; clear c3; simp only [zNq, zOq] at H; obtain ⟨rfl, rfl, rfl⟩ := H; go_enter Try.func122, Try.ntmps122; go_wp2_with (first | ((with_reducible refine gate_dst (N := 1) rfl ?_); (try (refine gate_guard (by rfl) ?_; dsimp only)); refine box_event qr (N := 1) qr (cs := #[.string a0_0, .int .i64 a0_1, .int .i64 a0_2]) (t := 47) qg ?_; intro gb101 hg w4 hbox hb; have n0_ := zA (zV qB hb); have n1_ := zA (hbox); have n2_ := zA ((qS : w.heap.size ≤ gb101)); have n3_ := zA ((qS : w.heap.size ≤ gb101)); clear HB; have HB := n0_; have BK101 := n1_; have GW101 := n2_; have GE101 := n3_; clear n0_ n1_ n2_ n3_ hb hbox hg) | ((with_reducible refine gate_dst (N := 2) rfl ?_); (try (refine gate_guard (by rfl) ?_; dsimp only)); refine box_event qr (N := 2) qr (cs := #[.string (⟨#[]⟩ : ByteArray), .int .i64 0, .int .i64 0]) (t := 47) qg ?_; intro gb102 hg w5 hbox hb; have n0_ := zA (qX BK101.out hb); have n1_ := zA (zV qB hb); have n2_ := zA (hbox); have n3_ := zA ((qS : w.heap.size ≤ gb102)); have n4_ := zA ((qS : w.heap.size ≤ gb102)); have n5_ := zA ((by rw [hg]; exact zLq (qL BK101.out) : gb101 ≠ gb102)); have n6_ := zA ((by rw [hg]; exact zMq (qL BK101.out) : gb102 ≠ gb101)); clear BK101 HB; have BK101 := n0_; have HB := n1_; have BK102 := n2_; have GW102 := n3_; have GE102 := n4_; have NB101_102 := n5_; have NB102_101 := n6_; clear n0_ n1_ n2_ n3_ n4_ n5_ n6_ hb hbox hg; have hnb6 := NB101_102.out; have hnc6 := NB102_101.out; obtain ⟨_, _, _, _, _, _⟩ := qc3f BK101.out; obtain ⟨_, _, _, _, _, _⟩ := qc3f BK102.out)); refine bodyPost_ret (results_cell_row rfl _ _ gb102 47 #[.string a0_0, .int .i64 a0_1, .int .i64 6] (0, 0) _ rfl (qV BK102.out) Try.underlying47 rfl (by kernel_rfl)) rfl ?_; exact ⟨qE, qB⟩
    rw [if_neg c3] at H; have c3b0 : decide (a0_1 < (a0_0.size : Int)) = false := zGq c3; clear c3; simp only [zNq, zOq] at H; obtain ⟨rfl, rfl, rfl⟩ := H; go_enter Try.func122, Try.ntmps122; go_wp2_with (first | ((with_reducible refine gate_dst (N := 1) rfl ?_); (try (refine gate_guard (by rfl) ?_; dsimp only)); refine box_event qr (N := 1) qr (cs := #[.string a0_0, .int .i64 a0_1, .int .i64 a0_2]) (t := 47) qg ?_; intro gb101 hg w9 hbox hb; have n0_ := zA (zV qB hb); have n1_ := zA (hbox); have n2_ := zA ((qS : w.heap.size ≤ gb101)); have n3_ := zA ((qS : w.heap.size ≤ gb101)); clear HB; have HB := n0_; have BK101 := n1_; have GW101 := n2_; have GE101 := n3_; clear n0_ n1_ n2_ n3_ hb hbox hg) | ((with_reducible refine gate_dst (N := 2) rfl ?_); (try (refine gate_guard (by rfl) ?_; dsimp only)); refine box_event qr (N := 2) qr (cs := #[.string (⟨#[]⟩ : ByteArray), .int .i64 0, .int .i64 0]) (t := 47) qg ?_; intro gb102 hg w10 hbox hb; have n0_ := zA (qX BK101.out hb); have n1_ := zA (zV qB hb); have n2_ := zA (hbox); have n3_ := zA ((qS : w.heap.size ≤ gb102)); have n4_ := zA ((qS : w.heap.size ≤ gb102)); have n5_ := zA ((by rw [hg]; exact zLq (qL BK101.out) : gb101 ≠ gb102)); have n6_ := zA ((by rw [hg]; exact zMq (qL BK101.out) : gb102 ≠ gb101)); clear BK101 HB; have BK101 := n0_; have HB := n1_; have BK102 := n2_; have GW102 := n3_; have GE102 := n4_; have NB101_102 := n5_; have NB102_101 := n6_; clear n0_ n1_ n2_ n3_ n4_ n5_ n6_ hb hbox hg; have hnb11 := NB101_102.out; have hnc11 := NB102_101.out; obtain ⟨_, _, _, _, _, _⟩ := qc3f BK101.out; obtain ⟨_, _, _, _, _, _⟩ := qc3f BK102.out)); refine bodyPost_ret (results_cell_row rfl _ _ gb102 47 #[.string a0_0, .int .i64 a0_1, .int .i64 a0_2] (0, 0) _ rfl (qV BK102.out) Try.underlying47 rfl (by kernel_rfl)) rfl ?_; exact ⟨qE, qB⟩
  rw [if_neg c2] at H
  have c2b0 : (a0_2 == 0) = false := beq_eq_false_iff_ne.mpr c2
  have c2b1 : (a0_2 != 0) = true := bne_iff_ne.mpr c2
  simp only [zNq, zOq] at H
  obtain ⟨rfl, rfl, rfl⟩ := H
  go_enter Try.func122, Try.ntmps122
  go_wp2_with (first | ((with_reducible refine gate_dst (N := 1) rfl ?_); (try (refine gate_guard (by rfl) ?_; dsimp only)); refine box_event qr (N := 1) qr (cs := #[.string a0_0, .int .i64 a0_1, .int .i64 a0_2]) (t := 47) qg ?_; intro gb101 hg w14 hbox hb; have n0_ := zA (zV qB hb); have n1_ := zA (hbox); have n2_ := zA ((qS : w.heap.size ≤ gb101)); have n3_ := zA ((qS : w.heap.size ≤ gb101)); clear HB; have HB := n0_; have BK101 := n1_; have GW101 := n2_; have GE101 := n3_; clear n0_ n1_ n2_ n3_ hb hbox hg) | ((with_reducible refine gate_dst (N := 2) rfl ?_); (try (refine gate_guard (by rfl) ?_; dsimp only)); refine box_event qr (N := 2) qr (cs := #[.string (⟨#[]⟩ : ByteArray), .int .i64 0, .int .i64 0]) (t := 47) qg ?_; intro gb102 hg w15 hbox hb; have n0_ := zA (qX BK101.out hb); have n1_ := zA (zV qB hb); have n2_ := zA (hbox); have n3_ := zA ((qS : w.heap.size ≤ gb102)); have n4_ := zA ((qS : w.heap.size ≤ gb102)); have n5_ := zA ((by rw [hg]; exact zLq (qL BK101.out) : gb101 ≠ gb102)); have n6_ := zA ((by rw [hg]; exact zMq (qL BK101.out) : gb102 ≠ gb101)); clear BK101 HB; have BK101 := n0_; have HB := n1_; have BK102 := n2_; have GW102 := n3_; have GE102 := n4_; have NB101_102 := n5_; have NB102_101 := n6_; clear n0_ n1_ n2_ n3_ n4_ n5_ n6_ hb hbox hg; have hnb16 := NB101_102.out; have hnc16 := NB102_101.out; obtain ⟨_, _, _, _, _, _⟩ := qc3f BK101.out; obtain ⟨_, _, _, _, _, _⟩ := qc3f BK102.out))
  refine bodyPost_ret (results_cell_row rfl _ _ gb102 47 #[.string a0_0, .int .i64 a0_1, .int .i64 a0_2] (0, 0) _ rfl (qV BK102.out) Try.underlying47 rfl (by kernel_rfl)) rfl ?_
  exact ⟨qE, qB⟩
def backhaulref05_Take.j0 : Nat → ByteArray → Int → Int → Bool → Option (ByteArray × Int × Int)
  | 0, _, _, _, _ => none
  | k + 1, x0, x1, x2, x23 => if x23 = true then (some ((⟨#[]⟩ : ByteArray), 0, 2)) else ((backhaulref05_Get.f k x0 x1 2).bind fun bt101 => (if bt101.2.2 = 0 then (if bt101.1 > x2 then (some ((⟨#[]⟩ : ByteArray), 0, 3)) else (if (wrap64 (bt101.2.1 + bt101.1)) > (x0.size : Int) then (some ((⟨#[]⟩ : ByteArray), 0, 4)) else (if 0 ≤ bt101.2.1 then (if bt101.2.1 ≤ (wrap64 (bt101.2.1 + bt101.1)) then (if (wrap64 (bt101.2.1 + bt101.1)) ≤ (x0.size : Int) then (some (x0.extract (bt101.2.1 : Int).toNat ((wrap64 (bt101.2.1 + bt101.1)) : Int).toNat, wrap64 (bt101.2.1 + bt101.1), 0)) else (none)) else (none)) else (none)))) else (some ((⟨#[]⟩ : ByteArray), 0, bt101.2.2))))
def backhaulref05_Take.f (k : Nat) (a0 : ByteArray) (a1 : Int) (a2 : Int) : Option (ByteArray × Int × Int) := if a2 < 0 then (backhaulref05_Take.j0 k a0 a1 a2 true) else (if a1 < 0 then (backhaulref05_Take.j0 k a0 a1 a2 true) else (backhaulref05_Take.j0 k a0 a1 a2 (decide (a1 > (a0.size : Int)))))
theorem backhaulref05_Take.mono_l : ∀ k, (∀ y0 y1 y2 y3, LeO (backhaulref05_Take.j0 k y0 y1 y2 y3) (backhaulref05_Take.j0 (k + 1) y0 y1 y2 y3))
  | 0 => fun _ _ _ _ r h => by simp [backhaulref05_Take.j0] at h
  | k + 1 => by
    have ih0 := backhaulref05_Take.mono_l k
    intro y0 y1 y2 y3
    unfold backhaulref05_Take.j0
    repeat' first
    | (with_reducible exact ih0 _ _ _ _)
    | (with_reducible exact backhaulref05_Get.mono _ _ _ _)
    | (with_reducible exact LeO.refl _)
    | (with_reducible exact LeO.none _)
    | (with_reducible refine LeO.ite ?_ ?_)
    | (with_reducible refine LeO.bind ?_ (fun _ => ?_))
    | exact ih0 _ _ _ _
    | exact backhaulref05_Get.mono _ _ _ _
    | exact LeO.none _
    | refine LeO.ite ?_ ?_
    | refine LeO.bind ?_ (fun _ => ?_)
theorem backhaulref05_Take.mono : ∀ a0 a1 a2 k, LeO (backhaulref05_Take.f k a0 a1 a2) (backhaulref05_Take.f (k + 1) a0 a1 a2) := by
  intro a0 a1 a2 k
  have ih0 := backhaulref05_Take.mono_l k
  unfold backhaulref05_Take.f
  repeat' first
      | (with_reducible exact ih0 _ _ _ _)
      | (with_reducible exact backhaulref05_Get.mono _ _ _ _)
      | (with_reducible exact LeO.refl _)
      | (with_reducible exact LeO.none _)
      | (with_reducible refine LeO.ite ?_ ?_)
      | (with_reducible refine LeO.bind ?_ (fun _ => ?_))
      | exact ih0 _ _ _ _
      | exact backhaulref05_Get.mono _ _ _ _
      | exact LeO.none _
      | refine LeO.ite ?_ ?_
      | refine LeO.bind ?_ (fun _ => ?_)
set_option maxHeartbeats 8000000 in
set_option maxRecDepth 100000 in
theorem backhaulref05_Take.calls (k : Nat) (a0 : ByteArray) (a1 : Int) (a2 : Int) (r1 : ByteArray) (r2 : Int) (r3 : Int) (w : World) (h : backhaulref05_Take.f k a0 a1 a2 = some (r1, r2, r3)) :
    Calls Try.prog 209 #[.string a0, .int .i64 a1, .int .i64 a2] w fun e w' => e = .returned (.tuple #[.string r1, .int .i64 r2, .int .i64 r3]) ∧ Drawn0 w w' := by
  have H : (if a2 < 0 then (backhaulref05_Take.j0 k a0 a1 a2 true) else (if a1 < 0 then (backhaulref05_Take.j0 k a0 a1 a2 true) else (backhaulref05_Take.j0 k a0 a1 a2 (decide (a1 > (a0.size : Int)))))) = some (r1, r2, r3) := h
  clear h
  have HC4 := zA H
  clear H
  go_enter Try.func209, Try.ntmps209
  go_upto_region 1 with (fail)
  go_cut [23] (fun v23 wc => ∃ (kq : Nat) (x23_3 : Bool), v23 = .bool x23_3 ∧ Aside0 (backhaulref05_Take.j0 kq a0 a1 a2 x23_3 = some (r1, r2, r3)) ∧ Aside0 (kq ≤ k) ∧ Drawn0 w wc)
  case first =>
    have H := HC4.out; clear HC4; by_cases c5 : a2 < 0
    · rw [if_pos c5] at H
      have c5b0 : decide (a2 < 0) = true := zFq c5; clear c5; (first | rw [c5b0] | (simp only [i64_w, i32_w]; rw [c5b0]) | skip)
      have H' := zA H; clear H; go_wp2; go_meet
      case rel => exact ⟨_, (true), (by first | rfl | (simp; done) | (simp [*]; done)), H', ⟨by first | omega | exact Nat.le_refl _⟩, by repeat (first | exact Drawn0.refl _ | apply Drawn0.step)⟩
    rw [if_neg c5] at H; have c5b0 : decide (a2 < 0) = false := zGq c5; clear c5; (first | rw [c5b0] | (simp only [i64_w, i32_w]; rw [c5b0]) | skip)
    by_cases c6 : a1 < 0
    · rw [if_pos c6] at H
      have c6b0 : decide (a1 < 0) = true := zFq c6; clear c6; have H' := zA H; clear H; go_wp2; go_meet
      case rel => exact ⟨_, (true), (by first | rfl | (simp; done) | (simp [*]; done)), H', ⟨by first | omega | exact Nat.le_refl _⟩, by repeat (first | exact Drawn0.refl _ | apply Drawn0.step)⟩
    rw [if_neg c6] at H; have c6b0 : decide (a1 < 0) = false := zGq c6; clear c6; have H' := zA H; clear H; go_wp2; go_meet
    case rel => exact ⟨_, (decide (a1 > (a0.size : Int))), (by first | rfl | (simp; done) | (simp [*]; done)), H', ⟨by first | omega | exact Nat.le_refl _⟩, by repeat (first | exact Drawn0.refl _ | apply Drawn0.step)⟩
  case rest =>
    clear HC4; try clear c2
    try clear p2
    try clear c5
    try clear c5b0
    try clear c6
    try clear c6b0
    obtain ⟨kq, x23_3, rfl, HA, HJ3, ⟨mc3, rfl⟩⟩ := hcut; cases kq with
    | zero => exact absurd HA.out (by simp [backhaulref05_Take.j0])
    | succ kj3 =>
      have H := HA.out; clear HA; simp only [backhaulref05_Take.j0] at H; by_cases c7 : x23_3 = true
      · subst c7
        have H1 : (some ((⟨#[]⟩ : ByteArray), 0, 2)) = some (r1, r2, r3) := by first | (rw [if_pos rfl] at H; exact H) | rfl
        clear H; have H := H1; clear H1; simp only [zNq, zOq] at H; obtain ⟨rfl, rfl, rfl⟩ := H; go_wp2; go_ret3; exact ⟨by first | rfl | (simp; done) | (simp [*]; done), by repeat (first | exact Drawn0.refl _ | apply Drawn0.step)⟩
      replace c7 := Bool.eq_false_iff.mpr c7; subst c7; have H1 : ((backhaulref05_Get.f kj3 a0 a1 2).bind fun bt101 => (if bt101.2.2 = 0 then (if bt101.1 > a2 then (some ((⟨#[]⟩ : ByteArray), 0, 3)) else (if (wrap64 (bt101.2.1 + bt101.1)) > (a0.size : Int) then (some ((⟨#[]⟩ : ByteArray), 0, 4)) else (if 0 ≤ bt101.2.1 then (if bt101.2.1 ≤ (wrap64 (bt101.2.1 + bt101.1)) then (if (wrap64 (bt101.2.1 + bt101.1)) ≤ (a0.size : Int) then (some (a0.extract (bt101.2.1 : Int).toNat ((wrap64 (bt101.2.1 + bt101.1)) : Int).toNat, wrap64 (bt101.2.1 + bt101.1), 0)) else (none)) else (none)) else (none)))) else (some ((⟨#[]⟩ : ByteArray), 0, bt101.2.2)))) = some (r1, r2, r3) := by first | (rw [if_neg (show ¬ (false = true) by decide)] at H; exact H) | rfl
      clear H; have H := H1; clear H1; replace H := Option.bind_eq_some_iff.mp H; obtain ⟨⟨t101, t102, t103⟩, A80, H⟩ := H; replace H : (if t103 = 0 then (if t101 > a2 then (some ((⟨#[]⟩ : ByteArray), 0, 3)) else (if (wrap64 (t102 + t101)) > (a0.size : Int) then (some ((⟨#[]⟩ : ByteArray), 0, 4)) else (if 0 ≤ t102 then (if t102 ≤ (wrap64 (t102 + t101)) then (if (wrap64 (t102 + t101)) ≤ (a0.size : Int) then (some (a0.extract (t102 : Int).toNat ((wrap64 (t102 + t101)) : Int).toNat, wrap64 (t102 + t101), 0)) else (none)) else (none)) else (none)))) else (some ((⟨#[]⟩ : ByteArray), 0, t103))) = some (r1, r2, r3) := H; have A8 := zA A80; clear A80; by_cases c9 : t103 = 0
      · rw [if_pos c9] at H
        have c9b0 : (t103 == 0) = true := beq_iff_eq.mpr c9; have c9b1 : (t103 != 0) = false := bne_eq_false_iff_eq.mpr c9; clear c9; by_cases c10 : t101 > a2
        · rw [if_pos c10] at H
          have c10b0 : decide (a2 < t101) = true := zFq c10; clear c10; simp only [zNq, zOq] at H; obtain ⟨rfl, rfl, rfl⟩ := H; go_wp2_with (first | ((with_reducible refine zJq (f := 204) rfl ?_); refine goesL_ (some 27) rfl rfl Try.func204 (by kernel_rfl) rfl #[.string a0, .int .i64 a1, .int .i64 2] rfl (by (try simp only [zR, zS, zT]); first | done | rfl | (simp only [zP, zQ]; rfl)) ?_; (with_reducible refine (backhaulref05_Get.calls kj3 a0 a1 2 t101 t102 t103 _ A8.out).mono ?_); rintro e w' ⟨rfl, ⟨nd, rfl⟩⟩; refine ⟨_, rfl, ?_⟩)); go_ret3; exact ⟨by first | rfl | (simp; done) | (simp [*]; done), by repeat (first | exact Drawn0.refl _ | apply Drawn0.step)⟩
        rw [if_neg c10] at H; have c10b0 : decide (a2 < t101) = false := zGq c10; clear c10; by_cases c11 : (wrap64 (t102 + t101)) > (a0.size : Int)
        · rw [if_pos c11] at H
          have c11b0 : decide ((a0.size : Int) < (wrap64 (t102 + t101))) = true := zFq c11; clear c11; simp only [zNq, zOq] at H; obtain ⟨rfl, rfl, rfl⟩ := H; go_wp2_with (first | ((with_reducible refine zJq (f := 204) rfl ?_); refine goesL_ (some 27) rfl rfl Try.func204 (by kernel_rfl) rfl #[.string a0, .int .i64 a1, .int .i64 2] rfl (by (try simp only [zR, zS, zT]); first | done | rfl | (simp only [zP, zQ]; rfl)) ?_; (with_reducible refine (backhaulref05_Get.calls kj3 a0 a1 2 t101 t102 t103 _ A8.out).mono ?_); rintro e w' ⟨rfl, ⟨nd, rfl⟩⟩; refine ⟨_, rfl, ?_⟩)); go_ret3; exact ⟨by first | rfl | (simp; done) | (simp [*]; done), by repeat (first | exact Drawn0.refl _ | apply Drawn0.step)⟩
        rw [if_neg c11] at H; have c11b0 : decide ((a0.size : Int) < (wrap64 (t102 + t101))) = false := zGq c11; clear c11; by_cases c12 : 0 ≤ t102
        · rw [if_pos c12] at H
          have c12b0 := eq_true c12; have c12b1 : decide (0 ≤ t102) = true := zFq c12; clear c12; by_cases c13 : t102 ≤ (wrap64 (t102 + t101))
          · rw [if_pos c13] at H
            have c13b0 := eq_true c13; have c13b1 : decide (t102 ≤ (wrap64 (t102 + t101))) = true := zFq c13; by_cases c14 : (wrap64 (t102 + t101)) ≤ (a0.size : Int)
            · rw [if_pos c14] at H
              have c14b0 := eq_true c14; have c14b1 : decide ((wrap64 (t102 + t101)) ≤ (a0.size : Int)) = true := zFq c14; simp only [zNq, zOq] at H; obtain ⟨rfl, rfl, rfl⟩ := H; go_wp2_with (first | ((with_reducible refine zJq (f := 204) rfl ?_); refine goesL_ (some 27) rfl rfl Try.func204 (by kernel_rfl) rfl #[.string a0, .int .i64 a1, .int .i64 2] rfl (by (try simp only [zR, zS, zT]); first | done | rfl | (simp only [zP, zQ]; rfl)) ?_; (with_reducible refine (backhaulref05_Get.calls kj3 a0 a1 2 t101 t102 t103 _ A8.out).mono ?_); rintro e w' ⟨rfl, ⟨nd, rfl⟩⟩; refine ⟨_, rfl, ?_⟩)); go_ret3; exact ⟨by first | rfl | (simp; done) | (simp [*]; done), by repeat (first | exact Drawn0.refl _ | apply Drawn0.step)⟩
            rw [if_neg c14] at H; exact absurd H (by simp)
          rw [if_neg c13] at H; exact absurd H (by simp)
        rw [if_neg c12] at H; exact absurd H (by simp)
      rw [if_neg c9] at H; have c9b0 : (t103 == 0) = false := beq_eq_false_iff_ne.mpr c9; have c9b1 : (t103 != 0) = true := bne_iff_ne.mpr c9; simp only [zNq, zOq] at H; obtain ⟨rfl, rfl, rfl⟩ := H; go_wp2_with (first | ((with_reducible refine zJq (f := 204) rfl ?_); refine goesL_ (some 27) rfl rfl Try.func204 (by kernel_rfl) rfl #[.string a0, .int .i64 a1, .int .i64 2] rfl (by (try simp only [zR, zS, zT]); first | done | rfl | (simp only [zP, zQ]; rfl)) ?_; (with_reducible refine (backhaulref05_Get.calls kj3 a0 a1 2 t101 t102 t103 _ A8.out).mono ?_); rintro e w' ⟨rfl, ⟨nd, rfl⟩⟩; refine ⟨_, rfl, ?_⟩)); go_ret3; exact ⟨by first | rfl | (simp; done) | (simp [*]; done), by repeat (first | exact Drawn0.refl _ | apply Drawn0.step)⟩
def backhaulref06_Text.f (k : Nat) (a0_0 : ByteArray) (a0_1 : Int) (a0_2 : Int) (a1 : Int) : Option (ByteArray × Int × Int × ByteArray) := if a0_2 = 0 then ((backhaulref05_Take.f k a0_0 a0_1 a1).bind fun bt103 => ((backhaulref06_moved.f a0_0 a0_1 a0_2 bt103.2.1 bt103.2.2).bind fun bt106 => (some (bt106.1, bt106.2.1, bt106.2.2, bt103.1)))) else (some (a0_0, a0_1, a0_2, (⟨#[]⟩ : ByteArray)))
theorem backhaulref06_Text.mono : ∀ a0 a1 a2 a3 k, LeO (backhaulref06_Text.f k a0 a1 a2 a3) (backhaulref06_Text.f (k + 1) a0 a1 a2 a3) := by
  intro a0 a1 a2 a3 k
  unfold backhaulref06_Text.f
  repeat' first
      | (with_reducible exact backhaulref05_Take.mono _ _ _ _)
      | (with_reducible exact LeO.refl _)
      | (with_reducible exact LeO.none _)
      | (with_reducible refine LeO.ite ?_ ?_)
      | (with_reducible refine LeO.bind ?_ (fun _ => ?_))
      | exact backhaulref05_Take.mono _ _ _ _
      | exact LeO.none _
      | refine LeO.ite ?_ ?_
      | refine LeO.bind ?_ (fun _ => ?_)
set_option maxHeartbeats 8000000 in
set_option maxRecDepth 100000 in
theorem backhaulref06_Text.calls (k : Nat) (a0_0 : ByteArray) (a0_1 : Int) (a0_2 : Int) (a1 : Int) (r1 : ByteArray) (r2 : Int) (r3 : Int) (r4 : ByteArray) (w : World) (h : backhaulref06_Text.f k a0_0 a0_1 a0_2 a1 = some (r1, r2, r3, r4)) :
    Calls Try.prog 129 #[.agg #[.string a0_0, .int .i64 a0_1, .int .i64 a0_2], .int .i64 a1] w fun e w' => e = .returned (.tuple #[.agg #[.string r1, .int .i64 r2, .int .i64 r3], .string r4]) ∧ Below w.heap.size w w' := by
  have hu47 := Try.underlying47
  have HB := zA (Below.refl w.heap.size w)
  have H : (if a0_2 = 0 then ((backhaulref05_Take.f k a0_0 a0_1 a1).bind fun bt103 => ((backhaulref06_moved.f a0_0 a0_1 a0_2 bt103.2.1 bt103.2.2).bind fun bt106 => (some (bt106.1, bt106.2.1, bt106.2.2, bt103.1)))) else (some (a0_0, a0_1, a0_2, (⟨#[]⟩ : ByteArray)))) = some (r1, r2, r3, r4) := h
  clear h
  by_cases c3 : a0_2 = 0
  · rw [if_pos c3] at H
    have c3b0 : (a0_2 == 0) = true := beq_iff_eq.mpr c3; have c3b1 : (a0_2 != 0) = false := bne_eq_false_iff_eq.mpr c3; clear c3; replace H := Option.bind_eq_some_iff.mp H; obtain ⟨⟨t103, t104, t105⟩, A40, H⟩ := H; replace H : ((backhaulref06_moved.f a0_0 a0_1 a0_2 t104 t105).bind fun bt106 => (some (bt106.1, bt106.2.1, bt106.2.2, t103))) = some (r1, r2, r3, r4) := H; have A4 := zA A40; clear A40; replace H := Option.bind_eq_some_iff.mp H; obtain ⟨⟨t106, t107, t108⟩, A50, H⟩ := H; replace H : (some (t106, t107, t108, t103)) = some (r1, r2, r3, r4) := H; have A5 := zA A50; clear A50; simp only [zNq, zOq] at H; obtain ⟨rfl, rfl, rfl, rfl⟩ := H; go_enter Try.func129, Try.ntmps129; go_wp2_with (first | ((with_reducible refine gate_dst (N := 2) rfl ?_); refine box_event qr (N := 2) qr (cs := #[.string a0_0, .int .i64 a0_1, .int .i64 a0_2]) (t := 47) qg ?_; intro gb101 hg w6 hbox hb; have n0_ := zA (zV qB hb); have n1_ := zA (hbox); have n2_ := zA ((qS : w.heap.size ≤ gb101)); have n3_ := zA ((qS : w.heap.size ≤ gb101)); clear HB; have HB := n0_; have BK101 := n1_; have GW101 := n2_; have GE101 := n3_; clear n0_ n1_ n2_ n3_ hb hbox hg) | ((with_reducible refine gate_dst (N := 4) rfl ?_); refine box_event qr (N := 4) qr (cs := #[.string (⟨#[]⟩ : ByteArray), .int .i64 0, .int .i64 0]) (t := 47) qg ?_; intro gb102 hg w7 hbox hb; have n0_ := zA (qX BK101.out hb); have n1_ := zA (zV qB hb); have n2_ := zA (hbox); have n3_ := zA ((qS : w.heap.size ≤ gb102)); have n4_ := zA ((qS : w.heap.size ≤ gb102)); have n5_ := zA ((by rw [hg]; exact zLq (qL BK101.out) : gb101 ≠ gb102)); have n6_ := zA ((by rw [hg]; exact zMq (qL BK101.out) : gb102 ≠ gb101)); clear BK101 HB; have BK101 := n0_; have HB := n1_; have BK102 := n2_; have GW102 := n3_; have GE102 := n4_; have NB101_102 := n5_; have NB102_101 := n6_; clear n0_ n1_ n2_ n3_ n4_ n5_ n6_ hb hbox hg; have hnb8 := NB101_102.out; have hnc8 := NB102_101.out; obtain ⟨hcz9_0, hcz9_1, hcz9_2, hfz9_0, hfz9_1, hfz9_2⟩ := qc3f BK101.out) | ((with_reducible refine zJq (f := 209) rfl ?_); refine goesL_ (some 19) rfl rfl Try.func209 (by kernel_rfl) rfl #[.string a0_0, .int .i64 a0_1, .int .i64 a1] rfl (by (try simp only [zR, zS, zT]); first | done | rfl | (simp only [zP, zQ]; rfl)) ?_; (with_reducible refine (backhaulref05_Take.calls k a0_0 a0_1 a1 t103 t104 t105 _ A4.out).mono ?_); rintro e w' ⟨rfl, ⟨nd, rfl⟩⟩; refine ⟨_, rfl, ?_⟩; (try (rw [drewN_self w7]; generalize hq_ : World.drewN w7 _ = w7; have n0_ : Aside0 (w7.heap[gb101]? = some (.cells #[.string a0_0, .int .i64 a0_1, .int .i64 a0_2] 47 (0, 0))) := ⟨by rw [← hq_]; exact (qW BK101.out)⟩; have n1_ : Aside0 (w7.heap[gb102]? = some (.cells #[.string (⟨#[]⟩ : ByteArray), .int .i64 0, .int .i64 0] 47 (0, 0))) := ⟨by rw [← hq_]; exact (qW BK102.out)⟩; have n2_ : Aside0 (Below w.heap.size w w7) := ⟨by rw [← hq_]; exact qB⟩; clear BK101 BK102 HB hq_; have BK101 := n0_; have BK102 := n1_; have HB := n2_; clear n0_ n1_ n2_)); (try (obtain ⟨hcz9_0, hcz9_1, hcz9_2, hfz9_0, hfz9_1, hfz9_2⟩ := qc3f BK101.out))) | ((with_reducible refine zJq (f := 205) rfl ?_); refine goesL_ (some 26) rfl rfl Try.func205 (by kernel_rfl) rfl #[.agg #[.string a0_0, .int .i64 a0_1, .int .i64 a0_2], .int .i64 t104, .int .i64 t105] rfl (by (try simp only [zR, zS, zT]); first | done | rfl | (simp only [zP, zQ]; rfl)) ?_; (with_reducible refine (backhaulref06_moved.calls a0_0 a0_1 a0_2 t104 t105 t106 t107 t108 _ A5.out).mono ?_); rintro e w10 ⟨rfl, hb⟩; refine ⟨_, rfl, ?_⟩; have n0_ := zA (qX BK101.out hb); have n1_ := zA (qX BK102.out hb); have n2_ := zA (zV qB hb); clear BK101 BK102 HB; have BK101 := n0_; have BK102 := n1_; have HB := n2_; clear n0_ n1_ n2_; (try clear hb); (try clear hb2); (try clear hk); (try clear hi); obtain ⟨_, _, _, _, _, _⟩ := qc3f BK102.out))
    refine bodyPost_ret (results_ct rfl _ _ gb102 47 #[.string t106, .int .i64 t107, .int .i64 t108] (0, 0) _ rfl (qV BK102.out) Try.underlying47 rfl (by kernel_rfl)) rfl ?_; exact ⟨qE, qB⟩
  rw [if_neg c3] at H
  have c3b0 : (a0_2 == 0) = false := beq_eq_false_iff_ne.mpr c3
  have c3b1 : (a0_2 != 0) = true := bne_iff_ne.mpr c3
  simp only [zNq, zOq] at H
  obtain ⟨rfl, rfl, rfl, rfl⟩ := H
  go_enter Try.func129, Try.ntmps129
  go_wp2_with (first | ((with_reducible refine gate_dst (N := 2) rfl ?_); refine box_event qr (N := 2) qr (cs := #[.string a0_0, .int .i64 a0_1, .int .i64 a0_2]) (t := 47) qg ?_; intro gb101 hg w12 hbox hb; have n0_ := zA (zV qB hb); have n1_ := zA (hbox); have n2_ := zA ((qS : w.heap.size ≤ gb101)); have n3_ := zA ((qS : w.heap.size ≤ gb101)); clear HB; have HB := n0_; have BK101 := n1_; have GW101 := n2_; have GE101 := n3_; clear n0_ n1_ n2_ n3_ hb hbox hg) | ((with_reducible refine gate_dst (N := 4) rfl ?_); refine box_event qr (N := 4) qr (cs := #[.string (⟨#[]⟩ : ByteArray), .int .i64 0, .int .i64 0]) (t := 47) qg ?_; intro gb102 hg w13 hbox hb; have n0_ := zA (qX BK101.out hb); have n1_ := zA (zV qB hb); have n2_ := zA (hbox); have n3_ := zA ((qS : w.heap.size ≤ gb102)); have n4_ := zA ((qS : w.heap.size ≤ gb102)); have n5_ := zA ((by rw [hg]; exact zLq (qL BK101.out) : gb101 ≠ gb102)); have n6_ := zA ((by rw [hg]; exact zMq (qL BK101.out) : gb102 ≠ gb101)); clear BK101 HB; have BK101 := n0_; have HB := n1_; have BK102 := n2_; have GW102 := n3_; have GE102 := n4_; have NB101_102 := n5_; have NB102_101 := n6_; clear n0_ n1_ n2_ n3_ n4_ n5_ n6_ hb hbox hg; have hnb14 := NB101_102.out; have hnc14 := NB102_101.out; obtain ⟨_, _, _, _, _, _⟩ := qc3f BK101.out; obtain ⟨_, _, _, _, _, _⟩ := qc3f BK102.out))
  refine bodyPost_ret (results_ct rfl _ _ gb102 47 #[.string a0_0, .int .i64 a0_1, .int .i64 a0_2] (0, 0) _ rfl (qV BK102.out) Try.underlying47 rfl (by kernel_rfl)) rfl ?_
  exact ⟨qE, qB⟩
mutual
def backhaulref01_Class.j0 : Nat → Int → Bool → Option (Int)
  | 0, _, _ => none
  | k + 1, x0, x16 => if x16 = true then (some 1) else (if x0 ≥ 48 then (backhaulref01_Class.j1 k x0 (decide (x0 ≤ 57))) else (backhaulref01_Class.j1 k x0 false))
def backhaulref01_Class.j1 : Nat → Int → Bool → Option (Int)
  | 0, _, _ => none
  | k + 1, x0, x22 => if x22 = true then (some 2) else (if x0 = 45 then (some 3) else (some 0))
end
def backhaulref01_Class.f (k : Nat) (a0 : Int) : Option (Int) := if a0 ≥ 65 then (if a0 ≤ 90 then (backhaulref01_Class.j0 k a0 true) else (if a0 ≥ 97 then (backhaulref01_Class.j0 k a0 (decide (a0 ≤ 122))) else (backhaulref01_Class.j0 k a0 false))) else (if a0 ≥ 97 then (backhaulref01_Class.j0 k a0 (decide (a0 ≤ 122))) else (backhaulref01_Class.j0 k a0 false))
theorem backhaulref01_Class.mono_l : ∀ k, (∀ y0 y1, LeO (backhaulref01_Class.j0 k y0 y1) (backhaulref01_Class.j0 (k + 1) y0 y1)) ∧ (∀ y0 y1, LeO (backhaulref01_Class.j1 k y0 y1) (backhaulref01_Class.j1 (k + 1) y0 y1))
  | 0 => ⟨fun _ _ r h => by simp [backhaulref01_Class.j0] at h, fun _ _ r h => by simp [backhaulref01_Class.j1] at h⟩
  | k + 1 => by
    obtain ⟨ih0, ih1⟩ := backhaulref01_Class.mono_l k
    refine ⟨?_, ?_⟩
    · intro y0 y1
      unfold backhaulref01_Class.j0
      repeat' first
      | (with_reducible exact ih0 _ _)
      | (with_reducible exact ih1 _ _)
      | (with_reducible exact LeO.refl _)
      | (with_reducible exact LeO.none _)
      | (with_reducible refine LeO.ite ?_ ?_)
      | (with_reducible refine LeO.bind ?_ (fun _ => ?_))
      | exact ih0 _ _
      | exact ih1 _ _
      | exact LeO.none _
      | refine LeO.ite ?_ ?_
      | refine LeO.bind ?_ (fun _ => ?_)
    intro y0 y1
    unfold backhaulref01_Class.j1
    repeat' first
    | (with_reducible exact ih0 _ _)
    | (with_reducible exact ih1 _ _)
    | (with_reducible exact LeO.refl _)
    | (with_reducible exact LeO.none _)
    | (with_reducible refine LeO.ite ?_ ?_)
    | (with_reducible refine LeO.bind ?_ (fun _ => ?_))
    | exact ih0 _ _
    | exact ih1 _ _
    | exact LeO.none _
    | refine LeO.ite ?_ ?_
    | refine LeO.bind ?_ (fun _ => ?_)
theorem backhaulref01_Class.mono : ∀ a0 k, LeO (backhaulref01_Class.f k a0) (backhaulref01_Class.f (k + 1) a0) := by
  intro a0 k
  obtain ⟨ih0, ih1⟩ := backhaulref01_Class.mono_l k
  unfold backhaulref01_Class.f
  repeat' first
      | (with_reducible exact ih0 _ _)
      | (with_reducible exact ih1 _ _)
      | (with_reducible exact LeO.refl _)
      | (with_reducible exact LeO.none _)
      | (with_reducible refine LeO.ite ?_ ?_)
      | (with_reducible refine LeO.bind ?_ (fun _ => ?_))
      | exact ih0 _ _
      | exact ih1 _ _
      | exact LeO.none _
      | refine LeO.ite ?_ ?_
      | refine LeO.bind ?_ (fun _ => ?_)
set_option maxHeartbeats 8000000 in
set_option maxRecDepth 100000 in
theorem backhaulref01_Class.calls (k : Nat) (a0 : Int) (r : Int) (w : World) (h : backhaulref01_Class.f k a0 = some r) :
    Calls Try.prog 270 #[.int .i32 a0] w fun e w' => e = .returned (.int .i64 r) ∧ Drawn0 w w' := by
  have H : (if a0 ≥ 65 then (if a0 ≤ 90 then (backhaulref01_Class.j0 k a0 true) else (if a0 ≥ 97 then (backhaulref01_Class.j0 k a0 (decide (a0 ≤ 122))) else (backhaulref01_Class.j0 k a0 false))) else (if a0 ≥ 97 then (backhaulref01_Class.j0 k a0 (decide (a0 ≤ 122))) else (backhaulref01_Class.j0 k a0 false))) = some r := h
  clear h
  have HC2 := zA H
  clear H
  go_enter Try.func270, Try.ntmps270
  go_upto_region 1 with (fail)
  go_cut [16] (fun v16 wc => ∃ (kq : Nat) (x16_1 : Bool), v16 = .bool x16_1 ∧ Aside0 (backhaulref01_Class.j0 kq a0 x16_1 = some r) ∧ Aside0 (kq ≤ k) ∧ Drawn0 w wc)
  case first =>
    have H := HC2.out; clear HC2; by_cases c3 : a0 ≥ 65
    · rw [if_pos c3] at H
      have c3b0 : decide (65 ≤ a0) = true := zFq c3; clear c3; (first | rw [c3b0] | (simp only [i64_w, i32_w]; rw [c3b0]) | skip)
      by_cases c4 : a0 ≤ 90
      · rw [if_pos c4] at H
        have c4b0 : decide (a0 ≤ 90) = true := zFq c4; clear c4; have H' := zA H; clear H; go_wp2; go_meet
        case rel => exact ⟨_, (true), (by first | rfl | (simp; done) | (simp [*]; done)), H', ⟨by first | omega | exact Nat.le_refl _⟩, by repeat (first | exact Drawn0.refl _ | apply Drawn0.step)⟩
      rw [if_neg c4] at H; have c4b0 : decide (a0 ≤ 90) = false := zGq c4; clear c4; by_cases c5 : a0 ≥ 97
      · rw [if_pos c5] at H
        have c5b0 : decide (97 ≤ a0) = true := zFq c5; clear c5; have H' := zA H; clear H; go_wp2; go_meet
        case rel => exact ⟨_, (decide (a0 ≤ 122)), (by first | rfl | (simp; done) | (simp [*]; done)), H', ⟨by first | omega | exact Nat.le_refl _⟩, by repeat (first | exact Drawn0.refl _ | apply Drawn0.step)⟩
      rw [if_neg c5] at H; have c5b0 : decide (97 ≤ a0) = false := zGq c5; clear c5; have H' := zA H; clear H; go_wp2; go_meet
      case rel => exact ⟨_, (false), (by first | rfl | (simp; done) | (simp [*]; done)), H', ⟨by first | omega | exact Nat.le_refl _⟩, by repeat (first | exact Drawn0.refl _ | apply Drawn0.step)⟩
    rw [if_neg c3] at H; have c3b0 : decide (65 ≤ a0) = false := zGq c3; clear c3; (first | rw [c3b0] | (simp only [i64_w, i32_w]; rw [c3b0]) | skip)
    by_cases c6 : a0 ≥ 97
    · rw [if_pos c6] at H
      have c6b0 : decide (97 ≤ a0) = true := zFq c6; clear c6; have H' := zA H; clear H; go_wp2; go_meet
      case rel => exact ⟨_, (decide (a0 ≤ 122)), (by first | rfl | (simp; done) | (simp [*]; done)), H', ⟨by first | omega | exact Nat.le_refl _⟩, by repeat (first | exact Drawn0.refl _ | apply Drawn0.step)⟩
    rw [if_neg c6] at H; have c6b0 : decide (97 ≤ a0) = false := zGq c6; clear c6; have H' := zA H; clear H; go_wp2; go_meet
    case rel => exact ⟨_, (false), (by first | rfl | (simp; done) | (simp [*]; done)), H', ⟨by first | omega | exact Nat.le_refl _⟩, by repeat (first | exact Drawn0.refl _ | apply Drawn0.step)⟩
  case rest =>
    clear HC2; try clear c2
    try clear p2
    try clear c3
    try clear c3b0
    try clear c4
    try clear c4b0
    try clear c5
    try clear c5b0
    try clear c6
    try clear c6b0
    obtain ⟨kq, x16_1, rfl, HA, HJ1, ⟨mc1, rfl⟩⟩ := hcut; cases kq with
    | zero => exact absurd HA.out (by simp [backhaulref01_Class.j0])
    | succ kj1 =>
      have H := HA.out; clear HA; simp only [backhaulref01_Class.j0] at H; by_cases c7 : x16_1 = true
      · subst c7
        have H1 : (some 1) = some r := by first | (rw [if_pos rfl] at H; exact H) | rfl
        clear H; have H := H1; clear H1; obtain rfl := zKq H; go_wp2; go_ret; exact ⟨by first | rfl | (simp; done) | (simp [*]; done), by repeat (first | exact Drawn0.refl _ | apply Drawn0.step)⟩
      replace c7 := Bool.eq_false_iff.mpr c7; subst c7; have H1 : (if a0 ≥ 48 then (backhaulref01_Class.j1 kj1 a0 (decide (a0 ≤ 57))) else (backhaulref01_Class.j1 kj1 a0 false)) = some r := by first | (rw [if_neg (show ¬ (false = true) by decide)] at H; exact H) | rfl
      clear H; have H := H1; clear H1; have HC8 := zA H; clear H; go_upto_region 3 with (fail)
      go_cut [22] (fun v22 wc => ∃ (kq : Nat) (x22_7 : Bool), v22 = .bool x22_7 ∧ Aside0 (backhaulref01_Class.j1 kq a0 x22_7 = some r) ∧ Aside0 (kq ≤ kj1) ∧ Drawn0 w wc)
      case first =>
        have H := HC8.out; clear HC8; by_cases c9 : a0 ≥ 48
        · rw [if_pos c9] at H
          have c9b0 : decide (48 ≤ a0) = true := zFq c9; clear c9; (first | rw [c9b0] | (simp only [i64_w, i32_w]; rw [c9b0]) | skip)
          have H' := zA H; clear H; go_wp2; go_meet
          case rel => exact ⟨_, (decide (a0 ≤ 57)), (by first | rfl | (simp; done) | (simp [*]; done)), H', ⟨by have := HJ1.out; first | omega | exact Nat.le_refl _⟩, by repeat (first | exact Drawn0.refl _ | apply Drawn0.step)⟩
        rw [if_neg c9] at H; have c9b0 : decide (48 ≤ a0) = false := zGq c9; clear c9; (first | rw [c9b0] | (simp only [i64_w, i32_w]; rw [c9b0]) | skip)
        have H' := zA H; clear H; go_wp2; go_meet
        case rel => exact ⟨_, (false), (by first | rfl | (simp; done) | (simp [*]; done)), H', ⟨by have := HJ1.out; first | omega | exact Nat.le_refl _⟩, by repeat (first | exact Drawn0.refl _ | apply Drawn0.step)⟩
      case rest =>
        clear HC8; try clear c1
        try clear c2
        try clear p2
        try clear c3
        try clear c3b0
        try clear c4
        try clear c4b0
        try clear c5
        try clear c5b0
        try clear c6
        try clear c6b0
        try clear c7
        try clear c9
        try clear c9b0
        try clear p2
        obtain ⟨kq, x22_7, rfl, HA, HJ7, ⟨mc7, rfl⟩⟩ := hcut; cases kq with
        | zero => exact absurd HA.out (by simp [backhaulref01_Class.j1])
        | succ kj7 =>
          have H := HA.out; clear HA; simp only [backhaulref01_Class.j1] at H; by_cases c10 : x22_7 = true
          · subst c10
            have H1 : (some 2) = some r := by first | (rw [if_pos rfl] at H; exact H) | rfl
            clear H; have H := H1; clear H1; obtain rfl := zKq H; go_wp2; go_ret; exact ⟨by first | rfl | (simp; done) | (simp [*]; done), by repeat (first | exact Drawn0.refl _ | apply Drawn0.step)⟩
          replace c10 := Bool.eq_false_iff.mpr c10; subst c10; have H1 : (if a0 = 45 then (some 3) else (some 0)) = some r := by first | (rw [if_neg (show ¬ (false = true) by decide)] at H; exact H) | rfl
          clear H; have H := H1; clear H1; by_cases c11 : a0 = 45
          · rw [if_pos c11] at H
            have c11b0 : (a0 == 45) = true := beq_iff_eq.mpr c11; have c11b1 : (a0 != 45) = false := bne_eq_false_iff_eq.mpr c11; clear c11; obtain rfl := zKq H; go_wp2; go_ret; exact ⟨by first | rfl | (simp; done) | (simp [*]; done), by repeat (first | exact Drawn0.refl _ | apply Drawn0.step)⟩
          rw [if_neg c11] at H; have c11b0 : (a0 == 45) = false := beq_eq_false_iff_ne.mpr c11; have c11b1 : (a0 != 45) = true := bne_iff_ne.mpr c11; obtain rfl := zKq H; go_wp2; go_ret; exact ⟨by first | rfl | (simp; done) | (simp [*]; done), by repeat (first | exact Drawn0.refl _ | apply Drawn0.step)⟩
end Go.Proofs.Ytakkhomjpflkbaa.F
