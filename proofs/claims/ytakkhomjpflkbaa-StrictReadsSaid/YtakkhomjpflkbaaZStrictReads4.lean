-- merged and pruned by prune.py (the session's own program); its words go back to the kit's print
import Derived.Test.YtakkhomjpflkbaaProg
import Derived.Below
import Derived.Deep.Draws
import Derived.Deep.AppendLies
import Derived.Maps.AppendAt
import Derived.OwnWalk
import Derived.Laws.BytesArg
import Derived.Laws.MakeOwn
import Derived.Laws.OwnMore
import Derived.Deep.OwnRows
import Derived.Tactics
import Derived.Lib.ConvBytes
import Derived.Laws.Slices
import Derived.WalkKit
import Derived.KernelRfl
import Derived.RowKit3
import Derived.Deep.LoopGhost
import Derived.Deep.QuietTactic
import Derived.BigQuiet
import Derived.WideLaws
import Derived.Deep.DeepCutAuto
import Derived.Deep.CutBlock
import Derived.Deep.RegionHeld3
import Derived.Laws.Rows
import Derived.Lib.AppendStr
import Derived.ArgAppend
import Derived.Laws.IdiomCopy
import Derived.OrdersHeld
import Derived.Laws.BitsLemmas
import Derived.RowKit
import Derived.Laws.StructEq
import Derived.Deep.RegionLawGrows
import Derived.Lib.SliceRun
import Derived.Lib.OthersKept
import Derived.Lib.RuneCount
import Derived.Laws.Cover4
import Derived.Outline
import Derived.Shelf.Strings.Builder1
import Derived.Shelf.Strings.BuilderF
import Derived.Shelf.Strings.BuilderK
import Derived.Shelf.Utf8.RuneCount
import Derived.Shelf.Strings.Prefix
import Derived.Test.YtakkhomjpflkbaaZStrictReads3
namespace Go.Proofs.Ytakkhomjpflkbaa.F
open Go.RowKit Go.Proofs.YtakkhomjpflkbaaX Go.Proofs.YtakkhomjpflkbaaW.PrintWords Go.Proofs.YtakkhomjpflkbaaW.PrintLast Go.Proofs.YtakkhomjpflkbaaW.PrintMore
attribute [local go_sem] max2_int min2_int max_two min_two max_three min_three max_four min_four   
attribute [local go_sem high] str_geq str_leq str_gtr
set_option linter.unusedVariables false
set_option linter.unusedSimpArgs false
def strict_Reader_Serials.l0 : Nat → List ByteArray → Int → Int → ByteArray → Int → Option (Int × Int) → Bool → Option (List ByteArray × ByteArray × Int × Option (Int × Int) × Bool)
  | 0, _, _, _, _, _, _, _ => none
  | k + 1, x7, x13, x14, x1000, x1001, x1002, x1003 => if x14 < x13 then ((strict_Reader_Serial.f k x1000 x1001 x1002 x1003).bind fun bt106 => (if x7.length < 8796093022208 then (strict_Reader_Serials.l0 k (x7 ++ [bt106.1]) x13 (wrap64 (x14 + 1)) bt106.2.1 bt106.2.2.1 bt106.2.2.2.1 bt106.2.2.2.2) else (none))) else ((strict_Reader_goes.f x1000 x1001 x1002 x1003).bind fun bt114 => (if bt114.1 = true then (some (x7, bt114.2.1, bt114.2.2.1, bt114.2.2.2.1, bt114.2.2.2.2)) else (some (([] : List ByteArray), bt114.2.1, bt114.2.2.1, bt114.2.2.2.1, bt114.2.2.2.2))))
def strict_Reader_Serials.f (k : Nat) (s0_0 : ByteArray) (s0_1 : Int) (s0_2 : Option (Int × Int)) (s0_3 : Bool) (a1 : Int) : Option (List ByteArray × ByteArray × Int × Option (Int × Int) × Bool) := (strict_Reader_Num.f k s0_0 s0_1 s0_2 s0_3 1 a1).bind fun bt101 => (strict_Reader_Serials.l0 k ([] : List ByteArray) bt101.1 0 bt101.2.1 bt101.2.2.1 bt101.2.2.2.1 bt101.2.2.2.2)
theorem strict_Reader_Serials.mono_l : ∀ k, (∀ y0 y1 y2 y3 y4 y5 y6, LeO (strict_Reader_Serials.l0 k y0 y1 y2 y3 y4 y5 y6) (strict_Reader_Serials.l0 (k + 1) y0 y1 y2 y3 y4 y5 y6))
  | 0 => fun _ _ _ _ _ _ _ r h => by simp [strict_Reader_Serials.l0] at h
  | k + 1 => by
    have ih0 := strict_Reader_Serials.mono_l k
    intro y0 y1 y2 y3 y4 y5 y6
    unfold strict_Reader_Serials.l0
    repeat' first
    | (with_reducible exact ih0 _ _ _ _ _ _ _)
    | (with_reducible exact strict_Reader_Num.mono _ _ _ _ _ _ _)
    | (with_reducible exact strict_Reader_Serial.mono _ _ _ _ _)
    | (with_reducible exact LeO.refl _)
    | (with_reducible exact LeO.none _)
    | (with_reducible refine LeO.ite ?_ ?_)
    | (with_reducible refine LeO.bind ?_ (fun _ => ?_))
    | exact ih0 _ _ _ _ _ _ _
    | exact strict_Reader_Num.mono _ _ _ _ _ _ _
    | exact strict_Reader_Serial.mono _ _ _ _ _
    | exact LeO.none _
    | refine LeO.ite ?_ ?_
    | refine LeO.bind ?_ (fun _ => ?_)
theorem strict_Reader_Serials.mono : ∀ a0 a1 a2 a3 a4 k, LeO (strict_Reader_Serials.f k a0 a1 a2 a3 a4) (strict_Reader_Serials.f (k + 1) a0 a1 a2 a3 a4) := by
  intro a0 a1 a2 a3 a4 k
  have ih0 := strict_Reader_Serials.mono_l k
  unfold strict_Reader_Serials.f
  repeat' first
      | (with_reducible exact ih0 _ _ _ _ _ _ _)
      | (with_reducible exact strict_Reader_Num.mono _ _ _ _ _ _ _)
      | (with_reducible exact strict_Reader_Serial.mono _ _ _ _ _)
      | (with_reducible exact LeO.refl _)
      | (with_reducible exact LeO.none _)
      | (with_reducible refine LeO.ite ?_ ?_)
      | (with_reducible refine LeO.bind ?_ (fun _ => ?_))
      | exact ih0 _ _ _ _ _ _ _
      | exact strict_Reader_Num.mono _ _ _ _ _ _ _
      | exact strict_Reader_Serial.mono _ _ _ _ _
      | exact LeO.none _
      | refine LeO.ite ?_ ?_
      | refine LeO.bind ?_ (fun _ => ?_)
set_option maxHeartbeats 8000000 in
set_option maxRecDepth 100000 in
theorem strict_Reader_Serials.calls (k : Nat) (g : Nat) (s0_0 : ByteArray) (s0_1 : Int) (s0_2 : Option (Int × Int)) (s0_3 : Bool) (a1 : Int) (r1 : List ByteArray) (r2 : ByteArray) (r3 : Int) (r4 : Option (Int × Int)) (r5 : Bool) (w0 w : World) (hI : IsS56 w0 w g s0_0 s0_1 s0_2 s0_3) (hB : Below w0.heap.size w0 w) (h : strict_Reader_Serials.f k s0_0 s0_1 s0_2 s0_3 a1 = some (r1, r2, r3, r4, r5)) :
    Calls Try.prog 45 #[.pointer (some ⟨g, 0, none⟩), .int .i64 a1] w fun e w' => ∃ v0_ : Value, e = .returned (v0_) ∧ Kd.R Kd.string 9 w' w.heap.size (fun _ => True) v0_ r1 ∧ IsS56 w0 w' g r2 r3 r4 r5 ∧ Below w0.heap.size w0 w' ∧ KeepBut w w' g none := by
  have hmf : ∀ (fn : Fn) (first cap : Array Value) (w : World), (Instr.makeFunc fn first cap).run Try.prog w = .ok (.func fn first cap) w := fun _ _ _ _ => rfl
  have HI0 := zA hI
  have HK := zA (KeepBut.refl w g none)
  have HL := zA hB.size
  clear hI
  have HW0 := zA hB.size
  have HB := zA hB
  clear hB
  have H : ((strict_Reader_Num.f k s0_0 s0_1 s0_2 s0_3 1 a1).bind fun bt101 => (strict_Reader_Serials.l0 k ([] : List ByteArray) bt101.1 0 bt101.2.1 bt101.2.2.1 bt101.2.2.2.1 bt101.2.2.2.2)) = some (r1, r2, r3, r4, r5) := h
  clear h
  replace H := Option.bind_eq_some_iff.mp H
  obtain ⟨⟨t101, t102, t103, t104, t105⟩, A30, H⟩ := H
  replace H : (strict_Reader_Serials.l0 k ([] : List ByteArray) t101 0 t102 t103 t104 t105) = some (r1, r2, r3, r4, r5) := H
  have A3 := zA A30
  clear A30
  have H' := zA H
  clear H
  go_enter Try.func45, Try.ntmps45
  go_wp2_with (first | ((with_reducible refine zJq (f := 41) rfl ?_); refine goesL_ (some 10) rfl rfl Try.func41 (by kernel_rfl) rfl #[.pointer (some ⟨g, 0, none⟩), .int .i64 1, .int .i64 a1] rfl (by (try simp only [zR, zS, zT]); first | done | rfl | (simp only [zP, zQ]; rfl)) ?_; (with_reducible refine (strict_Reader_Num.calls k g s0_0 s0_1 s0_2 s0_3 1 a1 t101 t102 t103 t104 t105 w0 _ ?side1 ?side2 A3.out).mono ?_); (case side1 => repeat (first | (with_reducible first | exact HI0.out | apply IsS56.alloc | apply IsS56.drewN | apply IsS56.drew) | exact HI0.out)); (case side2 => repeat (first | (with_reducible first | exact HB.out | apply zD | apply zB | apply zC | refine zE ?_ (IsS56.ge HI0.out)) | exact HB.out)); rintro e w4 ⟨rfl, hi, hb, hk⟩; refine ⟨_, rfl, ?_⟩; have n0_ := zA (zBq (qJ HK.out) hk (.inl rfl)); have n1_ := zA (hb); have n2_ := zA (hi); clear HK HB HI0; have HK := n0_; have HB := n1_; have HI0 := n2_; clear n0_ n1_ n2_; (try clear hb); (try clear hb2); (try clear hk); (try clear hi); (try simp only [errW_none, errW_some])))
  go_loopg [7, 14] k (fun kq v7 v14 w' => ∃ (x7_1 : List ByteArray) (x14_1 : Int) (x1000_1 : ByteArray) (x1001_1 : Int) (x1002_1 : Option (Int × Int)) (x1003_1 : Bool), v14 = .int .i64 x14_1 ∧ Aside0 (strict_Reader_Serials.l0 kq x7_1 t101 x14_1 x1000_1 x1001_1 x1002_1 x1003_1 = some (r1, r2, r3, r4, r5)) ∧ Aside0 (kq ≤ k) ∧ Aside0 (Kd.R Kd.string 9 w' w.heap.size (fun _ => True) v7 x7_1) ∧ Aside0 (IsS56 w0 w' g x1000_1 x1001_1 x1002_1 x1003_1) ∧ Aside0 (KeepBut w w' g none) ∧ Aside0 (Below w0.heap.size w0 w'))
  case atStart => exact ⟨(([] : List ByteArray)), (0), (t102), (t103), (t104), (t105), (by first | rfl | (simp; done) | (simp [*]; done)), H', ⟨Nat.le_refl _⟩, ⟨qN⟩, ⟨by repeat (first | (with_reducible first | exact HI0.out | apply IsS56.alloc | apply IsS56.drewN | apply IsS56.drew) | exact HI0.out)⟩, ⟨qJ HK.out⟩, ⟨qH HI0.out HB.out⟩⟩
  case round =>
    clear H'; try clear p2
    try clear c4
    obtain ⟨x7_1, x14_1, x1000_1, x1001_1, x1002_1, x1003_1, rfl, HA, HK1, HO_7, HI0, HK, HB⟩ := hrel; cases gk with
    | zero => exact absurd HA.out (by simp [strict_Reader_Serials.l0])
    | succ k1 =>
      have H := HA.out; clear HA; simp only [strict_Reader_Serials.l0] at H; by_cases c5 : x14_1 < t101
      · rw [if_pos c5] at H
        have c5b0 : decide (x14_1 < t101) = true := zFq c5; clear c5; replace H := Option.bind_eq_some_iff.mp H; obtain ⟨⟨t106, t107, t108, t109, t110⟩, A60, H⟩ := H; replace H : (if x7_1.length < 8796093022208 then (strict_Reader_Serials.l0 k1 (x7_1 ++ [t106]) t101 (wrap64 (x14_1 + 1)) t107 t108 t109 t110) else (none)) = some (r1, r2, r3, r4, r5) := H; have A6 := zA A60; clear A60; by_cases c7 : x7_1.length < 8796093022208
        · rw [if_pos c7] at H
          have LMc7 := zA c7; clear c7; obtain ⟨y111, hy111⟩ : ∃ y_ : List ByteArray, y_ = (x7_1 ++ [t106]) := ⟨_, rfl⟩
          replace H : (strict_Reader_Serials.l0 k1 y111 t101 (wrap64 (x14_1 + 1)) t107 t108 t109 t110) = some (r1, r2, r3, r4, r5) := by first | (rw [hy111]; with_reducible exact H) | (have H2_ := (Option.bind_some _ _).symm.trans H; rw [hy111]; with_reducible exact H2_) | (have H2_ := (Option.bind_some _ _).symm.trans H; with_reducible exact H2_) | with_reducible exact H | (rw [hy111]; exact H) | exact H
          have Ny111 := zA hy111; clear hy111; have H' := zA H; clear H; go_wp2_with (first | (go_at_call 43; (with_reducible refine (strict_Reader_Serial.calls k1 g x1000_1 x1001_1 x1002_1 x1003_1 t106 t107 t108 t109 t110 w0 _ ?side1 ?side2 A6.out).mono ?_); (case side1 => repeat (first | (with_reducible first | exact HI0.out | apply IsS56.alloc | apply IsS56.drewN | apply IsS56.drew) | exact HI0.out)); (case side2 => repeat (first | (with_reducible first | exact HB.out | apply zD | apply zB | apply zC | refine zE ?_ (IsS56.ge HI0.out)) | exact HB.out)); rintro e w8 ⟨rfl, hi, hb, hk⟩; have n0_ := zA (Kd.R_mono (Kd.R_keep (IsS56.apart (show IsS56 w0 _ g x1000_1 x1001_1 x1002_1 x1003_1 from by repeat (first | (with_reducible first | exact HI0.out | apply IsS56.alloc | apply IsS56.drewN | apply IsS56.drew) | exact HI0.out)) (by (with_reducible repeat (first | apply Kd.R_alloc | apply Kd.R_drewN | apply Kd.R_drew)); exact HO_7.out) (by decide)) hk (fun _ h => h.2)) (fun _ h => h.1)); have n1_ := zA (zBq (qJ HK.out) hk (.inl rfl)); have n2_ := zA (hb); have n3_ := zA (hi); clear HO_7 HK HB HI0; have HO_7 := n0_; have HK := n1_; have HB := n2_; have HI0 := n3_; clear n0_ n1_ n2_ n3_; (try clear hb); (try clear hb2); (try clear hk); (try clear hi); (try simp only [errW_none, errW_some])) | ((with_reducible refine gate_builtin (b := .append) (xs := #[.tmp 16, .tmp 19]) rfl ?_); at_builtin; refine Kd.R_append Kd.string w.heap.size rfl (.tmp 16) (.tmp 19) 65 9 (.string ⟨#[]⟩) 16 rfl Try.underlying65 info9 rfl (by decide) (by omega) u7 x7_1 t106 [.string t106] (fun _ => True) (fun _ => False) rfl rfl ?aP (fun _ hk => hk.elim) ?aF ?aO (Below.refl _ _) ?aS ?aL ?_; (case aP => exact rfl); (case aF => exact (fun _ _ => trivial)); (case aO => exact (by (with_reducible repeat (first | apply Kd.R_alloc | apply Kd.R_drewN | apply Kd.R_drew)); exact HO_7.out)); (case aS => exact (keep_size (w := w) (g := g) (row := none) (qJ HK.out))); (case aL => have := LMc7.out; omega); intro v112 w9 ho hb hg hat; rw [← Ny111.out] at ho; have n0_ := zA (IsS56.grown (by repeat (first | (with_reducible first | exact HI0.out | apply IsS56.alloc | apply IsS56.drewN | apply IsS56.drew) | exact HI0.out)) hg (IsS56.own_ne HI0.out HO_7.out (by decide))); have n1_ := zA (below_weaken (qH HI0.out HB.out) HL.out hb); have n2_ := zA (zBq (qJ HK.out) (KeepBut.of_grown hg g) (Kd.R_base2 HO_7.out)); have n3_ := zA (ho); clear HI0 HB HK HO_7; have HI0 := n0_; have HB := n1_; have HK := n2_; have HO113 := n3_; clear n0_ n1_ n2_ n3_ ho hb hg hat)); go_roundg k1
          case measure => have := HK1.out; omega
          case rel => exact ⟨(y111), (wrap64 (x14_1 + 1)), (t107), (t108), (t109), (t110), (by first | rfl | (simp; done) | (simp [*]; done)), H', ⟨by have := HK1.out; omega⟩, ⟨by (with_reducible repeat (first | apply Kd.R_alloc | apply Kd.R_drewN | apply Kd.R_drew)); exact HO113.out⟩, ⟨by repeat (first | (with_reducible first | exact HI0.out | apply IsS56.alloc | apply IsS56.drewN | apply IsS56.drew) | exact HI0.out)⟩, ⟨qJ HK.out⟩, ⟨qH HI0.out HB.out⟩⟩
        rw [if_neg c7] at H; exact absurd H (by simp)
      rw [if_neg c5] at H; have c5b0 : decide (x14_1 < t101) = false := zGq c5; clear c5; replace H := Option.bind_eq_some_iff.mp H; obtain ⟨⟨t114, x1000_1, x1001_1, x1002_1, x1003_1⟩, A100, H⟩ := H; obtain ⟨rfl, rfl, rfl, rfl⟩ := strict_Reader_goes.same A100; replace H : (if t114 = true then (some (x7_1, x1000_1, x1001_1, x1002_1, x1003_1)) else (some (([] : List ByteArray), x1000_1, x1001_1, x1002_1, x1003_1))) = some (r1, r2, r3, r4, r5) := H; have A10 := zA A100; clear A100; by_cases c11 : t114 = true
      · subst c11
        have H1 : (some (x7_1, x1000_1, x1001_1, x1002_1, x1003_1)) = some (r1, r2, r3, r4, r5) := by first | (rw [if_pos rfl] at H; exact H) | rfl
        clear H; have H := H1; clear H1; simp only [zNq, zOq] at H; obtain ⟨rfl, rfl, rfl, rfl, rfl⟩ := H; go_wp2_with (first | ((with_reducible refine zJq (f := 133) rfl ?_); refine goesL_ (some 23) rfl rfl Try.func133 (by kernel_rfl) rfl #[.pointer (some ⟨g, 0, none⟩)] rfl (by (try simp only [zR, zS, zT]); first | done | rfl | (simp only [zP, zQ]; rfl)) ?_; (with_reducible refine (strict_Reader_goes.calls g x1000_1 x1001_1 x1002_1 x1003_1 true x1000_1 x1001_1 x1002_1 x1003_1 w0 _ ?side1 ?side2 A10.out).mono ?_); (case side1 => repeat (first | (with_reducible first | exact HI0.out | apply IsS56.alloc | apply IsS56.drewN | apply IsS56.drew) | exact HI0.out)); (case side2 => repeat (first | (with_reducible first | exact HB.out | apply zD | apply zB | apply zC | refine zE ?_ (IsS56.ge HI0.out)) | exact HB.out)); rintro e w12 ⟨rfl, hi, hb, hk⟩; refine ⟨_, rfl, ?_⟩; have n0_ := zA (Kd.R_mono (Kd.R_keep (IsS56.apart (show IsS56 w0 _ g x1000_1 x1001_1 x1002_1 x1003_1 from by repeat (first | (with_reducible first | exact HI0.out | apply IsS56.alloc | apply IsS56.drewN | apply IsS56.drew) | exact HI0.out)) (by (with_reducible repeat (first | apply Kd.R_alloc | apply Kd.R_drewN | apply Kd.R_drew)); exact HO_7.out) (by decide)) hk (fun _ h => h.2)) (fun _ h => h.1)); have n1_ := zA (zBq (qJ HK.out) hk (.inl rfl)); have n2_ := zA (hb); have n3_ := zA (hi); clear HO_7 HK HB HI0; have HO_7 := n0_; have HK := n1_; have HB := n2_; have HI0 := n3_; clear n0_ n1_ n2_ n3_; (try clear hb); (try clear hb2); (try clear hk); (try clear hi); (try simp only [errW_none, errW_some]))); go_ret; exact ⟨_, qE, by (with_reducible repeat (first | apply Kd.R_alloc | apply Kd.R_drewN | apply Kd.R_drew)); exact HO_7.out, by repeat (first | (with_reducible first | exact HI0.out | apply IsS56.alloc | apply IsS56.drewN | apply IsS56.drew) | exact HI0.out), qH HI0.out HB.out, qJ HK.out⟩
      replace c11 := Bool.eq_false_iff.mpr c11; subst c11; have H1 : (some (([] : List ByteArray), x1000_1, x1001_1, x1002_1, x1003_1)) = some (r1, r2, r3, r4, r5) := by first | (rw [if_neg (show ¬ (false = true) by decide)] at H; exact H) | rfl
      clear H; have H := H1; clear H1; simp only [zNq, zOq] at H; obtain ⟨rfl, rfl, rfl, rfl, rfl⟩ := H; go_wp2_with (first | ((with_reducible refine zJq (f := 133) rfl ?_); refine goesL_ (some 23) rfl rfl Try.func133 (by kernel_rfl) rfl #[.pointer (some ⟨g, 0, none⟩)] rfl (by (try simp only [zR, zS, zT]); first | done | rfl | (simp only [zP, zQ]; rfl)) ?_; (with_reducible refine (strict_Reader_goes.calls g x1000_1 x1001_1 x1002_1 x1003_1 false x1000_1 x1001_1 x1002_1 x1003_1 w0 _ ?side1 ?side2 A10.out).mono ?_); (case side1 => repeat (first | (with_reducible first | exact HI0.out | apply IsS56.alloc | apply IsS56.drewN | apply IsS56.drew) | exact HI0.out)); (case side2 => repeat (first | (with_reducible first | exact HB.out | apply zD | apply zB | apply zC | refine zE ?_ (IsS56.ge HI0.out)) | exact HB.out)); rintro e w13 ⟨rfl, hi, hb, hk⟩; refine ⟨_, rfl, ?_⟩; have n0_ := zA (Kd.R_mono (Kd.R_keep (IsS56.apart (show IsS56 w0 _ g x1000_1 x1001_1 x1002_1 x1003_1 from by repeat (first | (with_reducible first | exact HI0.out | apply IsS56.alloc | apply IsS56.drewN | apply IsS56.drew) | exact HI0.out)) (by (with_reducible repeat (first | apply Kd.R_alloc | apply Kd.R_drewN | apply Kd.R_drew)); exact HO_7.out) (by decide)) hk (fun _ h => h.2)) (fun _ h => h.1)); have n1_ := zA (zBq (qJ HK.out) hk (.inl rfl)); have n2_ := zA (hb); have n3_ := zA (hi); clear HO_7 HK HB HI0; have HO_7 := n0_; have HK := n1_; have HB := n2_; have HI0 := n3_; clear n0_ n1_ n2_ n3_; (try clear hb); (try clear hb2); (try clear hk); (try clear hi); (try simp only [errW_none, errW_some]))); go_ret; exact ⟨_, qE, qN, by repeat (first | (with_reducible first | exact HI0.out | apply IsS56.alloc | apply IsS56.drewN | apply IsS56.drew) | exact HI0.out), qH HI0.out HB.out, qJ HK.out⟩
def strict_Reader_Flag.f (k : Nat) (s0_0 : ByteArray) (s0_1 : Int) (s0_2 : Option (Int × Int)) (s0_3 : Bool) : Option (Bool × ByteArray × Int × Option (Int × Int) × Bool) := (strict_Reader_goes.f s0_0 s0_1 s0_2 s0_3).bind fun bt101 => (if bt101.1 = true then ((octet_Get.f k bt101.2.1 bt101.2.2.1 1).bind fun bt106 => (if bt106.2.2 = 0 then (if bt106.1 > 1 then ((strict_Reader_done.f bt101.2.1 bt101.2.2.1 bt101.2.2.2.1 bt101.2.2.2.2 bt106.2.1 5).bind fun bt110 => (if bt110.1 = true then (some ((bt106.1 == 1), bt110.2.1, bt110.2.2.1, bt110.2.2.2.1, bt110.2.2.2.2)) else (some (false, bt110.2.1, bt110.2.2.1, bt110.2.2.2.1, bt110.2.2.2.2)))) else ((strict_Reader_done.f bt101.2.1 bt101.2.2.1 bt101.2.2.2.1 bt101.2.2.2.2 bt106.2.1 bt106.2.2).bind fun bt115 => (if bt115.1 = true then (some ((bt106.1 == 1), bt115.2.1, bt115.2.2.1, bt115.2.2.2.1, bt115.2.2.2.2)) else (some (false, bt115.2.1, bt115.2.2.1, bt115.2.2.2.1, bt115.2.2.2.2))))) else ((strict_Reader_done.f bt101.2.1 bt101.2.2.1 bt101.2.2.2.1 bt101.2.2.2.2 bt106.2.1 bt106.2.2).bind fun bt120 => (if bt120.1 = true then (some ((bt106.1 == 1), bt120.2.1, bt120.2.2.1, bt120.2.2.2.1, bt120.2.2.2.2)) else (some (false, bt120.2.1, bt120.2.2.1, bt120.2.2.2.1, bt120.2.2.2.2)))))) else (some (false, bt101.2.1, bt101.2.2.1, bt101.2.2.2.1, bt101.2.2.2.2)))
theorem strict_Reader_Flag.mono : ∀ a0 a1 a2 a3 k, LeO (strict_Reader_Flag.f k a0 a1 a2 a3) (strict_Reader_Flag.f (k + 1) a0 a1 a2 a3) := by
  intro a0 a1 a2 a3 k
  unfold strict_Reader_Flag.f
  repeat' first
      | (with_reducible exact octet_Get.mono _ _ _ _)
      | (with_reducible exact LeO.refl _)
      | (with_reducible exact LeO.none _)
      | (with_reducible refine LeO.ite ?_ ?_)
      | (with_reducible refine LeO.bind ?_ (fun _ => ?_))
      | exact octet_Get.mono _ _ _ _
      | exact LeO.none _
      | refine LeO.ite ?_ ?_
      | refine LeO.bind ?_ (fun _ => ?_)
def strict_Reader_Flag.T3 : Bool × List (List Nat × List Nat) := (true, [([], []), ([0], [0]), ([1], [1]), ([2], [2]), ([], []), ([4], [4]), ([5], [5]), ([6], [6]), ([3, 7], [3, 7]), ([8], [8]), ([9], [9]), ([9], [9]), ([], []), ([12, 10, 8, 0, 1, 2, 3, 4, 5, 6, 7, 8, 9, 10, 12], [10, 12]), ([11, 13, 0, 1, 2, 3, 4, 5, 6, 7, 8, 9, 10, 11, 12, 13], [11])])
def strict_Reader_Flag.B3 : List Nat := [0, 1, 3, 7, 0, 16, 48, 112, 255, 511, 1023, 1023, 0, 6143, 16383]
theorem strict_Reader_Flag.tab3 : rtab .any (opsOf Try.f46 3) = strict_Reader_Flag.T3 := by kernel_rfl
theorem strict_Reader_Flag.bits3 : waitsOk strict_Reader_Flag.T3.2 strict_Reader_Flag.B3 = true := by kernel_rfl
set_option maxHeartbeats 8000000 in
set_option maxRecDepth 100000 in
theorem strict_Reader_Flag.calls (k : Nat) (g : Nat) (s0_0 : ByteArray) (s0_1 : Int) (s0_2 : Option (Int × Int)) (s0_3 : Bool) (r1 : Bool) (r2 : ByteArray) (r3 : Int) (r4 : Option (Int × Int)) (r5 : Bool) (w0 w : World) (hI : IsS56 w0 w g s0_0 s0_1 s0_2 s0_3) (hB : Below w0.heap.size w0 w) (h : strict_Reader_Flag.f k s0_0 s0_1 s0_2 s0_3 = some (r1, r2, r3, r4, r5)) :
    Calls Try.prog 46 #[.pointer (some ⟨g, 0, none⟩)] w fun e w' => e = .returned (.bool r1) ∧ IsS56 w0 w' g r2 r3 r4 r5 ∧ Below w0.heap.size w0 w' ∧ KeepBut w w' g none := by
  have hu202 := Try.underlying202
  have HI0 := zA hI
  have HK := zA (KeepBut.refl w g none)
  have HL := zA hB.size
  clear hI
  have HW0 := zA hB.size
  have HB := zA hB
  clear hB
  have H : ((strict_Reader_goes.f s0_0 s0_1 s0_2 s0_3).bind fun bt101 => (if bt101.1 = true then ((octet_Get.f k bt101.2.1 bt101.2.2.1 1).bind fun bt106 => (if bt106.2.2 = 0 then (if bt106.1 > 1 then ((strict_Reader_done.f bt101.2.1 bt101.2.2.1 bt101.2.2.2.1 bt101.2.2.2.2 bt106.2.1 5).bind fun bt110 => (if bt110.1 = true then (some ((bt106.1 == 1), bt110.2.1, bt110.2.2.1, bt110.2.2.2.1, bt110.2.2.2.2)) else (some (false, bt110.2.1, bt110.2.2.1, bt110.2.2.2.1, bt110.2.2.2.2)))) else ((strict_Reader_done.f bt101.2.1 bt101.2.2.1 bt101.2.2.2.1 bt101.2.2.2.2 bt106.2.1 bt106.2.2).bind fun bt115 => (if bt115.1 = true then (some ((bt106.1 == 1), bt115.2.1, bt115.2.2.1, bt115.2.2.2.1, bt115.2.2.2.2)) else (some (false, bt115.2.1, bt115.2.2.1, bt115.2.2.2.1, bt115.2.2.2.2))))) else ((strict_Reader_done.f bt101.2.1 bt101.2.2.1 bt101.2.2.2.1 bt101.2.2.2.2 bt106.2.1 bt106.2.2).bind fun bt120 => (if bt120.1 = true then (some ((bt106.1 == 1), bt120.2.1, bt120.2.2.1, bt120.2.2.2.1, bt120.2.2.2.2)) else (some (false, bt120.2.1, bt120.2.2.1, bt120.2.2.2.1, bt120.2.2.2.2)))))) else (some (false, bt101.2.1, bt101.2.2.1, bt101.2.2.2.1, bt101.2.2.2.2)))) = some (r1, r2, r3, r4, r5) := h
  clear h
  replace H := Option.bind_eq_some_iff.mp H
  obtain ⟨⟨t101, s0_0, s0_1, s0_2, s0_3⟩, A20, H⟩ := H
  obtain ⟨rfl, rfl, rfl, rfl⟩ := strict_Reader_goes.same A20
  replace H : (if t101 = true then ((octet_Get.f k s0_0 s0_1 1).bind fun bt106 => (if bt106.2.2 = 0 then (if bt106.1 > 1 then ((strict_Reader_done.f s0_0 s0_1 s0_2 s0_3 bt106.2.1 5).bind fun bt110 => (if bt110.1 = true then (some ((bt106.1 == 1), bt110.2.1, bt110.2.2.1, bt110.2.2.2.1, bt110.2.2.2.2)) else (some (false, bt110.2.1, bt110.2.2.1, bt110.2.2.2.1, bt110.2.2.2.2)))) else ((strict_Reader_done.f s0_0 s0_1 s0_2 s0_3 bt106.2.1 bt106.2.2).bind fun bt115 => (if bt115.1 = true then (some ((bt106.1 == 1), bt115.2.1, bt115.2.2.1, bt115.2.2.2.1, bt115.2.2.2.2)) else (some (false, bt115.2.1, bt115.2.2.1, bt115.2.2.2.1, bt115.2.2.2.2))))) else ((strict_Reader_done.f s0_0 s0_1 s0_2 s0_3 bt106.2.1 bt106.2.2).bind fun bt120 => (if bt120.1 = true then (some ((bt106.1 == 1), bt120.2.1, bt120.2.2.1, bt120.2.2.2.1, bt120.2.2.2.2)) else (some (false, bt120.2.1, bt120.2.2.1, bt120.2.2.2.1, bt120.2.2.2.2)))))) else (some (false, s0_0, s0_1, s0_2, s0_3))) = some (r1, r2, r3, r4, r5) := H
  have A2 := zA A20
  clear A20
  by_cases c3 : t101 = true
  · subst c3
    have H1 : ((octet_Get.f k s0_0 s0_1 1).bind fun bt106 => (if bt106.2.2 = 0 then (if bt106.1 > 1 then ((strict_Reader_done.f s0_0 s0_1 s0_2 s0_3 bt106.2.1 5).bind fun bt110 => (if bt110.1 = true then (some ((bt106.1 == 1), bt110.2.1, bt110.2.2.1, bt110.2.2.2.1, bt110.2.2.2.2)) else (some (false, bt110.2.1, bt110.2.2.1, bt110.2.2.2.1, bt110.2.2.2.2)))) else ((strict_Reader_done.f s0_0 s0_1 s0_2 s0_3 bt106.2.1 bt106.2.2).bind fun bt115 => (if bt115.1 = true then (some ((bt106.1 == 1), bt115.2.1, bt115.2.2.1, bt115.2.2.2.1, bt115.2.2.2.2)) else (some (false, bt115.2.1, bt115.2.2.1, bt115.2.2.2.1, bt115.2.2.2.2))))) else ((strict_Reader_done.f s0_0 s0_1 s0_2 s0_3 bt106.2.1 bt106.2.2).bind fun bt120 => (if bt120.1 = true then (some ((bt106.1 == 1), bt120.2.1, bt120.2.2.1, bt120.2.2.2.1, bt120.2.2.2.2)) else (some (false, bt120.2.1, bt120.2.2.1, bt120.2.2.2.1, bt120.2.2.2.2)))))) = some (r1, r2, r3, r4, r5) := by first | (rw [if_pos rfl] at H; exact H) | rfl
    clear H; have H := H1; clear H1; replace H := Option.bind_eq_some_iff.mp H; obtain ⟨⟨t106, t107, t108⟩, A40, H⟩ := H; replace H : (if t108 = 0 then (if t106 > 1 then ((strict_Reader_done.f s0_0 s0_1 s0_2 s0_3 t107 5).bind fun bt110 => (if bt110.1 = true then (some ((t106 == 1), bt110.2.1, bt110.2.2.1, bt110.2.2.2.1, bt110.2.2.2.2)) else (some (false, bt110.2.1, bt110.2.2.1, bt110.2.2.2.1, bt110.2.2.2.2)))) else ((strict_Reader_done.f s0_0 s0_1 s0_2 s0_3 t107 t108).bind fun bt115 => (if bt115.1 = true then (some ((t106 == 1), bt115.2.1, bt115.2.2.1, bt115.2.2.2.1, bt115.2.2.2.2)) else (some (false, bt115.2.1, bt115.2.2.1, bt115.2.2.2.1, bt115.2.2.2.2))))) else ((strict_Reader_done.f s0_0 s0_1 s0_2 s0_3 t107 t108).bind fun bt120 => (if bt120.1 = true then (some ((t106 == 1), bt120.2.1, bt120.2.2.1, bt120.2.2.2.1, bt120.2.2.2.2)) else (some (false, bt120.2.1, bt120.2.2.1, bt120.2.2.2.1, bt120.2.2.2.2))))) = some (r1, r2, r3, r4, r5) := H; have A4 := zA A40; clear A40; by_cases c5 : t108 = 0
    · rw [if_pos c5] at H
      have c5b0 : (t108 == 0) = true := beq_iff_eq.mpr c5; have c5b1 : (t108 != 0) = false := bne_eq_false_iff_eq.mpr c5; clear c5; by_cases c6 : t106 > 1
      · rw [if_pos c6] at H
        have c6b0 : decide (1 < t106) = true := zFq c6; clear c6; replace H := Option.bind_eq_some_iff.mp H; obtain ⟨⟨t110, t111, t112, t113, t114⟩, A70, H⟩ := H; replace H : (if t110 = true then (some ((t106 == 1), t111, t112, t113, t114)) else (some (false, t111, t112, t113, t114))) = some (r1, r2, r3, r4, r5) := H; have A7 := zA A70; clear A70; by_cases c8 : t110 = true
        · subst c8
          have H1 : (some ((t106 == 1), t111, t112, t113, t114)) = some (r1, r2, r3, r4, r5) := by first | (rw [if_pos rfl] at H; exact H) | rfl
          clear H; have H := H1; clear H1; simp only [zNq, zOq] at H; obtain ⟨rfl, rfl, rfl, rfl, rfl⟩ := H; go_enter Try.func46, Try.ntmps46; try go_wp2_with (first | ((with_reducible refine zJq (f := 133) rfl ?_); refine goesL_ (some 6) rfl rfl Try.func133 (by kernel_rfl) rfl #[.pointer (some ⟨g, 0, none⟩)] rfl (by (try simp only [zR, zS, zT]); first | done | rfl | (simp only [zP, zQ]; rfl)) ?_; (with_reducible refine (strict_Reader_goes.calls g s0_0 s0_1 s0_2 s0_3 true s0_0 s0_1 s0_2 s0_3 w0 _ ?side1 ?side2 A2.out).mono ?_); (case side1 => repeat (first | (with_reducible first | exact HI0.out | apply IsS56.alloc | apply IsS56.drewN | apply IsS56.drew) | exact HI0.out)); (case side2 => repeat (first | (with_reducible first | exact HB.out | apply zD | apply zB | apply zC | refine zE ?_ (IsS56.ge HI0.out)) | exact HB.out)); rintro e w9 ⟨rfl, hi, hb, hk⟩; refine ⟨_, rfl, ?_⟩; have n0_ := zA (zBq (qJ HK.out) hk (.inl rfl)); have n1_ := zA (hb); have n2_ := zA (hi); clear HK HB HI0; have HK := n0_; have HB := n1_; have HI0 := n2_; clear n0_ n1_ n2_; (try clear hb); (try clear hb2); (try clear hk); (try clear hi); (try simp only [errW_none, errW_some]); have BKp0 : Aside0 (w9.heap[g]? = some (.cells #[.string s0_0, .int .i64 s0_1, errW s0_2, .bool s0_3] 56 (0, 0))) := ⟨by obtain ⟨hb_, _⟩ := HI0.out; exact hb_⟩))
          have n0_ := zA (zAq BKp0.out); have n1_ := zA (IsS56.drew HI0.out); have n2_ := zA (zM HK.out); have n3_ := zA (zC HB.out); clear BKp0; clear HI0; clear HK; clear HB; have BKp0 := n0_; have HI0 := n1_; have HK := n2_; have HB := n3_; clear n0_ n1_ n2_ n3_; refine start_ (n := 15) (S := fun w' => w'.cell? ⟨g, 0, none⟩ = some (.string s0_0) ∧ w'.cell? ⟨g, 1, none⟩ = some (.int .i64 s0_1) ∧ w'.cell? ⟨g, 2, none⟩ = some (errW s0_2) ∧ w'.cell? ⟨g, 3, none⟩ = some (.bool s0_3)) (ds := []) #[o0, o0, o0, o0, o0, o0, o0, o0, o0, o0, o0, o0, o0, o0, o0] (by kernel_rfl) rfl rfl ⟨(zF BKp0.out 0).trans rfl, (zF BKp0.out 1).trans rfl, (zF BKp0.out 2).trans rfl, (zF BKp0.out 3).trans rfl⟩ (fun hHeld => ?_); refine with_tabW strict_Reader_Flag.tab3 strict_Reader_Flag.bits3 (fun HT_ HW_ => ?_); generalize w9.drew = w10 at BKp0 HI0 HK HB hHeld ⊢; refine pure_ (i := 0) (N := some 9) #[o1, o0, o0, o0, o0, o0, o0, o0, o0, o0, o0, o0, o0, o0, o0] rfl rfl (any_of HT_.out (by kernel_rfl)) (fun _ _ _ h => h) (Or.inl ⟨by rfl, qy⟩) qz ?_; refine pure_ (i := 1) (N := some 10) #[o1, o1, o0, o0, o0, o0, o0, o0, o0, o0, o0, o0, o0, o0, o0] rfl rfl (any_of HT_.out (by kernel_rfl)) (fun _ _ _ h => h) (Or.inl ⟨by rfl, qy⟩) qz ?_; refine pure_ (i := 2) (N := some 11) #[o1, o1, o1, o0, o0, o0, o0, o0, o0, o0, o0, o0, o0, o0, o0] rfl rfl (any_of HT_.out (by kernel_rfl)) (fun _ _ _ h => h) (Or.inl ⟨by rfl, qy⟩) qz ?_; refine pure_ (i := 4) (N := some 13) #[o1, o1, o1, o0, o1, o0, o0, o0, o0, o0, o0, o0, o0, o0, o0] rfl rfl (any_of HT_.out (by kernel_rfl)) (fun _ _ _ h => h) (Or.inl ⟨by rfl, qy⟩) qz ?_; refine pure_ (i := 5) (N := some 14) #[o1, o1, o1, o0, o1, o1, o0, o0, o0, o0, o0, o0, o0, o0, o0] rfl rfl (any_of HT_.out (by kernel_rfl)) (fun _ _ _ h => h) (Or.inl ⟨by rfl, qy⟩) qz ?_; refine pure_ (i := 6) (N := some 15) #[o1, o1, o1, o0, o1, o1, o1, o0, o0, o0, o0, o0, o0, o0, o0] rfl rfl (any_of HT_.out (by kernel_rfl)) (fun _ _ _ h => h) (Or.inl ⟨by rfl, qy⟩) qz ?_; refine take_ (i := 3) (N := some 12) (v := ?_) (a' := ?_) #[o1, o1, o1, o1, o1, o1, o1, o0, o0, o0, o0, o0, o0, o0, o0] rfl rfl (take_ofW HT_.out HW_.out (by kernel_rfl)) (fun _ _ _ h => h) (Or.inl ⟨by rfl, ?_⟩) hHeld ?_ ?_; rotate_left
          · rintro w' ⟨s0, s1, s2, s3⟩
            go_simp; with_reducible rfl
          rotate_left
          · simp only [Act.put, zH, zI, zJ, i64_w, i32_w]
            rfl
          refine take_ (i := 7) (N := some 16) (v := ?_) (a' := ?_) #[o1, o1, o1, o1, o1, o1, o1, o1, o0, o0, o0, o0, o0, o0, o0] rfl rfl (take_ofW HT_.out HW_.out (by kernel_rfl)) (fun _ _ _ h => h) (Or.inl ⟨by rfl, ?_⟩) hHeld ?_ ?_; rotate_left
          · rintro w' ⟨s0, s1, s2, s3⟩
            go_simp; with_reducible rfl
          rotate_left
          · simp only [Act.put, zH, zI, zJ, i64_w, i32_w]
            rfl
          refine join_ (σ := Nat) 2 #[o1, o1, o1, o1, o1, o1, o1, o1, o1, o1, o1, o1, o1, o0, o0] (fun s_ => [(17, .tuple #[.agg #[.int .i64 t106, .int .i64 t107], .int .i64 t108]), (3, .pointer (some ⟨s_, 0, none⟩)), (8, .tuple #[.agg #[.int .i64 t106, .int .i64 t107], .int .i64 t108]), (18, .agg #[.int .i64 t106, .int .i64 t107]), (19, .int .i64 t108)]) (fun s_ w' => (w'.cell? ⟨g, 0, none⟩ = some (.string s0_0) ∧ w'.cell? ⟨g, 1, none⟩ = some (.int .i64 s0_1) ∧ w'.cell? ⟨g, 2, none⟩ = some (errW s0_2) ∧ w'.cell? ⟨g, 3, none⟩ = some (.bool s0_3)) ∧ (w'.heap[s_]? = some (.cells #[.int .i64 0, .int .i64 0] 202 (0, 0))) ∧ (w'.heap[g]? = some (.cells #[.string s0_0, .int .i64 s0_1, errW s0_2, .bool s0_3] 56 (0, 0))) ∧ (w.heap.size ≤ s_) ∧ (w0.heap.size ≤ s_) ∧ (g ≠ s_) ∧ (s_ ≠ g) ∧ (IsS56 w0 w' g s0_0 s0_1 s0_2 s0_3) ∧ (KeepBut w w' g none) ∧ (Below w0.heap.size w0 w')) ?_ ?_; rotate_left
          · intro hCont
            refine two_ (i := 8) (j := 12) (Ni := some 17) (Nj := some 3) #[o1, o1, o1, o1, o1, o1, o1, o1, o1, o0, o0, o0, o0, o0, o0] #[o1, o1, o1, o1, o1, o1, o1, o1, o0, o0, o0, o0, o1, o0, o0] rfl rfl rfl rfl (two_of HT_.out (by kernel_rfl)) (by decide) (by decide) (fun K hK => ?_) (fun K hK => ?_)
            · skip
              refine goes_ Try.func134 (by kernel_rfl) rfl #[.string s0_0, .int .i64 s0_1, .int .i64 1] (by rfl) rfl rfl (by (try simp only [zR, zS, zT]); first | done | rfl | (simp only [zP, zQ]; rfl)) ?_; with_reducible refine (octet_Get.calls k s0_0 s0_1 1 t106 t107 t108 _ A4.out).mono ?_
              rintro e w11 ⟨rfl, hb⟩; refine ⟨_, rfl, ?_⟩; have n0_ := zA (IsS56.below (by repeat (first | (with_reducible first | exact HI0.out | apply IsS56.alloc | apply IsS56.drewN | apply IsS56.drew | refine IsS56.far ?_ NB0_0.out _) | exact HI0.out)) hb); have n1_ := zA (qX BKp0.out hb); have n2_ := zA (zBq (qJ HK.out) (KeepBut.of_below hb g none) (.inl rfl)); have n3_ := zA (zV (qH HI0.out HB.out) hb); clear HI0; clear BKp0; clear HK; clear HB; have HI0 := n0_; have BKp0 := n1_; have HK := n2_; have HB := n3_; clear n0_ n1_ n2_ n3_; (try clear hb); (try clear hb2); (try clear hk); (try clear hi); refine hK.out _ _ ⟨(zF BKp0.out 0).trans rfl, (zF BKp0.out 1).trans rfl, (zF BKp0.out 2).trans rfl, (zF BKp0.out 3).trans rfl⟩ (fun hHeld => ?_); clear hK K; refine norm_ (a' := ?_) ?_ ?_; rotate_left
              · show Act.put _ (some 17) _ = _
                simp only [Act.put, zH, zI, zJ, i64_w, i32_w]; rfl
              refine pure_ (i := 9) (N := some 8) #[o1, o1, o1, o1, o1, o1, o1, o1, o1, o1, o0, o0, o0, o0, o0] rfl rfl (any_of HT_.out (by kernel_rfl)) (fun _ _ _ h => h) (Or.inl ⟨by rfl, qy⟩) qz ?_; refine pure_ (i := 10) (N := some 18) #[o1, o1, o1, o1, o1, o1, o1, o1, o1, o1, o1, o0, o0, o0, o0] rfl rfl (any_of HT_.out (by kernel_rfl)) (fun _ _ _ h => h) (Or.inl ⟨by rfl, qy⟩) qz ?_; refine pure_ (i := 11) (N := some 19) #[o1, o1, o1, o1, o1, o1, o1, o1, o1, o1, o1, o1, o0, o0, o0] rfl rfl (any_of HT_.out (by kernel_rfl)) (fun _ _ _ h => h) (Or.inl ⟨by rfl, qy⟩) qz ?_; refine one_ (i := 12) (N := some 3) #[o1, o1, o1, o1, o1, o1, o1, o1, o1, o1, o1, o1, o1, o0, o0] rfl rfl (one_of HT_.out (by kernel_rfl)) (by decide) (fun K hK => ?_); refine box_step ?hg (N := 3) ?hd (cs := #[.int .i64 0, .int .i64 0]) (t := 202) ?hr ?_; (case hd => rfl); (case hg => rfl); (case hr => first | (go_simp; done) | (go_simp; rfl)); intro gb109 hg w12 hbox hb; have n0_ := zA (IsS56.below (by repeat (first | (with_reducible first | exact HI0.out | apply IsS56.alloc | apply IsS56.drewN | apply IsS56.drew | refine IsS56.far ?_ NB0_0.out _) | exact HI0.out)) hb); have n1_ := zA (qX BKp0.out hb); have n2_ := zA (zBq (qJ HK.out) (KeepBut.of_below hb g none) (.inl rfl)); have n3_ := zA (zV (qH HI0.out HB.out) hb); have n4_ := zA (hbox); have n5_ := zA ((by rw [hg]; exact (keep_size (w := w) (g := g) (row := none) (qJ HK.out)) : w.heap.size ≤ gb109)); have n6_ := zA ((Nat.le_trans HW0.out (by rw [hg]; exact (keep_size (w := w) (g := g) (row := none) (qJ HK.out)) : w.heap.size ≤ gb109) : w0.heap.size ≤ gb109)); have n7_ := zA ((by rw [hg]; exact zLq (qL BKp0.out) : g ≠ gb109)); have n8_ := zA ((by rw [hg]; exact zMq (qL BKp0.out) : gb109 ≠ g)); have n9_ := zA ((by rw [hg]; exact zLq (IsS56.lt (show IsS56 w0 _ g s0_0 s0_1 s0_2 s0_3 from by repeat (first | (with_reducible first | exact HI0.out | apply IsS56.alloc | apply IsS56.drewN | apply IsS56.drew | refine IsS56.far ?_ NB0_0.out _) | exact HI0.out))) : g ≠ gb109)); have n10_ := zA ((by rw [hg]; exact zMq (IsS56.lt (show IsS56 w0 _ g s0_0 s0_1 s0_2 s0_3 from by repeat (first | (with_reducible first | exact HI0.out | apply IsS56.alloc | apply IsS56.drewN | apply IsS56.drew | refine IsS56.far ?_ NB0_0.out _) | exact HI0.out))) : gb109 ≠ g)); clear HI0; clear BKp0; clear HK; clear HB; have HI0 := n0_; have BKp0 := n1_; have HK := n2_; have HB := n3_; have BK109 := n4_; have GW109 := n5_; have GE109 := n6_; have NB0_109 := n7_; have NB109_0 := n8_; have NB0_109 := n9_; have NB109_0 := n10_; clear n0_ n1_ n2_ n3_ n4_ n5_ n6_ n7_ n8_ n9_ n10_; clear hb hbox hg; refine hK.out _ _ ⟨(zF BKp0.out 0).trans rfl, (zF BKp0.out 1).trans rfl, (zF BKp0.out 2).trans rfl, (zF BKp0.out 3).trans rfl⟩ (fun hHeld => ?_)
              clear hK K; refine norm_ (a' := ?_) ?_ ?_; rotate_left
              · show Act.put _ (some 3) _ = _
                simp only [Act.put, zH, zI, zJ, i64_w, i32_w]; rfl
              exact norm_ (by simp only [putAll, Act.put, zH, zI, zJ]) (hCont (gb109) _ ⟨hHeld, (qW BK109.out), (qW BKp0.out), GW109.out, GE109.out, NB0_109.out, NB109_0.out, (by repeat (first | (with_reducible first | exact HI0.out | apply IsS56.alloc | apply IsS56.drewN | apply IsS56.drew | refine IsS56.far ?_ NB0_0.out _ | refine IsS56.far ?_ NB0_109.out _) | exact HI0.out)), (qJ HK.out), (qH HI0.out HB.out)⟩)
            skip; refine box_step ?hg (N := 3) ?hd (cs := #[.int .i64 0, .int .i64 0]) (t := 202) ?hr ?_; (case hd => rfl); (case hg => rfl); (case hr => first | (go_simp; done) | (go_simp; rfl)); intro gb109 hg w11 hbox hb; have n0_ := zA (IsS56.below (by repeat (first | (with_reducible first | exact HI0.out | apply IsS56.alloc | apply IsS56.drewN | apply IsS56.drew | refine IsS56.far ?_ NB0_0.out _) | exact HI0.out)) hb); have n1_ := zA (qX BKp0.out hb); have n2_ := zA (zBq (qJ HK.out) (KeepBut.of_below hb g none) (.inl rfl)); have n3_ := zA (zV (qH HI0.out HB.out) hb); have n4_ := zA (hbox); have n5_ := zA ((by rw [hg]; exact (keep_size (w := w) (g := g) (row := none) (qJ HK.out)) : w.heap.size ≤ gb109)); have n6_ := zA ((Nat.le_trans HW0.out (by rw [hg]; exact (keep_size (w := w) (g := g) (row := none) (qJ HK.out)) : w.heap.size ≤ gb109) : w0.heap.size ≤ gb109)); have n7_ := zA ((by rw [hg]; exact zLq (qL BKp0.out) : g ≠ gb109)); have n8_ := zA ((by rw [hg]; exact zMq (qL BKp0.out) : gb109 ≠ g)); have n9_ := zA ((by rw [hg]; exact zLq (IsS56.lt (show IsS56 w0 _ g s0_0 s0_1 s0_2 s0_3 from by repeat (first | (with_reducible first | exact HI0.out | apply IsS56.alloc | apply IsS56.drewN | apply IsS56.drew | refine IsS56.far ?_ NB0_0.out _) | exact HI0.out))) : g ≠ gb109)); have n10_ := zA ((by rw [hg]; exact zMq (IsS56.lt (show IsS56 w0 _ g s0_0 s0_1 s0_2 s0_3 from by repeat (first | (with_reducible first | exact HI0.out | apply IsS56.alloc | apply IsS56.drewN | apply IsS56.drew | refine IsS56.far ?_ NB0_0.out _) | exact HI0.out))) : gb109 ≠ g)); clear HI0; clear BKp0; clear HK; clear HB; have HI0 := n0_; have BKp0 := n1_; have HK := n2_; have HB := n3_; have BK109 := n4_; have GW109 := n5_; have GE109 := n6_; have NB0_109 := n7_; have NB109_0 := n8_; have NB0_109 := n9_; have NB109_0 := n10_; clear n0_ n1_ n2_ n3_ n4_ n5_ n6_ n7_ n8_ n9_ n10_; clear hb hbox hg; refine hK.out _ _ ⟨(zF BKp0.out 0).trans rfl, (zF BKp0.out 1).trans rfl, (zF BKp0.out 2).trans rfl, (zF BKp0.out 3).trans rfl⟩ (fun hHeld => ?_); clear hK K; refine norm_ (a' := ?_) ?_ ?_; rotate_left
            · show Act.put _ (some 3) _ = _
              simp only [Act.put, zH, zI, zJ, i64_w, i32_w]; rfl
            refine one_ (i := 8) (N := some 17) #[o1, o1, o1, o1, o1, o1, o1, o1, o1, o0, o0, o0, o1, o0, o0] rfl rfl (one_of HT_.out (by kernel_rfl)) (by decide) (fun K hK => ?_); refine goes_ Try.func134 (by kernel_rfl) rfl #[.string s0_0, .int .i64 s0_1, .int .i64 1] (by rfl) rfl rfl (by (try simp only [zR, zS, zT]); first | done | rfl | (simp only [zP, zQ]; rfl)) ?_; with_reducible refine (octet_Get.calls k s0_0 s0_1 1 t106 t107 t108 _ A4.out).mono ?_
            rintro e w12 ⟨rfl, hb⟩; refine ⟨_, rfl, ?_⟩; have n0_ := zA (IsS56.below (by repeat (first | (with_reducible first | exact HI0.out | apply IsS56.alloc | apply IsS56.drewN | apply IsS56.drew | refine IsS56.far ?_ NB0_0.out _ | refine IsS56.far ?_ NB0_109.out _) | exact HI0.out)) hb); have n1_ := zA (qX BKp0.out hb); have n2_ := zA (qX BK109.out hb); have n3_ := zA (zBq (qJ HK.out) (KeepBut.of_below hb g none) (.inl rfl)); have n4_ := zA (zV (qH HI0.out HB.out) hb); clear HI0; clear BKp0; clear BK109; clear HK; clear HB; have HI0 := n0_; have BKp0 := n1_; have BK109 := n2_; have HK := n3_; have HB := n4_; clear n0_ n1_ n2_ n3_ n4_; (try clear hb); (try clear hb2); (try clear hk); (try clear hi); refine hK.out _ _ ⟨(zF BKp0.out 0).trans rfl, (zF BKp0.out 1).trans rfl, (zF BKp0.out 2).trans rfl, (zF BKp0.out 3).trans rfl⟩ (fun hHeld => ?_); clear hK K; refine norm_ (a' := ?_) ?_ ?_; rotate_left
            · show Act.put _ (some 17) _ = _
              simp only [Act.put, zH, zI, zJ, i64_w, i32_w]; rfl
            refine pure_ (i := 9) (N := some 8) #[o1, o1, o1, o1, o1, o1, o1, o1, o1, o1, o0, o0, o1, o0, o0] rfl rfl (any_of HT_.out (by kernel_rfl)) (fun _ _ _ h => h) (Or.inl ⟨by rfl, qy⟩) qz ?_; refine pure_ (i := 10) (N := some 18) #[o1, o1, o1, o1, o1, o1, o1, o1, o1, o1, o1, o0, o1, o0, o0] rfl rfl (any_of HT_.out (by kernel_rfl)) (fun _ _ _ h => h) (Or.inl ⟨by rfl, qy⟩) qz ?_; refine pure_ (i := 11) (N := some 19) #[o1, o1, o1, o1, o1, o1, o1, o1, o1, o1, o1, o1, o1, o0, o0] rfl rfl (any_of HT_.out (by kernel_rfl)) (fun _ _ _ h => h) (Or.inl ⟨by rfl, qy⟩) qz ?_; exact norm_ (by simp only [putAll, Act.put, zH, zI, zJ]) (hCont (gb109) _ ⟨hHeld, (qW BK109.out), (qW BKp0.out), GW109.out, GE109.out, NB0_109.out, NB109_0.out, (by repeat (first | (with_reducible first | exact HI0.out | apply IsS56.alloc | apply IsS56.drewN | apply IsS56.drew | refine IsS56.far ?_ NB0_0.out _ | refine IsS56.far ?_ NB0_109.out _) | exact HI0.out)), (qJ HK.out), (qH HI0.out HB.out)⟩)
          rintro gb109 w13 ⟨hS_, h0_, h1_, h2_, h3_, h4_, h5_, h6_, h7_, h8_⟩; have n0_ : Aside0 (w13.heap[gb109]? = some (.cells #[.int .i64 0, .int .i64 0] 202 (0, 0))) := ⟨h0_⟩
          have n1_ : Aside0 (w13.heap[g]? = some (.cells #[.string s0_0, .int .i64 s0_1, errW s0_2, .bool s0_3] 56 (0, 0))) := ⟨h1_⟩
          have n2_ : Aside0 (w.heap.size ≤ gb109) := ⟨h2_⟩
          have n3_ : Aside0 (w0.heap.size ≤ gb109) := ⟨h3_⟩
          have n4_ : Aside0 (g ≠ gb109) := ⟨h4_⟩
          have n5_ : Aside0 (gb109 ≠ g) := ⟨h5_⟩
          have n6_ : Aside0 (IsS56 w0 w13 g s0_0 s0_1 s0_2 s0_3) := ⟨h6_⟩
          have n7_ : Aside0 (KeepBut w w13 g none) := ⟨h7_⟩
          have n8_ : Aside0 (Below w0.heap.size w0 w13) := ⟨h8_⟩
          clear BKp0; clear HI0; clear HK; clear HB; clear h0_ h1_ h2_ h3_ h4_ h5_ h6_ h7_ h8_; have BK109 := n0_; have BKp0 := n1_; have GW109 := n2_; have GE109 := n3_; have NB0_109 := n4_; have NB109_0 := n5_; have HI0 := n6_; have HK := n7_; have HB := n8_; clear n0_ n1_ n2_ n3_ n4_ n5_ n6_ n7_ n8_; have hHeld : w13.cell? ⟨g, 0, none⟩ = some (.string s0_0) ∧ w13.cell? ⟨g, 1, none⟩ = some (.int .i64 s0_1) ∧ w13.cell? ⟨g, 2, none⟩ = some (errW s0_2) ∧ w13.cell? ⟨g, 3, none⟩ = some (.bool s0_3) := hS_; refine norm_ (a' := ?_) ?_ ?_; rotate_left
          · simp only [putAll, Act.put, zH, zI, zJ]
            rfl
          refine one_ (i := 13) (N := none) #[o1, o1, o1, o1, o1, o1, o1, o1, o1, o1, o1, o1, o1, o1, o0] rfl rfl (one_of HT_.out (by kernel_rfl)) (by decide) (fun K hK => ?_); have hs14 : w13.cell? ⟨gb109, 0, none⟩ = some (.int .i64 0) := (zF BK109.out 0).trans rfl; have hfs14 := zG BK109.out 0; have hns14_0 := NB0_109.out; have hms14_0 := NB109_0.out; have hs15 : w13.cell? ⟨gb109, 1, none⟩ = some (.int .i64 0) := (zF BK109.out 1).trans rfl; have hfs15 := zG BK109.out 1; have hns15_0 := NB0_109.out; have hms15_0 := NB109_0.out; refine skip_ (w1 := ?_) (by rfl) rfl ?_ ?_; rotate_left
          · go_simp
            rfl
          refine hK.out _ _ ⟨((cell_far (p := ⟨gb109, _, none⟩) NB0_109.out _).trans (((cell_far (p := ⟨gb109, _, none⟩) NB0_109.out _).trans (hHeld.1)))), ((cell_far (p := ⟨gb109, _, none⟩) NB0_109.out _).trans (((cell_far (p := ⟨gb109, _, none⟩) NB0_109.out _).trans (hHeld.2.1)))), ((cell_far (p := ⟨gb109, _, none⟩) NB0_109.out _).trans (((cell_far (p := ⟨gb109, _, none⟩) NB0_109.out _).trans (hHeld.2.2.1)))), ((cell_far (p := ⟨gb109, _, none⟩) NB0_109.out _).trans (((cell_far (p := ⟨gb109, _, none⟩) NB0_109.out _).trans (hHeld.2.2.2))))⟩ (fun hHeld => ?_); clear hK K; refine pure_ (i := 14) (N := some 4) #[o1, o1, o1, o1, o1, o1, o1, o1, o1, o1, o1, o1, o1, o1, o1] rfl rfl (any_of HT_.out (by kernel_rfl)) (fun _ _ _ h => h) (Or.inl ⟨by rfl, qy⟩) qz ?_; refine done_ (done_of HT_.out (by kernel_rfl)) ?_; clear BKp0; have hnb16 := NB109_0.out; have hnc16 := NB0_109.out; obtain ⟨_, _, _, _⟩ := qc2f BK109.out; try go_wp2_with (first | ((with_reducible refine zJq (f := 135) rfl ?_); refine goesL_ (some 31) rfl rfl Try.func135 (by kernel_rfl) rfl #[.pointer (some ⟨g, 0, none⟩), .int .i64 t107, .int .i64 5] rfl (by (try simp only [zR, zS, zT]); first | done | rfl | (simp only [zP, zQ]; rfl)) ?_; (with_reducible refine (strict_Reader_done.calls g s0_0 s0_1 s0_2 s0_3 t107 5 true t111 t112 t113 t114 w0 _ ?side1 ?side2 A7.out).mono ?_); (case side1 => repeat (first | (with_reducible first | exact HI0.out | apply IsS56.alloc | apply IsS56.drewN | apply IsS56.drew | refine IsS56.far ?_ NB0_109.out _) | exact HI0.out)); (case side2 => repeat (first | (with_reducible first | exact HB.out | apply zD | apply zB | apply zC | refine zE ?_ (IsS56.ge HI0.out) | refine zE ?_ GE109.out) | exact HB.out)); rintro e w18 ⟨rfl, hi, hb, hk⟩; refine ⟨_, rfl, ?_⟩; have n0_ := zA (KeepBut.blk hk (g' := gb109) (o := .cells #[.int .i64 t106, .int .i64 t107] 202 (0, 0)) (qV BK109.out) NB109_0.out (by simp)); have n1_ := zA (zBq (qJ HK.out) hk (.inl rfl)); have n2_ := zA (hb); have n3_ := zA (hi); clear BK109 HK HB HI0; have BK109 := n0_; have HK := n1_; have HB := n2_; have HI0 := n3_; clear n0_ n1_ n2_ n3_; (try clear hb); (try clear hb2); (try clear hk); (try clear hi); (try simp only [errW_none, errW_some]); obtain ⟨_, _, _, _⟩ := qc2f BK109.out))
          go_ret; exact ⟨qE, by repeat (first | (with_reducible first | exact HI0.out | apply IsS56.alloc | apply IsS56.drewN | apply IsS56.drew | refine IsS56.far ?_ NB0_109.out _) | exact HI0.out), qH HI0.out HB.out, qJ HK.out⟩
        replace c8 := Bool.eq_false_iff.mpr c8; subst c8; have H1 : (some (false, t111, t112, t113, t114)) = some (r1, r2, r3, r4, r5) := by first | (rw [if_neg (show ¬ (false = true) by decide)] at H; exact H) | rfl
        clear H; have H := H1; clear H1; simp only [zNq, zOq] at H; obtain ⟨rfl, rfl, rfl, rfl, rfl⟩ := H; go_enter Try.func46, Try.ntmps46; try go_wp2_with (first | ((with_reducible refine zJq (f := 133) rfl ?_); refine goesL_ (some 6) rfl rfl Try.func133 (by kernel_rfl) rfl #[.pointer (some ⟨g, 0, none⟩)] rfl (by (try simp only [zR, zS, zT]); first | done | rfl | (simp only [zP, zQ]; rfl)) ?_; (with_reducible refine (strict_Reader_goes.calls g s0_0 s0_1 s0_2 s0_3 true s0_0 s0_1 s0_2 s0_3 w0 _ ?side1 ?side2 A2.out).mono ?_); (case side1 => repeat (first | (with_reducible first | exact HI0.out | apply IsS56.alloc | apply IsS56.drewN | apply IsS56.drew) | exact HI0.out)); (case side2 => repeat (first | (with_reducible first | exact HB.out | apply zD | apply zB | apply zC | refine zE ?_ (IsS56.ge HI0.out)) | exact HB.out)); rintro e w20 ⟨rfl, hi, hb, hk⟩; refine ⟨_, rfl, ?_⟩; have n0_ := zA (zBq (qJ HK.out) hk (.inl rfl)); have n1_ := zA (hb); have n2_ := zA (hi); clear HK HB HI0; have HK := n0_; have HB := n1_; have HI0 := n2_; clear n0_ n1_ n2_; (try clear hb); (try clear hb2); (try clear hk); (try clear hi); (try simp only [errW_none, errW_some]); have BKp0 : Aside0 (w20.heap[g]? = some (.cells #[.string s0_0, .int .i64 s0_1, errW s0_2, .bool s0_3] 56 (0, 0))) := ⟨by obtain ⟨hb_, _⟩ := HI0.out; exact hb_⟩))
        have n0_ := zA (zAq BKp0.out); have n1_ := zA (IsS56.drew HI0.out); have n2_ := zA (zM HK.out); have n3_ := zA (zC HB.out); clear BKp0; clear HI0; clear HK; clear HB; have BKp0 := n0_; have HI0 := n1_; have HK := n2_; have HB := n3_; clear n0_ n1_ n2_ n3_; refine start_ (n := 15) (S := fun w' => w'.cell? ⟨g, 0, none⟩ = some (.string s0_0) ∧ w'.cell? ⟨g, 1, none⟩ = some (.int .i64 s0_1) ∧ w'.cell? ⟨g, 2, none⟩ = some (errW s0_2) ∧ w'.cell? ⟨g, 3, none⟩ = some (.bool s0_3)) (ds := []) #[o0, o0, o0, o0, o0, o0, o0, o0, o0, o0, o0, o0, o0, o0, o0] (by kernel_rfl) rfl rfl ⟨(zF BKp0.out 0).trans rfl, (zF BKp0.out 1).trans rfl, (zF BKp0.out 2).trans rfl, (zF BKp0.out 3).trans rfl⟩ (fun hHeld => ?_); refine with_tabW strict_Reader_Flag.tab3 strict_Reader_Flag.bits3 (fun HT_ HW_ => ?_); generalize w20.drew = w21 at BKp0 HI0 HK HB hHeld ⊢; refine pure_ (i := 0) (N := some 9) #[o1, o0, o0, o0, o0, o0, o0, o0, o0, o0, o0, o0, o0, o0, o0] rfl rfl (any_of HT_.out (by kernel_rfl)) (fun _ _ _ h => h) (Or.inl ⟨by rfl, qy⟩) qz ?_; refine pure_ (i := 1) (N := some 10) #[o1, o1, o0, o0, o0, o0, o0, o0, o0, o0, o0, o0, o0, o0, o0] rfl rfl (any_of HT_.out (by kernel_rfl)) (fun _ _ _ h => h) (Or.inl ⟨by rfl, qy⟩) qz ?_; refine pure_ (i := 2) (N := some 11) #[o1, o1, o1, o0, o0, o0, o0, o0, o0, o0, o0, o0, o0, o0, o0] rfl rfl (any_of HT_.out (by kernel_rfl)) (fun _ _ _ h => h) (Or.inl ⟨by rfl, qy⟩) qz ?_; refine pure_ (i := 4) (N := some 13) #[o1, o1, o1, o0, o1, o0, o0, o0, o0, o0, o0, o0, o0, o0, o0] rfl rfl (any_of HT_.out (by kernel_rfl)) (fun _ _ _ h => h) (Or.inl ⟨by rfl, qy⟩) qz ?_; refine pure_ (i := 5) (N := some 14) #[o1, o1, o1, o0, o1, o1, o0, o0, o0, o0, o0, o0, o0, o0, o0] rfl rfl (any_of HT_.out (by kernel_rfl)) (fun _ _ _ h => h) (Or.inl ⟨by rfl, qy⟩) qz ?_; refine pure_ (i := 6) (N := some 15) #[o1, o1, o1, o0, o1, o1, o1, o0, o0, o0, o0, o0, o0, o0, o0] rfl rfl (any_of HT_.out (by kernel_rfl)) (fun _ _ _ h => h) (Or.inl ⟨by rfl, qy⟩) qz ?_; refine take_ (i := 3) (N := some 12) (v := ?_) (a' := ?_) #[o1, o1, o1, o1, o1, o1, o1, o0, o0, o0, o0, o0, o0, o0, o0] rfl rfl (take_ofW HT_.out HW_.out (by kernel_rfl)) (fun _ _ _ h => h) (Or.inl ⟨by rfl, ?_⟩) hHeld ?_ ?_; rotate_left
        · rintro w' ⟨s0, s1, s2, s3⟩
          go_simp; with_reducible rfl
        rotate_left
        · simp only [Act.put, zH, zI, zJ, i64_w, i32_w]
          rfl
        refine take_ (i := 7) (N := some 16) (v := ?_) (a' := ?_) #[o1, o1, o1, o1, o1, o1, o1, o1, o0, o0, o0, o0, o0, o0, o0] rfl rfl (take_ofW HT_.out HW_.out (by kernel_rfl)) (fun _ _ _ h => h) (Or.inl ⟨by rfl, ?_⟩) hHeld ?_ ?_; rotate_left
        · rintro w' ⟨s0, s1, s2, s3⟩
          go_simp; with_reducible rfl
        rotate_left
        · simp only [Act.put, zH, zI, zJ, i64_w, i32_w]
          rfl
        refine join_ (σ := Nat) 2 #[o1, o1, o1, o1, o1, o1, o1, o1, o1, o1, o1, o1, o1, o0, o0] (fun s_ => [(17, .tuple #[.agg #[.int .i64 t106, .int .i64 t107], .int .i64 t108]), (3, .pointer (some ⟨s_, 0, none⟩)), (8, .tuple #[.agg #[.int .i64 t106, .int .i64 t107], .int .i64 t108]), (18, .agg #[.int .i64 t106, .int .i64 t107]), (19, .int .i64 t108)]) (fun s_ w' => (w'.cell? ⟨g, 0, none⟩ = some (.string s0_0) ∧ w'.cell? ⟨g, 1, none⟩ = some (.int .i64 s0_1) ∧ w'.cell? ⟨g, 2, none⟩ = some (errW s0_2) ∧ w'.cell? ⟨g, 3, none⟩ = some (.bool s0_3)) ∧ (w'.heap[s_]? = some (.cells #[.int .i64 0, .int .i64 0] 202 (0, 0))) ∧ (w'.heap[g]? = some (.cells #[.string s0_0, .int .i64 s0_1, errW s0_2, .bool s0_3] 56 (0, 0))) ∧ (w.heap.size ≤ s_) ∧ (w0.heap.size ≤ s_) ∧ (g ≠ s_) ∧ (s_ ≠ g) ∧ (IsS56 w0 w' g s0_0 s0_1 s0_2 s0_3) ∧ (KeepBut w w' g none) ∧ (Below w0.heap.size w0 w')) ?_ ?_; rotate_left
        · intro hCont
          refine two_ (i := 8) (j := 12) (Ni := some 17) (Nj := some 3) #[o1, o1, o1, o1, o1, o1, o1, o1, o1, o0, o0, o0, o0, o0, o0] #[o1, o1, o1, o1, o1, o1, o1, o1, o0, o0, o0, o0, o1, o0, o0] rfl rfl rfl rfl (two_of HT_.out (by kernel_rfl)) (by decide) (by decide) (fun K hK => ?_) (fun K hK => ?_)
          · skip
            refine goes_ Try.func134 (by kernel_rfl) rfl #[.string s0_0, .int .i64 s0_1, .int .i64 1] (by rfl) rfl rfl (by (try simp only [zR, zS, zT]); first | done | rfl | (simp only [zP, zQ]; rfl)) ?_; with_reducible refine (octet_Get.calls k s0_0 s0_1 1 t106 t107 t108 _ A4.out).mono ?_
            rintro e w22 ⟨rfl, hb⟩; refine ⟨_, rfl, ?_⟩; have n0_ := zA (IsS56.below (by repeat (first | (with_reducible first | exact HI0.out | apply IsS56.alloc | apply IsS56.drewN | apply IsS56.drew | refine IsS56.far ?_ NB0_0.out _) | exact HI0.out)) hb); have n1_ := zA (qX BKp0.out hb); have n2_ := zA (zBq (qJ HK.out) (KeepBut.of_below hb g none) (.inl rfl)); have n3_ := zA (zV (qH HI0.out HB.out) hb); clear HI0; clear BKp0; clear HK; clear HB; have HI0 := n0_; have BKp0 := n1_; have HK := n2_; have HB := n3_; clear n0_ n1_ n2_ n3_; (try clear hb); (try clear hb2); (try clear hk); (try clear hi); refine hK.out _ _ ⟨(zF BKp0.out 0).trans rfl, (zF BKp0.out 1).trans rfl, (zF BKp0.out 2).trans rfl, (zF BKp0.out 3).trans rfl⟩ (fun hHeld => ?_); clear hK K; refine norm_ (a' := ?_) ?_ ?_; rotate_left
            · show Act.put _ (some 17) _ = _
              simp only [Act.put, zH, zI, zJ, i64_w, i32_w]; rfl
            refine pure_ (i := 9) (N := some 8) #[o1, o1, o1, o1, o1, o1, o1, o1, o1, o1, o0, o0, o0, o0, o0] rfl rfl (any_of HT_.out (by kernel_rfl)) (fun _ _ _ h => h) (Or.inl ⟨by rfl, qy⟩) qz ?_; refine pure_ (i := 10) (N := some 18) #[o1, o1, o1, o1, o1, o1, o1, o1, o1, o1, o1, o0, o0, o0, o0] rfl rfl (any_of HT_.out (by kernel_rfl)) (fun _ _ _ h => h) (Or.inl ⟨by rfl, qy⟩) qz ?_; refine pure_ (i := 11) (N := some 19) #[o1, o1, o1, o1, o1, o1, o1, o1, o1, o1, o1, o1, o0, o0, o0] rfl rfl (any_of HT_.out (by kernel_rfl)) (fun _ _ _ h => h) (Or.inl ⟨by rfl, qy⟩) qz ?_; refine one_ (i := 12) (N := some 3) #[o1, o1, o1, o1, o1, o1, o1, o1, o1, o1, o1, o1, o1, o0, o0] rfl rfl (one_of HT_.out (by kernel_rfl)) (by decide) (fun K hK => ?_); refine box_step ?hg (N := 3) ?hd (cs := #[.int .i64 0, .int .i64 0]) (t := 202) ?hr ?_; (case hd => rfl); (case hg => rfl); (case hr => first | (go_simp; done) | (go_simp; rfl)); intro gb109 hg w23 hbox hb; have n0_ := zA (IsS56.below (by repeat (first | (with_reducible first | exact HI0.out | apply IsS56.alloc | apply IsS56.drewN | apply IsS56.drew | refine IsS56.far ?_ NB0_0.out _) | exact HI0.out)) hb); have n1_ := zA (qX BKp0.out hb); have n2_ := zA (zBq (qJ HK.out) (KeepBut.of_below hb g none) (.inl rfl)); have n3_ := zA (zV (qH HI0.out HB.out) hb); have n4_ := zA (hbox); have n5_ := zA ((by rw [hg]; exact (keep_size (w := w) (g := g) (row := none) (qJ HK.out)) : w.heap.size ≤ gb109)); have n6_ := zA ((Nat.le_trans HW0.out (by rw [hg]; exact (keep_size (w := w) (g := g) (row := none) (qJ HK.out)) : w.heap.size ≤ gb109) : w0.heap.size ≤ gb109)); have n7_ := zA ((by rw [hg]; exact zLq (qL BKp0.out) : g ≠ gb109)); have n8_ := zA ((by rw [hg]; exact zMq (qL BKp0.out) : gb109 ≠ g)); have n9_ := zA ((by rw [hg]; exact zLq (IsS56.lt (show IsS56 w0 _ g s0_0 s0_1 s0_2 s0_3 from by repeat (first | (with_reducible first | exact HI0.out | apply IsS56.alloc | apply IsS56.drewN | apply IsS56.drew | refine IsS56.far ?_ NB0_0.out _) | exact HI0.out))) : g ≠ gb109)); have n10_ := zA ((by rw [hg]; exact zMq (IsS56.lt (show IsS56 w0 _ g s0_0 s0_1 s0_2 s0_3 from by repeat (first | (with_reducible first | exact HI0.out | apply IsS56.alloc | apply IsS56.drewN | apply IsS56.drew | refine IsS56.far ?_ NB0_0.out _) | exact HI0.out))) : gb109 ≠ g)); clear HI0; clear BKp0; clear HK; clear HB; have HI0 := n0_; have BKp0 := n1_; have HK := n2_; have HB := n3_; have BK109 := n4_; have GW109 := n5_; have GE109 := n6_; have NB0_109 := n7_; have NB109_0 := n8_; have NB0_109 := n9_; have NB109_0 := n10_; clear n0_ n1_ n2_ n3_ n4_ n5_ n6_ n7_ n8_ n9_ n10_; clear hb hbox hg; refine hK.out _ _ ⟨(zF BKp0.out 0).trans rfl, (zF BKp0.out 1).trans rfl, (zF BKp0.out 2).trans rfl, (zF BKp0.out 3).trans rfl⟩ (fun hHeld => ?_)
            clear hK K; refine norm_ (a' := ?_) ?_ ?_; rotate_left
            · show Act.put _ (some 3) _ = _
              simp only [Act.put, zH, zI, zJ, i64_w, i32_w]; rfl
            exact norm_ (by simp only [putAll, Act.put, zH, zI, zJ]) (hCont (gb109) _ ⟨hHeld, (qW BK109.out), (qW BKp0.out), GW109.out, GE109.out, NB0_109.out, NB109_0.out, (by repeat (first | (with_reducible first | exact HI0.out | apply IsS56.alloc | apply IsS56.drewN | apply IsS56.drew | refine IsS56.far ?_ NB0_0.out _ | refine IsS56.far ?_ NB0_109.out _) | exact HI0.out)), (qJ HK.out), (qH HI0.out HB.out)⟩)
          skip; refine box_step ?hg (N := 3) ?hd (cs := #[.int .i64 0, .int .i64 0]) (t := 202) ?hr ?_; (case hd => rfl); (case hg => rfl); (case hr => first | (go_simp; done) | (go_simp; rfl)); intro gb109 hg w22 hbox hb; have n0_ := zA (IsS56.below (by repeat (first | (with_reducible first | exact HI0.out | apply IsS56.alloc | apply IsS56.drewN | apply IsS56.drew | refine IsS56.far ?_ NB0_0.out _) | exact HI0.out)) hb); have n1_ := zA (qX BKp0.out hb); have n2_ := zA (zBq (qJ HK.out) (KeepBut.of_below hb g none) (.inl rfl)); have n3_ := zA (zV (qH HI0.out HB.out) hb); have n4_ := zA (hbox); have n5_ := zA ((by rw [hg]; exact (keep_size (w := w) (g := g) (row := none) (qJ HK.out)) : w.heap.size ≤ gb109)); have n6_ := zA ((Nat.le_trans HW0.out (by rw [hg]; exact (keep_size (w := w) (g := g) (row := none) (qJ HK.out)) : w.heap.size ≤ gb109) : w0.heap.size ≤ gb109)); have n7_ := zA ((by rw [hg]; exact zLq (qL BKp0.out) : g ≠ gb109)); have n8_ := zA ((by rw [hg]; exact zMq (qL BKp0.out) : gb109 ≠ g)); have n9_ := zA ((by rw [hg]; exact zLq (IsS56.lt (show IsS56 w0 _ g s0_0 s0_1 s0_2 s0_3 from by repeat (first | (with_reducible first | exact HI0.out | apply IsS56.alloc | apply IsS56.drewN | apply IsS56.drew | refine IsS56.far ?_ NB0_0.out _) | exact HI0.out))) : g ≠ gb109)); have n10_ := zA ((by rw [hg]; exact zMq (IsS56.lt (show IsS56 w0 _ g s0_0 s0_1 s0_2 s0_3 from by repeat (first | (with_reducible first | exact HI0.out | apply IsS56.alloc | apply IsS56.drewN | apply IsS56.drew | refine IsS56.far ?_ NB0_0.out _) | exact HI0.out))) : gb109 ≠ g)); clear HI0; clear BKp0; clear HK; clear HB; have HI0 := n0_; have BKp0 := n1_; have HK := n2_; have HB := n3_; have BK109 := n4_; have GW109 := n5_; have GE109 := n6_; have NB0_109 := n7_; have NB109_0 := n8_; have NB0_109 := n9_; have NB109_0 := n10_; clear n0_ n1_ n2_ n3_ n4_ n5_ n6_ n7_ n8_ n9_ n10_; clear hb hbox hg; refine hK.out _ _ ⟨(zF BKp0.out 0).trans rfl, (zF BKp0.out 1).trans rfl, (zF BKp0.out 2).trans rfl, (zF BKp0.out 3).trans rfl⟩ (fun hHeld => ?_); clear hK K; refine norm_ (a' := ?_) ?_ ?_; rotate_left
          · show Act.put _ (some 3) _ = _
            simp only [Act.put, zH, zI, zJ, i64_w, i32_w]; rfl
          refine one_ (i := 8) (N := some 17) #[o1, o1, o1, o1, o1, o1, o1, o1, o1, o0, o0, o0, o1, o0, o0] rfl rfl (one_of HT_.out (by kernel_rfl)) (by decide) (fun K hK => ?_); refine goes_ Try.func134 (by kernel_rfl) rfl #[.string s0_0, .int .i64 s0_1, .int .i64 1] (by rfl) rfl rfl (by (try simp only [zR, zS, zT]); first | done | rfl | (simp only [zP, zQ]; rfl)) ?_; with_reducible refine (octet_Get.calls k s0_0 s0_1 1 t106 t107 t108 _ A4.out).mono ?_
          rintro e w23 ⟨rfl, hb⟩; refine ⟨_, rfl, ?_⟩; have n0_ := zA (IsS56.below (by repeat (first | (with_reducible first | exact HI0.out | apply IsS56.alloc | apply IsS56.drewN | apply IsS56.drew | refine IsS56.far ?_ NB0_0.out _ | refine IsS56.far ?_ NB0_109.out _) | exact HI0.out)) hb); have n1_ := zA (qX BKp0.out hb); have n2_ := zA (qX BK109.out hb); have n3_ := zA (zBq (qJ HK.out) (KeepBut.of_below hb g none) (.inl rfl)); have n4_ := zA (zV (qH HI0.out HB.out) hb); clear HI0; clear BKp0; clear BK109; clear HK; clear HB; have HI0 := n0_; have BKp0 := n1_; have BK109 := n2_; have HK := n3_; have HB := n4_; clear n0_ n1_ n2_ n3_ n4_; (try clear hb); (try clear hb2); (try clear hk); (try clear hi); refine hK.out _ _ ⟨(zF BKp0.out 0).trans rfl, (zF BKp0.out 1).trans rfl, (zF BKp0.out 2).trans rfl, (zF BKp0.out 3).trans rfl⟩ (fun hHeld => ?_); clear hK K; refine norm_ (a' := ?_) ?_ ?_; rotate_left
          · show Act.put _ (some 17) _ = _
            simp only [Act.put, zH, zI, zJ, i64_w, i32_w]; rfl
          refine pure_ (i := 9) (N := some 8) #[o1, o1, o1, o1, o1, o1, o1, o1, o1, o1, o0, o0, o1, o0, o0] rfl rfl (any_of HT_.out (by kernel_rfl)) (fun _ _ _ h => h) (Or.inl ⟨by rfl, qy⟩) qz ?_; refine pure_ (i := 10) (N := some 18) #[o1, o1, o1, o1, o1, o1, o1, o1, o1, o1, o1, o0, o1, o0, o0] rfl rfl (any_of HT_.out (by kernel_rfl)) (fun _ _ _ h => h) (Or.inl ⟨by rfl, qy⟩) qz ?_; refine pure_ (i := 11) (N := some 19) #[o1, o1, o1, o1, o1, o1, o1, o1, o1, o1, o1, o1, o1, o0, o0] rfl rfl (any_of HT_.out (by kernel_rfl)) (fun _ _ _ h => h) (Or.inl ⟨by rfl, qy⟩) qz ?_; exact norm_ (by simp only [putAll, Act.put, zH, zI, zJ]) (hCont (gb109) _ ⟨hHeld, (qW BK109.out), (qW BKp0.out), GW109.out, GE109.out, NB0_109.out, NB109_0.out, (by repeat (first | (with_reducible first | exact HI0.out | apply IsS56.alloc | apply IsS56.drewN | apply IsS56.drew | refine IsS56.far ?_ NB0_0.out _ | refine IsS56.far ?_ NB0_109.out _) | exact HI0.out)), (qJ HK.out), (qH HI0.out HB.out)⟩)
        rintro gb109 w24 ⟨hS_, h0_, h1_, h2_, h3_, h4_, h5_, h6_, h7_, h8_⟩; have n0_ : Aside0 (w24.heap[gb109]? = some (.cells #[.int .i64 0, .int .i64 0] 202 (0, 0))) := ⟨h0_⟩
        have n1_ : Aside0 (w24.heap[g]? = some (.cells #[.string s0_0, .int .i64 s0_1, errW s0_2, .bool s0_3] 56 (0, 0))) := ⟨h1_⟩
        have n2_ : Aside0 (w.heap.size ≤ gb109) := ⟨h2_⟩
        have n3_ : Aside0 (w0.heap.size ≤ gb109) := ⟨h3_⟩
        have n4_ : Aside0 (g ≠ gb109) := ⟨h4_⟩
        have n5_ : Aside0 (gb109 ≠ g) := ⟨h5_⟩
        have n6_ : Aside0 (IsS56 w0 w24 g s0_0 s0_1 s0_2 s0_3) := ⟨h6_⟩
        have n7_ : Aside0 (KeepBut w w24 g none) := ⟨h7_⟩
        have n8_ : Aside0 (Below w0.heap.size w0 w24) := ⟨h8_⟩
        clear BKp0; clear HI0; clear HK; clear HB; clear h0_ h1_ h2_ h3_ h4_ h5_ h6_ h7_ h8_; have BK109 := n0_; have BKp0 := n1_; have GW109 := n2_; have GE109 := n3_; have NB0_109 := n4_; have NB109_0 := n5_; have HI0 := n6_; have HK := n7_; have HB := n8_; clear n0_ n1_ n2_ n3_ n4_ n5_ n6_ n7_ n8_; have hHeld : w24.cell? ⟨g, 0, none⟩ = some (.string s0_0) ∧ w24.cell? ⟨g, 1, none⟩ = some (.int .i64 s0_1) ∧ w24.cell? ⟨g, 2, none⟩ = some (errW s0_2) ∧ w24.cell? ⟨g, 3, none⟩ = some (.bool s0_3) := hS_; refine norm_ (a' := ?_) ?_ ?_; rotate_left
        · simp only [putAll, Act.put, zH, zI, zJ]
          rfl
        refine one_ (i := 13) (N := none) #[o1, o1, o1, o1, o1, o1, o1, o1, o1, o1, o1, o1, o1, o1, o0] rfl rfl (one_of HT_.out (by kernel_rfl)) (by decide) (fun K hK => ?_); have hs25 : w24.cell? ⟨gb109, 0, none⟩ = some (.int .i64 0) := (zF BK109.out 0).trans rfl; have hfs25 := zG BK109.out 0; have hns25_0 := NB0_109.out; have hms25_0 := NB109_0.out; have hs26 : w24.cell? ⟨gb109, 1, none⟩ = some (.int .i64 0) := (zF BK109.out 1).trans rfl; have hfs26 := zG BK109.out 1; have hns26_0 := NB0_109.out; have hms26_0 := NB109_0.out; refine skip_ (w1 := ?_) (by rfl) rfl ?_ ?_; rotate_left
        · go_simp
          rfl
        refine hK.out _ _ ⟨((cell_far (p := ⟨gb109, _, none⟩) NB0_109.out _).trans (((cell_far (p := ⟨gb109, _, none⟩) NB0_109.out _).trans (hHeld.1)))), ((cell_far (p := ⟨gb109, _, none⟩) NB0_109.out _).trans (((cell_far (p := ⟨gb109, _, none⟩) NB0_109.out _).trans (hHeld.2.1)))), ((cell_far (p := ⟨gb109, _, none⟩) NB0_109.out _).trans (((cell_far (p := ⟨gb109, _, none⟩) NB0_109.out _).trans (hHeld.2.2.1)))), ((cell_far (p := ⟨gb109, _, none⟩) NB0_109.out _).trans (((cell_far (p := ⟨gb109, _, none⟩) NB0_109.out _).trans (hHeld.2.2.2))))⟩ (fun hHeld => ?_); clear hK K; refine pure_ (i := 14) (N := some 4) #[o1, o1, o1, o1, o1, o1, o1, o1, o1, o1, o1, o1, o1, o1, o1] rfl rfl (any_of HT_.out (by kernel_rfl)) (fun _ _ _ h => h) (Or.inl ⟨by rfl, qy⟩) qz ?_; refine done_ (done_of HT_.out (by kernel_rfl)) ?_; clear BKp0; have hnb27 := NB109_0.out; have hnc27 := NB0_109.out; obtain ⟨_, _, _, _⟩ := qc2f BK109.out; try go_wp2_with (first | ((with_reducible refine zJq (f := 135) rfl ?_); refine goesL_ (some 31) rfl rfl Try.func135 (by kernel_rfl) rfl #[.pointer (some ⟨g, 0, none⟩), .int .i64 t107, .int .i64 5] rfl (by (try simp only [zR, zS, zT]); first | done | rfl | (simp only [zP, zQ]; rfl)) ?_; (with_reducible refine (strict_Reader_done.calls g s0_0 s0_1 s0_2 s0_3 t107 5 false t111 t112 t113 t114 w0 _ ?side1 ?side2 A7.out).mono ?_); (case side1 => repeat (first | (with_reducible first | exact HI0.out | apply IsS56.alloc | apply IsS56.drewN | apply IsS56.drew | refine IsS56.far ?_ NB0_109.out _) | exact HI0.out)); (case side2 => repeat (first | (with_reducible first | exact HB.out | apply zD | apply zB | apply zC | refine zE ?_ (IsS56.ge HI0.out) | refine zE ?_ GE109.out) | exact HB.out)); rintro e w29 ⟨rfl, hi, hb, hk⟩; refine ⟨_, rfl, ?_⟩; have n0_ := zA (KeepBut.blk hk (g' := gb109) (o := .cells #[.int .i64 t106, .int .i64 t107] 202 (0, 0)) (qV BK109.out) NB109_0.out (by simp)); have n1_ := zA (zBq (qJ HK.out) hk (.inl rfl)); have n2_ := zA (hb); have n3_ := zA (hi); clear BK109 HK HB HI0; have BK109 := n0_; have HK := n1_; have HB := n2_; have HI0 := n3_; clear n0_ n1_ n2_ n3_; (try clear hb); (try clear hb2); (try clear hk); (try clear hi); (try simp only [errW_none, errW_some])))
        go_ret; exact ⟨qE, by repeat (first | (with_reducible first | exact HI0.out | apply IsS56.alloc | apply IsS56.drewN | apply IsS56.drew | refine IsS56.far ?_ NB0_109.out _) | exact HI0.out), qH HI0.out HB.out, qJ HK.out⟩
      rw [if_neg c6] at H; have c6b0 : decide (1 < t106) = false := zGq c6; clear c6; replace H := Option.bind_eq_some_iff.mp H; obtain ⟨⟨t115, t116, t117, t118, t119⟩, A300, H⟩ := H; replace H : (if t115 = true then (some ((t106 == 1), t116, t117, t118, t119)) else (some (false, t116, t117, t118, t119))) = some (r1, r2, r3, r4, r5) := H; have A30 := zA A300; clear A300; by_cases c31 : t115 = true
      · subst c31
        have H1 : (some ((t106 == 1), t116, t117, t118, t119)) = some (r1, r2, r3, r4, r5) := by first | (rw [if_pos rfl] at H; exact H) | rfl
        clear H; have H := H1; clear H1; simp only [zNq, zOq] at H; obtain ⟨rfl, rfl, rfl, rfl, rfl⟩ := H; go_enter Try.func46, Try.ntmps46; try go_wp2_with (first | ((with_reducible refine zJq (f := 133) rfl ?_); refine goesL_ (some 6) rfl rfl Try.func133 (by kernel_rfl) rfl #[.pointer (some ⟨g, 0, none⟩)] rfl (by (try simp only [zR, zS, zT]); first | done | rfl | (simp only [zP, zQ]; rfl)) ?_; (with_reducible refine (strict_Reader_goes.calls g s0_0 s0_1 s0_2 s0_3 true s0_0 s0_1 s0_2 s0_3 w0 _ ?side1 ?side2 A2.out).mono ?_); (case side1 => repeat (first | (with_reducible first | exact HI0.out | apply IsS56.alloc | apply IsS56.drewN | apply IsS56.drew) | exact HI0.out)); (case side2 => repeat (first | (with_reducible first | exact HB.out | apply zD | apply zB | apply zC | refine zE ?_ (IsS56.ge HI0.out)) | exact HB.out)); rintro e w32 ⟨rfl, hi, hb, hk⟩; refine ⟨_, rfl, ?_⟩; have n0_ := zA (zBq (qJ HK.out) hk (.inl rfl)); have n1_ := zA (hb); have n2_ := zA (hi); clear HK HB HI0; have HK := n0_; have HB := n1_; have HI0 := n2_; clear n0_ n1_ n2_; (try clear hb); (try clear hb2); (try clear hk); (try clear hi); (try simp only [errW_none, errW_some]); have BKp0 : Aside0 (w32.heap[g]? = some (.cells #[.string s0_0, .int .i64 s0_1, errW s0_2, .bool s0_3] 56 (0, 0))) := ⟨by obtain ⟨hb_, _⟩ := HI0.out; exact hb_⟩))
        have n0_ := zA (zAq BKp0.out); have n1_ := zA (IsS56.drew HI0.out); have n2_ := zA (zM HK.out); have n3_ := zA (zC HB.out); clear BKp0; clear HI0; clear HK; clear HB; have BKp0 := n0_; have HI0 := n1_; have HK := n2_; have HB := n3_; clear n0_ n1_ n2_ n3_; refine start_ (n := 15) (S := fun w' => w'.cell? ⟨g, 0, none⟩ = some (.string s0_0) ∧ w'.cell? ⟨g, 1, none⟩ = some (.int .i64 s0_1) ∧ w'.cell? ⟨g, 2, none⟩ = some (errW s0_2) ∧ w'.cell? ⟨g, 3, none⟩ = some (.bool s0_3)) (ds := []) #[o0, o0, o0, o0, o0, o0, o0, o0, o0, o0, o0, o0, o0, o0, o0] (by kernel_rfl) rfl rfl ⟨(zF BKp0.out 0).trans rfl, (zF BKp0.out 1).trans rfl, (zF BKp0.out 2).trans rfl, (zF BKp0.out 3).trans rfl⟩ (fun hHeld => ?_); refine with_tabW strict_Reader_Flag.tab3 strict_Reader_Flag.bits3 (fun HT_ HW_ => ?_); generalize w32.drew = w33 at BKp0 HI0 HK HB hHeld ⊢; refine pure_ (i := 0) (N := some 9) #[o1, o0, o0, o0, o0, o0, o0, o0, o0, o0, o0, o0, o0, o0, o0] rfl rfl (any_of HT_.out (by kernel_rfl)) (fun _ _ _ h => h) (Or.inl ⟨by rfl, qy⟩) qz ?_; refine pure_ (i := 1) (N := some 10) #[o1, o1, o0, o0, o0, o0, o0, o0, o0, o0, o0, o0, o0, o0, o0] rfl rfl (any_of HT_.out (by kernel_rfl)) (fun _ _ _ h => h) (Or.inl ⟨by rfl, qy⟩) qz ?_; refine pure_ (i := 2) (N := some 11) #[o1, o1, o1, o0, o0, o0, o0, o0, o0, o0, o0, o0, o0, o0, o0] rfl rfl (any_of HT_.out (by kernel_rfl)) (fun _ _ _ h => h) (Or.inl ⟨by rfl, qy⟩) qz ?_; refine pure_ (i := 4) (N := some 13) #[o1, o1, o1, o0, o1, o0, o0, o0, o0, o0, o0, o0, o0, o0, o0] rfl rfl (any_of HT_.out (by kernel_rfl)) (fun _ _ _ h => h) (Or.inl ⟨by rfl, qy⟩) qz ?_; refine pure_ (i := 5) (N := some 14) #[o1, o1, o1, o0, o1, o1, o0, o0, o0, o0, o0, o0, o0, o0, o0] rfl rfl (any_of HT_.out (by kernel_rfl)) (fun _ _ _ h => h) (Or.inl ⟨by rfl, qy⟩) qz ?_; refine pure_ (i := 6) (N := some 15) #[o1, o1, o1, o0, o1, o1, o1, o0, o0, o0, o0, o0, o0, o0, o0] rfl rfl (any_of HT_.out (by kernel_rfl)) (fun _ _ _ h => h) (Or.inl ⟨by rfl, qy⟩) qz ?_; refine take_ (i := 3) (N := some 12) (v := ?_) (a' := ?_) #[o1, o1, o1, o1, o1, o1, o1, o0, o0, o0, o0, o0, o0, o0, o0] rfl rfl (take_ofW HT_.out HW_.out (by kernel_rfl)) (fun _ _ _ h => h) (Or.inl ⟨by rfl, ?_⟩) hHeld ?_ ?_; rotate_left
        · rintro w' ⟨s0, s1, s2, s3⟩
          go_simp; with_reducible rfl
        rotate_left
        · simp only [Act.put, zH, zI, zJ, i64_w, i32_w]
          rfl
        refine take_ (i := 7) (N := some 16) (v := ?_) (a' := ?_) #[o1, o1, o1, o1, o1, o1, o1, o1, o0, o0, o0, o0, o0, o0, o0] rfl rfl (take_ofW HT_.out HW_.out (by kernel_rfl)) (fun _ _ _ h => h) (Or.inl ⟨by rfl, ?_⟩) hHeld ?_ ?_; rotate_left
        · rintro w' ⟨s0, s1, s2, s3⟩
          go_simp; with_reducible rfl
        rotate_left
        · simp only [Act.put, zH, zI, zJ, i64_w, i32_w]
          rfl
        refine join_ (σ := Nat) 2 #[o1, o1, o1, o1, o1, o1, o1, o1, o1, o1, o1, o1, o1, o0, o0] (fun s_ => [(17, .tuple #[.agg #[.int .i64 t106, .int .i64 t107], .int .i64 t108]), (3, .pointer (some ⟨s_, 0, none⟩)), (8, .tuple #[.agg #[.int .i64 t106, .int .i64 t107], .int .i64 t108]), (18, .agg #[.int .i64 t106, .int .i64 t107]), (19, .int .i64 t108)]) (fun s_ w' => (w'.cell? ⟨g, 0, none⟩ = some (.string s0_0) ∧ w'.cell? ⟨g, 1, none⟩ = some (.int .i64 s0_1) ∧ w'.cell? ⟨g, 2, none⟩ = some (errW s0_2) ∧ w'.cell? ⟨g, 3, none⟩ = some (.bool s0_3)) ∧ (w'.heap[s_]? = some (.cells #[.int .i64 0, .int .i64 0] 202 (0, 0))) ∧ (w'.heap[g]? = some (.cells #[.string s0_0, .int .i64 s0_1, errW s0_2, .bool s0_3] 56 (0, 0))) ∧ (w.heap.size ≤ s_) ∧ (w0.heap.size ≤ s_) ∧ (g ≠ s_) ∧ (s_ ≠ g) ∧ (IsS56 w0 w' g s0_0 s0_1 s0_2 s0_3) ∧ (KeepBut w w' g none) ∧ (Below w0.heap.size w0 w')) ?_ ?_; rotate_left
        · intro hCont
          refine two_ (i := 8) (j := 12) (Ni := some 17) (Nj := some 3) #[o1, o1, o1, o1, o1, o1, o1, o1, o1, o0, o0, o0, o0, o0, o0] #[o1, o1, o1, o1, o1, o1, o1, o1, o0, o0, o0, o0, o1, o0, o0] rfl rfl rfl rfl (two_of HT_.out (by kernel_rfl)) (by decide) (by decide) (fun K hK => ?_) (fun K hK => ?_)
          · skip
            refine goes_ Try.func134 (by kernel_rfl) rfl #[.string s0_0, .int .i64 s0_1, .int .i64 1] (by rfl) rfl rfl (by (try simp only [zR, zS, zT]); first | done | rfl | (simp only [zP, zQ]; rfl)) ?_; with_reducible refine (octet_Get.calls k s0_0 s0_1 1 t106 t107 t108 _ A4.out).mono ?_
            rintro e w34 ⟨rfl, hb⟩; refine ⟨_, rfl, ?_⟩; have n0_ := zA (IsS56.below (by repeat (first | (with_reducible first | exact HI0.out | apply IsS56.alloc | apply IsS56.drewN | apply IsS56.drew | refine IsS56.far ?_ NB0_0.out _) | exact HI0.out)) hb); have n1_ := zA (qX BKp0.out hb); have n2_ := zA (zBq (qJ HK.out) (KeepBut.of_below hb g none) (.inl rfl)); have n3_ := zA (zV (qH HI0.out HB.out) hb); clear HI0; clear BKp0; clear HK; clear HB; have HI0 := n0_; have BKp0 := n1_; have HK := n2_; have HB := n3_; clear n0_ n1_ n2_ n3_; (try clear hb); (try clear hb2); (try clear hk); (try clear hi); refine hK.out _ _ ⟨(zF BKp0.out 0).trans rfl, (zF BKp0.out 1).trans rfl, (zF BKp0.out 2).trans rfl, (zF BKp0.out 3).trans rfl⟩ (fun hHeld => ?_); clear hK K; refine norm_ (a' := ?_) ?_ ?_; rotate_left
            · show Act.put _ (some 17) _ = _
              simp only [Act.put, zH, zI, zJ, i64_w, i32_w]; rfl
            refine pure_ (i := 9) (N := some 8) #[o1, o1, o1, o1, o1, o1, o1, o1, o1, o1, o0, o0, o0, o0, o0] rfl rfl (any_of HT_.out (by kernel_rfl)) (fun _ _ _ h => h) (Or.inl ⟨by rfl, qy⟩) qz ?_; refine pure_ (i := 10) (N := some 18) #[o1, o1, o1, o1, o1, o1, o1, o1, o1, o1, o1, o0, o0, o0, o0] rfl rfl (any_of HT_.out (by kernel_rfl)) (fun _ _ _ h => h) (Or.inl ⟨by rfl, qy⟩) qz ?_; refine pure_ (i := 11) (N := some 19) #[o1, o1, o1, o1, o1, o1, o1, o1, o1, o1, o1, o1, o0, o0, o0] rfl rfl (any_of HT_.out (by kernel_rfl)) (fun _ _ _ h => h) (Or.inl ⟨by rfl, qy⟩) qz ?_; refine one_ (i := 12) (N := some 3) #[o1, o1, o1, o1, o1, o1, o1, o1, o1, o1, o1, o1, o1, o0, o0] rfl rfl (one_of HT_.out (by kernel_rfl)) (by decide) (fun K hK => ?_); refine box_step ?hg (N := 3) ?hd (cs := #[.int .i64 0, .int .i64 0]) (t := 202) ?hr ?_; (case hd => rfl); (case hg => rfl); (case hr => first | (go_simp; done) | (go_simp; rfl)); intro gb109 hg w35 hbox hb; have n0_ := zA (IsS56.below (by repeat (first | (with_reducible first | exact HI0.out | apply IsS56.alloc | apply IsS56.drewN | apply IsS56.drew | refine IsS56.far ?_ NB0_0.out _) | exact HI0.out)) hb); have n1_ := zA (qX BKp0.out hb); have n2_ := zA (zBq (qJ HK.out) (KeepBut.of_below hb g none) (.inl rfl)); have n3_ := zA (zV (qH HI0.out HB.out) hb); have n4_ := zA (hbox); have n5_ := zA ((by rw [hg]; exact (keep_size (w := w) (g := g) (row := none) (qJ HK.out)) : w.heap.size ≤ gb109)); have n6_ := zA ((Nat.le_trans HW0.out (by rw [hg]; exact (keep_size (w := w) (g := g) (row := none) (qJ HK.out)) : w.heap.size ≤ gb109) : w0.heap.size ≤ gb109)); have n7_ := zA ((by rw [hg]; exact zLq (qL BKp0.out) : g ≠ gb109)); have n8_ := zA ((by rw [hg]; exact zMq (qL BKp0.out) : gb109 ≠ g)); have n9_ := zA ((by rw [hg]; exact zLq (IsS56.lt (show IsS56 w0 _ g s0_0 s0_1 s0_2 s0_3 from by repeat (first | (with_reducible first | exact HI0.out | apply IsS56.alloc | apply IsS56.drewN | apply IsS56.drew | refine IsS56.far ?_ NB0_0.out _) | exact HI0.out))) : g ≠ gb109)); have n10_ := zA ((by rw [hg]; exact zMq (IsS56.lt (show IsS56 w0 _ g s0_0 s0_1 s0_2 s0_3 from by repeat (first | (with_reducible first | exact HI0.out | apply IsS56.alloc | apply IsS56.drewN | apply IsS56.drew | refine IsS56.far ?_ NB0_0.out _) | exact HI0.out))) : gb109 ≠ g)); clear HI0; clear BKp0; clear HK; clear HB; have HI0 := n0_; have BKp0 := n1_; have HK := n2_; have HB := n3_; have BK109 := n4_; have GW109 := n5_; have GE109 := n6_; have NB0_109 := n7_; have NB109_0 := n8_; have NB0_109 := n9_; have NB109_0 := n10_; clear n0_ n1_ n2_ n3_ n4_ n5_ n6_ n7_ n8_ n9_ n10_; clear hb hbox hg; refine hK.out _ _ ⟨(zF BKp0.out 0).trans rfl, (zF BKp0.out 1).trans rfl, (zF BKp0.out 2).trans rfl, (zF BKp0.out 3).trans rfl⟩ (fun hHeld => ?_)
            clear hK K; refine norm_ (a' := ?_) ?_ ?_; rotate_left
            · show Act.put _ (some 3) _ = _
              simp only [Act.put, zH, zI, zJ, i64_w, i32_w]; rfl
            exact norm_ (by simp only [putAll, Act.put, zH, zI, zJ]) (hCont (gb109) _ ⟨hHeld, (qW BK109.out), (qW BKp0.out), GW109.out, GE109.out, NB0_109.out, NB109_0.out, (by repeat (first | (with_reducible first | exact HI0.out | apply IsS56.alloc | apply IsS56.drewN | apply IsS56.drew | refine IsS56.far ?_ NB0_0.out _ | refine IsS56.far ?_ NB0_109.out _) | exact HI0.out)), (qJ HK.out), (qH HI0.out HB.out)⟩)
          skip; refine box_step ?hg (N := 3) ?hd (cs := #[.int .i64 0, .int .i64 0]) (t := 202) ?hr ?_; (case hd => rfl); (case hg => rfl); (case hr => first | (go_simp; done) | (go_simp; rfl)); intro gb109 hg w34 hbox hb; have n0_ := zA (IsS56.below (by repeat (first | (with_reducible first | exact HI0.out | apply IsS56.alloc | apply IsS56.drewN | apply IsS56.drew | refine IsS56.far ?_ NB0_0.out _) | exact HI0.out)) hb); have n1_ := zA (qX BKp0.out hb); have n2_ := zA (zBq (qJ HK.out) (KeepBut.of_below hb g none) (.inl rfl)); have n3_ := zA (zV (qH HI0.out HB.out) hb); have n4_ := zA (hbox); have n5_ := zA ((by rw [hg]; exact (keep_size (w := w) (g := g) (row := none) (qJ HK.out)) : w.heap.size ≤ gb109)); have n6_ := zA ((Nat.le_trans HW0.out (by rw [hg]; exact (keep_size (w := w) (g := g) (row := none) (qJ HK.out)) : w.heap.size ≤ gb109) : w0.heap.size ≤ gb109)); have n7_ := zA ((by rw [hg]; exact zLq (qL BKp0.out) : g ≠ gb109)); have n8_ := zA ((by rw [hg]; exact zMq (qL BKp0.out) : gb109 ≠ g)); have n9_ := zA ((by rw [hg]; exact zLq (IsS56.lt (show IsS56 w0 _ g s0_0 s0_1 s0_2 s0_3 from by repeat (first | (with_reducible first | exact HI0.out | apply IsS56.alloc | apply IsS56.drewN | apply IsS56.drew | refine IsS56.far ?_ NB0_0.out _) | exact HI0.out))) : g ≠ gb109)); have n10_ := zA ((by rw [hg]; exact zMq (IsS56.lt (show IsS56 w0 _ g s0_0 s0_1 s0_2 s0_3 from by repeat (first | (with_reducible first | exact HI0.out | apply IsS56.alloc | apply IsS56.drewN | apply IsS56.drew | refine IsS56.far ?_ NB0_0.out _) | exact HI0.out))) : gb109 ≠ g)); clear HI0; clear BKp0; clear HK; clear HB; have HI0 := n0_; have BKp0 := n1_; have HK := n2_; have HB := n3_; have BK109 := n4_; have GW109 := n5_; have GE109 := n6_; have NB0_109 := n7_; have NB109_0 := n8_; have NB0_109 := n9_; have NB109_0 := n10_; clear n0_ n1_ n2_ n3_ n4_ n5_ n6_ n7_ n8_ n9_ n10_; clear hb hbox hg; refine hK.out _ _ ⟨(zF BKp0.out 0).trans rfl, (zF BKp0.out 1).trans rfl, (zF BKp0.out 2).trans rfl, (zF BKp0.out 3).trans rfl⟩ (fun hHeld => ?_); clear hK K; refine norm_ (a' := ?_) ?_ ?_; rotate_left
          · show Act.put _ (some 3) _ = _
            simp only [Act.put, zH, zI, zJ, i64_w, i32_w]; rfl
          refine one_ (i := 8) (N := some 17) #[o1, o1, o1, o1, o1, o1, o1, o1, o1, o0, o0, o0, o1, o0, o0] rfl rfl (one_of HT_.out (by kernel_rfl)) (by decide) (fun K hK => ?_); refine goes_ Try.func134 (by kernel_rfl) rfl #[.string s0_0, .int .i64 s0_1, .int .i64 1] (by rfl) rfl rfl (by (try simp only [zR, zS, zT]); first | done | rfl | (simp only [zP, zQ]; rfl)) ?_; with_reducible refine (octet_Get.calls k s0_0 s0_1 1 t106 t107 t108 _ A4.out).mono ?_
          rintro e w35 ⟨rfl, hb⟩; refine ⟨_, rfl, ?_⟩; have n0_ := zA (IsS56.below (by repeat (first | (with_reducible first | exact HI0.out | apply IsS56.alloc | apply IsS56.drewN | apply IsS56.drew | refine IsS56.far ?_ NB0_0.out _ | refine IsS56.far ?_ NB0_109.out _) | exact HI0.out)) hb); have n1_ := zA (qX BKp0.out hb); have n2_ := zA (qX BK109.out hb); have n3_ := zA (zBq (qJ HK.out) (KeepBut.of_below hb g none) (.inl rfl)); have n4_ := zA (zV (qH HI0.out HB.out) hb); clear HI0; clear BKp0; clear BK109; clear HK; clear HB; have HI0 := n0_; have BKp0 := n1_; have BK109 := n2_; have HK := n3_; have HB := n4_; clear n0_ n1_ n2_ n3_ n4_; (try clear hb); (try clear hb2); (try clear hk); (try clear hi); refine hK.out _ _ ⟨(zF BKp0.out 0).trans rfl, (zF BKp0.out 1).trans rfl, (zF BKp0.out 2).trans rfl, (zF BKp0.out 3).trans rfl⟩ (fun hHeld => ?_); clear hK K; refine norm_ (a' := ?_) ?_ ?_; rotate_left
          · show Act.put _ (some 17) _ = _
            simp only [Act.put, zH, zI, zJ, i64_w, i32_w]; rfl
          refine pure_ (i := 9) (N := some 8) #[o1, o1, o1, o1, o1, o1, o1, o1, o1, o1, o0, o0, o1, o0, o0] rfl rfl (any_of HT_.out (by kernel_rfl)) (fun _ _ _ h => h) (Or.inl ⟨by rfl, qy⟩) qz ?_; refine pure_ (i := 10) (N := some 18) #[o1, o1, o1, o1, o1, o1, o1, o1, o1, o1, o1, o0, o1, o0, o0] rfl rfl (any_of HT_.out (by kernel_rfl)) (fun _ _ _ h => h) (Or.inl ⟨by rfl, qy⟩) qz ?_; refine pure_ (i := 11) (N := some 19) #[o1, o1, o1, o1, o1, o1, o1, o1, o1, o1, o1, o1, o1, o0, o0] rfl rfl (any_of HT_.out (by kernel_rfl)) (fun _ _ _ h => h) (Or.inl ⟨by rfl, qy⟩) qz ?_; exact norm_ (by simp only [putAll, Act.put, zH, zI, zJ]) (hCont (gb109) _ ⟨hHeld, (qW BK109.out), (qW BKp0.out), GW109.out, GE109.out, NB0_109.out, NB109_0.out, (by repeat (first | (with_reducible first | exact HI0.out | apply IsS56.alloc | apply IsS56.drewN | apply IsS56.drew | refine IsS56.far ?_ NB0_0.out _ | refine IsS56.far ?_ NB0_109.out _) | exact HI0.out)), (qJ HK.out), (qH HI0.out HB.out)⟩)
        rintro gb109 w36 ⟨hS_, h0_, h1_, h2_, h3_, h4_, h5_, h6_, h7_, h8_⟩; have n0_ : Aside0 (w36.heap[gb109]? = some (.cells #[.int .i64 0, .int .i64 0] 202 (0, 0))) := ⟨h0_⟩
        have n1_ : Aside0 (w36.heap[g]? = some (.cells #[.string s0_0, .int .i64 s0_1, errW s0_2, .bool s0_3] 56 (0, 0))) := ⟨h1_⟩
        have n2_ : Aside0 (w.heap.size ≤ gb109) := ⟨h2_⟩
        have n3_ : Aside0 (w0.heap.size ≤ gb109) := ⟨h3_⟩
        have n4_ : Aside0 (g ≠ gb109) := ⟨h4_⟩
        have n5_ : Aside0 (gb109 ≠ g) := ⟨h5_⟩
        have n6_ : Aside0 (IsS56 w0 w36 g s0_0 s0_1 s0_2 s0_3) := ⟨h6_⟩
        have n7_ : Aside0 (KeepBut w w36 g none) := ⟨h7_⟩
        have n8_ : Aside0 (Below w0.heap.size w0 w36) := ⟨h8_⟩
        clear BKp0; clear HI0; clear HK; clear HB; clear h0_ h1_ h2_ h3_ h4_ h5_ h6_ h7_ h8_; have BK109 := n0_; have BKp0 := n1_; have GW109 := n2_; have GE109 := n3_; have NB0_109 := n4_; have NB109_0 := n5_; have HI0 := n6_; have HK := n7_; have HB := n8_; clear n0_ n1_ n2_ n3_ n4_ n5_ n6_ n7_ n8_; have hHeld : w36.cell? ⟨g, 0, none⟩ = some (.string s0_0) ∧ w36.cell? ⟨g, 1, none⟩ = some (.int .i64 s0_1) ∧ w36.cell? ⟨g, 2, none⟩ = some (errW s0_2) ∧ w36.cell? ⟨g, 3, none⟩ = some (.bool s0_3) := hS_; refine norm_ (a' := ?_) ?_ ?_; rotate_left
        · simp only [putAll, Act.put, zH, zI, zJ]
          rfl
        refine one_ (i := 13) (N := none) #[o1, o1, o1, o1, o1, o1, o1, o1, o1, o1, o1, o1, o1, o1, o0] rfl rfl (one_of HT_.out (by kernel_rfl)) (by decide) (fun K hK => ?_); have hs37 : w36.cell? ⟨gb109, 0, none⟩ = some (.int .i64 0) := (zF BK109.out 0).trans rfl; have hfs37 := zG BK109.out 0; have hns37_0 := NB0_109.out; have hms37_0 := NB109_0.out; have hs38 : w36.cell? ⟨gb109, 1, none⟩ = some (.int .i64 0) := (zF BK109.out 1).trans rfl; have hfs38 := zG BK109.out 1; have hns38_0 := NB0_109.out; have hms38_0 := NB109_0.out; refine skip_ (w1 := ?_) (by rfl) rfl ?_ ?_; rotate_left
        · go_simp
          rfl
        refine hK.out _ _ ⟨((cell_far (p := ⟨gb109, _, none⟩) NB0_109.out _).trans (((cell_far (p := ⟨gb109, _, none⟩) NB0_109.out _).trans (hHeld.1)))), ((cell_far (p := ⟨gb109, _, none⟩) NB0_109.out _).trans (((cell_far (p := ⟨gb109, _, none⟩) NB0_109.out _).trans (hHeld.2.1)))), ((cell_far (p := ⟨gb109, _, none⟩) NB0_109.out _).trans (((cell_far (p := ⟨gb109, _, none⟩) NB0_109.out _).trans (hHeld.2.2.1)))), ((cell_far (p := ⟨gb109, _, none⟩) NB0_109.out _).trans (((cell_far (p := ⟨gb109, _, none⟩) NB0_109.out _).trans (hHeld.2.2.2))))⟩ (fun hHeld => ?_); clear hK K; refine pure_ (i := 14) (N := some 4) #[o1, o1, o1, o1, o1, o1, o1, o1, o1, o1, o1, o1, o1, o1, o1] rfl rfl (any_of HT_.out (by kernel_rfl)) (fun _ _ _ h => h) (Or.inl ⟨by rfl, qy⟩) qz ?_; refine done_ (done_of HT_.out (by kernel_rfl)) ?_; clear BKp0; have hnb39 := NB109_0.out; have hnc39 := NB0_109.out; obtain ⟨_, _, _, _⟩ := qc2f BK109.out; try go_wp2_with (first | ((with_reducible refine zJq (f := 135) rfl ?_); refine goesL_ (some 31) rfl rfl Try.func135 (by kernel_rfl) rfl #[.pointer (some ⟨g, 0, none⟩), .int .i64 t107, .int .i64 t108] rfl (by (try simp only [zR, zS, zT]); first | done | rfl | (simp only [zP, zQ]; rfl)) ?_; (with_reducible refine (strict_Reader_done.calls g s0_0 s0_1 s0_2 s0_3 t107 t108 true t116 t117 t118 t119 w0 _ ?side1 ?side2 A30.out).mono ?_); (case side1 => repeat (first | (with_reducible first | exact HI0.out | apply IsS56.alloc | apply IsS56.drewN | apply IsS56.drew | refine IsS56.far ?_ NB0_109.out _) | exact HI0.out)); (case side2 => repeat (first | (with_reducible first | exact HB.out | apply zD | apply zB | apply zC | refine zE ?_ (IsS56.ge HI0.out) | refine zE ?_ GE109.out) | exact HB.out)); rintro e w41 ⟨rfl, hi, hb, hk⟩; refine ⟨_, rfl, ?_⟩; have n0_ := zA (KeepBut.blk hk (g' := gb109) (o := .cells #[.int .i64 t106, .int .i64 t107] 202 (0, 0)) (qV BK109.out) NB109_0.out (by simp)); have n1_ := zA (zBq (qJ HK.out) hk (.inl rfl)); have n2_ := zA (hb); have n3_ := zA (hi); clear BK109 HK HB HI0; have BK109 := n0_; have HK := n1_; have HB := n2_; have HI0 := n3_; clear n0_ n1_ n2_ n3_; (try clear hb); (try clear hb2); (try clear hk); (try clear hi); (try simp only [errW_none, errW_some]); obtain ⟨_, _, _, _⟩ := qc2f BK109.out))
        go_ret; exact ⟨qE, by repeat (first | (with_reducible first | exact HI0.out | apply IsS56.alloc | apply IsS56.drewN | apply IsS56.drew | refine IsS56.far ?_ NB0_109.out _) | exact HI0.out), qH HI0.out HB.out, qJ HK.out⟩
      replace c31 := Bool.eq_false_iff.mpr c31; subst c31; have H1 : (some (false, t116, t117, t118, t119)) = some (r1, r2, r3, r4, r5) := by first | (rw [if_neg (show ¬ (false = true) by decide)] at H; exact H) | rfl
      clear H; have H := H1; clear H1; simp only [zNq, zOq] at H; obtain ⟨rfl, rfl, rfl, rfl, rfl⟩ := H; go_enter Try.func46, Try.ntmps46; try go_wp2_with (first | ((with_reducible refine zJq (f := 133) rfl ?_); refine goesL_ (some 6) rfl rfl Try.func133 (by kernel_rfl) rfl #[.pointer (some ⟨g, 0, none⟩)] rfl (by (try simp only [zR, zS, zT]); first | done | rfl | (simp only [zP, zQ]; rfl)) ?_; (with_reducible refine (strict_Reader_goes.calls g s0_0 s0_1 s0_2 s0_3 true s0_0 s0_1 s0_2 s0_3 w0 _ ?side1 ?side2 A2.out).mono ?_); (case side1 => repeat (first | (with_reducible first | exact HI0.out | apply IsS56.alloc | apply IsS56.drewN | apply IsS56.drew) | exact HI0.out)); (case side2 => repeat (first | (with_reducible first | exact HB.out | apply zD | apply zB | apply zC | refine zE ?_ (IsS56.ge HI0.out)) | exact HB.out)); rintro e w43 ⟨rfl, hi, hb, hk⟩; refine ⟨_, rfl, ?_⟩; have n0_ := zA (zBq (qJ HK.out) hk (.inl rfl)); have n1_ := zA (hb); have n2_ := zA (hi); clear HK HB HI0; have HK := n0_; have HB := n1_; have HI0 := n2_; clear n0_ n1_ n2_; (try clear hb); (try clear hb2); (try clear hk); (try clear hi); (try simp only [errW_none, errW_some]); have BKp0 : Aside0 (w43.heap[g]? = some (.cells #[.string s0_0, .int .i64 s0_1, errW s0_2, .bool s0_3] 56 (0, 0))) := ⟨by obtain ⟨hb_, _⟩ := HI0.out; exact hb_⟩))
      have n0_ := zA (zAq BKp0.out); have n1_ := zA (IsS56.drew HI0.out); have n2_ := zA (zM HK.out); have n3_ := zA (zC HB.out); clear BKp0; clear HI0; clear HK; clear HB; have BKp0 := n0_; have HI0 := n1_; have HK := n2_; have HB := n3_; clear n0_ n1_ n2_ n3_; refine start_ (n := 15) (S := fun w' => w'.cell? ⟨g, 0, none⟩ = some (.string s0_0) ∧ w'.cell? ⟨g, 1, none⟩ = some (.int .i64 s0_1) ∧ w'.cell? ⟨g, 2, none⟩ = some (errW s0_2) ∧ w'.cell? ⟨g, 3, none⟩ = some (.bool s0_3)) (ds := []) #[o0, o0, o0, o0, o0, o0, o0, o0, o0, o0, o0, o0, o0, o0, o0] (by kernel_rfl) rfl rfl ⟨(zF BKp0.out 0).trans rfl, (zF BKp0.out 1).trans rfl, (zF BKp0.out 2).trans rfl, (zF BKp0.out 3).trans rfl⟩ (fun hHeld => ?_); refine with_tabW strict_Reader_Flag.tab3 strict_Reader_Flag.bits3 (fun HT_ HW_ => ?_); generalize w43.drew = w44 at BKp0 HI0 HK HB hHeld ⊢; refine pure_ (i := 0) (N := some 9) #[o1, o0, o0, o0, o0, o0, o0, o0, o0, o0, o0, o0, o0, o0, o0] rfl rfl (any_of HT_.out (by kernel_rfl)) (fun _ _ _ h => h) (Or.inl ⟨by rfl, qy⟩) qz ?_; refine pure_ (i := 1) (N := some 10) #[o1, o1, o0, o0, o0, o0, o0, o0, o0, o0, o0, o0, o0, o0, o0] rfl rfl (any_of HT_.out (by kernel_rfl)) (fun _ _ _ h => h) (Or.inl ⟨by rfl, qy⟩) qz ?_; refine pure_ (i := 2) (N := some 11) #[o1, o1, o1, o0, o0, o0, o0, o0, o0, o0, o0, o0, o0, o0, o0] rfl rfl (any_of HT_.out (by kernel_rfl)) (fun _ _ _ h => h) (Or.inl ⟨by rfl, qy⟩) qz ?_; refine pure_ (i := 4) (N := some 13) #[o1, o1, o1, o0, o1, o0, o0, o0, o0, o0, o0, o0, o0, o0, o0] rfl rfl (any_of HT_.out (by kernel_rfl)) (fun _ _ _ h => h) (Or.inl ⟨by rfl, qy⟩) qz ?_; refine pure_ (i := 5) (N := some 14) #[o1, o1, o1, o0, o1, o1, o0, o0, o0, o0, o0, o0, o0, o0, o0] rfl rfl (any_of HT_.out (by kernel_rfl)) (fun _ _ _ h => h) (Or.inl ⟨by rfl, qy⟩) qz ?_; refine pure_ (i := 6) (N := some 15) #[o1, o1, o1, o0, o1, o1, o1, o0, o0, o0, o0, o0, o0, o0, o0] rfl rfl (any_of HT_.out (by kernel_rfl)) (fun _ _ _ h => h) (Or.inl ⟨by rfl, qy⟩) qz ?_; refine take_ (i := 3) (N := some 12) (v := ?_) (a' := ?_) #[o1, o1, o1, o1, o1, o1, o1, o0, o0, o0, o0, o0, o0, o0, o0] rfl rfl (take_ofW HT_.out HW_.out (by kernel_rfl)) (fun _ _ _ h => h) (Or.inl ⟨by rfl, ?_⟩) hHeld ?_ ?_; rotate_left
      · rintro w' ⟨s0, s1, s2, s3⟩
        go_simp; with_reducible rfl
      rotate_left
      · simp only [Act.put, zH, zI, zJ, i64_w, i32_w]
        rfl
      refine take_ (i := 7) (N := some 16) (v := ?_) (a' := ?_) #[o1, o1, o1, o1, o1, o1, o1, o1, o0, o0, o0, o0, o0, o0, o0] rfl rfl (take_ofW HT_.out HW_.out (by kernel_rfl)) (fun _ _ _ h => h) (Or.inl ⟨by rfl, ?_⟩) hHeld ?_ ?_; rotate_left
      · rintro w' ⟨s0, s1, s2, s3⟩
        go_simp; with_reducible rfl
      rotate_left
      · simp only [Act.put, zH, zI, zJ, i64_w, i32_w]
        rfl
      refine join_ (σ := Nat) 2 #[o1, o1, o1, o1, o1, o1, o1, o1, o1, o1, o1, o1, o1, o0, o0] (fun s_ => [(17, .tuple #[.agg #[.int .i64 t106, .int .i64 t107], .int .i64 t108]), (3, .pointer (some ⟨s_, 0, none⟩)), (8, .tuple #[.agg #[.int .i64 t106, .int .i64 t107], .int .i64 t108]), (18, .agg #[.int .i64 t106, .int .i64 t107]), (19, .int .i64 t108)]) (fun s_ w' => (w'.cell? ⟨g, 0, none⟩ = some (.string s0_0) ∧ w'.cell? ⟨g, 1, none⟩ = some (.int .i64 s0_1) ∧ w'.cell? ⟨g, 2, none⟩ = some (errW s0_2) ∧ w'.cell? ⟨g, 3, none⟩ = some (.bool s0_3)) ∧ (w'.heap[s_]? = some (.cells #[.int .i64 0, .int .i64 0] 202 (0, 0))) ∧ (w'.heap[g]? = some (.cells #[.string s0_0, .int .i64 s0_1, errW s0_2, .bool s0_3] 56 (0, 0))) ∧ (w.heap.size ≤ s_) ∧ (w0.heap.size ≤ s_) ∧ (g ≠ s_) ∧ (s_ ≠ g) ∧ (IsS56 w0 w' g s0_0 s0_1 s0_2 s0_3) ∧ (KeepBut w w' g none) ∧ (Below w0.heap.size w0 w')) ?_ ?_; rotate_left
      · intro hCont
        refine two_ (i := 8) (j := 12) (Ni := some 17) (Nj := some 3) #[o1, o1, o1, o1, o1, o1, o1, o1, o1, o0, o0, o0, o0, o0, o0] #[o1, o1, o1, o1, o1, o1, o1, o1, o0, o0, o0, o0, o1, o0, o0] rfl rfl rfl rfl (two_of HT_.out (by kernel_rfl)) (by decide) (by decide) (fun K hK => ?_) (fun K hK => ?_)
        · skip
          refine goes_ Try.func134 (by kernel_rfl) rfl #[.string s0_0, .int .i64 s0_1, .int .i64 1] (by rfl) rfl rfl (by (try simp only [zR, zS, zT]); first | done | rfl | (simp only [zP, zQ]; rfl)) ?_; with_reducible refine (octet_Get.calls k s0_0 s0_1 1 t106 t107 t108 _ A4.out).mono ?_
          rintro e w45 ⟨rfl, hb⟩; refine ⟨_, rfl, ?_⟩; have n0_ := zA (IsS56.below (by repeat (first | (with_reducible first | exact HI0.out | apply IsS56.alloc | apply IsS56.drewN | apply IsS56.drew | refine IsS56.far ?_ NB0_0.out _) | exact HI0.out)) hb); have n1_ := zA (qX BKp0.out hb); have n2_ := zA (zBq (qJ HK.out) (KeepBut.of_below hb g none) (.inl rfl)); have n3_ := zA (zV (qH HI0.out HB.out) hb); clear HI0; clear BKp0; clear HK; clear HB; have HI0 := n0_; have BKp0 := n1_; have HK := n2_; have HB := n3_; clear n0_ n1_ n2_ n3_; (try clear hb); (try clear hb2); (try clear hk); (try clear hi); refine hK.out _ _ ⟨(zF BKp0.out 0).trans rfl, (zF BKp0.out 1).trans rfl, (zF BKp0.out 2).trans rfl, (zF BKp0.out 3).trans rfl⟩ (fun hHeld => ?_); clear hK K; refine norm_ (a' := ?_) ?_ ?_; rotate_left
          · show Act.put _ (some 17) _ = _
            simp only [Act.put, zH, zI, zJ, i64_w, i32_w]; rfl
          refine pure_ (i := 9) (N := some 8) #[o1, o1, o1, o1, o1, o1, o1, o1, o1, o1, o0, o0, o0, o0, o0] rfl rfl (any_of HT_.out (by kernel_rfl)) (fun _ _ _ h => h) (Or.inl ⟨by rfl, qy⟩) qz ?_; refine pure_ (i := 10) (N := some 18) #[o1, o1, o1, o1, o1, o1, o1, o1, o1, o1, o1, o0, o0, o0, o0] rfl rfl (any_of HT_.out (by kernel_rfl)) (fun _ _ _ h => h) (Or.inl ⟨by rfl, qy⟩) qz ?_; refine pure_ (i := 11) (N := some 19) #[o1, o1, o1, o1, o1, o1, o1, o1, o1, o1, o1, o1, o0, o0, o0] rfl rfl (any_of HT_.out (by kernel_rfl)) (fun _ _ _ h => h) (Or.inl ⟨by rfl, qy⟩) qz ?_; refine one_ (i := 12) (N := some 3) #[o1, o1, o1, o1, o1, o1, o1, o1, o1, o1, o1, o1, o1, o0, o0] rfl rfl (one_of HT_.out (by kernel_rfl)) (by decide) (fun K hK => ?_); refine box_step ?hg (N := 3) ?hd (cs := #[.int .i64 0, .int .i64 0]) (t := 202) ?hr ?_; (case hd => rfl); (case hg => rfl); (case hr => first | (go_simp; done) | (go_simp; rfl)); intro gb109 hg w46 hbox hb; have n0_ := zA (IsS56.below (by repeat (first | (with_reducible first | exact HI0.out | apply IsS56.alloc | apply IsS56.drewN | apply IsS56.drew | refine IsS56.far ?_ NB0_0.out _) | exact HI0.out)) hb); have n1_ := zA (qX BKp0.out hb); have n2_ := zA (zBq (qJ HK.out) (KeepBut.of_below hb g none) (.inl rfl)); have n3_ := zA (zV (qH HI0.out HB.out) hb); have n4_ := zA (hbox); have n5_ := zA ((by rw [hg]; exact (keep_size (w := w) (g := g) (row := none) (qJ HK.out)) : w.heap.size ≤ gb109)); have n6_ := zA ((Nat.le_trans HW0.out (by rw [hg]; exact (keep_size (w := w) (g := g) (row := none) (qJ HK.out)) : w.heap.size ≤ gb109) : w0.heap.size ≤ gb109)); have n7_ := zA ((by rw [hg]; exact zLq (qL BKp0.out) : g ≠ gb109)); have n8_ := zA ((by rw [hg]; exact zMq (qL BKp0.out) : gb109 ≠ g)); have n9_ := zA ((by rw [hg]; exact zLq (IsS56.lt (show IsS56 w0 _ g s0_0 s0_1 s0_2 s0_3 from by repeat (first | (with_reducible first | exact HI0.out | apply IsS56.alloc | apply IsS56.drewN | apply IsS56.drew | refine IsS56.far ?_ NB0_0.out _) | exact HI0.out))) : g ≠ gb109)); have n10_ := zA ((by rw [hg]; exact zMq (IsS56.lt (show IsS56 w0 _ g s0_0 s0_1 s0_2 s0_3 from by repeat (first | (with_reducible first | exact HI0.out | apply IsS56.alloc | apply IsS56.drewN | apply IsS56.drew | refine IsS56.far ?_ NB0_0.out _) | exact HI0.out))) : gb109 ≠ g)); clear HI0; clear BKp0; clear HK; clear HB; have HI0 := n0_; have BKp0 := n1_; have HK := n2_; have HB := n3_; have BK109 := n4_; have GW109 := n5_; have GE109 := n6_; have NB0_109 := n7_; have NB109_0 := n8_; have NB0_109 := n9_; have NB109_0 := n10_; clear n0_ n1_ n2_ n3_ n4_ n5_ n6_ n7_ n8_ n9_ n10_; clear hb hbox hg; refine hK.out _ _ ⟨(zF BKp0.out 0).trans rfl, (zF BKp0.out 1).trans rfl, (zF BKp0.out 2).trans rfl, (zF BKp0.out 3).trans rfl⟩ (fun hHeld => ?_)
          clear hK K; refine norm_ (a' := ?_) ?_ ?_; rotate_left
          · show Act.put _ (some 3) _ = _
            simp only [Act.put, zH, zI, zJ, i64_w, i32_w]; rfl
          exact norm_ (by simp only [putAll, Act.put, zH, zI, zJ]) (hCont (gb109) _ ⟨hHeld, (qW BK109.out), (qW BKp0.out), GW109.out, GE109.out, NB0_109.out, NB109_0.out, (by repeat (first | (with_reducible first | exact HI0.out | apply IsS56.alloc | apply IsS56.drewN | apply IsS56.drew | refine IsS56.far ?_ NB0_0.out _ | refine IsS56.far ?_ NB0_109.out _) | exact HI0.out)), (qJ HK.out), (qH HI0.out HB.out)⟩)
        skip; refine box_step ?hg (N := 3) ?hd (cs := #[.int .i64 0, .int .i64 0]) (t := 202) ?hr ?_; (case hd => rfl); (case hg => rfl); (case hr => first | (go_simp; done) | (go_simp; rfl)); intro gb109 hg w45 hbox hb; have n0_ := zA (IsS56.below (by repeat (first | (with_reducible first | exact HI0.out | apply IsS56.alloc | apply IsS56.drewN | apply IsS56.drew | refine IsS56.far ?_ NB0_0.out _) | exact HI0.out)) hb); have n1_ := zA (qX BKp0.out hb); have n2_ := zA (zBq (qJ HK.out) (KeepBut.of_below hb g none) (.inl rfl)); have n3_ := zA (zV (qH HI0.out HB.out) hb); have n4_ := zA (hbox); have n5_ := zA ((by rw [hg]; exact (keep_size (w := w) (g := g) (row := none) (qJ HK.out)) : w.heap.size ≤ gb109)); have n6_ := zA ((Nat.le_trans HW0.out (by rw [hg]; exact (keep_size (w := w) (g := g) (row := none) (qJ HK.out)) : w.heap.size ≤ gb109) : w0.heap.size ≤ gb109)); have n7_ := zA ((by rw [hg]; exact zLq (qL BKp0.out) : g ≠ gb109)); have n8_ := zA ((by rw [hg]; exact zMq (qL BKp0.out) : gb109 ≠ g)); have n9_ := zA ((by rw [hg]; exact zLq (IsS56.lt (show IsS56 w0 _ g s0_0 s0_1 s0_2 s0_3 from by repeat (first | (with_reducible first | exact HI0.out | apply IsS56.alloc | apply IsS56.drewN | apply IsS56.drew | refine IsS56.far ?_ NB0_0.out _) | exact HI0.out))) : g ≠ gb109)); have n10_ := zA ((by rw [hg]; exact zMq (IsS56.lt (show IsS56 w0 _ g s0_0 s0_1 s0_2 s0_3 from by repeat (first | (with_reducible first | exact HI0.out | apply IsS56.alloc | apply IsS56.drewN | apply IsS56.drew | refine IsS56.far ?_ NB0_0.out _) | exact HI0.out))) : gb109 ≠ g)); clear HI0; clear BKp0; clear HK; clear HB; have HI0 := n0_; have BKp0 := n1_; have HK := n2_; have HB := n3_; have BK109 := n4_; have GW109 := n5_; have GE109 := n6_; have NB0_109 := n7_; have NB109_0 := n8_; have NB0_109 := n9_; have NB109_0 := n10_; clear n0_ n1_ n2_ n3_ n4_ n5_ n6_ n7_ n8_ n9_ n10_; clear hb hbox hg; refine hK.out _ _ ⟨(zF BKp0.out 0).trans rfl, (zF BKp0.out 1).trans rfl, (zF BKp0.out 2).trans rfl, (zF BKp0.out 3).trans rfl⟩ (fun hHeld => ?_); clear hK K; refine norm_ (a' := ?_) ?_ ?_; rotate_left
        · show Act.put _ (some 3) _ = _
          simp only [Act.put, zH, zI, zJ, i64_w, i32_w]; rfl
        refine one_ (i := 8) (N := some 17) #[o1, o1, o1, o1, o1, o1, o1, o1, o1, o0, o0, o0, o1, o0, o0] rfl rfl (one_of HT_.out (by kernel_rfl)) (by decide) (fun K hK => ?_); refine goes_ Try.func134 (by kernel_rfl) rfl #[.string s0_0, .int .i64 s0_1, .int .i64 1] (by rfl) rfl rfl (by (try simp only [zR, zS, zT]); first | done | rfl | (simp only [zP, zQ]; rfl)) ?_; with_reducible refine (octet_Get.calls k s0_0 s0_1 1 t106 t107 t108 _ A4.out).mono ?_
        rintro e w46 ⟨rfl, hb⟩; refine ⟨_, rfl, ?_⟩; have n0_ := zA (IsS56.below (by repeat (first | (with_reducible first | exact HI0.out | apply IsS56.alloc | apply IsS56.drewN | apply IsS56.drew | refine IsS56.far ?_ NB0_0.out _ | refine IsS56.far ?_ NB0_109.out _) | exact HI0.out)) hb); have n1_ := zA (qX BKp0.out hb); have n2_ := zA (qX BK109.out hb); have n3_ := zA (zBq (qJ HK.out) (KeepBut.of_below hb g none) (.inl rfl)); have n4_ := zA (zV (qH HI0.out HB.out) hb); clear HI0; clear BKp0; clear BK109; clear HK; clear HB; have HI0 := n0_; have BKp0 := n1_; have BK109 := n2_; have HK := n3_; have HB := n4_; clear n0_ n1_ n2_ n3_ n4_; (try clear hb); (try clear hb2); (try clear hk); (try clear hi); refine hK.out _ _ ⟨(zF BKp0.out 0).trans rfl, (zF BKp0.out 1).trans rfl, (zF BKp0.out 2).trans rfl, (zF BKp0.out 3).trans rfl⟩ (fun hHeld => ?_); clear hK K; refine norm_ (a' := ?_) ?_ ?_; rotate_left
        · show Act.put _ (some 17) _ = _
          simp only [Act.put, zH, zI, zJ, i64_w, i32_w]; rfl
        refine pure_ (i := 9) (N := some 8) #[o1, o1, o1, o1, o1, o1, o1, o1, o1, o1, o0, o0, o1, o0, o0] rfl rfl (any_of HT_.out (by kernel_rfl)) (fun _ _ _ h => h) (Or.inl ⟨by rfl, qy⟩) qz ?_; refine pure_ (i := 10) (N := some 18) #[o1, o1, o1, o1, o1, o1, o1, o1, o1, o1, o1, o0, o1, o0, o0] rfl rfl (any_of HT_.out (by kernel_rfl)) (fun _ _ _ h => h) (Or.inl ⟨by rfl, qy⟩) qz ?_; refine pure_ (i := 11) (N := some 19) #[o1, o1, o1, o1, o1, o1, o1, o1, o1, o1, o1, o1, o1, o0, o0] rfl rfl (any_of HT_.out (by kernel_rfl)) (fun _ _ _ h => h) (Or.inl ⟨by rfl, qy⟩) qz ?_; exact norm_ (by simp only [putAll, Act.put, zH, zI, zJ]) (hCont (gb109) _ ⟨hHeld, (qW BK109.out), (qW BKp0.out), GW109.out, GE109.out, NB0_109.out, NB109_0.out, (by repeat (first | (with_reducible first | exact HI0.out | apply IsS56.alloc | apply IsS56.drewN | apply IsS56.drew | refine IsS56.far ?_ NB0_0.out _ | refine IsS56.far ?_ NB0_109.out _) | exact HI0.out)), (qJ HK.out), (qH HI0.out HB.out)⟩)
      rintro gb109 w47 ⟨hS_, h0_, h1_, h2_, h3_, h4_, h5_, h6_, h7_, h8_⟩; have n0_ : Aside0 (w47.heap[gb109]? = some (.cells #[.int .i64 0, .int .i64 0] 202 (0, 0))) := ⟨h0_⟩
      have n1_ : Aside0 (w47.heap[g]? = some (.cells #[.string s0_0, .int .i64 s0_1, errW s0_2, .bool s0_3] 56 (0, 0))) := ⟨h1_⟩
      have n2_ : Aside0 (w.heap.size ≤ gb109) := ⟨h2_⟩
      have n3_ : Aside0 (w0.heap.size ≤ gb109) := ⟨h3_⟩
      have n4_ : Aside0 (g ≠ gb109) := ⟨h4_⟩
      have n5_ : Aside0 (gb109 ≠ g) := ⟨h5_⟩
      have n6_ : Aside0 (IsS56 w0 w47 g s0_0 s0_1 s0_2 s0_3) := ⟨h6_⟩
      have n7_ : Aside0 (KeepBut w w47 g none) := ⟨h7_⟩
      have n8_ : Aside0 (Below w0.heap.size w0 w47) := ⟨h8_⟩
      clear BKp0; clear HI0; clear HK; clear HB; clear h0_ h1_ h2_ h3_ h4_ h5_ h6_ h7_ h8_; have BK109 := n0_; have BKp0 := n1_; have GW109 := n2_; have GE109 := n3_; have NB0_109 := n4_; have NB109_0 := n5_; have HI0 := n6_; have HK := n7_; have HB := n8_; clear n0_ n1_ n2_ n3_ n4_ n5_ n6_ n7_ n8_; have hHeld : w47.cell? ⟨g, 0, none⟩ = some (.string s0_0) ∧ w47.cell? ⟨g, 1, none⟩ = some (.int .i64 s0_1) ∧ w47.cell? ⟨g, 2, none⟩ = some (errW s0_2) ∧ w47.cell? ⟨g, 3, none⟩ = some (.bool s0_3) := hS_; refine norm_ (a' := ?_) ?_ ?_; rotate_left
      · simp only [putAll, Act.put, zH, zI, zJ]
        rfl
      refine one_ (i := 13) (N := none) #[o1, o1, o1, o1, o1, o1, o1, o1, o1, o1, o1, o1, o1, o1, o0] rfl rfl (one_of HT_.out (by kernel_rfl)) (by decide) (fun K hK => ?_); have hs48 : w47.cell? ⟨gb109, 0, none⟩ = some (.int .i64 0) := (zF BK109.out 0).trans rfl; have hfs48 := zG BK109.out 0; have hns48_0 := NB0_109.out; have hms48_0 := NB109_0.out; have hs49 : w47.cell? ⟨gb109, 1, none⟩ = some (.int .i64 0) := (zF BK109.out 1).trans rfl; have hfs49 := zG BK109.out 1; have hns49_0 := NB0_109.out; have hms49_0 := NB109_0.out; refine skip_ (w1 := ?_) (by rfl) rfl ?_ ?_; rotate_left
      · go_simp
        rfl
      refine hK.out _ _ ⟨((cell_far (p := ⟨gb109, _, none⟩) NB0_109.out _).trans (((cell_far (p := ⟨gb109, _, none⟩) NB0_109.out _).trans (hHeld.1)))), ((cell_far (p := ⟨gb109, _, none⟩) NB0_109.out _).trans (((cell_far (p := ⟨gb109, _, none⟩) NB0_109.out _).trans (hHeld.2.1)))), ((cell_far (p := ⟨gb109, _, none⟩) NB0_109.out _).trans (((cell_far (p := ⟨gb109, _, none⟩) NB0_109.out _).trans (hHeld.2.2.1)))), ((cell_far (p := ⟨gb109, _, none⟩) NB0_109.out _).trans (((cell_far (p := ⟨gb109, _, none⟩) NB0_109.out _).trans (hHeld.2.2.2))))⟩ (fun hHeld => ?_); clear hK K; refine pure_ (i := 14) (N := some 4) #[o1, o1, o1, o1, o1, o1, o1, o1, o1, o1, o1, o1, o1, o1, o1] rfl rfl (any_of HT_.out (by kernel_rfl)) (fun _ _ _ h => h) (Or.inl ⟨by rfl, qy⟩) qz ?_; refine done_ (done_of HT_.out (by kernel_rfl)) ?_; clear BKp0; have hnb50 := NB109_0.out; have hnc50 := NB0_109.out; obtain ⟨_, _, _, _⟩ := qc2f BK109.out; try go_wp2_with (first | ((with_reducible refine zJq (f := 135) rfl ?_); refine goesL_ (some 31) rfl rfl Try.func135 (by kernel_rfl) rfl #[.pointer (some ⟨g, 0, none⟩), .int .i64 t107, .int .i64 t108] rfl (by (try simp only [zR, zS, zT]); first | done | rfl | (simp only [zP, zQ]; rfl)) ?_; (with_reducible refine (strict_Reader_done.calls g s0_0 s0_1 s0_2 s0_3 t107 t108 false t116 t117 t118 t119 w0 _ ?side1 ?side2 A30.out).mono ?_); (case side1 => repeat (first | (with_reducible first | exact HI0.out | apply IsS56.alloc | apply IsS56.drewN | apply IsS56.drew | refine IsS56.far ?_ NB0_109.out _) | exact HI0.out)); (case side2 => repeat (first | (with_reducible first | exact HB.out | apply zD | apply zB | apply zC | refine zE ?_ (IsS56.ge HI0.out) | refine zE ?_ GE109.out) | exact HB.out)); rintro e w52 ⟨rfl, hi, hb, hk⟩; refine ⟨_, rfl, ?_⟩; have n0_ := zA (KeepBut.blk hk (g' := gb109) (o := .cells #[.int .i64 t106, .int .i64 t107] 202 (0, 0)) (qV BK109.out) NB109_0.out (by simp)); have n1_ := zA (zBq (qJ HK.out) hk (.inl rfl)); have n2_ := zA (hb); have n3_ := zA (hi); clear BK109 HK HB HI0; have BK109 := n0_; have HK := n1_; have HB := n2_; have HI0 := n3_; clear n0_ n1_ n2_ n3_; (try clear hb); (try clear hb2); (try clear hk); (try clear hi); (try simp only [errW_none, errW_some])))
      go_ret; exact ⟨qE, by repeat (first | (with_reducible first | exact HI0.out | apply IsS56.alloc | apply IsS56.drewN | apply IsS56.drew | refine IsS56.far ?_ NB0_109.out _) | exact HI0.out), qH HI0.out HB.out, qJ HK.out⟩
    rw [if_neg c5] at H; have c5b0 : (t108 == 0) = false := beq_eq_false_iff_ne.mpr c5; have c5b1 : (t108 != 0) = true := bne_iff_ne.mpr c5; replace H := Option.bind_eq_some_iff.mp H; obtain ⟨⟨t120, t121, t122, t123, t124⟩, A530, H⟩ := H; replace H : (if t120 = true then (some ((t106 == 1), t121, t122, t123, t124)) else (some (false, t121, t122, t123, t124))) = some (r1, r2, r3, r4, r5) := H; have A53 := zA A530; clear A530; by_cases c54 : t120 = true
    · subst c54
      have H1 : (some ((t106 == 1), t121, t122, t123, t124)) = some (r1, r2, r3, r4, r5) := by first | (rw [if_pos rfl] at H; exact H) | rfl
      clear H; have H := H1; clear H1; simp only [zNq, zOq] at H; obtain ⟨rfl, rfl, rfl, rfl, rfl⟩ := H; go_enter Try.func46, Try.ntmps46; try go_wp2_with (first | ((with_reducible refine zJq (f := 133) rfl ?_); refine goesL_ (some 6) rfl rfl Try.func133 (by kernel_rfl) rfl #[.pointer (some ⟨g, 0, none⟩)] rfl (by (try simp only [zR, zS, zT]); first | done | rfl | (simp only [zP, zQ]; rfl)) ?_; (with_reducible refine (strict_Reader_goes.calls g s0_0 s0_1 s0_2 s0_3 true s0_0 s0_1 s0_2 s0_3 w0 _ ?side1 ?side2 A2.out).mono ?_); (case side1 => repeat (first | (with_reducible first | exact HI0.out | apply IsS56.alloc | apply IsS56.drewN | apply IsS56.drew) | exact HI0.out)); (case side2 => repeat (first | (with_reducible first | exact HB.out | apply zD | apply zB | apply zC | refine zE ?_ (IsS56.ge HI0.out)) | exact HB.out)); rintro e w55 ⟨rfl, hi, hb, hk⟩; refine ⟨_, rfl, ?_⟩; have n0_ := zA (zBq (qJ HK.out) hk (.inl rfl)); have n1_ := zA (hb); have n2_ := zA (hi); clear HK HB HI0; have HK := n0_; have HB := n1_; have HI0 := n2_; clear n0_ n1_ n2_; (try clear hb); (try clear hb2); (try clear hk); (try clear hi); (try simp only [errW_none, errW_some]); have BKp0 : Aside0 (w55.heap[g]? = some (.cells #[.string s0_0, .int .i64 s0_1, errW s0_2, .bool s0_3] 56 (0, 0))) := ⟨by obtain ⟨hb_, _⟩ := HI0.out; exact hb_⟩))
      have n0_ := zA (zAq BKp0.out); have n1_ := zA (IsS56.drew HI0.out); have n2_ := zA (zM HK.out); have n3_ := zA (zC HB.out); clear BKp0; clear HI0; clear HK; clear HB; have BKp0 := n0_; have HI0 := n1_; have HK := n2_; have HB := n3_; clear n0_ n1_ n2_ n3_; refine start_ (n := 15) (S := fun w' => w'.cell? ⟨g, 0, none⟩ = some (.string s0_0) ∧ w'.cell? ⟨g, 1, none⟩ = some (.int .i64 s0_1) ∧ w'.cell? ⟨g, 2, none⟩ = some (errW s0_2) ∧ w'.cell? ⟨g, 3, none⟩ = some (.bool s0_3)) (ds := []) #[o0, o0, o0, o0, o0, o0, o0, o0, o0, o0, o0, o0, o0, o0, o0] (by kernel_rfl) rfl rfl ⟨(zF BKp0.out 0).trans rfl, (zF BKp0.out 1).trans rfl, (zF BKp0.out 2).trans rfl, (zF BKp0.out 3).trans rfl⟩ (fun hHeld => ?_); refine with_tabW strict_Reader_Flag.tab3 strict_Reader_Flag.bits3 (fun HT_ HW_ => ?_); generalize w55.drew = w56 at BKp0 HI0 HK HB hHeld ⊢; refine pure_ (i := 0) (N := some 9) #[o1, o0, o0, o0, o0, o0, o0, o0, o0, o0, o0, o0, o0, o0, o0] rfl rfl (any_of HT_.out (by kernel_rfl)) (fun _ _ _ h => h) (Or.inl ⟨by rfl, qy⟩) qz ?_; refine pure_ (i := 1) (N := some 10) #[o1, o1, o0, o0, o0, o0, o0, o0, o0, o0, o0, o0, o0, o0, o0] rfl rfl (any_of HT_.out (by kernel_rfl)) (fun _ _ _ h => h) (Or.inl ⟨by rfl, qy⟩) qz ?_; refine pure_ (i := 2) (N := some 11) #[o1, o1, o1, o0, o0, o0, o0, o0, o0, o0, o0, o0, o0, o0, o0] rfl rfl (any_of HT_.out (by kernel_rfl)) (fun _ _ _ h => h) (Or.inl ⟨by rfl, qy⟩) qz ?_; refine pure_ (i := 4) (N := some 13) #[o1, o1, o1, o0, o1, o0, o0, o0, o0, o0, o0, o0, o0, o0, o0] rfl rfl (any_of HT_.out (by kernel_rfl)) (fun _ _ _ h => h) (Or.inl ⟨by rfl, qy⟩) qz ?_; refine pure_ (i := 5) (N := some 14) #[o1, o1, o1, o0, o1, o1, o0, o0, o0, o0, o0, o0, o0, o0, o0] rfl rfl (any_of HT_.out (by kernel_rfl)) (fun _ _ _ h => h) (Or.inl ⟨by rfl, qy⟩) qz ?_; refine pure_ (i := 6) (N := some 15) #[o1, o1, o1, o0, o1, o1, o1, o0, o0, o0, o0, o0, o0, o0, o0] rfl rfl (any_of HT_.out (by kernel_rfl)) (fun _ _ _ h => h) (Or.inl ⟨by rfl, qy⟩) qz ?_; refine take_ (i := 3) (N := some 12) (v := ?_) (a' := ?_) #[o1, o1, o1, o1, o1, o1, o1, o0, o0, o0, o0, o0, o0, o0, o0] rfl rfl (take_ofW HT_.out HW_.out (by kernel_rfl)) (fun _ _ _ h => h) (Or.inl ⟨by rfl, ?_⟩) hHeld ?_ ?_; rotate_left
      · rintro w' ⟨s0, s1, s2, s3⟩
        go_simp; with_reducible rfl
      rotate_left
      · simp only [Act.put, zH, zI, zJ, i64_w, i32_w]
        rfl
      refine take_ (i := 7) (N := some 16) (v := ?_) (a' := ?_) #[o1, o1, o1, o1, o1, o1, o1, o1, o0, o0, o0, o0, o0, o0, o0] rfl rfl (take_ofW HT_.out HW_.out (by kernel_rfl)) (fun _ _ _ h => h) (Or.inl ⟨by rfl, ?_⟩) hHeld ?_ ?_; rotate_left
      · rintro w' ⟨s0, s1, s2, s3⟩
        go_simp; with_reducible rfl
      rotate_left
      · simp only [Act.put, zH, zI, zJ, i64_w, i32_w]
        rfl
      refine join_ (σ := Nat) 2 #[o1, o1, o1, o1, o1, o1, o1, o1, o1, o1, o1, o1, o1, o0, o0] (fun s_ => [(17, .tuple #[.agg #[.int .i64 t106, .int .i64 t107], .int .i64 t108]), (3, .pointer (some ⟨s_, 0, none⟩)), (8, .tuple #[.agg #[.int .i64 t106, .int .i64 t107], .int .i64 t108]), (18, .agg #[.int .i64 t106, .int .i64 t107]), (19, .int .i64 t108)]) (fun s_ w' => (w'.cell? ⟨g, 0, none⟩ = some (.string s0_0) ∧ w'.cell? ⟨g, 1, none⟩ = some (.int .i64 s0_1) ∧ w'.cell? ⟨g, 2, none⟩ = some (errW s0_2) ∧ w'.cell? ⟨g, 3, none⟩ = some (.bool s0_3)) ∧ (w'.heap[s_]? = some (.cells #[.int .i64 0, .int .i64 0] 202 (0, 0))) ∧ (w'.heap[g]? = some (.cells #[.string s0_0, .int .i64 s0_1, errW s0_2, .bool s0_3] 56 (0, 0))) ∧ (w.heap.size ≤ s_) ∧ (w0.heap.size ≤ s_) ∧ (g ≠ s_) ∧ (s_ ≠ g) ∧ (IsS56 w0 w' g s0_0 s0_1 s0_2 s0_3) ∧ (KeepBut w w' g none) ∧ (Below w0.heap.size w0 w')) ?_ ?_; rotate_left
      · intro hCont
        refine two_ (i := 8) (j := 12) (Ni := some 17) (Nj := some 3) #[o1, o1, o1, o1, o1, o1, o1, o1, o1, o0, o0, o0, o0, o0, o0] #[o1, o1, o1, o1, o1, o1, o1, o1, o0, o0, o0, o0, o1, o0, o0] rfl rfl rfl rfl (two_of HT_.out (by kernel_rfl)) (by decide) (by decide) (fun K hK => ?_) (fun K hK => ?_)
        · skip
          refine goes_ Try.func134 (by kernel_rfl) rfl #[.string s0_0, .int .i64 s0_1, .int .i64 1] (by rfl) rfl rfl (by (try simp only [zR, zS, zT]); first | done | rfl | (simp only [zP, zQ]; rfl)) ?_; with_reducible refine (octet_Get.calls k s0_0 s0_1 1 t106 t107 t108 _ A4.out).mono ?_
          rintro e w57 ⟨rfl, hb⟩; refine ⟨_, rfl, ?_⟩; have n0_ := zA (IsS56.below (by repeat (first | (with_reducible first | exact HI0.out | apply IsS56.alloc | apply IsS56.drewN | apply IsS56.drew | refine IsS56.far ?_ NB0_0.out _) | exact HI0.out)) hb); have n1_ := zA (qX BKp0.out hb); have n2_ := zA (zBq (qJ HK.out) (KeepBut.of_below hb g none) (.inl rfl)); have n3_ := zA (zV (qH HI0.out HB.out) hb); clear HI0; clear BKp0; clear HK; clear HB; have HI0 := n0_; have BKp0 := n1_; have HK := n2_; have HB := n3_; clear n0_ n1_ n2_ n3_; (try clear hb); (try clear hb2); (try clear hk); (try clear hi); refine hK.out _ _ ⟨(zF BKp0.out 0).trans rfl, (zF BKp0.out 1).trans rfl, (zF BKp0.out 2).trans rfl, (zF BKp0.out 3).trans rfl⟩ (fun hHeld => ?_); clear hK K; refine norm_ (a' := ?_) ?_ ?_; rotate_left
          · show Act.put _ (some 17) _ = _
            simp only [Act.put, zH, zI, zJ, i64_w, i32_w]; rfl
          refine pure_ (i := 9) (N := some 8) #[o1, o1, o1, o1, o1, o1, o1, o1, o1, o1, o0, o0, o0, o0, o0] rfl rfl (any_of HT_.out (by kernel_rfl)) (fun _ _ _ h => h) (Or.inl ⟨by rfl, qy⟩) qz ?_; refine pure_ (i := 10) (N := some 18) #[o1, o1, o1, o1, o1, o1, o1, o1, o1, o1, o1, o0, o0, o0, o0] rfl rfl (any_of HT_.out (by kernel_rfl)) (fun _ _ _ h => h) (Or.inl ⟨by rfl, qy⟩) qz ?_; refine pure_ (i := 11) (N := some 19) #[o1, o1, o1, o1, o1, o1, o1, o1, o1, o1, o1, o1, o0, o0, o0] rfl rfl (any_of HT_.out (by kernel_rfl)) (fun _ _ _ h => h) (Or.inl ⟨by rfl, qy⟩) qz ?_; refine one_ (i := 12) (N := some 3) #[o1, o1, o1, o1, o1, o1, o1, o1, o1, o1, o1, o1, o1, o0, o0] rfl rfl (one_of HT_.out (by kernel_rfl)) (by decide) (fun K hK => ?_); refine box_step ?hg (N := 3) ?hd (cs := #[.int .i64 0, .int .i64 0]) (t := 202) ?hr ?_; (case hd => rfl); (case hg => rfl); (case hr => first | (go_simp; done) | (go_simp; rfl)); intro gb109 hg w58 hbox hb; have n0_ := zA (IsS56.below (by repeat (first | (with_reducible first | exact HI0.out | apply IsS56.alloc | apply IsS56.drewN | apply IsS56.drew | refine IsS56.far ?_ NB0_0.out _) | exact HI0.out)) hb); have n1_ := zA (qX BKp0.out hb); have n2_ := zA (zBq (qJ HK.out) (KeepBut.of_below hb g none) (.inl rfl)); have n3_ := zA (zV (qH HI0.out HB.out) hb); have n4_ := zA (hbox); have n5_ := zA ((by rw [hg]; exact (keep_size (w := w) (g := g) (row := none) (qJ HK.out)) : w.heap.size ≤ gb109)); have n6_ := zA ((Nat.le_trans HW0.out (by rw [hg]; exact (keep_size (w := w) (g := g) (row := none) (qJ HK.out)) : w.heap.size ≤ gb109) : w0.heap.size ≤ gb109)); have n7_ := zA ((by rw [hg]; exact zLq (qL BKp0.out) : g ≠ gb109)); have n8_ := zA ((by rw [hg]; exact zMq (qL BKp0.out) : gb109 ≠ g)); have n9_ := zA ((by rw [hg]; exact zLq (IsS56.lt (show IsS56 w0 _ g s0_0 s0_1 s0_2 s0_3 from by repeat (first | (with_reducible first | exact HI0.out | apply IsS56.alloc | apply IsS56.drewN | apply IsS56.drew | refine IsS56.far ?_ NB0_0.out _) | exact HI0.out))) : g ≠ gb109)); have n10_ := zA ((by rw [hg]; exact zMq (IsS56.lt (show IsS56 w0 _ g s0_0 s0_1 s0_2 s0_3 from by repeat (first | (with_reducible first | exact HI0.out | apply IsS56.alloc | apply IsS56.drewN | apply IsS56.drew | refine IsS56.far ?_ NB0_0.out _) | exact HI0.out))) : gb109 ≠ g)); clear HI0; clear BKp0; clear HK; clear HB; have HI0 := n0_; have BKp0 := n1_; have HK := n2_; have HB := n3_; have BK109 := n4_; have GW109 := n5_; have GE109 := n6_; have NB0_109 := n7_; have NB109_0 := n8_; have NB0_109 := n9_; have NB109_0 := n10_; clear n0_ n1_ n2_ n3_ n4_ n5_ n6_ n7_ n8_ n9_ n10_; clear hb hbox hg; refine hK.out _ _ ⟨(zF BKp0.out 0).trans rfl, (zF BKp0.out 1).trans rfl, (zF BKp0.out 2).trans rfl, (zF BKp0.out 3).trans rfl⟩ (fun hHeld => ?_)
          clear hK K; refine norm_ (a' := ?_) ?_ ?_; rotate_left
          · show Act.put _ (some 3) _ = _
            simp only [Act.put, zH, zI, zJ, i64_w, i32_w]; rfl
          exact norm_ (by simp only [putAll, Act.put, zH, zI, zJ]) (hCont (gb109) _ ⟨hHeld, (qW BK109.out), (qW BKp0.out), GW109.out, GE109.out, NB0_109.out, NB109_0.out, (by repeat (first | (with_reducible first | exact HI0.out | apply IsS56.alloc | apply IsS56.drewN | apply IsS56.drew | refine IsS56.far ?_ NB0_0.out _ | refine IsS56.far ?_ NB0_109.out _) | exact HI0.out)), (qJ HK.out), (qH HI0.out HB.out)⟩)
        skip; refine box_step ?hg (N := 3) ?hd (cs := #[.int .i64 0, .int .i64 0]) (t := 202) ?hr ?_; (case hd => rfl); (case hg => rfl); (case hr => first | (go_simp; done) | (go_simp; rfl)); intro gb109 hg w57 hbox hb; have n0_ := zA (IsS56.below (by repeat (first | (with_reducible first | exact HI0.out | apply IsS56.alloc | apply IsS56.drewN | apply IsS56.drew | refine IsS56.far ?_ NB0_0.out _) | exact HI0.out)) hb); have n1_ := zA (qX BKp0.out hb); have n2_ := zA (zBq (qJ HK.out) (KeepBut.of_below hb g none) (.inl rfl)); have n3_ := zA (zV (qH HI0.out HB.out) hb); have n4_ := zA (hbox); have n5_ := zA ((by rw [hg]; exact (keep_size (w := w) (g := g) (row := none) (qJ HK.out)) : w.heap.size ≤ gb109)); have n6_ := zA ((Nat.le_trans HW0.out (by rw [hg]; exact (keep_size (w := w) (g := g) (row := none) (qJ HK.out)) : w.heap.size ≤ gb109) : w0.heap.size ≤ gb109)); have n7_ := zA ((by rw [hg]; exact zLq (qL BKp0.out) : g ≠ gb109)); have n8_ := zA ((by rw [hg]; exact zMq (qL BKp0.out) : gb109 ≠ g)); have n9_ := zA ((by rw [hg]; exact zLq (IsS56.lt (show IsS56 w0 _ g s0_0 s0_1 s0_2 s0_3 from by repeat (first | (with_reducible first | exact HI0.out | apply IsS56.alloc | apply IsS56.drewN | apply IsS56.drew | refine IsS56.far ?_ NB0_0.out _) | exact HI0.out))) : g ≠ gb109)); have n10_ := zA ((by rw [hg]; exact zMq (IsS56.lt (show IsS56 w0 _ g s0_0 s0_1 s0_2 s0_3 from by repeat (first | (with_reducible first | exact HI0.out | apply IsS56.alloc | apply IsS56.drewN | apply IsS56.drew | refine IsS56.far ?_ NB0_0.out _) | exact HI0.out))) : gb109 ≠ g)); clear HI0; clear BKp0; clear HK; clear HB; have HI0 := n0_; have BKp0 := n1_; have HK := n2_; have HB := n3_; have BK109 := n4_; have GW109 := n5_; have GE109 := n6_; have NB0_109 := n7_; have NB109_0 := n8_; have NB0_109 := n9_; have NB109_0 := n10_; clear n0_ n1_ n2_ n3_ n4_ n5_ n6_ n7_ n8_ n9_ n10_; clear hb hbox hg; refine hK.out _ _ ⟨(zF BKp0.out 0).trans rfl, (zF BKp0.out 1).trans rfl, (zF BKp0.out 2).trans rfl, (zF BKp0.out 3).trans rfl⟩ (fun hHeld => ?_); clear hK K; refine norm_ (a' := ?_) ?_ ?_; rotate_left
        · show Act.put _ (some 3) _ = _
          simp only [Act.put, zH, zI, zJ, i64_w, i32_w]; rfl
        refine one_ (i := 8) (N := some 17) #[o1, o1, o1, o1, o1, o1, o1, o1, o1, o0, o0, o0, o1, o0, o0] rfl rfl (one_of HT_.out (by kernel_rfl)) (by decide) (fun K hK => ?_); refine goes_ Try.func134 (by kernel_rfl) rfl #[.string s0_0, .int .i64 s0_1, .int .i64 1] (by rfl) rfl rfl (by (try simp only [zR, zS, zT]); first | done | rfl | (simp only [zP, zQ]; rfl)) ?_; with_reducible refine (octet_Get.calls k s0_0 s0_1 1 t106 t107 t108 _ A4.out).mono ?_
        rintro e w58 ⟨rfl, hb⟩; refine ⟨_, rfl, ?_⟩; have n0_ := zA (IsS56.below (by repeat (first | (with_reducible first | exact HI0.out | apply IsS56.alloc | apply IsS56.drewN | apply IsS56.drew | refine IsS56.far ?_ NB0_0.out _ | refine IsS56.far ?_ NB0_109.out _) | exact HI0.out)) hb); have n1_ := zA (qX BKp0.out hb); have n2_ := zA (qX BK109.out hb); have n3_ := zA (zBq (qJ HK.out) (KeepBut.of_below hb g none) (.inl rfl)); have n4_ := zA (zV (qH HI0.out HB.out) hb); clear HI0; clear BKp0; clear BK109; clear HK; clear HB; have HI0 := n0_; have BKp0 := n1_; have BK109 := n2_; have HK := n3_; have HB := n4_; clear n0_ n1_ n2_ n3_ n4_; (try clear hb); (try clear hb2); (try clear hk); (try clear hi); refine hK.out _ _ ⟨(zF BKp0.out 0).trans rfl, (zF BKp0.out 1).trans rfl, (zF BKp0.out 2).trans rfl, (zF BKp0.out 3).trans rfl⟩ (fun hHeld => ?_); clear hK K; refine norm_ (a' := ?_) ?_ ?_; rotate_left
        · show Act.put _ (some 17) _ = _
          simp only [Act.put, zH, zI, zJ, i64_w, i32_w]; rfl
        refine pure_ (i := 9) (N := some 8) #[o1, o1, o1, o1, o1, o1, o1, o1, o1, o1, o0, o0, o1, o0, o0] rfl rfl (any_of HT_.out (by kernel_rfl)) (fun _ _ _ h => h) (Or.inl ⟨by rfl, qy⟩) qz ?_; refine pure_ (i := 10) (N := some 18) #[o1, o1, o1, o1, o1, o1, o1, o1, o1, o1, o1, o0, o1, o0, o0] rfl rfl (any_of HT_.out (by kernel_rfl)) (fun _ _ _ h => h) (Or.inl ⟨by rfl, qy⟩) qz ?_; refine pure_ (i := 11) (N := some 19) #[o1, o1, o1, o1, o1, o1, o1, o1, o1, o1, o1, o1, o1, o0, o0] rfl rfl (any_of HT_.out (by kernel_rfl)) (fun _ _ _ h => h) (Or.inl ⟨by rfl, qy⟩) qz ?_; exact norm_ (by simp only [putAll, Act.put, zH, zI, zJ]) (hCont (gb109) _ ⟨hHeld, (qW BK109.out), (qW BKp0.out), GW109.out, GE109.out, NB0_109.out, NB109_0.out, (by repeat (first | (with_reducible first | exact HI0.out | apply IsS56.alloc | apply IsS56.drewN | apply IsS56.drew | refine IsS56.far ?_ NB0_0.out _ | refine IsS56.far ?_ NB0_109.out _) | exact HI0.out)), (qJ HK.out), (qH HI0.out HB.out)⟩)
      rintro gb109 w59 ⟨hS_, h0_, h1_, h2_, h3_, h4_, h5_, h6_, h7_, h8_⟩; have n0_ : Aside0 (w59.heap[gb109]? = some (.cells #[.int .i64 0, .int .i64 0] 202 (0, 0))) := ⟨h0_⟩
      have n1_ : Aside0 (w59.heap[g]? = some (.cells #[.string s0_0, .int .i64 s0_1, errW s0_2, .bool s0_3] 56 (0, 0))) := ⟨h1_⟩
      have n2_ : Aside0 (w.heap.size ≤ gb109) := ⟨h2_⟩
      have n3_ : Aside0 (w0.heap.size ≤ gb109) := ⟨h3_⟩
      have n4_ : Aside0 (g ≠ gb109) := ⟨h4_⟩
      have n5_ : Aside0 (gb109 ≠ g) := ⟨h5_⟩
      have n6_ : Aside0 (IsS56 w0 w59 g s0_0 s0_1 s0_2 s0_3) := ⟨h6_⟩
      have n7_ : Aside0 (KeepBut w w59 g none) := ⟨h7_⟩
      have n8_ : Aside0 (Below w0.heap.size w0 w59) := ⟨h8_⟩
      clear BKp0; clear HI0; clear HK; clear HB; clear h0_ h1_ h2_ h3_ h4_ h5_ h6_ h7_ h8_; have BK109 := n0_; have BKp0 := n1_; have GW109 := n2_; have GE109 := n3_; have NB0_109 := n4_; have NB109_0 := n5_; have HI0 := n6_; have HK := n7_; have HB := n8_; clear n0_ n1_ n2_ n3_ n4_ n5_ n6_ n7_ n8_; have hHeld : w59.cell? ⟨g, 0, none⟩ = some (.string s0_0) ∧ w59.cell? ⟨g, 1, none⟩ = some (.int .i64 s0_1) ∧ w59.cell? ⟨g, 2, none⟩ = some (errW s0_2) ∧ w59.cell? ⟨g, 3, none⟩ = some (.bool s0_3) := hS_; refine norm_ (a' := ?_) ?_ ?_; rotate_left
      · simp only [putAll, Act.put, zH, zI, zJ]
        rfl
      refine one_ (i := 13) (N := none) #[o1, o1, o1, o1, o1, o1, o1, o1, o1, o1, o1, o1, o1, o1, o0] rfl rfl (one_of HT_.out (by kernel_rfl)) (by decide) (fun K hK => ?_); have hs60 : w59.cell? ⟨gb109, 0, none⟩ = some (.int .i64 0) := (zF BK109.out 0).trans rfl; have hfs60 := zG BK109.out 0; have hns60_0 := NB0_109.out; have hms60_0 := NB109_0.out; have hs61 : w59.cell? ⟨gb109, 1, none⟩ = some (.int .i64 0) := (zF BK109.out 1).trans rfl; have hfs61 := zG BK109.out 1; have hns61_0 := NB0_109.out; have hms61_0 := NB109_0.out; refine skip_ (w1 := ?_) (by rfl) rfl ?_ ?_; rotate_left
      · go_simp
        rfl
      refine hK.out _ _ ⟨((cell_far (p := ⟨gb109, _, none⟩) NB0_109.out _).trans (((cell_far (p := ⟨gb109, _, none⟩) NB0_109.out _).trans (hHeld.1)))), ((cell_far (p := ⟨gb109, _, none⟩) NB0_109.out _).trans (((cell_far (p := ⟨gb109, _, none⟩) NB0_109.out _).trans (hHeld.2.1)))), ((cell_far (p := ⟨gb109, _, none⟩) NB0_109.out _).trans (((cell_far (p := ⟨gb109, _, none⟩) NB0_109.out _).trans (hHeld.2.2.1)))), ((cell_far (p := ⟨gb109, _, none⟩) NB0_109.out _).trans (((cell_far (p := ⟨gb109, _, none⟩) NB0_109.out _).trans (hHeld.2.2.2))))⟩ (fun hHeld => ?_); clear hK K; refine pure_ (i := 14) (N := some 4) #[o1, o1, o1, o1, o1, o1, o1, o1, o1, o1, o1, o1, o1, o1, o1] rfl rfl (any_of HT_.out (by kernel_rfl)) (fun _ _ _ h => h) (Or.inl ⟨by rfl, qy⟩) qz ?_; refine done_ (done_of HT_.out (by kernel_rfl)) ?_; clear BKp0; have hnb62 := NB109_0.out; have hnc62 := NB0_109.out; obtain ⟨_, _, _, _⟩ := qc2f BK109.out; try go_wp2_with (first | ((with_reducible refine zJq (f := 135) rfl ?_); refine goesL_ (some 31) rfl rfl Try.func135 (by kernel_rfl) rfl #[.pointer (some ⟨g, 0, none⟩), .int .i64 t107, .int .i64 t108] rfl (by (try simp only [zR, zS, zT]); first | done | rfl | (simp only [zP, zQ]; rfl)) ?_; (with_reducible refine (strict_Reader_done.calls g s0_0 s0_1 s0_2 s0_3 t107 t108 true t121 t122 t123 t124 w0 _ ?side1 ?side2 A53.out).mono ?_); (case side1 => repeat (first | (with_reducible first | exact HI0.out | apply IsS56.alloc | apply IsS56.drewN | apply IsS56.drew | refine IsS56.far ?_ NB0_109.out _) | exact HI0.out)); (case side2 => repeat (first | (with_reducible first | exact HB.out | apply zD | apply zB | apply zC | refine zE ?_ (IsS56.ge HI0.out) | refine zE ?_ GE109.out) | exact HB.out)); rintro e w64 ⟨rfl, hi, hb, hk⟩; refine ⟨_, rfl, ?_⟩; have n0_ := zA (KeepBut.blk hk (g' := gb109) (o := .cells #[.int .i64 t106, .int .i64 t107] 202 (0, 0)) (qV BK109.out) NB109_0.out (by simp)); have n1_ := zA (zBq (qJ HK.out) hk (.inl rfl)); have n2_ := zA (hb); have n3_ := zA (hi); clear BK109 HK HB HI0; have BK109 := n0_; have HK := n1_; have HB := n2_; have HI0 := n3_; clear n0_ n1_ n2_ n3_; (try clear hb); (try clear hb2); (try clear hk); (try clear hi); (try simp only [errW_none, errW_some]); obtain ⟨_, _, _, _⟩ := qc2f BK109.out))
      go_ret; exact ⟨qE, by repeat (first | (with_reducible first | exact HI0.out | apply IsS56.alloc | apply IsS56.drewN | apply IsS56.drew | refine IsS56.far ?_ NB0_109.out _) | exact HI0.out), qH HI0.out HB.out, qJ HK.out⟩
    replace c54 := Bool.eq_false_iff.mpr c54; subst c54; have H1 : (some (false, t121, t122, t123, t124)) = some (r1, r2, r3, r4, r5) := by first | (rw [if_neg (show ¬ (false = true) by decide)] at H; exact H) | rfl
    clear H; have H := H1; clear H1; simp only [zNq, zOq] at H; obtain ⟨rfl, rfl, rfl, rfl, rfl⟩ := H; go_enter Try.func46, Try.ntmps46; try go_wp2_with (first | ((with_reducible refine zJq (f := 133) rfl ?_); refine goesL_ (some 6) rfl rfl Try.func133 (by kernel_rfl) rfl #[.pointer (some ⟨g, 0, none⟩)] rfl (by (try simp only [zR, zS, zT]); first | done | rfl | (simp only [zP, zQ]; rfl)) ?_; (with_reducible refine (strict_Reader_goes.calls g s0_0 s0_1 s0_2 s0_3 true s0_0 s0_1 s0_2 s0_3 w0 _ ?side1 ?side2 A2.out).mono ?_); (case side1 => repeat (first | (with_reducible first | exact HI0.out | apply IsS56.alloc | apply IsS56.drewN | apply IsS56.drew) | exact HI0.out)); (case side2 => repeat (first | (with_reducible first | exact HB.out | apply zD | apply zB | apply zC | refine zE ?_ (IsS56.ge HI0.out)) | exact HB.out)); rintro e w66 ⟨rfl, hi, hb, hk⟩; refine ⟨_, rfl, ?_⟩; have n0_ := zA (zBq (qJ HK.out) hk (.inl rfl)); have n1_ := zA (hb); have n2_ := zA (hi); clear HK HB HI0; have HK := n0_; have HB := n1_; have HI0 := n2_; clear n0_ n1_ n2_; (try clear hb); (try clear hb2); (try clear hk); (try clear hi); (try simp only [errW_none, errW_some]); have BKp0 : Aside0 (w66.heap[g]? = some (.cells #[.string s0_0, .int .i64 s0_1, errW s0_2, .bool s0_3] 56 (0, 0))) := ⟨by obtain ⟨hb_, _⟩ := HI0.out; exact hb_⟩))
    have n0_ := zA (zAq BKp0.out); have n1_ := zA (IsS56.drew HI0.out); have n2_ := zA (zM HK.out); have n3_ := zA (zC HB.out); clear BKp0; clear HI0; clear HK; clear HB; have BKp0 := n0_; have HI0 := n1_; have HK := n2_; have HB := n3_; clear n0_ n1_ n2_ n3_; refine start_ (n := 15) (S := fun w' => w'.cell? ⟨g, 0, none⟩ = some (.string s0_0) ∧ w'.cell? ⟨g, 1, none⟩ = some (.int .i64 s0_1) ∧ w'.cell? ⟨g, 2, none⟩ = some (errW s0_2) ∧ w'.cell? ⟨g, 3, none⟩ = some (.bool s0_3)) (ds := []) #[o0, o0, o0, o0, o0, o0, o0, o0, o0, o0, o0, o0, o0, o0, o0] (by kernel_rfl) rfl rfl ⟨(zF BKp0.out 0).trans rfl, (zF BKp0.out 1).trans rfl, (zF BKp0.out 2).trans rfl, (zF BKp0.out 3).trans rfl⟩ (fun hHeld => ?_); refine with_tabW strict_Reader_Flag.tab3 strict_Reader_Flag.bits3 (fun HT_ HW_ => ?_); generalize w66.drew = w67 at BKp0 HI0 HK HB hHeld ⊢; refine pure_ (i := 0) (N := some 9) #[o1, o0, o0, o0, o0, o0, o0, o0, o0, o0, o0, o0, o0, o0, o0] rfl rfl (any_of HT_.out (by kernel_rfl)) (fun _ _ _ h => h) (Or.inl ⟨by rfl, qy⟩) qz ?_; refine pure_ (i := 1) (N := some 10) #[o1, o1, o0, o0, o0, o0, o0, o0, o0, o0, o0, o0, o0, o0, o0] rfl rfl (any_of HT_.out (by kernel_rfl)) (fun _ _ _ h => h) (Or.inl ⟨by rfl, qy⟩) qz ?_; refine pure_ (i := 2) (N := some 11) #[o1, o1, o1, o0, o0, o0, o0, o0, o0, o0, o0, o0, o0, o0, o0] rfl rfl (any_of HT_.out (by kernel_rfl)) (fun _ _ _ h => h) (Or.inl ⟨by rfl, qy⟩) qz ?_; refine pure_ (i := 4) (N := some 13) #[o1, o1, o1, o0, o1, o0, o0, o0, o0, o0, o0, o0, o0, o0, o0] rfl rfl (any_of HT_.out (by kernel_rfl)) (fun _ _ _ h => h) (Or.inl ⟨by rfl, qy⟩) qz ?_; refine pure_ (i := 5) (N := some 14) #[o1, o1, o1, o0, o1, o1, o0, o0, o0, o0, o0, o0, o0, o0, o0] rfl rfl (any_of HT_.out (by kernel_rfl)) (fun _ _ _ h => h) (Or.inl ⟨by rfl, qy⟩) qz ?_; refine pure_ (i := 6) (N := some 15) #[o1, o1, o1, o0, o1, o1, o1, o0, o0, o0, o0, o0, o0, o0, o0] rfl rfl (any_of HT_.out (by kernel_rfl)) (fun _ _ _ h => h) (Or.inl ⟨by rfl, qy⟩) qz ?_; refine take_ (i := 3) (N := some 12) (v := ?_) (a' := ?_) #[o1, o1, o1, o1, o1, o1, o1, o0, o0, o0, o0, o0, o0, o0, o0] rfl rfl (take_ofW HT_.out HW_.out (by kernel_rfl)) (fun _ _ _ h => h) (Or.inl ⟨by rfl, ?_⟩) hHeld ?_ ?_; rotate_left
    · rintro w' ⟨s0, s1, s2, s3⟩
      go_simp; with_reducible rfl
    rotate_left
    · simp only [Act.put, zH, zI, zJ, i64_w, i32_w]
      rfl
    refine take_ (i := 7) (N := some 16) (v := ?_) (a' := ?_) #[o1, o1, o1, o1, o1, o1, o1, o1, o0, o0, o0, o0, o0, o0, o0] rfl rfl (take_ofW HT_.out HW_.out (by kernel_rfl)) (fun _ _ _ h => h) (Or.inl ⟨by rfl, ?_⟩) hHeld ?_ ?_; rotate_left
    · rintro w' ⟨s0, s1, s2, s3⟩
      go_simp; with_reducible rfl
    rotate_left
    · simp only [Act.put, zH, zI, zJ, i64_w, i32_w]
      rfl
    refine join_ (σ := Nat) 2 #[o1, o1, o1, o1, o1, o1, o1, o1, o1, o1, o1, o1, o1, o0, o0] (fun s_ => [(17, .tuple #[.agg #[.int .i64 t106, .int .i64 t107], .int .i64 t108]), (3, .pointer (some ⟨s_, 0, none⟩)), (8, .tuple #[.agg #[.int .i64 t106, .int .i64 t107], .int .i64 t108]), (18, .agg #[.int .i64 t106, .int .i64 t107]), (19, .int .i64 t108)]) (fun s_ w' => (w'.cell? ⟨g, 0, none⟩ = some (.string s0_0) ∧ w'.cell? ⟨g, 1, none⟩ = some (.int .i64 s0_1) ∧ w'.cell? ⟨g, 2, none⟩ = some (errW s0_2) ∧ w'.cell? ⟨g, 3, none⟩ = some (.bool s0_3)) ∧ (w'.heap[s_]? = some (.cells #[.int .i64 0, .int .i64 0] 202 (0, 0))) ∧ (w'.heap[g]? = some (.cells #[.string s0_0, .int .i64 s0_1, errW s0_2, .bool s0_3] 56 (0, 0))) ∧ (w.heap.size ≤ s_) ∧ (w0.heap.size ≤ s_) ∧ (g ≠ s_) ∧ (s_ ≠ g) ∧ (IsS56 w0 w' g s0_0 s0_1 s0_2 s0_3) ∧ (KeepBut w w' g none) ∧ (Below w0.heap.size w0 w')) ?_ ?_; rotate_left
    · intro hCont
      refine two_ (i := 8) (j := 12) (Ni := some 17) (Nj := some 3) #[o1, o1, o1, o1, o1, o1, o1, o1, o1, o0, o0, o0, o0, o0, o0] #[o1, o1, o1, o1, o1, o1, o1, o1, o0, o0, o0, o0, o1, o0, o0] rfl rfl rfl rfl (two_of HT_.out (by kernel_rfl)) (by decide) (by decide) (fun K hK => ?_) (fun K hK => ?_)
      · skip
        refine goes_ Try.func134 (by kernel_rfl) rfl #[.string s0_0, .int .i64 s0_1, .int .i64 1] (by rfl) rfl rfl (by (try simp only [zR, zS, zT]); first | done | rfl | (simp only [zP, zQ]; rfl)) ?_; with_reducible refine (octet_Get.calls k s0_0 s0_1 1 t106 t107 t108 _ A4.out).mono ?_
        rintro e w68 ⟨rfl, hb⟩; refine ⟨_, rfl, ?_⟩; have n0_ := zA (IsS56.below (by repeat (first | (with_reducible first | exact HI0.out | apply IsS56.alloc | apply IsS56.drewN | apply IsS56.drew | refine IsS56.far ?_ NB0_0.out _) | exact HI0.out)) hb); have n1_ := zA (qX BKp0.out hb); have n2_ := zA (zBq (qJ HK.out) (KeepBut.of_below hb g none) (.inl rfl)); have n3_ := zA (zV (qH HI0.out HB.out) hb); clear HI0; clear BKp0; clear HK; clear HB; have HI0 := n0_; have BKp0 := n1_; have HK := n2_; have HB := n3_; clear n0_ n1_ n2_ n3_; (try clear hb); (try clear hb2); (try clear hk); (try clear hi); refine hK.out _ _ ⟨(zF BKp0.out 0).trans rfl, (zF BKp0.out 1).trans rfl, (zF BKp0.out 2).trans rfl, (zF BKp0.out 3).trans rfl⟩ (fun hHeld => ?_); clear hK K; refine norm_ (a' := ?_) ?_ ?_; rotate_left
        · show Act.put _ (some 17) _ = _
          simp only [Act.put, zH, zI, zJ, i64_w, i32_w]; rfl
        refine pure_ (i := 9) (N := some 8) #[o1, o1, o1, o1, o1, o1, o1, o1, o1, o1, o0, o0, o0, o0, o0] rfl rfl (any_of HT_.out (by kernel_rfl)) (fun _ _ _ h => h) (Or.inl ⟨by rfl, qy⟩) qz ?_; refine pure_ (i := 10) (N := some 18) #[o1, o1, o1, o1, o1, o1, o1, o1, o1, o1, o1, o0, o0, o0, o0] rfl rfl (any_of HT_.out (by kernel_rfl)) (fun _ _ _ h => h) (Or.inl ⟨by rfl, qy⟩) qz ?_; refine pure_ (i := 11) (N := some 19) #[o1, o1, o1, o1, o1, o1, o1, o1, o1, o1, o1, o1, o0, o0, o0] rfl rfl (any_of HT_.out (by kernel_rfl)) (fun _ _ _ h => h) (Or.inl ⟨by rfl, qy⟩) qz ?_; refine one_ (i := 12) (N := some 3) #[o1, o1, o1, o1, o1, o1, o1, o1, o1, o1, o1, o1, o1, o0, o0] rfl rfl (one_of HT_.out (by kernel_rfl)) (by decide) (fun K hK => ?_); refine box_step ?hg (N := 3) ?hd (cs := #[.int .i64 0, .int .i64 0]) (t := 202) ?hr ?_; (case hd => rfl); (case hg => rfl); (case hr => first | (go_simp; done) | (go_simp; rfl)); intro gb109 hg w69 hbox hb; have n0_ := zA (IsS56.below (by repeat (first | (with_reducible first | exact HI0.out | apply IsS56.alloc | apply IsS56.drewN | apply IsS56.drew | refine IsS56.far ?_ NB0_0.out _) | exact HI0.out)) hb); have n1_ := zA (qX BKp0.out hb); have n2_ := zA (zBq (qJ HK.out) (KeepBut.of_below hb g none) (.inl rfl)); have n3_ := zA (zV (qH HI0.out HB.out) hb); have n4_ := zA (hbox); have n5_ := zA ((by rw [hg]; exact (keep_size (w := w) (g := g) (row := none) (qJ HK.out)) : w.heap.size ≤ gb109)); have n6_ := zA ((Nat.le_trans HW0.out (by rw [hg]; exact (keep_size (w := w) (g := g) (row := none) (qJ HK.out)) : w.heap.size ≤ gb109) : w0.heap.size ≤ gb109)); have n7_ := zA ((by rw [hg]; exact zLq (qL BKp0.out) : g ≠ gb109)); have n8_ := zA ((by rw [hg]; exact zMq (qL BKp0.out) : gb109 ≠ g)); have n9_ := zA ((by rw [hg]; exact zLq (IsS56.lt (show IsS56 w0 _ g s0_0 s0_1 s0_2 s0_3 from by repeat (first | (with_reducible first | exact HI0.out | apply IsS56.alloc | apply IsS56.drewN | apply IsS56.drew | refine IsS56.far ?_ NB0_0.out _) | exact HI0.out))) : g ≠ gb109)); have n10_ := zA ((by rw [hg]; exact zMq (IsS56.lt (show IsS56 w0 _ g s0_0 s0_1 s0_2 s0_3 from by repeat (first | (with_reducible first | exact HI0.out | apply IsS56.alloc | apply IsS56.drewN | apply IsS56.drew | refine IsS56.far ?_ NB0_0.out _) | exact HI0.out))) : gb109 ≠ g)); clear HI0; clear BKp0; clear HK; clear HB; have HI0 := n0_; have BKp0 := n1_; have HK := n2_; have HB := n3_; have BK109 := n4_; have GW109 := n5_; have GE109 := n6_; have NB0_109 := n7_; have NB109_0 := n8_; have NB0_109 := n9_; have NB109_0 := n10_; clear n0_ n1_ n2_ n3_ n4_ n5_ n6_ n7_ n8_ n9_ n10_; clear hb hbox hg; refine hK.out _ _ ⟨(zF BKp0.out 0).trans rfl, (zF BKp0.out 1).trans rfl, (zF BKp0.out 2).trans rfl, (zF BKp0.out 3).trans rfl⟩ (fun hHeld => ?_)
        clear hK K; refine norm_ (a' := ?_) ?_ ?_; rotate_left
        · show Act.put _ (some 3) _ = _
          simp only [Act.put, zH, zI, zJ, i64_w, i32_w]; rfl
        exact norm_ (by simp only [putAll, Act.put, zH, zI, zJ]) (hCont (gb109) _ ⟨hHeld, (qW BK109.out), (qW BKp0.out), GW109.out, GE109.out, NB0_109.out, NB109_0.out, (by repeat (first | (with_reducible first | exact HI0.out | apply IsS56.alloc | apply IsS56.drewN | apply IsS56.drew | refine IsS56.far ?_ NB0_0.out _ | refine IsS56.far ?_ NB0_109.out _) | exact HI0.out)), (qJ HK.out), (qH HI0.out HB.out)⟩)
      skip; refine box_step ?hg (N := 3) ?hd (cs := #[.int .i64 0, .int .i64 0]) (t := 202) ?hr ?_; (case hd => rfl); (case hg => rfl); (case hr => first | (go_simp; done) | (go_simp; rfl)); intro gb109 hg w68 hbox hb; have n0_ := zA (IsS56.below (by repeat (first | (with_reducible first | exact HI0.out | apply IsS56.alloc | apply IsS56.drewN | apply IsS56.drew | refine IsS56.far ?_ NB0_0.out _) | exact HI0.out)) hb); have n1_ := zA (qX BKp0.out hb); have n2_ := zA (zBq (qJ HK.out) (KeepBut.of_below hb g none) (.inl rfl)); have n3_ := zA (zV (qH HI0.out HB.out) hb); have n4_ := zA (hbox); have n5_ := zA ((by rw [hg]; exact (keep_size (w := w) (g := g) (row := none) (qJ HK.out)) : w.heap.size ≤ gb109)); have n6_ := zA ((Nat.le_trans HW0.out (by rw [hg]; exact (keep_size (w := w) (g := g) (row := none) (qJ HK.out)) : w.heap.size ≤ gb109) : w0.heap.size ≤ gb109)); have n7_ := zA ((by rw [hg]; exact zLq (qL BKp0.out) : g ≠ gb109)); have n8_ := zA ((by rw [hg]; exact zMq (qL BKp0.out) : gb109 ≠ g)); have n9_ := zA ((by rw [hg]; exact zLq (IsS56.lt (show IsS56 w0 _ g s0_0 s0_1 s0_2 s0_3 from by repeat (first | (with_reducible first | exact HI0.out | apply IsS56.alloc | apply IsS56.drewN | apply IsS56.drew | refine IsS56.far ?_ NB0_0.out _) | exact HI0.out))) : g ≠ gb109)); have n10_ := zA ((by rw [hg]; exact zMq (IsS56.lt (show IsS56 w0 _ g s0_0 s0_1 s0_2 s0_3 from by repeat (first | (with_reducible first | exact HI0.out | apply IsS56.alloc | apply IsS56.drewN | apply IsS56.drew | refine IsS56.far ?_ NB0_0.out _) | exact HI0.out))) : gb109 ≠ g)); clear HI0; clear BKp0; clear HK; clear HB; have HI0 := n0_; have BKp0 := n1_; have HK := n2_; have HB := n3_; have BK109 := n4_; have GW109 := n5_; have GE109 := n6_; have NB0_109 := n7_; have NB109_0 := n8_; have NB0_109 := n9_; have NB109_0 := n10_; clear n0_ n1_ n2_ n3_ n4_ n5_ n6_ n7_ n8_ n9_ n10_; clear hb hbox hg; refine hK.out _ _ ⟨(zF BKp0.out 0).trans rfl, (zF BKp0.out 1).trans rfl, (zF BKp0.out 2).trans rfl, (zF BKp0.out 3).trans rfl⟩ (fun hHeld => ?_); clear hK K; refine norm_ (a' := ?_) ?_ ?_; rotate_left
      · show Act.put _ (some 3) _ = _
        simp only [Act.put, zH, zI, zJ, i64_w, i32_w]; rfl
      refine one_ (i := 8) (N := some 17) #[o1, o1, o1, o1, o1, o1, o1, o1, o1, o0, o0, o0, o1, o0, o0] rfl rfl (one_of HT_.out (by kernel_rfl)) (by decide) (fun K hK => ?_); refine goes_ Try.func134 (by kernel_rfl) rfl #[.string s0_0, .int .i64 s0_1, .int .i64 1] (by rfl) rfl rfl (by (try simp only [zR, zS, zT]); first | done | rfl | (simp only [zP, zQ]; rfl)) ?_; with_reducible refine (octet_Get.calls k s0_0 s0_1 1 t106 t107 t108 _ A4.out).mono ?_
      rintro e w69 ⟨rfl, hb⟩; refine ⟨_, rfl, ?_⟩; have n0_ := zA (IsS56.below (by repeat (first | (with_reducible first | exact HI0.out | apply IsS56.alloc | apply IsS56.drewN | apply IsS56.drew | refine IsS56.far ?_ NB0_0.out _ | refine IsS56.far ?_ NB0_109.out _) | exact HI0.out)) hb); have n1_ := zA (qX BKp0.out hb); have n2_ := zA (qX BK109.out hb); have n3_ := zA (zBq (qJ HK.out) (KeepBut.of_below hb g none) (.inl rfl)); have n4_ := zA (zV (qH HI0.out HB.out) hb); clear HI0; clear BKp0; clear BK109; clear HK; clear HB; have HI0 := n0_; have BKp0 := n1_; have BK109 := n2_; have HK := n3_; have HB := n4_; clear n0_ n1_ n2_ n3_ n4_; (try clear hb); (try clear hb2); (try clear hk); (try clear hi); refine hK.out _ _ ⟨(zF BKp0.out 0).trans rfl, (zF BKp0.out 1).trans rfl, (zF BKp0.out 2).trans rfl, (zF BKp0.out 3).trans rfl⟩ (fun hHeld => ?_); clear hK K; refine norm_ (a' := ?_) ?_ ?_; rotate_left
      · show Act.put _ (some 17) _ = _
        simp only [Act.put, zH, zI, zJ, i64_w, i32_w]; rfl
      refine pure_ (i := 9) (N := some 8) #[o1, o1, o1, o1, o1, o1, o1, o1, o1, o1, o0, o0, o1, o0, o0] rfl rfl (any_of HT_.out (by kernel_rfl)) (fun _ _ _ h => h) (Or.inl ⟨by rfl, qy⟩) qz ?_; refine pure_ (i := 10) (N := some 18) #[o1, o1, o1, o1, o1, o1, o1, o1, o1, o1, o1, o0, o1, o0, o0] rfl rfl (any_of HT_.out (by kernel_rfl)) (fun _ _ _ h => h) (Or.inl ⟨by rfl, qy⟩) qz ?_; refine pure_ (i := 11) (N := some 19) #[o1, o1, o1, o1, o1, o1, o1, o1, o1, o1, o1, o1, o1, o0, o0] rfl rfl (any_of HT_.out (by kernel_rfl)) (fun _ _ _ h => h) (Or.inl ⟨by rfl, qy⟩) qz ?_; exact norm_ (by simp only [putAll, Act.put, zH, zI, zJ]) (hCont (gb109) _ ⟨hHeld, (qW BK109.out), (qW BKp0.out), GW109.out, GE109.out, NB0_109.out, NB109_0.out, (by repeat (first | (with_reducible first | exact HI0.out | apply IsS56.alloc | apply IsS56.drewN | apply IsS56.drew | refine IsS56.far ?_ NB0_0.out _ | refine IsS56.far ?_ NB0_109.out _) | exact HI0.out)), (qJ HK.out), (qH HI0.out HB.out)⟩)
    rintro gb109 w70 ⟨hS_, h0_, h1_, h2_, h3_, h4_, h5_, h6_, h7_, h8_⟩; have n0_ : Aside0 (w70.heap[gb109]? = some (.cells #[.int .i64 0, .int .i64 0] 202 (0, 0))) := ⟨h0_⟩
    have n1_ : Aside0 (w70.heap[g]? = some (.cells #[.string s0_0, .int .i64 s0_1, errW s0_2, .bool s0_3] 56 (0, 0))) := ⟨h1_⟩
    have n2_ : Aside0 (w.heap.size ≤ gb109) := ⟨h2_⟩
    have n3_ : Aside0 (w0.heap.size ≤ gb109) := ⟨h3_⟩
    have n4_ : Aside0 (g ≠ gb109) := ⟨h4_⟩
    have n5_ : Aside0 (gb109 ≠ g) := ⟨h5_⟩
    have n6_ : Aside0 (IsS56 w0 w70 g s0_0 s0_1 s0_2 s0_3) := ⟨h6_⟩
    have n7_ : Aside0 (KeepBut w w70 g none) := ⟨h7_⟩
    have n8_ : Aside0 (Below w0.heap.size w0 w70) := ⟨h8_⟩
    clear BKp0; clear HI0; clear HK; clear HB; clear h0_ h1_ h2_ h3_ h4_ h5_ h6_ h7_ h8_; have BK109 := n0_; have BKp0 := n1_; have GW109 := n2_; have GE109 := n3_; have NB0_109 := n4_; have NB109_0 := n5_; have HI0 := n6_; have HK := n7_; have HB := n8_; clear n0_ n1_ n2_ n3_ n4_ n5_ n6_ n7_ n8_; have hHeld : w70.cell? ⟨g, 0, none⟩ = some (.string s0_0) ∧ w70.cell? ⟨g, 1, none⟩ = some (.int .i64 s0_1) ∧ w70.cell? ⟨g, 2, none⟩ = some (errW s0_2) ∧ w70.cell? ⟨g, 3, none⟩ = some (.bool s0_3) := hS_; refine norm_ (a' := ?_) ?_ ?_; rotate_left
    · simp only [putAll, Act.put, zH, zI, zJ]
      rfl
    refine one_ (i := 13) (N := none) #[o1, o1, o1, o1, o1, o1, o1, o1, o1, o1, o1, o1, o1, o1, o0] rfl rfl (one_of HT_.out (by kernel_rfl)) (by decide) (fun K hK => ?_); have hs71 : w70.cell? ⟨gb109, 0, none⟩ = some (.int .i64 0) := (zF BK109.out 0).trans rfl; have hfs71 := zG BK109.out 0; have hns71_0 := NB0_109.out; have hms71_0 := NB109_0.out; have hs72 : w70.cell? ⟨gb109, 1, none⟩ = some (.int .i64 0) := (zF BK109.out 1).trans rfl; have hfs72 := zG BK109.out 1; have hns72_0 := NB0_109.out; have hms72_0 := NB109_0.out; refine skip_ (w1 := ?_) (by rfl) rfl ?_ ?_; rotate_left
    · go_simp
      rfl
    refine hK.out _ _ ⟨((cell_far (p := ⟨gb109, _, none⟩) NB0_109.out _).trans (((cell_far (p := ⟨gb109, _, none⟩) NB0_109.out _).trans (hHeld.1)))), ((cell_far (p := ⟨gb109, _, none⟩) NB0_109.out _).trans (((cell_far (p := ⟨gb109, _, none⟩) NB0_109.out _).trans (hHeld.2.1)))), ((cell_far (p := ⟨gb109, _, none⟩) NB0_109.out _).trans (((cell_far (p := ⟨gb109, _, none⟩) NB0_109.out _).trans (hHeld.2.2.1)))), ((cell_far (p := ⟨gb109, _, none⟩) NB0_109.out _).trans (((cell_far (p := ⟨gb109, _, none⟩) NB0_109.out _).trans (hHeld.2.2.2))))⟩ (fun hHeld => ?_); clear hK K; refine pure_ (i := 14) (N := some 4) #[o1, o1, o1, o1, o1, o1, o1, o1, o1, o1, o1, o1, o1, o1, o1] rfl rfl (any_of HT_.out (by kernel_rfl)) (fun _ _ _ h => h) (Or.inl ⟨by rfl, qy⟩) qz ?_; refine done_ (done_of HT_.out (by kernel_rfl)) ?_; clear BKp0; have hnb73 := NB109_0.out; have hnc73 := NB0_109.out; obtain ⟨_, _, _, _⟩ := qc2f BK109.out; try go_wp2_with (first | ((with_reducible refine zJq (f := 135) rfl ?_); refine goesL_ (some 31) rfl rfl Try.func135 (by kernel_rfl) rfl #[.pointer (some ⟨g, 0, none⟩), .int .i64 t107, .int .i64 t108] rfl (by (try simp only [zR, zS, zT]); first | done | rfl | (simp only [zP, zQ]; rfl)) ?_; (with_reducible refine (strict_Reader_done.calls g s0_0 s0_1 s0_2 s0_3 t107 t108 false t121 t122 t123 t124 w0 _ ?side1 ?side2 A53.out).mono ?_); (case side1 => repeat (first | (with_reducible first | exact HI0.out | apply IsS56.alloc | apply IsS56.drewN | apply IsS56.drew | refine IsS56.far ?_ NB0_109.out _) | exact HI0.out)); (case side2 => repeat (first | (with_reducible first | exact HB.out | apply zD | apply zB | apply zC | refine zE ?_ (IsS56.ge HI0.out) | refine zE ?_ GE109.out) | exact HB.out)); rintro e w75 ⟨rfl, hi, hb, hk⟩; refine ⟨_, rfl, ?_⟩; have n0_ := zA (KeepBut.blk hk (g' := gb109) (o := .cells #[.int .i64 t106, .int .i64 t107] 202 (0, 0)) (qV BK109.out) NB109_0.out (by simp)); have n1_ := zA (zBq (qJ HK.out) hk (.inl rfl)); have n2_ := zA (hb); have n3_ := zA (hi); clear BK109 HK HB HI0; have BK109 := n0_; have HK := n1_; have HB := n2_; have HI0 := n3_; clear n0_ n1_ n2_ n3_; (try clear hb); (try clear hb2); (try clear hk); (try clear hi); (try simp only [errW_none, errW_some])))
    go_ret; exact ⟨qE, by repeat (first | (with_reducible first | exact HI0.out | apply IsS56.alloc | apply IsS56.drewN | apply IsS56.drew | refine IsS56.far ?_ NB0_109.out _) | exact HI0.out), qH HI0.out HB.out, qJ HK.out⟩
  replace c3 := Bool.eq_false_iff.mpr c3
  subst c3
  have H1 : (some (false, s0_0, s0_1, s0_2, s0_3)) = some (r1, r2, r3, r4, r5) := by first | (rw [if_neg (show ¬ (false = true) by decide)] at H; exact H) | rfl
  clear H
  have H := H1
  clear H1
  simp only [zNq, zOq] at H
  obtain ⟨rfl, rfl, rfl, rfl, rfl⟩ := H
  go_enter Try.func46, Try.ntmps46
  go_wp2_with (first | ((with_reducible refine zJq (f := 133) rfl ?_); refine goesL_ (some 6) rfl rfl Try.func133 (by kernel_rfl) rfl #[.pointer (some ⟨g, 0, none⟩)] rfl (by (try simp only [zR, zS, zT]); first | done | rfl | (simp only [zP, zQ]; rfl)) ?_; (with_reducible refine (strict_Reader_goes.calls g s0_0 s0_1 s0_2 s0_3 false s0_0 s0_1 s0_2 s0_3 w0 _ ?side1 ?side2 A2.out).mono ?_); (case side1 => repeat (first | (with_reducible first | exact HI0.out | apply IsS56.alloc | apply IsS56.drewN | apply IsS56.drew) | exact HI0.out)); (case side2 => repeat (first | (with_reducible first | exact HB.out | apply zD | apply zB | apply zC | refine zE ?_ (IsS56.ge HI0.out)) | exact HB.out)); rintro e w76 ⟨rfl, hi, hb, hk⟩; refine ⟨_, rfl, ?_⟩; have n0_ := zA (zBq (qJ HK.out) hk (.inl rfl)); have n1_ := zA (hb); have n2_ := zA (hi); clear HK HB HI0; have HK := n0_; have HB := n1_; have HI0 := n2_; clear n0_ n1_ n2_; (try clear hb); (try clear hb2); (try clear hk); (try clear hi); (try simp only [errW_none, errW_some])))
  go_ret
  exact ⟨qE, by repeat (first | (with_reducible first | exact HI0.out | apply IsS56.alloc | apply IsS56.drewN | apply IsS56.drew) | exact HI0.out), qH HI0.out HB.out, qJ HK.out⟩
def strict_Reader_End.f (s0_0 : ByteArray) (s0_1 : Int) (s0_2 : Option (Int × Int)) (s0_3 : Bool) : Option (ByteArray × Int × Option (Int × Int) × Bool) := (strict_Reader_goes.f s0_0 s0_1 s0_2 s0_3).bind fun bt101 => (if bt101.1 = true then (if bt101.2.2.1 < (bt101.2.1.size : Int) then ((strict_Reader_done.f bt101.2.1 bt101.2.2.1 bt101.2.2.2.1 bt101.2.2.2.2 0 6).bind fun bt106 => (some (bt106.2.1, bt106.2.2.1, bt106.2.2.2.1, bt106.2.2.2.2))) else (some (bt101.2.1, bt101.2.2.1, bt101.2.2.2.1, bt101.2.2.2.2))) else (some (bt101.2.1, bt101.2.2.1, bt101.2.2.2.1, bt101.2.2.2.2)))
def strict_Reader_End.T0 : Bool × List (List Nat × List Nat) := (true, [([], []), ([0], [0]), ([1, 1], [1]), ([2], [2]), ([3, 2], [2, 3]), ([4, 2], [2, 4]), ([5, 2], [2, 5]), ([2], [2]), ([7, 2], [2, 7]), ([8, 2], [2, 8]), ([9, 2], [2, 9]), ([10, 2], [2, 10]), ([6, 11, 2], [2, 6, 11]), ([2, 12], [2, 12])])
def strict_Reader_End.B0 : List Nat := [0, 1, 3, 7, 15, 31, 63, 7, 135, 391, 903, 1927, 4095, 8191]
theorem strict_Reader_End.tab0 : rtab .any (opsOf Try.f74 0) = strict_Reader_End.T0 := by kernel_rfl
theorem strict_Reader_End.bits0 : waitsOk strict_Reader_End.T0.2 strict_Reader_End.B0 = true := by kernel_rfl
set_option maxHeartbeats 8000000 in
set_option maxRecDepth 100000 in
theorem strict_Reader_End.calls (g : Nat) (s0_0 : ByteArray) (s0_1 : Int) (s0_2 : Option (Int × Int)) (s0_3 : Bool) (r1 : ByteArray) (r2 : Int) (r3 : Option (Int × Int)) (r4 : Bool) (w0 w : World) (hI : IsS56 w0 w g s0_0 s0_1 s0_2 s0_3) (hB : Below w0.heap.size w0 w) (h : strict_Reader_End.f s0_0 s0_1 s0_2 s0_3 = some (r1, r2, r3, r4)) :
    Calls Try.prog 74 #[.pointer (some ⟨g, 0, none⟩)] w fun e w' => e = .returned (.tuple #[]) ∧ IsS56 w0 w' g r1 r2 r3 r4 ∧ Below w0.heap.size w0 w' ∧ KeepBut w w' g none := by
  have HI0 := zA hI
  have HK := zA (KeepBut.refl w g none)
  have HL := zA hB.size
  clear hI
  have HW0 := zA hB.size
  have HB := zA hB
  clear hB
  have H : ((strict_Reader_goes.f s0_0 s0_1 s0_2 s0_3).bind fun bt101 => (if bt101.1 = true then (if bt101.2.2.1 < (bt101.2.1.size : Int) then ((strict_Reader_done.f bt101.2.1 bt101.2.2.1 bt101.2.2.2.1 bt101.2.2.2.2 0 6).bind fun bt106 => (some (bt106.2.1, bt106.2.2.1, bt106.2.2.2.1, bt106.2.2.2.2))) else (some (bt101.2.1, bt101.2.2.1, bt101.2.2.2.1, bt101.2.2.2.2))) else (some (bt101.2.1, bt101.2.2.1, bt101.2.2.2.1, bt101.2.2.2.2)))) = some (r1, r2, r3, r4) := h
  clear h
  replace H := Option.bind_eq_some_iff.mp H
  obtain ⟨⟨t101, s0_0, s0_1, s0_2, s0_3⟩, A20, H⟩ := H
  obtain ⟨rfl, rfl, rfl, rfl⟩ := strict_Reader_goes.same A20
  replace H : (if t101 = true then (if s0_1 < (s0_0.size : Int) then ((strict_Reader_done.f s0_0 s0_1 s0_2 s0_3 0 6).bind fun bt106 => (some (bt106.2.1, bt106.2.2.1, bt106.2.2.2.1, bt106.2.2.2.2))) else (some (s0_0, s0_1, s0_2, s0_3))) else (some (s0_0, s0_1, s0_2, s0_3))) = some (r1, r2, r3, r4) := H
  have A2 := zA A20
  clear A20
  by_cases c3 : t101 = true
  · subst c3
    have H1 : (if s0_1 < (s0_0.size : Int) then ((strict_Reader_done.f s0_0 s0_1 s0_2 s0_3 0 6).bind fun bt106 => (some (bt106.2.1, bt106.2.2.1, bt106.2.2.2.1, bt106.2.2.2.2))) else (some (s0_0, s0_1, s0_2, s0_3))) = some (r1, r2, r3, r4) := by first | (rw [if_pos rfl] at H; exact H) | rfl
    clear H; have H := H1; clear H1; by_cases c4 : s0_1 < (s0_0.size : Int)
    · rw [if_pos c4] at H
      have c4b0 : decide (s0_1 < (s0_0.size : Int)) = true := zFq c4; clear c4; replace H := Option.bind_eq_some_iff.mp H; obtain ⟨⟨t106, t107, t108, t109, t110⟩, A50, H⟩ := H; replace H : (some (t107, t108, t109, t110)) = some (r1, r2, r3, r4) := H; have A5 := zA A50; clear A50; simp only [zNq, zOq] at H; obtain ⟨rfl, rfl, rfl, rfl⟩ := H; have BKp0 : Aside0 (w.heap[g]? = some (.cells #[.string s0_0, .int .i64 s0_1, errW s0_2, .bool s0_3] 56 (0, 0))) := ⟨by obtain ⟨hb_, _⟩ := HI0.out; exact hb_⟩
      go_enter Try.func74, Try.ntmps74; try go_wp2
      have n0_ := zA (zAq BKp0.out); have n1_ := zA (IsS56.drew HI0.out); have n2_ := zA (zM HK.out); have n3_ := zA (zC HB.out); clear BKp0; clear HI0; clear HK; clear HB; have BKp0 := n0_; have HI0 := n1_; have HK := n2_; have HB := n3_; clear n0_ n1_ n2_ n3_; refine start_ (n := 14) (S := fun w' => w'.cell? ⟨g, 0, none⟩ = some (.string s0_0) ∧ w'.cell? ⟨g, 1, none⟩ = some (.int .i64 s0_1) ∧ w'.cell? ⟨g, 2, none⟩ = some (errW s0_2) ∧ w'.cell? ⟨g, 3, none⟩ = some (.bool s0_3)) (ds := []) #[o0, o0, o0, o0, o0, o0, o0, o0, o0, o0, o0, o0, o0, o0] (by kernel_rfl) rfl rfl ⟨(zF BKp0.out 0).trans rfl, (zF BKp0.out 1).trans rfl, (zF BKp0.out 2).trans rfl, (zF BKp0.out 3).trans rfl⟩ (fun hHeld => ?_); refine with_tabW strict_Reader_End.tab0 strict_Reader_End.bits0 (fun HT_ HW_ => ?_); generalize w.drew = w6 at BKp0 HI0 HK HB hHeld ⊢; refine pure_ (i := 0) (N := some 2) #[o1, o0, o0, o0, o0, o0, o0, o0, o0, o0, o0, o0, o0, o0] rfl rfl (any_of HT_.out (by kernel_rfl)) (fun _ _ _ h => h) (Or.inl ⟨by rfl, qy⟩) qz ?_; refine one_ (i := 1) (N := some 3) #[o1, o1, o0, o0, o0, o0, o0, o0, o0, o0, o0, o0, o0, o0] rfl rfl (one_of HT_.out (by kernel_rfl)) (by decide) (fun K hK => ?_); refine goes_ Try.func133 (by kernel_rfl) rfl #[.pointer (some ⟨g, 0, none⟩)] (by rfl) rfl rfl (by (try simp only [zR, zS, zT]); first | done | rfl | (simp only [zP, zQ]; rfl)) ?_; with_reducible refine (strict_Reader_goes.calls g s0_0 s0_1 s0_2 s0_3 true s0_0 s0_1 s0_2 s0_3 w0 _ ?side1 ?side2 A2.out).mono ?_
      (case side1 => repeat (first | (with_reducible first | exact HI0.out | apply IsS56.alloc | apply IsS56.drewN | apply IsS56.drew | refine IsS56.far ?_ NB0_0.out _) | exact HI0.out))
      (case side2 => repeat (first | (with_reducible first | exact HB.out | apply zD | apply zB | apply zC | refine zE ?_ (IsS56.ge HI0.out) | refine zE ?_ GE0.out) | exact HB.out))
      rintro e w7 ⟨rfl, hi, hb, hk⟩; refine ⟨_, rfl, ?_⟩; have n0_ := zA ((by obtain ⟨hb_, _⟩ := hi; exact hb_ : w7.heap[g]? = some (.cells #[.string s0_0, .int .i64 s0_1, errW s0_2, .bool s0_3] 56 (0, 0)))); have n1_ := zA (zBq (qJ HK.out) hk (.inl rfl)); have n2_ := zA (hb); have n3_ := zA (hi); clear BKp0; clear HK; clear HB; clear HI0; have BKp0 := n0_; have HK := n1_; have HB := n2_; have HI0 := n3_; clear n0_ n1_ n2_ n3_; (try clear hb); (try clear hb2); (try clear hk); (try clear hi); (try simp only [errW_none, errW_some])
      refine hK.out _ _ ⟨(zF BKp0.out 0).trans rfl, (zF BKp0.out 1).trans rfl, (zF BKp0.out 2).trans rfl, (zF BKp0.out 3).trans rfl⟩ (fun hHeld => ?_); clear hK K; refine norm_ (a' := ?_) ?_ ?_; rotate_left
      · show Act.put _ (some 3) _ = _
        simp only [Act.put, zH, zI, zJ, i64_w, i32_w]; rfl
      refine pure_ (i := 2) (N := some 4) #[o1, o1, o1, o0, o0, o0, o0, o0, o0, o0, o0, o0, o0, o0] rfl rfl (any_of HT_.out (by kernel_rfl)) (fun _ _ _ h => h) (Or.inl ⟨by rfl, qy⟩) qz ?_; refine pure_ (i := 3) (N := some 5) #[o1, o1, o1, o1, o0, o0, o0, o0, o0, o0, o0, o0, o0, o0] rfl rfl (any_of HT_.out (by kernel_rfl)) (fun _ _ _ h => h) (Or.inl ⟨by rfl, qy⟩) qz ?_; refine pure_ (i := 4) (N := some 6) #[o1, o1, o1, o1, o1, o0, o0, o0, o0, o0, o0, o0, o0, o0] rfl rfl (any_of HT_.out (by kernel_rfl)) (fun _ _ _ h => h) (Or.inl ⟨by rfl, qy⟩) qz ?_; refine pure_ (i := 5) (N := some 7) #[o1, o1, o1, o1, o1, o1, o0, o0, o0, o0, o0, o0, o0, o0] rfl rfl (any_of HT_.out (by kernel_rfl)) (fun _ _ _ h => h) (Or.inl ⟨by rfl, qy⟩) qz ?_; refine pure_ (i := 7) (N := some 9) #[o1, o1, o1, o1, o1, o1, o0, o1, o0, o0, o0, o0, o0, o0] rfl rfl (any_of HT_.out (by kernel_rfl)) (fun _ _ _ h => h) (Or.inl ⟨by rfl, qy⟩) qz ?_; refine pure_ (i := 8) (N := some 10) #[o1, o1, o1, o1, o1, o1, o0, o1, o1, o0, o0, o0, o0, o0] rfl rfl (any_of HT_.out (by kernel_rfl)) (fun _ _ _ h => h) (Or.inl ⟨by rfl, qy⟩) qz ?_; refine pure_ (i := 9) (N := some 11) #[o1, o1, o1, o1, o1, o1, o0, o1, o1, o1, o0, o0, o0, o0] rfl rfl (any_of HT_.out (by kernel_rfl)) (fun _ _ _ h => h) (Or.inl ⟨by rfl, qy⟩) qz ?_; refine take_ (i := 6) (N := some 8) (v := ?_) (a' := ?_) #[o1, o1, o1, o1, o1, o1, o1, o1, o1, o1, o0, o0, o0, o0] rfl rfl (take_ofW HT_.out HW_.out (by kernel_rfl)) (fun _ _ _ h => h) (Or.inl ⟨by rfl, ?_⟩) hHeld ?_ ?_; rotate_left
      · rintro w' ⟨s0, s1, s2, s3⟩
        go_simp; with_reducible rfl
      rotate_left
      · simp only [Act.put, zH, zI, zJ, i64_w, i32_w]
        rfl
      refine take_ (i := 10) (N := some 12) (v := ?_) (a' := ?_) #[o1, o1, o1, o1, o1, o1, o1, o1, o1, o1, o1, o0, o0, o0] rfl rfl (take_ofW HT_.out HW_.out (by kernel_rfl)) (fun _ _ _ h => h) (Or.inl ⟨by rfl, ?_⟩) hHeld ?_ ?_; rotate_left
      · rintro w' ⟨s0, s1, s2, s3⟩
        go_simp; with_reducible rfl
      rotate_left
      · simp only [Act.put, zH, zI, zJ, i64_w, i32_w]
        rfl
      refine pure_ (i := 11) (N := some 13) #[o1, o1, o1, o1, o1, o1, o1, o1, o1, o1, o1, o1, o0, o0] rfl rfl (any_of HT_.out (by kernel_rfl)) (fun _ _ _ h => h) (Or.inl ⟨by rfl, qy⟩) qz ?_; refine pure_ (i := 12) (N := some 14) #[o1, o1, o1, o1, o1, o1, o1, o1, o1, o1, o1, o1, o1, o0] rfl rfl (any_of HT_.out (by kernel_rfl)) (fun _ _ _ h => h) (Or.inl ⟨by rfl, qy⟩) qz ?_; refine pure_ (i := 13) (N := some 15) #[o1, o1, o1, o1, o1, o1, o1, o1, o1, o1, o1, o1, o1, o1] rfl rfl (any_of HT_.out (by kernel_rfl)) (fun _ _ _ h => h) (Or.inl ⟨by rfl, qy⟩) qz ?_; refine done_ (done_of HT_.out (by kernel_rfl)) ?_; clear BKp0; try go_wp2_with (first | ((with_reducible refine zJq (f := 135) rfl ?_); refine goesL_ (some 17) rfl rfl Try.func135 (by kernel_rfl) rfl #[.pointer (some ⟨g, 0, none⟩), .int .i64 0, .int .i64 6] rfl (by (try simp only [zR, zS, zT]); first | done | rfl | (simp only [zP, zQ]; rfl)) ?_; (with_reducible refine (strict_Reader_done.calls g s0_0 s0_1 s0_2 s0_3 0 6 t106 t107 t108 t109 t110 w0 _ ?side1 ?side2 A5.out).mono ?_); (case side1 => repeat (first | (with_reducible first | exact HI0.out | apply IsS56.alloc | apply IsS56.drewN | apply IsS56.drew) | exact HI0.out)); (case side2 => repeat (first | (with_reducible first | exact HB.out | apply zD | apply zB | apply zC | refine zE ?_ (IsS56.ge HI0.out)) | exact HB.out)); rintro e w8 ⟨rfl, hi, hb, hk⟩; refine ⟨_, rfl, ?_⟩; have n0_ := zA (zBq (qJ HK.out) hk (.inl rfl)); have n1_ := zA (hb); have n2_ := zA (hi); clear HK HB HI0; have HK := n0_; have HB := n1_; have HI0 := n2_; clear n0_ n1_ n2_; (try clear hb); (try clear hb2); (try clear hk); (try clear hi); (try simp only [errW_none, errW_some])))
      first | go_end0 | ((try simp only [Exit.inBlock, Exit.then]); refine bodyPost_ret (results_none rfl _ _ _) rfl ?_)
      exact ⟨qE, by repeat (first | (with_reducible first | exact HI0.out | apply IsS56.alloc | apply IsS56.drewN | apply IsS56.drew) | exact HI0.out), qH HI0.out HB.out, qJ HK.out⟩
    rw [if_neg c4] at H; have c4b0 : decide (s0_1 < (s0_0.size : Int)) = false := zGq c4; clear c4; simp only [zNq, zOq] at H; obtain ⟨rfl, rfl, rfl, rfl⟩ := H; have BKp0 : Aside0 (w.heap[g]? = some (.cells #[.string s0_0, .int .i64 s0_1, errW s0_2, .bool s0_3] 56 (0, 0))) := ⟨by obtain ⟨hb_, _⟩ := HI0.out; exact hb_⟩
    go_enter Try.func74, Try.ntmps74; try go_wp2
    have n0_ := zA (zAq BKp0.out); have n1_ := zA (IsS56.drew HI0.out); have n2_ := zA (zM HK.out); have n3_ := zA (zC HB.out); clear BKp0; clear HI0; clear HK; clear HB; have BKp0 := n0_; have HI0 := n1_; have HK := n2_; have HB := n3_; clear n0_ n1_ n2_ n3_; refine start_ (n := 14) (S := fun w' => w'.cell? ⟨g, 0, none⟩ = some (.string s0_0) ∧ w'.cell? ⟨g, 1, none⟩ = some (.int .i64 s0_1) ∧ w'.cell? ⟨g, 2, none⟩ = some (errW s0_2) ∧ w'.cell? ⟨g, 3, none⟩ = some (.bool s0_3)) (ds := []) #[o0, o0, o0, o0, o0, o0, o0, o0, o0, o0, o0, o0, o0, o0] (by kernel_rfl) rfl rfl ⟨(zF BKp0.out 0).trans rfl, (zF BKp0.out 1).trans rfl, (zF BKp0.out 2).trans rfl, (zF BKp0.out 3).trans rfl⟩ (fun hHeld => ?_); refine with_tabW strict_Reader_End.tab0 strict_Reader_End.bits0 (fun HT_ HW_ => ?_); generalize w.drew = w9 at BKp0 HI0 HK HB hHeld ⊢; refine pure_ (i := 0) (N := some 2) #[o1, o0, o0, o0, o0, o0, o0, o0, o0, o0, o0, o0, o0, o0] rfl rfl (any_of HT_.out (by kernel_rfl)) (fun _ _ _ h => h) (Or.inl ⟨by rfl, qy⟩) qz ?_; refine one_ (i := 1) (N := some 3) #[o1, o1, o0, o0, o0, o0, o0, o0, o0, o0, o0, o0, o0, o0] rfl rfl (one_of HT_.out (by kernel_rfl)) (by decide) (fun K hK => ?_); refine goes_ Try.func133 (by kernel_rfl) rfl #[.pointer (some ⟨g, 0, none⟩)] (by rfl) rfl rfl (by (try simp only [zR, zS, zT]); first | done | rfl | (simp only [zP, zQ]; rfl)) ?_; with_reducible refine (strict_Reader_goes.calls g s0_0 s0_1 s0_2 s0_3 true s0_0 s0_1 s0_2 s0_3 w0 _ ?side1 ?side2 A2.out).mono ?_
    (case side1 => repeat (first | (with_reducible first | exact HI0.out | apply IsS56.alloc | apply IsS56.drewN | apply IsS56.drew | refine IsS56.far ?_ NB0_0.out _) | exact HI0.out))
    (case side2 => repeat (first | (with_reducible first | exact HB.out | apply zD | apply zB | apply zC | refine zE ?_ (IsS56.ge HI0.out) | refine zE ?_ GE0.out) | exact HB.out))
    rintro e w10 ⟨rfl, hi, hb, hk⟩; refine ⟨_, rfl, ?_⟩; have n0_ := zA ((by obtain ⟨hb_, _⟩ := hi; exact hb_ : w10.heap[g]? = some (.cells #[.string s0_0, .int .i64 s0_1, errW s0_2, .bool s0_3] 56 (0, 0)))); have n1_ := zA (zBq (qJ HK.out) hk (.inl rfl)); have n2_ := zA (hb); have n3_ := zA (hi); clear BKp0; clear HK; clear HB; clear HI0; have BKp0 := n0_; have HK := n1_; have HB := n2_; have HI0 := n3_; clear n0_ n1_ n2_ n3_; (try clear hb); (try clear hb2); (try clear hk); (try clear hi); (try simp only [errW_none, errW_some])
    refine hK.out _ _ ⟨(zF BKp0.out 0).trans rfl, (zF BKp0.out 1).trans rfl, (zF BKp0.out 2).trans rfl, (zF BKp0.out 3).trans rfl⟩ (fun hHeld => ?_); clear hK K; refine norm_ (a' := ?_) ?_ ?_; rotate_left
    · show Act.put _ (some 3) _ = _
      simp only [Act.put, zH, zI, zJ, i64_w, i32_w]; rfl
    refine pure_ (i := 2) (N := some 4) #[o1, o1, o1, o0, o0, o0, o0, o0, o0, o0, o0, o0, o0, o0] rfl rfl (any_of HT_.out (by kernel_rfl)) (fun _ _ _ h => h) (Or.inl ⟨by rfl, qy⟩) qz ?_; refine pure_ (i := 3) (N := some 5) #[o1, o1, o1, o1, o0, o0, o0, o0, o0, o0, o0, o0, o0, o0] rfl rfl (any_of HT_.out (by kernel_rfl)) (fun _ _ _ h => h) (Or.inl ⟨by rfl, qy⟩) qz ?_; refine pure_ (i := 4) (N := some 6) #[o1, o1, o1, o1, o1, o0, o0, o0, o0, o0, o0, o0, o0, o0] rfl rfl (any_of HT_.out (by kernel_rfl)) (fun _ _ _ h => h) (Or.inl ⟨by rfl, qy⟩) qz ?_; refine pure_ (i := 5) (N := some 7) #[o1, o1, o1, o1, o1, o1, o0, o0, o0, o0, o0, o0, o0, o0] rfl rfl (any_of HT_.out (by kernel_rfl)) (fun _ _ _ h => h) (Or.inl ⟨by rfl, qy⟩) qz ?_; refine pure_ (i := 7) (N := some 9) #[o1, o1, o1, o1, o1, o1, o0, o1, o0, o0, o0, o0, o0, o0] rfl rfl (any_of HT_.out (by kernel_rfl)) (fun _ _ _ h => h) (Or.inl ⟨by rfl, qy⟩) qz ?_; refine pure_ (i := 8) (N := some 10) #[o1, o1, o1, o1, o1, o1, o0, o1, o1, o0, o0, o0, o0, o0] rfl rfl (any_of HT_.out (by kernel_rfl)) (fun _ _ _ h => h) (Or.inl ⟨by rfl, qy⟩) qz ?_; refine pure_ (i := 9) (N := some 11) #[o1, o1, o1, o1, o1, o1, o0, o1, o1, o1, o0, o0, o0, o0] rfl rfl (any_of HT_.out (by kernel_rfl)) (fun _ _ _ h => h) (Or.inl ⟨by rfl, qy⟩) qz ?_; refine take_ (i := 6) (N := some 8) (v := ?_) (a' := ?_) #[o1, o1, o1, o1, o1, o1, o1, o1, o1, o1, o0, o0, o0, o0] rfl rfl (take_ofW HT_.out HW_.out (by kernel_rfl)) (fun _ _ _ h => h) (Or.inl ⟨by rfl, ?_⟩) hHeld ?_ ?_; rotate_left
    · rintro w' ⟨s0, s1, s2, s3⟩
      go_simp; with_reducible rfl
    rotate_left
    · simp only [Act.put, zH, zI, zJ, i64_w, i32_w]
      rfl
    refine take_ (i := 10) (N := some 12) (v := ?_) (a' := ?_) #[o1, o1, o1, o1, o1, o1, o1, o1, o1, o1, o1, o0, o0, o0] rfl rfl (take_ofW HT_.out HW_.out (by kernel_rfl)) (fun _ _ _ h => h) (Or.inl ⟨by rfl, ?_⟩) hHeld ?_ ?_; rotate_left
    · rintro w' ⟨s0, s1, s2, s3⟩
      go_simp; with_reducible rfl
    rotate_left
    · simp only [Act.put, zH, zI, zJ, i64_w, i32_w]
      rfl
    refine pure_ (i := 11) (N := some 13) #[o1, o1, o1, o1, o1, o1, o1, o1, o1, o1, o1, o1, o0, o0] rfl rfl (any_of HT_.out (by kernel_rfl)) (fun _ _ _ h => h) (Or.inl ⟨by rfl, qy⟩) qz ?_; refine pure_ (i := 12) (N := some 14) #[o1, o1, o1, o1, o1, o1, o1, o1, o1, o1, o1, o1, o1, o0] rfl rfl (any_of HT_.out (by kernel_rfl)) (fun _ _ _ h => h) (Or.inl ⟨by rfl, qy⟩) qz ?_; refine pure_ (i := 13) (N := some 15) #[o1, o1, o1, o1, o1, o1, o1, o1, o1, o1, o1, o1, o1, o1] rfl rfl (any_of HT_.out (by kernel_rfl)) (fun _ _ _ h => h) (Or.inl ⟨by rfl, qy⟩) qz ?_; refine done_ (done_of HT_.out (by kernel_rfl)) ?_; clear BKp0; try go_wp2
    first | go_end0 | ((try simp only [Exit.inBlock, Exit.then]); refine bodyPost_ret (results_none rfl _ _ _) rfl ?_)
    exact ⟨qE, by repeat (first | (with_reducible first | exact HI0.out | apply IsS56.alloc | apply IsS56.drewN | apply IsS56.drew) | exact HI0.out), qH HI0.out HB.out, qJ HK.out⟩
  replace c3 := Bool.eq_false_iff.mpr c3
  subst c3
  have H1 : (some (s0_0, s0_1, s0_2, s0_3)) = some (r1, r2, r3, r4) := by first | (rw [if_neg (show ¬ (false = true) by decide)] at H; exact H) | rfl
  clear H
  have H := H1
  clear H1
  simp only [zNq, zOq] at H
  obtain ⟨rfl, rfl, rfl, rfl⟩ := H
  have BKp0 : Aside0 (w.heap[g]? = some (.cells #[.string s0_0, .int .i64 s0_1, errW s0_2, .bool s0_3] 56 (0, 0))) := ⟨by obtain ⟨hb_, _⟩ := HI0.out; exact hb_⟩
  go_enter Try.func74, Try.ntmps74
  try go_wp2
  have n0_ := zA (zAq BKp0.out); have n1_ := zA (IsS56.drew HI0.out); have n2_ := zA (zM HK.out); have n3_ := zA (zC HB.out); clear BKp0; clear HI0; clear HK; clear HB; have BKp0 := n0_; have HI0 := n1_; have HK := n2_; have HB := n3_; clear n0_ n1_ n2_ n3_
  refine start_ (n := 14) (S := fun w' => True) (ds := []) #[o0, o0, o0, o0, o0, o0, o0, o0, o0, o0, o0, o0, o0, o0] (by kernel_rfl) rfl rfl trivial (fun hHeld => ?_); refine with_tabW strict_Reader_End.tab0 strict_Reader_End.bits0 (fun HT_ HW_ => ?_)
  generalize w.drew = w11 at BKp0 HI0 HK HB hHeld ⊢
  refine pure_ (i := 0) (N := some 2) #[o1, o0, o0, o0, o0, o0, o0, o0, o0, o0, o0, o0, o0, o0] rfl rfl (any_of HT_.out (by kernel_rfl)) (fun _ _ _ h => h) (Or.inl ⟨by rfl, qy⟩) qz ?_
  refine one_ (i := 1) (N := some 3) #[o1, o1, o0, o0, o0, o0, o0, o0, o0, o0, o0, o0, o0, o0] rfl rfl (one_of HT_.out (by kernel_rfl)) (by decide) (fun K hK => ?_)
  refine goes_ Try.func133 (by kernel_rfl) rfl #[.pointer (some ⟨g, 0, none⟩)] (by rfl) rfl rfl (by (try simp only [zR, zS, zT]); first | done | rfl | (simp only [zP, zQ]; rfl)) ?_
  with_reducible refine (strict_Reader_goes.calls g s0_0 s0_1 s0_2 s0_3 false s0_0 s0_1 s0_2 s0_3 w0 _ ?side1 ?side2 A2.out).mono ?_
  (case side1 => repeat (first | (with_reducible first | exact HI0.out | apply IsS56.alloc | apply IsS56.drewN | apply IsS56.drew | refine IsS56.far ?_ NB0_0.out _) | exact HI0.out))
  (case side2 => repeat (first | (with_reducible first | exact HB.out | apply zD | apply zB | apply zC | refine zE ?_ (IsS56.ge HI0.out) | refine zE ?_ GE0.out) | exact HB.out))
  rintro e w12 ⟨rfl, hi, hb, hk⟩
  refine ⟨_, rfl, ?_⟩
  have n0_ := zA ((by obtain ⟨hb_, _⟩ := hi; exact hb_ : w12.heap[g]? = some (.cells #[.string s0_0, .int .i64 s0_1, errW s0_2, .bool s0_3] 56 (0, 0)))); have n1_ := zA (zBq (qJ HK.out) hk (.inl rfl)); have n2_ := zA (hb); have n3_ := zA (hi); clear BKp0; clear HK; clear HB; clear HI0; have BKp0 := n0_; have HK := n1_; have HB := n2_; have HI0 := n3_; clear n0_ n1_ n2_ n3_; (try clear hb); (try clear hb2); (try clear hk); (try clear hi)
  (try simp only [errW_none, errW_some])
  refine hK.out _ _ trivial (fun hHeld => ?_)
  clear hK K
  refine norm_ (a' := ?_) ?_ ?_
  rotate_left
  · show Act.put _ (some 3) _ = _
    simp only [Act.put, zH, zI, zJ, i64_w, i32_w]; rfl
  refine pure_ (i := 2) (N := some 4) #[o1, o1, o1, o0, o0, o0, o0, o0, o0, o0, o0, o0, o0, o0] rfl rfl (any_of HT_.out (by kernel_rfl)) (fun _ _ _ h => h) (Or.inl ⟨by rfl, qy⟩) qz ?_
  refine pure_ (i := 3) (N := some 5) (v := undef) (a' := ?_) #[o1, o1, o1, o1, o0, o0, o0, o0, o0, o0, o0, o0, o0, o0] rfl rfl (any_of HT_.out (by kernel_rfl)) (fun _ _ _ h => h) (Or.inr ⟨by rfl, rfl⟩) ?_ ?_
  rotate_left
  · simp only [Act.put, zH, zI, zJ, i64_w, i32_w]
    rfl
  refine pure_ (i := 4) (N := some 6) (v := undef) (a' := ?_) #[o1, o1, o1, o1, o1, o0, o0, o0, o0, o0, o0, o0, o0, o0] rfl rfl (any_of HT_.out (by kernel_rfl)) (fun _ _ _ h => h) (Or.inr ⟨by rfl, rfl⟩) ?_ ?_
  rotate_left
  · simp only [Act.put, zH, zI, zJ, i64_w, i32_w]
    rfl
  refine pure_ (i := 5) (N := some 7) (v := undef) (a' := ?_) #[o1, o1, o1, o1, o1, o1, o0, o0, o0, o0, o0, o0, o0, o0] rfl rfl (any_of HT_.out (by kernel_rfl)) (fun _ _ _ h => h) (Or.inr ⟨by rfl, rfl⟩) ?_ ?_
  rotate_left
  · simp only [Act.put, zH, zI, zJ, i64_w, i32_w]
    rfl
  refine pure_ (i := 6) (N := some 8) (v := undef) (a' := ?_) #[o1, o1, o1, o1, o1, o1, o1, o0, o0, o0, o0, o0, o0, o0] rfl rfl (any_of HT_.out (by kernel_rfl)) (fun _ _ _ h => h) (Or.inr ⟨by rfl, rfl⟩) ?_ ?_
  rotate_left
  · simp only [Act.put, zH, zI, zJ, i64_w, i32_w]
    rfl
  refine pure_ (i := 7) (N := some 9) (v := undef) (a' := ?_) #[o1, o1, o1, o1, o1, o1, o1, o1, o0, o0, o0, o0, o0, o0] rfl rfl (any_of HT_.out (by kernel_rfl)) (fun _ _ _ h => h) (Or.inr ⟨by rfl, rfl⟩) ?_ ?_
  rotate_left
  · simp only [Act.put, zH, zI, zJ, i64_w, i32_w]
    rfl
  refine pure_ (i := 8) (N := some 10) (v := undef) (a' := ?_) #[o1, o1, o1, o1, o1, o1, o1, o1, o1, o0, o0, o0, o0, o0] rfl rfl (any_of HT_.out (by kernel_rfl)) (fun _ _ _ h => h) (Or.inr ⟨by rfl, rfl⟩) ?_ ?_
  rotate_left
  · simp only [Act.put, zH, zI, zJ, i64_w, i32_w]
    rfl
  refine pure_ (i := 9) (N := some 11) (v := undef) (a' := ?_) #[o1, o1, o1, o1, o1, o1, o1, o1, o1, o1, o0, o0, o0, o0] rfl rfl (any_of HT_.out (by kernel_rfl)) (fun _ _ _ h => h) (Or.inr ⟨by rfl, rfl⟩) ?_ ?_
  rotate_left
  · simp only [Act.put, zH, zI, zJ, i64_w, i32_w]
    rfl
  refine pure_ (i := 10) (N := some 12) (v := undef) (a' := ?_) #[o1, o1, o1, o1, o1, o1, o1, o1, o1, o1, o1, o0, o0, o0] rfl rfl (any_of HT_.out (by kernel_rfl)) (fun _ _ _ h => h) (Or.inr ⟨by rfl, rfl⟩) ?_ ?_
  rotate_left
  · simp only [Act.put, zH, zI, zJ, i64_w, i32_w]
    rfl
  refine pure_ (i := 11) (N := some 13) (v := undef) (a' := ?_) #[o1, o1, o1, o1, o1, o1, o1, o1, o1, o1, o1, o1, o0, o0] rfl rfl (any_of HT_.out (by kernel_rfl)) (fun _ _ _ h => h) (Or.inr ⟨by rfl, rfl⟩) ?_ ?_
  rotate_left
  · simp only [Act.put, zH, zI, zJ, i64_w, i32_w]
    rfl
  refine pure_ (i := 12) (N := some 14) (v := undef) (a' := ?_) #[o1, o1, o1, o1, o1, o1, o1, o1, o1, o1, o1, o1, o1, o0] rfl rfl (any_of HT_.out (by kernel_rfl)) (fun _ _ _ h => h) (Or.inr ⟨by rfl, rfl⟩) ?_ ?_
  rotate_left
  · simp only [Act.put, zH, zI, zJ, i64_w, i32_w]
    rfl
  refine pure_ (i := 13) (N := some 15) #[o1, o1, o1, o1, o1, o1, o1, o1, o1, o1, o1, o1, o1, o1] rfl rfl (any_of HT_.out (by kernel_rfl)) (fun _ _ _ h => h) (Or.inl ⟨by rfl, qy⟩) qz ?_
  refine done_ (done_of HT_.out (by kernel_rfl)) ?_
  clear BKp0
  try go_wp2
  first | go_end0 | ((try simp only [Exit.inBlock, Exit.then]); refine bodyPost_ret (results_none rfl _ _ _) rfl ?_)
  exact ⟨qE, by repeat (first | (with_reducible first | exact HI0.out | apply IsS56.alloc | apply IsS56.drewN | apply IsS56.drew) | exact HI0.out), qH HI0.out HB.out, qJ HK.out⟩
def backhaulref02_SameInts.l0 : Nat → List Int → List Int → Int → Option (Bool)
  | 0, _, _, _ => none
  | k + 1, x0, x1, x5 => if x5 < (x0.length : Int) then (if 0 ≤ x5 then (if x5 < (x1.length : Int) then (if (rd x0 x5) = (rd x1 x5) then (backhaulref02_SameInts.l0 k x0 x1 (wrap64 (x5 + 1))) else (some false)) else (none)) else (none)) else (some true)
def backhaulref02_SameInts.f (k : Nat) (l0 : List Int) (l1 : List Int) : Option (Bool) := if (l0.length : Int) = (l1.length : Int) then (backhaulref02_SameInts.l0 k l0 l1 0) else (some false)
theorem backhaulref02_SameInts.mono_l : ∀ k, (∀ y0 y1 y2, LeO (backhaulref02_SameInts.l0 k y0 y1 y2) (backhaulref02_SameInts.l0 (k + 1) y0 y1 y2))
  | 0 => fun _ _ _ r h => by simp [backhaulref02_SameInts.l0] at h
  | k + 1 => by
    have ih0 := backhaulref02_SameInts.mono_l k
    intro y0 y1 y2
    unfold backhaulref02_SameInts.l0
    repeat' first
    | (with_reducible exact ih0 _ _ _)
    | (with_reducible exact LeO.refl _)
    | (with_reducible exact LeO.none _)
    | (with_reducible refine LeO.ite ?_ ?_)
    | (with_reducible refine LeO.bind ?_ (fun _ => ?_))
    | exact ih0 _ _ _
    | exact LeO.none _
    | refine LeO.ite ?_ ?_
    | refine LeO.bind ?_ (fun _ => ?_)
theorem backhaulref02_SameInts.mono : ∀ a0 a1 k, LeO (backhaulref02_SameInts.f k a0 a1) (backhaulref02_SameInts.f (k + 1) a0 a1) := by
  intro a0 a1 k
  have ih0 := backhaulref02_SameInts.mono_l k
  unfold backhaulref02_SameInts.f
  repeat' first
      | (with_reducible exact ih0 _ _ _)
      | (with_reducible exact LeO.refl _)
      | (with_reducible exact LeO.none _)
      | (with_reducible refine LeO.ite ?_ ?_)
      | (with_reducible refine LeO.bind ?_ (fun _ => ?_))
      | exact ih0 _ _ _
      | exact LeO.none _
      | refine LeO.ite ?_ ?_
      | refine LeO.bind ?_ (fun _ => ?_)
set_option maxHeartbeats 8000000 in
set_option maxRecDepth 100000 in
theorem backhaulref02_SameInts.calls (k : Nat) (A0 : Option Addr) (c0 : Nat) (l0 : List Int) (A1 : Option Addr) (c1 : Nat) (l1 : List Int) (r : Bool) (w : World) (hr0 : Kd.C (Kd.int .i64) w A0 l0.length l0) (hc0 : l0.length ≤ c0) (hr1 : Kd.C (Kd.int .i64) w A1 l1.length l1) (hc1 : l1.length ≤ c1) (h : backhaulref02_SameInts.f k l0 l1 = some r) :
    Calls Try.prog 82 #[.slice A0 l0.length c0, .slice A1 l1.length c1] w fun e w' => e = .returned (.bool r) ∧ Drawn0 w w' := by
  have HR0 := zA hr0
  have HC0 := zA hc0
  clear hr0 hc0
  have HR1 := zA hr1
  have HC1 := zA hc1
  clear hr1 hc1
  have H : (if (l0.length : Int) = (l1.length : Int) then (backhaulref02_SameInts.l0 k l0 l1 0) else (some false)) = some r := h
  clear h
  by_cases c3 : (l0.length : Int) = (l1.length : Int)
  · rw [if_pos c3] at H
    have c3b0 : ((l0.length : Int) == (l1.length : Int)) = true := beq_iff_eq.mpr c3; have c3b1 : ((l0.length : Int) != (l1.length : Int)) = false := bne_eq_false_iff_eq.mpr c3; have c3b2 : (l0.length == l1.length) = true := by first | simpa using c3 | (simp at c3 ⊢; omega)
    clear c3; have H' := zA H; clear H; go_enter Try.func82, Try.ntmps82; go_wp2; repeat (go_quiet (fail); try go_wp2)
    go_loopg [5] k (fun kq v5 w' => ∃ (x5_1 : Int), v5 = .int .i64 x5_1 ∧ Aside0 (backhaulref02_SameInts.l0 kq l0 l1 x5_1 = some r) ∧ Aside0 (kq ≤ k) ∧ Drawn0 w w')
    case atStart => exact ⟨(0), (by first | rfl | (simp; done) | (simp [*]; done)), H', ⟨Nat.le_refl _⟩, by repeat (first | exact Drawn0.refl _ | apply Drawn0.step)⟩
    case round =>
      clear H'; try clear c1
      try clear p2
      try clear c3
      try clear c3b0
      try clear c3b1
      try clear c3b2
      obtain ⟨x5_1, rfl, HA, HK1, ⟨m1, rfl⟩⟩ := hrel; cases gk with
      | zero => exact absurd HA.out (by simp [backhaulref02_SameInts.l0])
      | succ k1 =>
        have H := HA.out; clear HA; simp only [backhaulref02_SameInts.l0] at H; by_cases c4 : x5_1 < (l0.length : Int)
        · rw [if_pos c4] at H
          have c4b0 : decide (x5_1 < (l0.length : Int)) = true := zFq c4; clear c4; by_cases c5 : 0 ≤ x5_1
          · rw [if_pos c5] at H
            have c5b0 : decide (0 ≤ x5_1) = true := zFq c5; clear c5; by_cases c6 : x5_1 < (l1.length : Int)
            · rw [if_pos c6] at H
              have c6b0 : decide (x5_1 < (l1.length : Int)) = true := zFq c6; clear c6; by_cases c7 : (rd l0 x5_1) = (rd l1 x5_1)
              · rw [if_pos c7] at H
                have c7b0 : ((rd l0 x5_1) == (rd l1 x5_1)) = true := beq_iff_eq.mpr c7; have c7b1 : ((rd l0 x5_1) != (rd l1 x5_1)) = false := bne_eq_false_iff_eq.mpr c7; clear c7; have H' := zA H; clear H; have p101 : 0 ≤ (x5_1 : Int) := of_decide_eq_true qA; have q101 : x5_1 < (l0.length : Int) := of_decide_eq_true qA; obtain ⟨ad101, e101, hx101_0⟩ := Kd.at_int HR0.out x5_1 p101 q101; cases e101
                replace p101 := eq_true p101; replace q101 := eq_true q101; have p102 : 0 ≤ (x5_1 : Int) := of_decide_eq_true qA; have q102 : x5_1 < (l1.length : Int) := of_decide_eq_true qA; obtain ⟨ad102, e102, hx102_0⟩ := Kd.at_int HR1.out x5_1 p102 q102; cases e102
                replace p102 := eq_true p102; replace q102 := eq_true q102; go_wp2; repeat (go_quiet (fail); try go_wp2)
                go_roundg k1
                case measure => have := HK1.out; omega
                case rel => exact ⟨(wrap64 (x5_1 + 1)), (by first | rfl | (simp; done) | (simp [*]; done)), H', ⟨by have := HK1.out; omega⟩, by repeat (first | exact Drawn0.refl _ | apply Drawn0.step)⟩
              rw [if_neg c7] at H; have c7b0 : ((rd l0 x5_1) == (rd l1 x5_1)) = false := beq_eq_false_iff_ne.mpr c7; have c7b1 : ((rd l0 x5_1) != (rd l1 x5_1)) = true := bne_iff_ne.mpr c7; obtain rfl := zKq H; have p101 : 0 ≤ (x5_1 : Int) := of_decide_eq_true qA; have q101 : x5_1 < (l0.length : Int) := of_decide_eq_true qA; obtain ⟨ad101, e101, hx101_0⟩ := Kd.at_int HR0.out x5_1 p101 q101; cases e101
              replace p101 := eq_true p101; replace q101 := eq_true q101; have p102 : 0 ≤ (x5_1 : Int) := of_decide_eq_true qA; have q102 : x5_1 < (l1.length : Int) := of_decide_eq_true qA; obtain ⟨ad102, e102, hx102_0⟩ := Kd.at_int HR1.out x5_1 p102 q102; cases e102
              replace p102 := eq_true p102; replace q102 := eq_true q102; go_wp2; repeat (go_quiet (fail); try go_wp2)
              go_ret; exact ⟨by first | rfl | (simp; done) | (simp [*]; done), by repeat (first | exact Drawn0.refl _ | apply Drawn0.step)⟩
            rw [if_neg c6] at H; exact absurd H (by simp)
          rw [if_neg c5] at H; exact absurd H (by simp)
        rw [if_neg c4] at H; have c4b0 : decide (x5_1 < (l0.length : Int)) = false := zGq c4; clear c4; obtain rfl := zKq H; go_wp2; repeat (go_quiet (fail); try go_wp2)
        go_ret; exact ⟨by first | rfl | (simp; done) | (simp [*]; done), by repeat (first | exact Drawn0.refl _ | apply Drawn0.step)⟩
  rw [if_neg c3] at H
  have c3b0 : ((l0.length : Int) == (l1.length : Int)) = false := beq_eq_false_iff_ne.mpr c3
  have c3b1 : ((l0.length : Int) != (l1.length : Int)) = true := bne_iff_ne.mpr c3
  have c3b2 : (l0.length == l1.length) = false := by first | simpa using c3 | (simp at c3 ⊢; omega)
  obtain rfl := zKq H
  go_enter Try.func82, Try.ntmps82
  go_wp2
  repeat (go_quiet (fail); try go_wp2)
  go_ret
  exact ⟨by first | rfl | (simp; done) | (simp [*]; done), by repeat (first | exact Drawn0.refl _ | apply Drawn0.step)⟩
def backhaulref01_SameTexts.l0 : Nat → List ByteArray → List ByteArray → Int → Option (Bool)
  | 0, _, _, _ => none
  | k + 1, x0, x1, x5 => if x5 < (x0.length : Int) then (if 0 ≤ x5 then (if x5 < (x1.length : Int) then (if (rdOf ByteArray.empty x0 x5).toList = (rdOf ByteArray.empty x1 x5).toList then (backhaulref01_SameTexts.l0 k x0 x1 (wrap64 (x5 + 1))) else (some false)) else (none)) else (none)) else (some true)
def backhaulref01_SameTexts.f (k : Nat) (l0 : List ByteArray) (l1 : List ByteArray) : Option (Bool) := if (l0.length : Int) = (l1.length : Int) then (backhaulref01_SameTexts.l0 k l0 l1 0) else (some false)
theorem backhaulref01_SameTexts.mono_l : ∀ k, (∀ y0 y1 y2, LeO (backhaulref01_SameTexts.l0 k y0 y1 y2) (backhaulref01_SameTexts.l0 (k + 1) y0 y1 y2))
  | 0 => fun _ _ _ r h => by simp [backhaulref01_SameTexts.l0] at h
  | k + 1 => by
    have ih0 := backhaulref01_SameTexts.mono_l k
    intro y0 y1 y2
    unfold backhaulref01_SameTexts.l0
    repeat' first
    | (with_reducible exact ih0 _ _ _)
    | (with_reducible exact LeO.refl _)
    | (with_reducible exact LeO.none _)
    | (with_reducible refine LeO.ite ?_ ?_)
    | (with_reducible refine LeO.bind ?_ (fun _ => ?_))
    | exact ih0 _ _ _
    | exact LeO.none _
    | refine LeO.ite ?_ ?_
    | refine LeO.bind ?_ (fun _ => ?_)
theorem backhaulref01_SameTexts.mono : ∀ a0 a1 k, LeO (backhaulref01_SameTexts.f k a0 a1) (backhaulref01_SameTexts.f (k + 1) a0 a1) := by
  intro a0 a1 k
  have ih0 := backhaulref01_SameTexts.mono_l k
  unfold backhaulref01_SameTexts.f
  repeat' first
      | (with_reducible exact ih0 _ _ _)
      | (with_reducible exact LeO.refl _)
      | (with_reducible exact LeO.none _)
      | (with_reducible refine LeO.ite ?_ ?_)
      | (with_reducible refine LeO.bind ?_ (fun _ => ?_))
      | exact ih0 _ _ _
      | exact LeO.none _
      | refine LeO.ite ?_ ?_
      | refine LeO.bind ?_ (fun _ => ?_)
set_option maxHeartbeats 8000000 in
set_option maxRecDepth 100000 in
theorem backhaulref01_SameTexts.calls (k : Nat) (A0 : Option Addr) (c0 : Nat) (l0 : List ByteArray) (A1 : Option Addr) (c1 : Nat) (l1 : List ByteArray) (r : Bool) (w : World) (hr0 : Kd.C Kd.string w A0 l0.length l0) (hc0 : l0.length ≤ c0) (hr1 : Kd.C Kd.string w A1 l1.length l1) (hc1 : l1.length ≤ c1) (h : backhaulref01_SameTexts.f k l0 l1 = some r) :
    Calls Try.prog 84 #[.slice A0 l0.length c0, .slice A1 l1.length c1] w fun e w' => e = .returned (.bool r) ∧ Drawn0 w w' := by
  have HR0 := zA hr0
  have HC0 := zA hc0
  clear hr0 hc0
  have HR1 := zA hr1
  have HC1 := zA hc1
  clear hr1 hc1
  have H : (if (l0.length : Int) = (l1.length : Int) then (backhaulref01_SameTexts.l0 k l0 l1 0) else (some false)) = some r := h
  clear h
  by_cases c3 : (l0.length : Int) = (l1.length : Int)
  · rw [if_pos c3] at H
    have c3b0 : ((l0.length : Int) == (l1.length : Int)) = true := beq_iff_eq.mpr c3; have c3b1 : ((l0.length : Int) != (l1.length : Int)) = false := bne_eq_false_iff_eq.mpr c3; have c3b2 : (l0.length == l1.length) = true := by first | simpa using c3 | (simp at c3 ⊢; omega)
    clear c3; have H' := zA H; clear H; go_enter Try.func84, Try.ntmps84; go_wp2; repeat (go_quiet (fail); try go_wp2)
    go_loopg [5] k (fun kq v5 w' => ∃ (x5_1 : Int), v5 = .int .i64 x5_1 ∧ Aside0 (backhaulref01_SameTexts.l0 kq l0 l1 x5_1 = some r) ∧ Aside0 (kq ≤ k) ∧ Drawn0 w w')
    case atStart => exact ⟨(0), (by first | rfl | (simp; done) | (simp [*]; done)), H', ⟨Nat.le_refl _⟩, by repeat (first | exact Drawn0.refl _ | apply Drawn0.step)⟩
    case round =>
      clear H'; try clear c1
      try clear p2
      try clear c3
      try clear c3b0
      try clear c3b1
      try clear c3b2
      obtain ⟨x5_1, rfl, HA, HK1, ⟨m1, rfl⟩⟩ := hrel; cases gk with
      | zero => exact absurd HA.out (by simp [backhaulref01_SameTexts.l0])
      | succ k1 =>
        have H := HA.out; clear HA; simp only [backhaulref01_SameTexts.l0] at H; by_cases c4 : x5_1 < (l0.length : Int)
        · rw [if_pos c4] at H
          have c4b0 : decide (x5_1 < (l0.length : Int)) = true := zFq c4; clear c4; by_cases c5 : 0 ≤ x5_1
          · rw [if_pos c5] at H
            have c5b0 : decide (0 ≤ x5_1) = true := zFq c5; clear c5; by_cases c6 : x5_1 < (l1.length : Int)
            · rw [if_pos c6] at H
              have c6b0 : decide (x5_1 < (l1.length : Int)) = true := zFq c6; clear c6; by_cases c7 : (rdOf ByteArray.empty l0 x5_1).toList = (rdOf ByteArray.empty l1 x5_1).toList
              · rw [if_pos c7] at H
                have c7b0 : ((rdOf ByteArray.empty l0 x5_1).toList == (rdOf ByteArray.empty l1 x5_1).toList) = true := beq_iff_eq.mpr c7; have c7b1 : ((rdOf ByteArray.empty l0 x5_1).toList != (rdOf ByteArray.empty l1 x5_1).toList) = false := bne_eq_false_iff_eq.mpr c7; clear c7; have H' := zA H; clear H; have p101 : 0 ≤ (x5_1 : Int) := of_decide_eq_true qA; have q101 : x5_1 < (l0.length : Int) := of_decide_eq_true qA; obtain ⟨ad101, e101, hx101_0⟩ := Kd.at_string HR0.out x5_1 p101 q101; cases e101
                replace p101 := eq_true p101; replace q101 := eq_true q101; have p102 : 0 ≤ (x5_1 : Int) := of_decide_eq_true qA; have q102 : x5_1 < (l1.length : Int) := of_decide_eq_true qA; obtain ⟨ad102, e102, hx102_0⟩ := Kd.at_string HR1.out x5_1 p102 q102; cases e102
                replace p102 := eq_true p102; replace q102 := eq_true q102; go_wp2; repeat (go_quiet (fail); try go_wp2)
                go_roundg k1
                case measure => have := HK1.out; omega
                case rel => exact ⟨(wrap64 (x5_1 + 1)), (by first | rfl | (simp; done) | (simp [*]; done)), H', ⟨by have := HK1.out; omega⟩, by repeat (first | exact Drawn0.refl _ | apply Drawn0.step)⟩
              rw [if_neg c7] at H; have c7b0 : ((rdOf ByteArray.empty l0 x5_1).toList == (rdOf ByteArray.empty l1 x5_1).toList) = false := beq_eq_false_iff_ne.mpr c7; have c7b1 : ((rdOf ByteArray.empty l0 x5_1).toList != (rdOf ByteArray.empty l1 x5_1).toList) = true := bne_iff_ne.mpr c7; obtain rfl := zKq H; have p101 : 0 ≤ (x5_1 : Int) := of_decide_eq_true qA; have q101 : x5_1 < (l0.length : Int) := of_decide_eq_true qA; obtain ⟨ad101, e101, hx101_0⟩ := Kd.at_string HR0.out x5_1 p101 q101; cases e101
              replace p101 := eq_true p101; replace q101 := eq_true q101; have p102 : 0 ≤ (x5_1 : Int) := of_decide_eq_true qA; have q102 : x5_1 < (l1.length : Int) := of_decide_eq_true qA; obtain ⟨ad102, e102, hx102_0⟩ := Kd.at_string HR1.out x5_1 p102 q102; cases e102
              replace p102 := eq_true p102; replace q102 := eq_true q102; go_wp2; repeat (go_quiet (fail); try go_wp2)
              go_ret; exact ⟨by first | rfl | (simp; done) | (simp [*]; done), by repeat (first | exact Drawn0.refl _ | apply Drawn0.step)⟩
            rw [if_neg c6] at H; exact absurd H (by simp)
          rw [if_neg c5] at H; exact absurd H (by simp)
        rw [if_neg c4] at H; have c4b0 : decide (x5_1 < (l0.length : Int)) = false := zGq c4; clear c4; obtain rfl := zKq H; go_wp2; repeat (go_quiet (fail); try go_wp2)
        go_ret; exact ⟨by first | rfl | (simp; done) | (simp [*]; done), by repeat (first | exact Drawn0.refl _ | apply Drawn0.step)⟩
  rw [if_neg c3] at H
  have c3b0 : ((l0.length : Int) == (l1.length : Int)) = false := beq_eq_false_iff_ne.mpr c3
  have c3b1 : ((l0.length : Int) != (l1.length : Int)) = true := bne_iff_ne.mpr c3
  have c3b2 : (l0.length == l1.length) = false := by first | simpa using c3 | (simp at c3 ⊢; omega)
  obtain rfl := zKq H
  go_enter Try.func84, Try.ntmps84
  go_wp2
  repeat (go_quiet (fail); try go_wp2)
  go_ret
  exact ⟨by first | rfl | (simp; done) | (simp [*]; done), by repeat (first | exact Drawn0.refl _ | apply Drawn0.step)⟩
def backhaullaw06_read.j0 : Nat → Bool → ByteArray → Int → Option (Int × Int) → Bool → ByteArray → Int → Int → Option (ByteArray × Int × Int × Bool × ByteArray × Int × Option (Int × Int) × Bool)
  | 0, _, _, _, _, _, _, _, _ => none
  | k + 1, x8, x1000, x1001, x1002, x1003, x102000, x102001, x102002 => (strict_Reader_Err.f x1000 x1001 x1002 x1003).bind fun bt181 => ((strict_Why.f bt181.1).bind fun bt186 => (if x8 = true then (if bt186.1 = x102002 then ((strict_Reader_At.f bt181.2.1 bt181.2.2.1 bt181.2.2.2.1 bt181.2.2.2.2).bind fun bt188 => (if bt188.1 = x102001 then (if bt186.1 = 0 then (some (x102000, x102001, x102002, true, bt188.2.1, bt188.2.2.1, bt188.2.2.2.1, bt188.2.2.2.2)) else (some (x102000, x102001, x102002, (bt186.2 == x102001), bt188.2.1, bt188.2.2.1, bt188.2.2.2.1, bt188.2.2.2.2))) else (some (x102000, x102001, x102002, false, bt188.2.1, bt188.2.2.1, bt188.2.2.2.1, bt188.2.2.2.2)))) else (some (x102000, x102001, x102002, false, bt181.2.1, bt181.2.2.1, bt181.2.2.2.1, bt181.2.2.2.2))) else (some (x102000, x102001, x102002, false, bt181.2.1, bt181.2.2.1, bt181.2.2.2.1, bt181.2.2.2.2))))
def backhaullaw06_read.f (k : Nat) (s0_0 : ByteArray) (s0_1 : Int) (s0_2 : Option (Int × Int)) (s0_3 : Bool) (a1_0 : ByteArray) (a1_1 : Int) (a1_2 : Int) (a2_0 : Int) (a2_1 : Int) (a2_2 : Int) : Option (ByteArray × Int × Int × Bool × ByteArray × Int × Option (Int × Int) × Bool) := if a2_0 = 0 then ((backhaulref06_Num.f k a1_0 a1_1 a1_2 a2_1 a2_2).bind fun bt104 => ((strict_Reader_Num.f k s0_0 s0_1 s0_2 s0_3 a2_1 a2_2).bind fun bt109 => (backhaullaw06_read.j0 k (bt109.1 == bt104.2.2.2) bt109.2.1 bt109.2.2.1 bt109.2.2.2.1 bt109.2.2.2.2 bt104.1 bt104.2.1 bt104.2.2.1))) else (if a2_0 = 1 then ((backhaulref06_Text.f k a1_0 a1_1 a1_2 a2_2).bind fun bt114 => ((strict_Reader_Text.f k s0_0 s0_1 s0_2 s0_3 a2_2).bind fun bt119 => (backhaullaw06_read.j0 k (bt119.1.toList == bt114.2.2.2.toList) bt119.2.1 bt119.2.2.1 bt119.2.2.2.1 bt119.2.2.2.2 bt114.1 bt114.2.1 bt114.2.2.1))) else (if a2_0 = 2 then ((backhaulref06_Serial.f k a1_0 a1_1 a1_2).bind fun bt124 => ((strict_Reader_Serial.f k s0_0 s0_1 s0_2 s0_3).bind fun bt129 => (backhaullaw06_read.j0 k (bt129.1.toList == bt124.2.2.2.toList) bt129.2.1 bt129.2.2.1 bt129.2.2.2.1 bt129.2.2.2.2 bt124.1 bt124.2.1 bt124.2.2.1))) else (if a2_0 = 3 then ((backhaulref06_Row.f k a1_0 a1_1 a1_2 a2_1 a2_2).bind fun bt134 => ((strict_Reader_Row.f k s0_0 s0_1 s0_2 s0_3 a2_1 a2_2).bind fun bt141 => ((backhaulref02_SameInts.f k bt141.1 bt134.2.2.2).bind fun t148 => (backhaullaw06_read.j0 k t148 bt141.2.1 bt141.2.2.1 bt141.2.2.2.1 bt141.2.2.2.2 bt134.1 bt134.2.1 bt134.2.2.1)))) else (if a2_0 = 4 then ((backhaulref06_Serials.f k a1_0 a1_1 a1_2 a2_2).bind fun bt149 => ((strict_Reader_Serials.f k s0_0 s0_1 s0_2 s0_3 a2_2).bind fun bt156 => ((backhaulref01_SameTexts.f k bt156.1 bt149.2.2.2).bind fun t163 => (backhaullaw06_read.j0 k t163 bt156.2.1 bt156.2.2.1 bt156.2.2.2.1 bt156.2.2.2.2 bt149.1 bt149.2.1 bt149.2.2.1)))) else (if a2_0 = 5 then ((backhaulref06_Flag.f k a1_0 a1_1 a1_2).bind fun bt164 => ((strict_Reader_Flag.f k s0_0 s0_1 s0_2 s0_3).bind fun bt169 => (backhaullaw06_read.j0 k (bt169.1 == bt164.2.2.2) bt169.2.1 bt169.2.2.1 bt169.2.2.2.1 bt169.2.2.2.2 bt164.1 bt164.2.1 bt164.2.2.1))) else (if a2_0 = 6 then ((backhaulref06_End.f a1_0 a1_1 a1_2).bind fun bt174 => ((strict_Reader_End.f s0_0 s0_1 s0_2 s0_3).bind fun bt177 => (backhaullaw06_read.j0 k true bt177.1 bt177.2.1 bt177.2.2.1 bt177.2.2.2 bt174.1 bt174.2.1 bt174.2.2))) else (backhaullaw06_read.j0 k true s0_0 s0_1 s0_2 s0_3 a1_0 a1_1 a1_2)))))))
theorem backhaullaw06_read.mono_l : ∀ k, (∀ y0 y1 y2 y3 y4 y5 y6 y7, LeO (backhaullaw06_read.j0 k y0 y1 y2 y3 y4 y5 y6 y7) (backhaullaw06_read.j0 (k + 1) y0 y1 y2 y3 y4 y5 y6 y7))
  | 0 => fun _ _ _ _ _ _ _ _ r h => by simp [backhaullaw06_read.j0] at h
  | k + 1 => by
    have ih0 := backhaullaw06_read.mono_l k
    intro y0 y1 y2 y3 y4 y5 y6 y7
    unfold backhaullaw06_read.j0
    repeat' first
    | (with_reducible exact ih0 _ _ _ _ _ _ _ _)
    | (with_reducible exact backhaulref01_SameTexts.mono _ _ _)
    | (with_reducible exact backhaulref02_SameInts.mono _ _ _)
    | (with_reducible exact backhaulref06_Flag.mono _ _ _ _)
    | (with_reducible exact backhaulref06_Num.mono _ _ _ _ _ _)
    | (with_reducible exact backhaulref06_Row.mono _ _ _ _ _ _)
    | (with_reducible exact backhaulref06_Serial.mono _ _ _ _)
    | (with_reducible exact backhaulref06_Serials.mono _ _ _ _ _)
    | (with_reducible exact backhaulref06_Text.mono _ _ _ _ _)
    | (with_reducible exact strict_Reader_Flag.mono _ _ _ _ _)
    | (with_reducible exact strict_Reader_Num.mono _ _ _ _ _ _ _)
    | (with_reducible exact strict_Reader_Row.mono _ _ _ _ _ _ _)
    | (with_reducible exact strict_Reader_Serial.mono _ _ _ _ _)
    | (with_reducible exact strict_Reader_Serials.mono _ _ _ _ _ _)
    | (with_reducible exact strict_Reader_Text.mono _ _ _ _ _ _)
    | (with_reducible exact LeO.refl _)
    | (with_reducible exact LeO.none _)
    | (with_reducible refine LeO.ite ?_ ?_)
    | (with_reducible refine LeO.bind ?_ (fun _ => ?_))
    | exact ih0 _ _ _ _ _ _ _ _
    | exact backhaulref01_SameTexts.mono _ _ _
    | exact backhaulref02_SameInts.mono _ _ _
    | exact backhaulref06_Flag.mono _ _ _ _
    | exact backhaulref06_Num.mono _ _ _ _ _ _
    | exact backhaulref06_Row.mono _ _ _ _ _ _
    | exact backhaulref06_Serial.mono _ _ _ _
    | exact backhaulref06_Serials.mono _ _ _ _ _
    | exact backhaulref06_Text.mono _ _ _ _ _
    | exact strict_Reader_Flag.mono _ _ _ _ _
    | exact strict_Reader_Num.mono _ _ _ _ _ _ _
    | exact strict_Reader_Row.mono _ _ _ _ _ _ _
    | exact strict_Reader_Serial.mono _ _ _ _ _
    | exact strict_Reader_Serials.mono _ _ _ _ _ _
    | exact strict_Reader_Text.mono _ _ _ _ _ _
    | exact LeO.none _
    | refine LeO.ite ?_ ?_
    | refine LeO.bind ?_ (fun _ => ?_)
theorem backhaullaw06_read.mono : ∀ a0 a1 a2 a3 a4 a5 a6 a7 a8 a9 k, LeO (backhaullaw06_read.f k a0 a1 a2 a3 a4 a5 a6 a7 a8 a9) (backhaullaw06_read.f (k + 1) a0 a1 a2 a3 a4 a5 a6 a7 a8 a9) := by
  intro a0 a1 a2 a3 a4 a5 a6 a7 a8 a9 k
  have ih0 := backhaullaw06_read.mono_l k
  unfold backhaullaw06_read.f
  repeat' first
      | (with_reducible exact ih0 _ _ _ _ _ _ _ _)
      | (with_reducible exact backhaulref01_SameTexts.mono _ _ _)
      | (with_reducible exact backhaulref02_SameInts.mono _ _ _)
      | (with_reducible exact backhaulref06_Flag.mono _ _ _ _)
      | (with_reducible exact backhaulref06_Num.mono _ _ _ _ _ _)
      | (with_reducible exact backhaulref06_Row.mono _ _ _ _ _ _)
      | (with_reducible exact backhaulref06_Serial.mono _ _ _ _)
      | (with_reducible exact backhaulref06_Serials.mono _ _ _ _ _)
      | (with_reducible exact backhaulref06_Text.mono _ _ _ _ _)
      | (with_reducible exact strict_Reader_Flag.mono _ _ _ _ _)
      | (with_reducible exact strict_Reader_Num.mono _ _ _ _ _ _ _)
      | (with_reducible exact strict_Reader_Row.mono _ _ _ _ _ _ _)
      | (with_reducible exact strict_Reader_Serial.mono _ _ _ _ _)
      | (with_reducible exact strict_Reader_Serials.mono _ _ _ _ _ _)
      | (with_reducible exact strict_Reader_Text.mono _ _ _ _ _ _)
      | (with_reducible exact LeO.refl _)
      | (with_reducible exact LeO.none _)
      | (with_reducible refine LeO.ite ?_ ?_)
      | (with_reducible refine LeO.bind ?_ (fun _ => ?_))
      | exact ih0 _ _ _ _ _ _ _ _
      | exact backhaulref01_SameTexts.mono _ _ _
      | exact backhaulref02_SameInts.mono _ _ _
      | exact backhaulref06_Flag.mono _ _ _ _
      | exact backhaulref06_Num.mono _ _ _ _ _ _
      | exact backhaulref06_Row.mono _ _ _ _ _ _
      | exact backhaulref06_Serial.mono _ _ _ _
      | exact backhaulref06_Serials.mono _ _ _ _ _
      | exact backhaulref06_Text.mono _ _ _ _ _
      | exact strict_Reader_Flag.mono _ _ _ _ _
      | exact strict_Reader_Num.mono _ _ _ _ _ _ _
      | exact strict_Reader_Row.mono _ _ _ _ _ _ _
      | exact strict_Reader_Serial.mono _ _ _ _ _
      | exact strict_Reader_Serials.mono _ _ _ _ _ _
      | exact strict_Reader_Text.mono _ _ _ _ _ _
      | exact LeO.none _
      | refine LeO.ite ?_ ?_
      | refine LeO.bind ?_ (fun _ => ?_)
def backhaullaw06_read.T5 : Bool × List (List Nat × List Nat) := (true, [([], []), ([], []), ([], []), ([2], [2]), ([], []), ([4], [4]), ([1, 3, 5], [1, 3, 5]), ([], []), ([6, 7], [6, 7]), ([0, 6, 0], [0]), ([8, 9, 0, 1, 2, 3, 4, 5, 6, 7, 8, 9], [8])])
def backhaullaw06_read.B5 : List Nat := [0, 0, 0, 4, 0, 16, 62, 0, 254, 127, 1023]
theorem backhaullaw06_read.tab5 : rtab .any (opsOf Try.f37 5) = backhaullaw06_read.T5 := by kernel_rfl
theorem backhaullaw06_read.bits5 : waitsOk backhaullaw06_read.T5.2 backhaullaw06_read.B5 = true := by kernel_rfl
def backhaullaw06_read.T8 : Bool × List (List Nat × List Nat) := (true, [([], []), ([], []), ([], []), ([2], [2]), ([1, 3], [1, 3]), ([], []), ([4, 5], [4, 5]), ([0, 4, 0], [0]), ([6, 7, 0, 1, 2, 3, 4, 5, 6, 7], [6])])
def backhaullaw06_read.B8 : List Nat := [0, 0, 0, 4, 14, 0, 62, 31, 255]
theorem backhaullaw06_read.tab8 : rtab .any (opsOf Try.f37 8) = backhaullaw06_read.T8 := by kernel_rfl
theorem backhaullaw06_read.bits8 : waitsOk backhaullaw06_read.T8.2 backhaullaw06_read.B8 = true := by kernel_rfl
def backhaullaw06_read.T14 : Bool × List (List Nat × List Nat) := (true, [([], []), ([], []), ([], []), ([2], [2]), ([], []), ([4], [4]), ([1, 3, 5], [1, 3, 5]), ([], []), ([6, 7, 6], [6, 7]), ([0, 8, 0], [0]), ([8, 9, 0, 1, 2, 3, 4, 5, 6, 7, 8, 9], [8])])
def backhaullaw06_read.B14 : List Nat := [0, 0, 0, 4, 0, 16, 62, 0, 254, 511, 1023]
theorem backhaullaw06_read.tab14 : rtab .any (opsOf Try.f37 14) = backhaullaw06_read.T14 := by kernel_rfl
theorem backhaullaw06_read.bits14 : waitsOk backhaullaw06_read.T14.2 backhaullaw06_read.B14 = true := by kernel_rfl
def backhaullaw06_read.T17 : Bool × List (List Nat × List Nat) := (true, [([], []), ([], []), ([], []), ([2], [2]), ([1, 3], [1, 3]), ([], []), ([4, 5, 4], [4, 5]), ([0, 6, 0], [0]), ([6, 7, 0, 1, 2, 3, 4, 5, 6, 7], [6])])
def backhaullaw06_read.B17 : List Nat := [0, 0, 0, 4, 14, 0, 62, 127, 255]
theorem backhaullaw06_read.tab17 : rtab .any (opsOf Try.f37 17) = backhaullaw06_read.T17 := by kernel_rfl
theorem backhaullaw06_read.bits17 : waitsOk backhaullaw06_read.T17.2 backhaullaw06_read.B17 = true := by kernel_rfl
def backhaullaw06_read.T25 : Bool × List (List Nat × List Nat) := (true, [([], []), ([], []), ([1], [1]), ([2], [2]), ([2], [2]), ([4, 2], [2, 4]), ([3, 5, 2], [2, 3, 5]), ([2, 6], [2, 6]), ([7, 2], [7]), ([8], [8]), ([9, 8, 8], [8, 9]), ([8], [8]), ([11, 8], [8, 11]), ([10, 12, 8], [8, 10, 12]), ([8, 13], [8, 13]), ([14, 10], [14]), ([15], [15]), ([16, 15], [15, 16]), ([17, 15, 15], [15, 17]), ([18], [18]), ([18], [18]), ([20, 18], [18, 20]), ([19, 21, 18], [18, 19, 21]), ([18, 22, 15], [15, 18, 22]), ([15, 23], [15, 23]), ([0, 18, 0], [0]), ([24, 25, 0, 1, 2, 3, 4, 5, 6, 7, 8, 9, 10, 11, 12, 13, 14, 15, 16, 17, 18, 19, 20, 21, 22, 23, 24, 25], [24])])
def backhaullaw06_read.B25 : List Nat := [0, 0, 2, 6, 6, 22, 62, 126, 254, 510, 1022, 510, 2558, 8190, 16382, 32766, 65534, 131070, 262142, 524286, 524286, 1572862, 4194302, 8388606, 16777214, 524287, 67108863]
theorem backhaullaw06_read.tab25 : rtab .any (opsOf Try.f37 25) = backhaullaw06_read.T25 := by kernel_rfl
theorem backhaullaw06_read.bits25 : waitsOk backhaullaw06_read.T25.2 backhaullaw06_read.B25 = true := by kernel_rfl
end Go.Proofs.Ytakkhomjpflkbaa.F
