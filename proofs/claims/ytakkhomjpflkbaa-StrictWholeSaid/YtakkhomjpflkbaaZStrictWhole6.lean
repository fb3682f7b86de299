-- merged and pruned by prune.py (the session's own program); its words go back to the kit's print
import Derived.Test.YtakkhomjpflkbaaProg
import Derived.Below
import Derived.Deep.Draws
import Derived.Deep.AppendLies
import Derived.Maps.AppendAt
import Derived.OwnWalk
import Derived.Laws.BytesArg
import Derived.Laws.MakeOwn
import Derived.Laws.OwnMore
import Derived.Deep.OwnRows
import Derived.Tactics
import Derived.Lib.ConvBytes
import Derived.Laws.Slices
import Derived.WalkKit
import Derived.KernelRfl
import Derived.RowKit3
import Derived.Deep.LoopGhost
import Derived.Deep.QuietTactic
import Derived.BigQuiet
import Derived.WideLaws
import Derived.Deep.DeepCutAuto
import Derived.Deep.CutBlock
import Derived.Deep.RegionHeld3
import Derived.Laws.Rows
import Derived.Lib.AppendStr
import Derived.ArgAppend
import Derived.Laws.IdiomCopy
import Derived.OrdersHeld
import Derived.Laws.BitsLemmas
import Derived.RowKit
import Derived.Laws.StructEq
import Derived.Deep.RegionLawGrows
import Derived.Lib.SliceRun
import Derived.Shelf.Strings.BuilderK
import Derived.Shelf.Strings.Builder1
import Derived.Shelf.Strings.BuilderF
import Derived.Shelf.Utf8.RuneCount
import Derived.Shelf.Strings.Prefix
import Derived.Lib.OthersKept
import Derived.Lib.RuneCount
import Derived.Laws.Cover4
import Derived.Outline
import Derived.Test.YtakkhomjpflkbaaZStrictWhole5
namespace Go.Proofs.Ytakkhomjpflkbaa.F
open Go.RowKit Go.Proofs.YtakkhomjpflkbaaX Go.Proofs.YtakkhomjpflkbaaW.PrintWords Go.Proofs.YtakkhomjpflkbaaW.PrintLast Go.Proofs.YtakkhomjpflkbaaW.PrintMore
attribute [local go_sem] max2_int min2_int max_two min_two max_three min_three max_four min_four   
attribute [local go_sem high] str_geq str_leq str_gtr
set_option linter.unusedVariables false
set_option linter.unusedSimpArgs false
mutual
def octet_Put.j0 : Nat → Int → Int → Bool → Option (ByteArray × Int)
  | 0, _, _, _ => none
  | k + 1, x0, x1, x23 => if x23 = true then (some ((⟨#[]⟩ : ByteArray), 8)) else (if 0 ≤ x1 then (if (x1 : Int).toNat ≤ 281474976710656 then (octet_Put.l0 k x0 (List.replicate (x1 : Int).toNat 0) (wrap64 (x1 - 1))) else (none)) else (none))
def octet_Put.l0 : Nat → Int → List Int → Int → Option (ByteArray × Int)
  | 0, _, _, _ => none
  | k + 1, x0, x6, x7 => if x7 ≥ 0 then (if 0 ≤ x7 then (if x7 < (x6.length : Int) then (octet_Put.l0 k (x0 / 256) (x6.set (x7 : Int).toNat ((x0) % 256)) (wrap64 (x7 - 1))) else (none)) else (none)) else (some (strOfNums x6, 0))
end
def octet_Put.f (k : Nat) (a0 : Int) (a1 : Int) : Option (ByteArray × Int) := (octet_wide.f a1).bind fun t106 => (if t106 = true then (if a0 < 0 then (octet_Put.j0 k a0 a1 true) else (if a1 < 8 then (if 0 ≤ (wrap64 (8 * a1)) then (octet_Put.j0 k a0 a1 (decide ((shr .i64 a0 (wrap64 (8 * a1))) > 0))) else (none)) else (octet_Put.j0 k a0 a1 false))) else (some ((⟨#[]⟩ : ByteArray), 2)))
theorem octet_Put.mono_l : ∀ k, (∀ y0 y1 y2, LeO (octet_Put.j0 k y0 y1 y2) (octet_Put.j0 (k + 1) y0 y1 y2)) ∧ (∀ y0 y1 y2, LeO (octet_Put.l0 k y0 y1 y2) (octet_Put.l0 (k + 1) y0 y1 y2))
  | 0 => ⟨fun _ _ _ r h => by simp [octet_Put.j0] at h, fun _ _ _ r h => by simp [octet_Put.l0] at h⟩
  | k + 1 => by
    obtain ⟨ih0, ih1⟩ := octet_Put.mono_l k
    refine ⟨?_, ?_⟩
    · intro y0 y1 y2
      unfold octet_Put.j0
      repeat' first
      | (with_reducible exact ih0 _ _ _)
      | (with_reducible exact ih1 _ _ _)
      | (with_reducible exact LeO.refl _)
      | (with_reducible exact LeO.none _)
      | (with_reducible refine LeO.ite ?_ ?_)
      | (with_reducible refine LeO.bind ?_ (fun _ => ?_))
      | exact ih0 _ _ _
      | exact ih1 _ _ _
      | exact LeO.none _
      | refine LeO.ite ?_ ?_
      | refine LeO.bind ?_ (fun _ => ?_)
    · intro y0 y1 y2
      unfold octet_Put.l0
      repeat' first
      | (with_reducible exact ih0 _ _ _)
      | (with_reducible exact ih1 _ _ _)
      | (with_reducible exact LeO.refl _)
      | (with_reducible exact LeO.none _)
      | (with_reducible refine LeO.ite ?_ ?_)
      | (with_reducible refine LeO.bind ?_ (fun _ => ?_))
      | exact ih0 _ _ _
      | exact ih1 _ _ _
      | exact LeO.none _
      | refine LeO.ite ?_ ?_
      | refine LeO.bind ?_ (fun _ => ?_)
theorem octet_Put.mono : ∀ a0 a1 k, LeO (octet_Put.f k a0 a1) (octet_Put.f (k + 1) a0 a1) := by
  intro a0 a1 k
  obtain ⟨ih0, ih1⟩ := octet_Put.mono_l k
  unfold octet_Put.f
  repeat' first
      | (with_reducible exact ih0 _ _ _)
      | (with_reducible exact ih1 _ _ _)
      | (with_reducible exact LeO.refl _)
      | (with_reducible exact LeO.none _)
      | (with_reducible refine LeO.ite ?_ ?_)
      | (with_reducible refine LeO.bind ?_ (fun _ => ?_))
      | exact ih0 _ _ _
      | exact ih1 _ _ _
      | exact LeO.none _
      | refine LeO.ite ?_ ?_
      | refine LeO.bind ?_ (fun _ => ?_)
set_option maxHeartbeats 8000000 in
set_option maxRecDepth 100000 in
theorem octet_Put.calls (k : Nat) (a0 : Int) (a1 : Int) (r1 : ByteArray) (r2 : Int) (w : World) (h : octet_Put.f k a0 a1 = some (r1, r2)) :
    Calls Try.prog 69 #[.int .i64 a0, .int .i64 a1] w fun e w' => e = .returned (.tuple #[.string r1, .int .i64 r2]) ∧ Below w.heap.size w w' := by
  have HB := Aside0.mk (Below.refl w.heap.size w)
  have H : ((octet_wide.f a1).bind fun t106 => (if t106 = true then (if a0 < 0 then (octet_Put.j0 k a0 a1 true) else (if a1 < 8 then (if 0 ≤ (wrap64 (8 * a1)) then (octet_Put.j0 k a0 a1 (decide ((shr .i64 a0 (wrap64 (8 * a1))) > 0))) else (none)) else (octet_Put.j0 k a0 a1 false))) else (some ((⟨#[]⟩ : ByteArray), 2)))) = some (r1, r2) := h
  clear h
  replace H := Option.bind_eq_some_iff.mp H
  obtain ⟨t106, A30, H⟩ := H
  replace H : (if t106 = true then (if a0 < 0 then (octet_Put.j0 k a0 a1 true) else (if a1 < 8 then (if 0 ≤ (wrap64 (8 * a1)) then (octet_Put.j0 k a0 a1 (decide ((shr .i64 a0 (wrap64 (8 * a1))) > 0))) else (none)) else (octet_Put.j0 k a0 a1 false))) else (some ((⟨#[]⟩ : ByteArray), 2))) = some (r1, r2) := H
  have A3 := Aside0.mk A30
  clear A30
  by_cases c4 : t106 = true
  · subst c4
    have H1 : (if a0 < 0 then (octet_Put.j0 k a0 a1 true) else (if a1 < 8 then (if 0 ≤ (wrap64 (8 * a1)) then (octet_Put.j0 k a0 a1 (decide ((shr .i64 a0 (wrap64 (8 * a1))) > 0))) else (none)) else (octet_Put.j0 k a0 a1 false))) = some (r1, r2) := by first | (rw [if_pos rfl] at H; exact H) | rfl
    clear H
    have H := H1
    clear H1
    have HC5 := Aside0.mk H
    clear H
    go_enter Try.func69, Try.ntmps69
    go_upto_region 3 with (first | ((with_reducible refine gate_callee (f := 156) rfl ?_); refine goesL_ (some 9) rfl rfl Try.func156 (by kernel_rfl) rfl #[.int .i64 a1] rfl (by (try simp only [List.map_toArray, List.map_cons, List.map_nil]); first | done | rfl | (simp only [List.length_drop, List.length_take]; rfl)) ?_; (with_reducible refine (octet_wide.calls a1 true _ A3.out).mono ?_); rintro e w' ⟨rfl, ⟨nd, rfl⟩⟩; refine ⟨_, rfl, ?_⟩))
    (try simp only [Act.put, List.setIfInBounds_toArray, List.set_cons_zero, List.set_cons_succ])
    go_cut [23] (fun v23 wc => ∃ (kq : Nat) (x23_4 : Bool), v23 = .bool x23_4 ∧ Aside0 (octet_Put.j0 kq a0 a1 x23_4 = some (r1, r2)) ∧ Aside0 (kq ≤ k) ∧ Aside0 (Below w.heap.size w wc))
    case first =>
      have H := HC5.out
      clear HC5
      by_cases c6 : a0 < 0
      · rw [if_pos c6] at H
        have c6b0 : decide (a0 < 0) = true := decide_eq_true c6
        clear c6
        (first | rw [c6b0] | (simp only [i64_w, i32_w]; rw [c6b0]) | skip)
        have H' := Aside0.mk H
        clear H
        go_wp2
        go_meet
        case rel => exact ⟨_, (true), (by first | rfl | (simp; done) | (simp [*]; done)), H', ⟨by first | omega | exact Nat.le_refl _⟩, ⟨by repeat (first | (with_reducible first | exact HB.out | apply below_alloc | apply pw_below_drewN | apply below_drew1) | exact HB.out)⟩⟩
      · rw [if_neg c6] at H
        have c6b0 : decide (a0 < 0) = false := decide_eq_false c6
        clear c6
        (first | rw [c6b0] | (simp only [i64_w, i32_w]; rw [c6b0]) | skip)
        by_cases c7 : a1 < 8
        · rw [if_pos c7] at H
          have c7b0 : decide (a1 < 8) = true := decide_eq_true c7
          clear c7
          obtain ⟨ji8, hji8⟩ : ∃ j_ : Int, (wrap64 (8 * a1)) = j_ := ⟨_, rfl⟩
          replace H : (if 0 ≤ (ji8) then (octet_Put.j0 k a0 a1 (decide ((shr .i64 a0 (ji8)) > 0))) else (none)) = some (r1, r2) := by first | (rw [hji8] at H; exact H) | (simp only [hji8] at H ⊢; exact H)
          have hji8w : (IntKind.i64.wrap (8 * a1)) = ji8 := (i64_w _).trans hji8
          by_cases c9 : 0 ≤ (ji8)
          · rw [if_pos c9] at H
            have c9b0 := eq_true c9
            have c9b1 : decide (0 ≤ (ji8)) = true := decide_eq_true c9
            clear c9
            obtain ⟨ji10, hji10⟩ : ∃ j_ : Int, (shr .i64 a0 (ji8)) = j_ := ⟨_, rfl⟩
            replace H : (octet_Put.j0 k a0 a1 (decide ((ji10) > 0))) = some (r1, r2) := by first | (rw [hji10] at H; exact H) | (simp only [hji10] at H ⊢; exact H)
            have hji10_ : (a0 / 2 ^ min (ji8).toNat 64) = ji10 := hji10
            have hji10z : (ji8) ≤ 64 → (a0 / 2 ^ (ji8).toNat) = ji10 := shr_small hji10
            have H' := Aside0.mk H
            clear H
            go_wp2
            go_meet
            case rel => exact ⟨_, (decide ((ji10) > 0)), (by first | rfl | (simp; done) | (simp only [← hji10] <;> (first | rfl | simp)) | (simp [*]; done)), H', ⟨by first | omega | exact Nat.le_refl _⟩, ⟨by repeat (first | (with_reducible first | exact HB.out | apply below_alloc | apply pw_below_drewN | apply below_drew1) | exact HB.out)⟩⟩
          · rw [if_neg c9] at H
            exact absurd H (by simp)
        · rw [if_neg c7] at H
          have c7b0 : decide (a1 < 8) = false := decide_eq_false c7
          clear c7
          have H' := Aside0.mk H
          clear H
          go_wp2
          go_meet
          case rel => exact ⟨_, (false), (by first | rfl | (simp; done) | (simp [*]; done)), H', ⟨by first | omega | exact Nat.le_refl _⟩, ⟨by repeat (first | (with_reducible first | exact HB.out | apply below_alloc | apply pw_below_drewN | apply below_drew1) | exact HB.out)⟩⟩
    case rest =>
      clear HC5
      try clear c1
      try clear p2
      try clear c4
      try clear c6
      try clear c6b0
      try clear p6
      try clear c7
      try clear c7b0
      try clear c9
      try clear c9b0
      try clear c9b1
      obtain ⟨kq, x23_4, rfl, HA, HJ4, HB⟩ := hcut
      cases kq with
      | zero => exact absurd HA.out (by simp [octet_Put.j0])
      | succ kj4 =>
        have H := HA.out
        clear HA
        simp only [octet_Put.j0] at H
        by_cases c11 : x23_4 = true
        · subst c11
          have H1 : (some ((⟨#[]⟩ : ByteArray), 8)) = some (r1, r2) := by first | (rw [if_pos rfl] at H; exact H) | rfl
          clear H
          have H := H1
          clear H1
          simp only [Option.some.injEq, Prod.mk.injEq] at H
          obtain ⟨rfl, rfl⟩ := H
          go_wp2
          go_ret2
          exact ⟨by first | rfl | (simp [errW_none, errW_some] <;> rfl) | (simp [*, errW_none, errW_some] <;> rfl), by repeat (first | (with_reducible first | exact HB.out | apply below_alloc | apply pw_below_drewN | apply below_drew1) | exact HB.out)⟩
        · replace c11 := Bool.eq_false_iff.mpr c11
          subst c11
          have H1 : (if 0 ≤ a1 then (if (a1 : Int).toNat ≤ 281474976710656 then (octet_Put.l0 kj4 a0 (List.replicate (a1 : Int).toNat 0) (wrap64 (a1 - 1))) else (none)) else (none)) = some (r1, r2) := by first | (rw [if_neg (show ¬ (false = true) by decide)] at H; exact H) | rfl
          clear H
          have H := H1
          clear H1
          by_cases c12 : 0 ≤ a1
          · rw [if_pos c12] at H
            have c12b0 := eq_true c12
            have c12b1 : decide (0 ≤ a1) = true := decide_eq_true c12
            clear c12
            by_cases c13 : (a1 : Int).toNat ≤ 281474976710656
            · rw [if_pos c13] at H
              have c13b0 := eq_true c13
              have c13b1 : decide ((a1 : Int).toNat ≤ 281474976710656) = true := decide_eq_true c13
              clear c13
              obtain ⟨y107, hy107⟩ : ∃ y_ : List Int, y_ = (List.replicate (a1 : Int).toNat 0) := ⟨_, rfl⟩
              replace H : (octet_Put.l0 kj4 a0 y107 (wrap64 (a1 - 1))) = some (r1, r2) := by first | (rw [hy107]; with_reducible exact H) | (have H2_ := (Option.bind_some _ _).symm.trans H; rw [hy107]; with_reducible exact H2_) | (have H2_ := (Option.bind_some _ _).symm.trans H; with_reducible exact H2_) | with_reducible exact H | (rw [hy107]; exact H) | exact H
              have Ny107 := Aside0.mk hy107
              clear hy107
              have H' := Aside0.mk H
              clear H
              go_wp2_with (first | ((with_reducible refine gate_dst (N := 25) rfl ?_); refine Kd.R_make (Kd.int .u8) _ 5 rfl (N := 25) rfl 180 _ _ rfl a1 rfl rfl Try.underlying180 (.int .u8 0) 1 info5 rfl (by decide) (by omega) 0 (ok := fun _ => True) (okp := fun _ => True) rfl (fun _ hk => hk) trivial (of_decide_eq_true (by first | (with_reducible assumption) | assumption)) (Nat.le_trans (Nat.mul_le_mul_right _ (of_decide_eq_true (by first | (with_reducible assumption) | assumption) : a1.toNat ≤ 281474976710656)) (by omega)) (Below.refl _ _) (Nat.le_refl _) ?_; intro v108 w14 ho15 hb hg_ hnew_; clear hg_ hnew_; (first | rw [← Ny107.out] at ho15 | (simp only [Int.reduceToNat] at ho15; rw [← Ny107.out] at ho15)); have n0_ := Aside0.mk (Kd.R_lower ho15 (below_size (by repeat (first | (with_reducible first | exact HB.out | apply below_alloc | apply pw_below_drewN | apply below_drew1) | exact HB.out)))); have n1_ := Aside0.mk (below_step (by repeat (first | (with_reducible first | exact HB.out | apply below_alloc | apply pw_below_drewN | apply below_drew1) | exact HB.out)) hb); clear HB; have HO109 := n0_; have HB := n1_; clear n0_ n1_; clear hb ho15))
              go_loopg [0, 7] kj4 (fun kq v0 v7 w' => ∃ (x0_2 : Int) (x6_2 : List Int) (x7_2 : Int), v0 = .int .i64 x0_2 ∧ v7 = .int .i64 x7_2 ∧ Aside0 (octet_Put.l0 kq x0_2 x6_2 x7_2 = some (r1, r2)) ∧ Aside0 (kq ≤ kj4) ∧ Aside0 (Kd.R (Kd.int .u8) 5 w' w.heap.size (fun _ => True) v108 x6_2) ∧ Aside0 (Below w.heap.size w w'))
              case atStart => exact ⟨(a0), (y107), (wrap64 (a1 - 1)), (by first | rfl | (simp; done) | (simp [*]; done)), (by first | rfl | (simp; done) | (simp [*]; done)), H', ⟨Nat.le_refl _⟩, ⟨by (with_reducible repeat (first | apply Kd.R_alloc | apply Kd.R_drewN | apply Kd.R_drew)); exact HO109.out⟩, ⟨by repeat (first | (with_reducible first | exact HB.out | apply below_alloc | apply pw_below_drewN | apply below_drew1) | exact HB.out)⟩⟩
              case round =>
                clear H'
                try clear c1
                try clear p2
                try clear c4
                try clear c6
                try clear c6b0
                try clear p6
                try clear c7
                try clear c7b0
                try clear c9
                try clear c9b0
                try clear c9b1
                try clear c11
                try clear c12
                try clear c12b0
                try clear c12b1
                try clear c13
                try clear c13b0
                try clear c13b1
                try clear c15
                try clear p2
                try clear p6
                obtain ⟨x0_2, x6_2, x7_2, rfl, rfl, HA, HK2, HO_6, HB⟩ := hrel
                cases gk with
                | zero => exact absurd HA.out (by simp [octet_Put.l0])
                | succ k2 =>
                  have H := HA.out
                  clear HA
                  simp only [octet_Put.l0] at H
                  by_cases c16 : x7_2 ≥ 0
                  · rw [if_pos c16] at H
                    have c16b0 : decide (0 ≤ x7_2) = true := decide_eq_true c16
                    clear c16
                    by_cases c17 : 0 ≤ x7_2
                    · rw [if_pos c17] at H
                      have c17b0 : decide (0 ≤ x7_2) = true := decide_eq_true c17
                      clear c17
                      by_cases c18 : x7_2 < (x6_2.length : Int)
                      · rw [if_pos c18] at H
                        have c18b0 : decide (x7_2 < (x6_2.length : Int)) = true := decide_eq_true c18
                        clear c18
                        obtain ⟨y110, hy110⟩ : ∃ y_ : List Int, y_ = (x6_2.set (x7_2 : Int).toNat ((x0_2) % 256)) := ⟨_, rfl⟩
                        replace H : (octet_Put.l0 k2 (x0_2 / 256) y110 (wrap64 (x7_2 - 1))) = some (r1, r2) := by first | (rw [hy110]; with_reducible exact H) | (have H2_ := (Option.bind_some _ _).symm.trans H; rw [hy110]; with_reducible exact H2_) | (have H2_ := (Option.bind_some _ _).symm.trans H; with_reducible exact H2_) | with_reducible exact H | (rw [hy110]; exact H) | exact H
                        have Ny110 := Aside0.mk hy110
                        clear hy110
                        have H' := Aside0.mk H
                        clear H
                        have p19 : 0 ≤ (x7_2 : Int) := of_decide_eq_true (by first | (with_reducible assumption) | assumption)
                        have q19 : (x7_2 : Int) < ((x6_2.length : Int) : Int) := of_decide_eq_true (by first | (with_reducible assumption) | assumption)
                        obtain ⟨go19, co19, eo19, gb19, gl19, cl19, HG19⟩ := Kd.R_form HO_6.out (by omega)
                        (first | cases eo19 | (injection eo19 with ea_ en_ ec_; (first | subst ea_ | (injection ea_ with ea_; subst ea_)); subst ec_; clear en_))
                        have GB19 := Aside0.mk gb19
                        have GG19 := Aside0.mk HG19
                        clear gb19 gl19 HG19
                        obtain ⟨hx19_0, hf19_0⟩ := Kd.R_celln 0 HO_6.out (x7_2 : Int) p19 q19
                        replace p19 := eq_true p19
                        replace q19 := eq_true q19
                        have HP20 := Kd.R_putg HO_6.out (x7_2 : Int) ((x0_2) % 256)
                        go_wp2_with (first | ((with_reducible refine gate_store (t := 5) (p := 36) rfl ?_); refine store_event (t := 5) (p := 36) (v := ?vo_w21) (w1 := (wr.setCell ⟨go19, (x7_2 : Int).toNat, none⟩ (.int .u8 ((x0_2) % 256)))) ?hg ?ho ?hn ?hr ?_; (case ho => rfl); (case hg => rfl); (case hn => rfl); (case hr => first | (go_simp; done) | (go_simp; rfl)); intro w21 hw; have hg : wr.grownBy w21 (some go19) := (by rw [hw]; exact HP20.2); have hp_ : Kd.R (Kd.int .u8) 5 w21 w.heap.size (fun _ => True) (.slice (some ⟨go19, 0, none⟩) x6_2.length co19) y110 := (by rw [hw, Ny110.out]; exact HP20.1); clear HP20; have n0_ := Aside0.mk (hp_); have n1_ := Aside0.mk ((by rw [hw]; exact below_set (HB.out) GB19.out : Below w.heap.size w w21)); clear HO_6; clear HB; have HO_6 := n0_; have HB := n1_; clear n0_ n1_; clear hg hw hp_))
                        go_roundg k2
                        case measure => have := HJ4.out; have := HK2.out; omega
                        case rel => exact ⟨(x0_2 / 256), (y110), (wrap64 (x7_2 - 1)), (by first | rfl | (simp; done) | (simp [*]; done)), (by first | rfl | (simp; done) | (simp [*]; done)), H', ⟨by have := HJ4.out; have := HK2.out; omega⟩, ⟨by (with_reducible repeat (first | apply Kd.R_alloc | apply Kd.R_drewN | apply Kd.R_drew)); exact HO_6.out⟩, ⟨by repeat (first | (with_reducible first | exact HB.out | apply below_alloc | apply pw_below_drewN | apply below_drew1) | exact HB.out)⟩⟩
                      · rw [if_neg c18] at H
                        exact absurd H (by simp)
                    · rw [if_neg c17] at H
                      exact absurd H (by simp)
                  · rw [if_neg c16] at H
                    have c16b0 : decide (0 ≤ x7_2) = false := decide_eq_false c16
                    clear c16
                    simp only [Option.some.injEq, Prod.mk.injEq] at H
                    obtain ⟨rfl, rfl⟩ := H
                    have hcv22 := own_string (P := Try.prog) Try.underlying180 Try.underlying5 Try.underlying9 (Kd.own_of_R HO_6.out)
                    go_wp2
                    go_ret2
                    exact ⟨by first | rfl | (simp [errW_none, errW_some] <;> rfl) | (simp [*, errW_none, errW_some] <;> rfl), by repeat (first | (with_reducible first | exact HB.out | apply below_alloc | apply pw_below_drewN | apply below_drew1) | exact HB.out)⟩
            · rw [if_neg c13] at H
              exact absurd H (by simp)
          · rw [if_neg c12] at H
            exact absurd H (by simp)
  · replace c4 := Bool.eq_false_iff.mpr c4
    subst c4
    have H1 : (some ((⟨#[]⟩ : ByteArray), 2)) = some (r1, r2) := by first | (rw [if_neg (show ¬ (false = true) by decide)] at H; exact H) | rfl
    clear H
    have H := H1
    clear H1
    simp only [Option.some.injEq, Prod.mk.injEq] at H
    obtain ⟨rfl, rfl⟩ := H
    go_enter Try.func69, Try.ntmps69
    go_wp2_with (first | ((with_reducible refine gate_callee (f := 156) rfl ?_); refine goesL_ (some 9) rfl rfl Try.func156 (by kernel_rfl) rfl #[.int .i64 a1] rfl (by (try simp only [List.map_toArray, List.map_cons, List.map_nil]); first | done | rfl | (simp only [List.length_drop, List.length_take]; rfl)) ?_; (with_reducible refine (octet_wide.calls a1 false _ A3.out).mono ?_); rintro e w' ⟨rfl, ⟨nd, rfl⟩⟩; refine ⟨_, rfl, ?_⟩))
    go_ret2
    exact ⟨by first | rfl | (simp [errW_none, errW_some] <;> rfl) | (simp [*, errW_none, errW_some] <;> rfl), by repeat (first | (with_reducible first | exact HB.out | apply below_alloc | apply pw_below_drewN | apply below_drew1) | exact HB.out)⟩
end Go.Proofs.Ytakkhomjpflkbaa.F
namespace Go.Proofs.Ytakkhomjpflkbaa.F
open Go.RowKit Go.Proofs.YtakkhomjpflkbaaX Go.Proofs.YtakkhomjpflkbaaW.PrintWords Go.Proofs.YtakkhomjpflkbaaW.PrintLast Go.Proofs.YtakkhomjpflkbaaW.PrintMore
attribute [local go_sem] max2_int min2_int max_two min_two max_three min_three max_four min_four   
attribute [local go_sem high] str_geq str_leq str_gtr
set_option linter.unusedVariables false
set_option linter.unusedSimpArgs false
def octet_Lay.f (k : Nat) (a0 : ByteArray) : Option (ByteArray × Int) := if (a0.size : Int) > 65535 then (some ((⟨#[]⟩ : ByteArray), 3)) else ((octet_Put.f k (a0.size : Int) 2).bind fun bt1298 => (if bt1298.1.size + a0.size ≤ 9223372036854775807 then (some (bt1298.1 ++ a0, bt1298.2)) else (none)))
theorem octet_Lay.mono : ∀ a0 k, LeO (octet_Lay.f k a0) (octet_Lay.f (k + 1) a0) := by
  intro a0 k
  unfold octet_Lay.f
  repeat' first
      | (with_reducible exact octet_Put.mono _ _ _)
      | (with_reducible exact LeO.refl _)
      | (with_reducible exact LeO.none _)
      | (with_reducible refine LeO.ite ?_ ?_)
      | (with_reducible refine LeO.bind ?_ (fun _ => ?_))
      | exact octet_Put.mono _ _ _
      | exact LeO.none _
      | refine LeO.ite ?_ ?_
      | refine LeO.bind ?_ (fun _ => ?_)
set_option maxHeartbeats 8000000 in
set_option maxRecDepth 100000 in
theorem octet_Lay.calls (k : Nat) (a0 : ByteArray) (r1 : ByteArray) (r2 : Int) (w : World) (h : octet_Lay.f k a0 = some (r1, r2)) :
    Calls Try.prog 70 #[.string a0] w fun e w' => e = .returned (.tuple #[.string r1, .int .i64 r2]) ∧ Below w.heap.size w w' := by
  have HB := Aside0.mk (Below.refl w.heap.size w)
  have H : (if (a0.size : Int) > 65535 then (some ((⟨#[]⟩ : ByteArray), 3)) else ((octet_Put.f k (a0.size : Int) 2).bind fun bt1298 => (if bt1298.1.size + a0.size ≤ 9223372036854775807 then (some (bt1298.1 ++ a0, bt1298.2)) else (none)))) = some (r1, r2) := h
  clear h
  by_cases c2 : (a0.size : Int) > 65535
  · rw [if_pos c2] at H
    have c2b0 : decide (65535 < (a0.size : Int)) = true := decide_eq_true c2
    have c2b1 : decide (65535 < a0.size) = true := decide_eq_true (by omega)
    clear c2
    simp only [Option.some.injEq, Prod.mk.injEq] at H
    obtain ⟨rfl, rfl⟩ := H
    go_enter Try.func70, Try.ntmps70
    go_wp2
    go_ret2
    exact ⟨by first | rfl | (simp [errW_none, errW_some] <;> rfl) | (simp [*, errW_none, errW_some] <;> rfl), by repeat (first | (with_reducible first | exact HB.out | apply below_alloc | apply pw_below_drewN | apply below_drew1) | exact HB.out)⟩
  · rw [if_neg c2] at H
    have c2b0 : decide (65535 < (a0.size : Int)) = false := decide_eq_false c2
    have c2b1 : decide (65535 < a0.size) = false := decide_eq_false (by omega)
    clear c2
    replace H := Option.bind_eq_some_iff.mp H
    obtain ⟨⟨t1298, t1299⟩, A30, H⟩ := H
    replace H : (if t1298.size + a0.size ≤ 9223372036854775807 then (some (t1298 ++ a0, t1299)) else (none)) = some (r1, r2) := H
    have A3 := Aside0.mk A30
    clear A30
    by_cases c4 : t1298.size + a0.size ≤ 9223372036854775807
    · rw [if_pos c4] at H
      have c4b0 := eq_true c4
      have c4b1 : decide (t1298.size + a0.size ≤ 9223372036854775807) = true := decide_eq_true c4
      try have c4b2 : (9223372036854775807 < t1298.size + a0.size) = False := eq_false (Nat.not_lt.2 c4)
      simp only [Option.some.injEq, Prod.mk.injEq] at H
      obtain ⟨rfl, rfl⟩ := H
      go_enter Try.func70, Try.ntmps70
      go_wp2_with (first | ((with_reducible refine gate_callee (f := 69) rfl ?_); refine goesL_ (some 12) rfl rfl Try.func69 (by kernel_rfl) rfl #[.int .i64 (a0.size : Int), .int .i64 2] rfl (by (try simp only [List.map_toArray, List.map_cons, List.map_nil]); first | done | rfl | (simp only [List.length_drop, List.length_take]; rfl)) ?_; (with_reducible refine (octet_Put.calls k (a0.size : Int) 2 t1298 t1299 _ A3.out).mono ?_); rintro e w5 ⟨rfl, hb⟩; refine ⟨_, rfl, ?_⟩; have n0_ := Aside0.mk (below_step (by repeat (first | (with_reducible first | exact HB.out | apply below_alloc | apply pw_below_drewN | apply below_drew1) | exact HB.out)) hb); clear HB; have HB := n0_; clear n0_; (try clear hb); (try clear hb2); (try clear hk); (try clear hi)))
      go_ret2
      exact ⟨by first | rfl | (simp [errW_none, errW_some] <;> rfl) | (simp [*, errW_none, errW_some] <;> rfl), by repeat (first | (with_reducible first | exact HB.out | apply below_alloc | apply pw_below_drewN | apply below_drew1) | exact HB.out)⟩
    · rw [if_neg c4] at H
      exact absurd H (by simp)
end Go.Proofs.Ytakkhomjpflkbaa.F
set_option linter.unusedVariables false
set_option linter.unusedSimpArgs false
namespace Go.Proofs.YtakkhomjpflkbaaX
open Go.RowKit Go.Shelf
theorem sizeBuilder : (Try.prog.info? 232).map (·.size) = some 2 := by kernel_rfl
theorem liesBuilder : liesAt Try.prog Try.prog.depth 232 (2 / Try.prog.cellsOf 232) 0 232 1 = true := by kernel_rfl
theorem infoByte : (Try.prog.info? 5).map (fun i => (i.zero, i.size, i.bytes)) = some (some (.int .u8 0), 1, 1) := by kernel_rfl
set_option maxHeartbeats 2000000 in
set_option maxRecDepth 100000 in
theorem copyCheck_used (b : Nat) (w : World) (h0 : w.cell? ⟨b, 0, none⟩ = some (.pointer (some ⟨b, 0, none⟩))) :
    Calls Try.prog 228 #[.pointer (some ⟨b, 0, none⟩)] w fun e w' => e = .returned (.tuple #[]) ∧ w' = w := by
  obtain ⟨j, hj, _⟩ := Option.map_eq_some_iff.1 sizeBuilder
  go_enter Try.func228, Try.ntmps228
  go_wp2
  rw [Lib.run_neq_ptr_same w _ Try.underlying230 hj]
  go_wp2
  go_end0
  exact ⟨rfl, rfl⟩
set_option maxHeartbeats 2000000 in
set_option maxRecDepth 100000 in
theorem copyCheck_fresh (b : Nat) (w : World) (h0 : w.cell? ⟨b, 0, none⟩ = some (.pointer none)) (hsh : w.shape? b = some (232, 2)) (hfz : w.frozen? ⟨b, 0, none⟩ = false) :
    Calls Try.prog 228 #[.pointer (some ⟨b, 0, none⟩)] w fun e w' => e = .returned (.tuple #[]) ∧ w' = w.setCell ⟨b, 0, none⟩ (.pointer (some ⟨b, 0, none⟩)) := by
  obtain ⟨j, hj, hjs⟩ := Option.map_eq_some_iff.1 sizeBuilder
  go_enter Try.func228, Try.ntmps228
  go_wp2
  rw [Lib.run_to_unsafe w ⟨b, 0, none⟩ Try.underlying230 Try.underlying344 hj (by rw [hjs]; decide) hsh (Nat.zero_lt_succ 1)]
  simp only [Result.andThen]
  rw [Oper.upon_value]
  go_wp2
  rw [run_callFunc_extern Try.func261 (by kernel_rfl) (by kernel_rfl) (by kernel_rfl) (e := Extern.AbiNoEscape.same) (by kernel_rfl)]
  rw [Lib.run_noEscape]
  simp only [Result.andThen]
  rw [Oper.upon_value]
  go_wp2
  rw [Lib.run_from_unsafe w ⟨b, 0, none⟩ Try.underlying344 Try.underlying230 hj hsh liesBuilder]
  simp only [Result.andThen]
  rw [Oper.upon_value]
  go_wp2
  go_end0
  exact ⟨rfl, rfl⟩
theorem copyCheck_k (B b : Nat) (bs : List Value) (w : World) (h : Lib.IsBuilderF 232 5 B b bs w) :
    Calls Try.prog 228 #[.pointer (some ⟨b, 0, none⟩)] w fun e w' => e = .returned (.tuple #[]) ∧ (Lib.BuilderAtF 232 5 B b (.pointer (some ⟨b, 0, none⟩)) bs w' ∧ Below B w w' ∧ Lib.OthersKept 5 (some b) w w') := by
  rcases h with h | h
  · refine (copyCheck_fresh b w h.cell0 h.shape h.frozen0).mono ?_
    rintro e w' ⟨rfl, rfl⟩
    exact ⟨rfl, h.used _, (Below.refl B w).setCell (p := ⟨b, 0, none⟩) h.1 _, (Lib.OthersKept.refl _ _ w).setCell ⟨b, 0, none⟩ rfl _⟩
  · refine (copyCheck_used b w h.cell0).mono ?_
    rintro e w' ⟨rfl, rfl⟩
    exact ⟨rfl, h, Below.refl B _, Lib.OthersKept.refl _ _ _⟩
set_option maxHeartbeats 2000000 in
set_option maxRecDepth 100000 in
theorem WriteString_k (B b : Nat) (bs : List Value) (s : ByteArray) (w : World) (h : Lib.IsBuilderF 232 5 B b bs w) (hlen : bs.length + s.size ≤ 140737488355328) (hBw : B ≤ w.heap.size) :
    Calls Try.prog 157 #[.pointer (some ⟨b, 0, none⟩), .string s] w fun e w' => e = .returned (.tuple #[.int .i64 s.size, .nilIface]) ∧ (Lib.BuilderAtF 232 5 B b (.pointer (some ⟨b, 0, none⟩)) (bs ++ Lib.strCells s) w' ∧ Below B w w' ∧ Lib.OthersKept 5 (some b) w w') := by
  obtain ⟨i0, hi, hz0, hz1, hz2⟩ := info_parts infoByte
  go_enter Try.func157, Try.ntmps157
  go_wp2_with (go_at_call 228; refine (copyCheck_k B b bs _ h).mono ?_)
  rintro e w1 ⟨rfl, h1, hb1, hk1⟩
  obtain ⟨hB, v, hbk, hown, hne⟩ := h1
  have c0 : w1.cell? ⟨b, 0, none⟩ = some (.pointer (some ⟨b, 0, none⟩)) := by rw [Lib.cell_of_heap hbk]; rfl
  have c1 : w1.cell? ⟨b, 1, none⟩ = some v := by rw [Lib.cell_of_heap hbk]; rfl
  go_wp2_with (at_builtin; refine Lib.wpList_append_own_stringF _ rfl _ _ 180 9 rfl B 5 i0 Try.underlying180 Try.underlying9 hi hz0 hz1 hz2 _ _ _ rfl hown s rfl ?c3 ?c4 ?c5 ?_)
  case c3 => unfold maxLen; omega
  case c4 => omega
  case c5 => have := hb1.size; omega
  intro v' w2 hown' hgrow _
  have hlt : b < w1.heap.size := by
    rcases Nat.lt_or_ge b w1.heap.size with h' | h'
    · exact h'
    · simp [Array.getElem?_eq_none h'] at hbk
  have hb2 : w2.heap[b]? = some (.cells #[.pointer (some ⟨b, 0, none⟩), v] 232 (0, 0)) := by
    rw [hgrow.block b hlt (fun e => hne e.symm)]
    exact hbk
  have d0 : w2.cell? ⟨b, 0, none⟩ = some (.pointer (some ⟨b, 0, none⟩)) := by rw [Lib.cell_of_heap hb2]; rfl
  have d1 : w2.cell? ⟨b, 1, none⟩ = some v := by rw [Lib.cell_of_heap hb2]; rfl
  have f1 : w2.frozen? ⟨b, 1, none⟩ = false := Lib.frozen_of_heap hb2 1
  obtain ⟨ao, n', cap, rfl⟩ : ∃ ao n' cap, v' = .slice ao n' cap := by
    rcases hown'.2 with ⟨hv, _⟩ | ⟨g, cap, cur, fz, hv, _⟩
    · exact ⟨_, _, _, hv⟩
    · exact ⟨_, _, _, hv⟩
  go_wp2
  go_ret2
  refine ⟨rfl, ?_, ?_, (hk1.grown hgrow (Lib.ownsRowF_kind hown)).setCell ⟨b, 1, none⟩ rfl _⟩
  · exact Lib.BuilderAtF.put (T := 232) (e := 5) hB hb2 (bs' := bs ++ Lib.strCells s) (by simpa [Lib.strCells_length] using hown') (by decide)
  · exact (hb1.grown hgrow (by have := hb1.size; omega) (fun k hk => (hown.lt k hk).1)).setCell (p := ⟨b, 1, none⟩) hB _
theorem _root_.Go.Lib.IsBuilderF.below {T e : TypeId} {B b : Nat} {bs : List Value} {w w1 : World} (h : Lib.IsBuilderF T e B b bs w) (hb : Below w.heap.size w w1) : Lib.IsBuilderF T e B b bs w1 := by
  have key : ∀ p, Lib.BuilderAtF T e B b p bs w → Lib.BuilderAtF T e B b p bs w1 := by
    intro p hp
    have hlt := hp.lt
    obtain ⟨hB, v, hbk, hown, hne⟩ := hp
    exact ⟨hB, v, (hb.block b hlt).trans hbk, hown.kept (Go.Proofs.YtakkhomjpflkbaaW.PrintWords.grown_of_below hb none) (by cases v.ownBlock <;> simp), hne⟩
  exact h.elim (fun x => .inl (key _ x)) (fun x => .inr (key _ x))
end Go.Proofs.YtakkhomjpflkbaaX
namespace Go.Proofs.Ytakkhomjpflkbaa.F
open Go.RowKit Go.Proofs.YtakkhomjpflkbaaX Go.Proofs.YtakkhomjpflkbaaW.PrintWords Go.Proofs.YtakkhomjpflkbaaW.PrintLast Go.Proofs.YtakkhomjpflkbaaW.PrintMore
attribute [local go_sem] max2_int min2_int max_two min_two max_three min_three max_four min_four   
attribute [local go_sem high] str_geq str_leq str_gtr
set_option linter.unusedVariables false
set_option linter.unusedSimpArgs false
def octet_Row.go (k : Nat) (a0 : Int) : List Int → ByteArray → Option (ByteArray × Int)
  | [], acc => some (acc, 0)
  | x :: xs, acc => (octet_Put.f k x a0).bind fun r => if r.2 = 0 then (if acc.size + r.1.size < 140737488355328 then octet_Row.go k a0 xs (acc ++ r.1) else none) else some (⟨#[]⟩, r.2)
def octet_Row.f (k : Nat) (a0 : Int) (l1 : List Int) : Option (ByteArray × Int) := (octet_wide.f a0).bind fun t => if t = true then (if (l1.length : Int) > 1000 then some (⟨#[]⟩, 3) else (octet_Put.f k (l1.length : Int) 2).bind fun r => if r.2 = 0 then (if r.1.size < 140737488355328 then octet_Row.go k a0 l1 r.1 else none) else some (⟨#[]⟩, r.2)) else some (⟨#[]⟩, 2)
theorem octet_Row.mono_go (k : Nat) (a0 : Int) : ∀ l acc, LeO (octet_Row.go k a0 l acc) (octet_Row.go (k + 1) a0 l acc)
  | [], acc => LeO.refl _
  | x :: xs, acc => by
    simp only [octet_Row.go]
    exact LeO.bind (octet_Put.mono _ _ _) (fun r => LeO.ite (LeO.ite (octet_Row.mono_go k a0 xs _) (LeO.refl _)) (LeO.refl _))
theorem octet_Row.mono : ∀ a0 l1 k, LeO (octet_Row.f k a0 l1) (octet_Row.f (k + 1) a0 l1) := by
  intro a0 l1 k
  unfold octet_Row.f
  exact LeO.bind (LeO.refl _) (fun t => LeO.ite (LeO.ite (LeO.refl _) (LeO.bind (octet_Put.mono _ _ _) (fun r => LeO.ite (LeO.ite (octet_Row.mono_go k a0 l1 _) (LeO.refl _)) (LeO.refl _)))) (LeO.refl _))
set_option maxHeartbeats 4000000 in
set_option maxRecDepth 100000 in
theorem octet_Row.calls (k : Nat) (a0 : Int) (A1 : Option Addr) (c1 : Nat) (l1 : List Int) (r1 : ByteArray) (r2 : Int) (w : World) (hr1 : Kd.C (Kd.int .i64) w A1 l1.length l1) (hc1 : l1.length ≤ c1) (h : octet_Row.f k a0 l1 = some (r1, r2)) :
    Calls Try.prog 71 #[.int .i64 a0, .slice A1 l1.length c1] w fun e w' => e = .returned (.tuple #[.string r1, .int .i64 r2]) ∧ Below w.heap.size w w' := by
  unfold octet_Row.f at h
  replace h := Option.bind_eq_some_iff.1 h
  obtain ⟨t, ht, h⟩ := h
  have Ht := Aside0.mk ht
  have HR := Aside0.mk hr1
  have HC := Aside0.mk hc1
  clear ht hr1 hc1
  cases t with
  | false =>
    rw [if_neg (by decide)] at h
    simp only [Option.some.injEq, Prod.mk.injEq] at h
    obtain ⟨rfl, rfl⟩ := h
    go_enter Try.func71, Try.ntmps71
    go_wp2_with (go_at_call 156; refine (octet_wide.calls _ _ _ Ht.out).mono ?_; rintro e w' ⟨rfl, ⟨n, rfl⟩⟩)
    go_ret2
    exact ⟨rfl, by repeat (first | exact Below.refl _ _ | apply pw_below_drewN | apply below_drew)⟩
  | true =>
    rw [if_pos rfl] at h
    by_cases h3 : (l1.length : Int) > 1000
    · rw [if_pos h3] at h
      simp only [Option.some.injEq, Prod.mk.injEq] at h
      obtain ⟨rfl, rfl⟩ := h
      have h3' : decide (1000 < l1.length) = true := decide_eq_true (by omega)
      have h3'' : decide (1000 < (l1.length : Int)) = true := decide_eq_true (by omega)
      clear h3
      go_enter Try.func71, Try.ntmps71
      go_wp2_with (go_at_call 156; refine (octet_wide.calls _ _ _ Ht.out).mono ?_; rintro e w' ⟨rfl, ⟨n, rfl⟩⟩)
      go_ret2
      exact ⟨rfl, by repeat (first | exact Below.refl _ _ | apply pw_below_drewN | apply below_drew)⟩
    · rw [if_neg h3] at h
      have h3' : decide (1000 < l1.length) = false := decide_eq_false (by omega)
      have h3'' : decide (1000 < (l1.length : Int)) = false := decide_eq_false (by omega)
      replace h := Option.bind_eq_some_iff.1 h
      obtain ⟨⟨n1, n2⟩, hp, h⟩ := h
      have Hp := Aside0.mk hp
      have HN := Aside0.mk (show l1.length ≤ 1000 by omega)
      clear hp h3
      dsimp only at h
      by_cases h4 : n2 = 0
      · subst h4
        rw [if_pos rfl] at h
        by_cases h5 : n1.size < 140737488355328
        · rw [if_pos h5] at h
          have H5 := Aside0.mk h5
          have H := Aside0.mk h
          clear h h5
          go_enter Try.func71, Try.ntmps71
          go_wp2_with (first
            | (go_at_call 156; refine (octet_wide.calls _ _ _ Ht.out).mono ?_; rintro e w' ⟨rfl, ⟨nd, rfl⟩⟩)
            | (go_at_call 69; refine (octet_Put.calls k _ _ _ _ _ Hp.out).mono ?_; rintro e w1 ⟨rfl, hb1⟩)
            | (go_at_call 157; refine (WriteString_k w1.heap.size w1.heap.size [] n1 _ (Lib.IsBuilderF.of (Lib.fresh_isBuilder 232 5 w1)) (by have := H5.out; simp; omega) (by simp)).mono ?_; rintro e w2 ⟨rfl, hI, hb2, _⟩))
          have HW1 := Aside0.mk (show Below w.heap.size w w1 from below_then (pw_below_drewN (Below.refl _ _) _) (by simp) hb1)
          have HI0 := Aside0.mk (show Lib.IsBuilderF 232 5 w1.heap.size w1.heap.size (Lib.strCells n1) w2 from .inr hI)
          have HB0 := Aside0.mk (show Below w1.heap.size w1 w2 from (below_alloc (Below.refl w1.heap.size w1) _).trans hb2)
          clear hb1 hI hb2
          go_loopw [34] (fun v34 wr => ∃ (i : Nat) (acc : ByteArray), v34 = .int .i64 i ∧ i ≤ l1.length ∧ Aside0 (Lib.IsBuilderF 232 5 w1.heap.size w1.heap.size (Lib.strCells acc) wr) ∧ Aside0 (Below w1.heap.size w1 wr) ∧ Aside0 (octet_Row.go k a0 (l1.drop i) acc = some (r1, r2)) ∧ Aside0 (acc.size < 140737488355328)) (fun v34 _ => l1.length - (intOf v34).toNat)
          case atStart => exact ⟨0, n1, rfl, by omega, HI0, HB0, H, H5⟩
          case round =>
            obtain ⟨i, acc, rfl, hi, HI, HB, HG, HS⟩ := hrel
            clear HI0 HB0 H H5
            have HRr := Aside0.mk (Kd.C_below HR.out (below_then HW1.out HW1.out.size HB.out))
            by_cases hlt : i < l1.length
            · have hd : l1.drop i = l1[i] :: l1.drop (i + 1) := List.drop_eq_getElem_cons hlt
              have hg := HG.out
              rw [hd] at hg
              simp only [octet_Row.go] at hg
              replace hg := Option.bind_eq_some_iff.1 hg
              obtain ⟨⟨s, e⟩, hp, hg⟩ := hg
              dsimp only at hg
              obtain ⟨ad, e1, hx⟩ := Kd.at_int HRr.out (i : Int) (by omega) (by omega)
              cases e1
              have hrd : rd l1 (i : Int) = l1[i] := by unfold rd; simp [List.getD_eq_getElem?_getD, hlt]
              rw [hrd, Int.toNat_natCast] at hx
              have Hp := Aside0.mk hp
              have HIr := HI
              have t35 : decide ((i : Int) < (l1.length : Int)) = true := decide_eq_true (by omega)
              have w35 : IntKind.i64.wrap ((i : Int) + 1) = ((i + 1 : Nat) : Int) := by have := HN.out; rw [IntWalk.i64_in _ (by omega)]; rfl
              clear hp hd hrd
              by_cases h6 : e = 0
              · subst h6
                rw [if_pos rfl] at hg
                by_cases h7 : acc.size + s.size < 140737488355328
                · rw [if_pos h7] at hg
                  have HG2 := Aside0.mk hg
                  have H7 := Aside0.mk h7
                  clear hg h7 HG
                  go_wp2_with (first
                    | (go_at_call 69; refine (octet_Put.calls k _ _ _ _ _ Hp.out).mono ?_; rintro e w3 ⟨rfl, hb3⟩; have HI3 := Aside0.mk (HI.out.below hb3); have HB3 := Aside0.mk (below_then HB.out HB.out.size hb3); clear hb3)
                    | (go_at_call 157; refine (WriteString_k w1.heap.size w1.heap.size _ s _ HI3.out (by have := H7.out; rw [Lib.strCells_length]; omega) HB3.out.size).mono ?_; rintro e w4 ⟨rfl, hI4, hb4, _⟩; have HI4 := Aside0.mk hI4; have HB4 := Aside0.mk (HB3.out.trans hb4); clear hI4 hb4))
                  go_roundw
                  case rel => exact ⟨i + 1, acc ++ s, by go_num, by omega, ⟨.inr (by have := HI4.out; simpa [Lib.strCells, ByteArray.data_append] using this)⟩, HB4, HG2, ⟨by have := H7.out; simpa using this⟩⟩
                  case measure => simp [intOf]; omega
                · rw [if_neg h7] at hg; cases hg
              · rw [if_neg h6] at hg
                simp only [Option.some.injEq, Prod.mk.injEq] at hg
                obtain ⟨rfl, rfl⟩ := hg
                have h6' : (e != 0) = true := bne_iff_ne.2 h6
                have h6'' : (e == 0) = false := beq_eq_false_iff_ne.2 h6
                clear h6 HG
                go_wp2_with (first
                    | (go_at_call 69; refine (octet_Put.calls k _ _ _ _ _ Hp.out).mono ?_; rintro e w3 ⟨rfl, hb3⟩; have HB3 := Aside0.mk (below_then HB.out HB.out.size hb3); clear hb3))
                go_ret2
                exact ⟨rfl, below_then HW1.out HW1.out.size HB3.out⟩
            · have h0 : l1.drop i = [] := List.drop_eq_nil_of_le (by omega)
              have hg := HG.out
              rw [h0] at hg
              simp only [octet_Row.go, Option.some.injEq, Prod.mk.injEq] at hg
              obtain ⟨rfl, rfl⟩ := hg
              go_wp2_with (go_at_call 158; refine (Try.Builder_String_any_k w1.heap.size w1.heap.size acc.data.toList _ HI.out HB.out.size).mono ?_; rintro e w3 ⟨rfl, _, hb3, _⟩)
              go_ret2
              exact ⟨by simp, below_then HW1.out HW1.out.size (HB.out.trans hb3)⟩
        · rw [if_neg h5] at h; cases h
      · rw [if_neg h4] at h
        simp only [Option.some.injEq, Prod.mk.injEq] at h
        obtain ⟨rfl, rfl⟩ := h
        have h4' : (n2 != 0) = true := bne_iff_ne.2 h4
        have h4'' : (n2 == 0) = false := beq_eq_false_iff_ne.2 h4
        clear h4
        go_enter Try.func71, Try.ntmps71
        go_wp2_with (first
          | (go_at_call 156; refine (octet_wide.calls _ _ _ Ht.out).mono ?_; rintro e w' ⟨rfl, ⟨nd, rfl⟩⟩)
          | (go_at_call 69; refine (octet_Put.calls k _ _ _ _ _ Hp.out).mono ?_; rintro e w1 ⟨rfl, hb1⟩))
        go_ret2
        exact ⟨rfl, below_then (pw_below_drewN (Below.refl _ _) _) (by simp) hb1⟩
end Go.Proofs.Ytakkhomjpflkbaa.F
namespace Go.Proofs.Ytakkhomjpflkbaa.F
open Go.RowKit Go.Proofs.YtakkhomjpflkbaaX Go.Proofs.YtakkhomjpflkbaaW.PrintWords Go.Proofs.YtakkhomjpflkbaaW.PrintLast Go.Proofs.YtakkhomjpflkbaaW.PrintMore
attribute [local go_sem] max2_int min2_int max_two min_two max_three min_three max_four min_four   
attribute [local go_sem high] str_geq str_leq str_gtr
set_option linter.unusedVariables false
set_option linter.unusedSimpArgs false
def backhaulref05_Lay.f (a0 : ByteArray) : Option (ByteArray × Int) := if (a0.size : Int) > 65535 then (some ((⟨#[]⟩ : ByteArray), 3)) else ((some (([((a0.size : Int) / 256) % 256, (a0.size : Int) % 256] : List Int) : List Int)).bind fun y1300 => (if (strOfNums y1300).size + a0.size ≤ 9223372036854775807 then (some ((strOfNums y1300) ++ a0, 0)) else (none)))
set_option maxHeartbeats 8000000 in
set_option maxRecDepth 100000 in
theorem backhaulref05_Lay.calls (a0 : ByteArray) (r1 : ByteArray) (r2 : Int) (w : World) (h : backhaulref05_Lay.f a0 = some (r1, r2)) :
    Calls Try.prog 72 #[.string a0] w fun e w' => e = .returned (.tuple #[.string r1, .int .i64 r2]) ∧ Below w.heap.size w w' := by
  have HB := Aside0.mk (Below.refl w.heap.size w)
  have H : (if (a0.size : Int) > 65535 then (some ((⟨#[]⟩ : ByteArray), 3)) else ((some (([((a0.size : Int) / 256) % 256, (a0.size : Int) % 256] : List Int) : List Int)).bind fun y1300 => (if (strOfNums y1300).size + a0.size ≤ 9223372036854775807 then (some ((strOfNums y1300) ++ a0, 0)) else (none)))) = some (r1, r2) := h
  clear h
  by_cases c2 : (a0.size : Int) > 65535
  · rw [if_pos c2] at H
    have c2b0 : decide (65535 < (a0.size : Int)) = true := decide_eq_true c2
    have c2b1 : decide (65535 < a0.size) = true := decide_eq_true (by omega)
    clear c2
    simp only [Option.some.injEq, Prod.mk.injEq] at H
    obtain ⟨rfl, rfl⟩ := H
    go_enter Try.func72, Try.ntmps72
    go_wp2
    go_ret2
    exact ⟨by first | rfl | (simp [errW_none, errW_some] <;> rfl) | (simp [*, errW_none, errW_some] <;> rfl), by repeat (first | (with_reducible first | exact HB.out | apply below_alloc | apply pw_below_drewN | apply below_drew1) | exact HB.out)⟩
  · rw [if_neg c2] at H
    have c2b0 : decide (65535 < (a0.size : Int)) = false := decide_eq_false c2
    have c2b1 : decide (65535 < a0.size) = false := decide_eq_false (by omega)
    clear c2
    obtain ⟨y1300, hy1300⟩ : ∃ y_ : List Int, y_ = (([((a0.size : Int) / 256) % 256, (a0.size : Int) % 256] : List Int)) := ⟨_, rfl⟩
    replace H : (if (strOfNums y1300).size + a0.size ≤ 9223372036854775807 then (some ((strOfNums y1300) ++ a0, 0)) else (none)) = some (r1, r2) := by first | (rw [hy1300]; with_reducible exact H) | (have H2_ := (Option.bind_some _ _).symm.trans H; rw [hy1300]; with_reducible exact H2_) | (have H2_ := (Option.bind_some _ _).symm.trans H; with_reducible exact H2_) | with_reducible exact H | (rw [hy1300]; exact H) | exact H
    have Ny1300 := Aside0.mk hy1300
    clear hy1300
    by_cases c3 : (strOfNums y1300).size + a0.size ≤ 9223372036854775807
    · rw [if_pos c3] at H
      have c3b0 := eq_true c3
      have c3b1 : decide ((strOfNums y1300).size + a0.size ≤ 9223372036854775807) = true := decide_eq_true c3
      try have c3b2 : (9223372036854775807 < (strOfNums y1300).size + a0.size) = False := eq_false (Nat.not_lt.2 c3)
      simp only [Option.some.injEq, Prod.mk.injEq] at H
      obtain ⟨rfl, rfl⟩ := H
      go_enter Try.func72, Try.ntmps72
      go_wp2_with (first | ((with_reducible refine gate_dst (N := 15) rfl ?_); refine Kd.R_lit (Kd.int .u8) _ 5 ?hg (N := 15) ?hd (xs := ([((a0.size : Int) / 256) % 256, (a0.size : Int) % 256] : List Int)) (inner := [.int .u8 (((a0.size : Int) / 256) % 256), .int .u8 ((a0.size : Int) % 256)]) (ok := fun _ => True) (okp := fun _ => True) ?hr ?hp (fun _ hk => hk) trivial (Below.refl _ _) (Nat.le_refl _) (by simp) ?_; (case hd => rfl); (case hg => rfl); (case hr => first | (go_simp; done) | (go_simp; rfl)); (case hp => exact (Reps.one (show Kd.M (Kd.int .u8) _ _ _ (((a0.size : Int) / 256) % 256) [.int .u8 (((a0.size : Int) / 256) % 256)] from rfl) (Reps.one (show Kd.M (Kd.int .u8) _ _ _ ((a0.size : Int) % 256) [.int .u8 ((a0.size : Int) % 256)] from rfl) (Reps.none _ _)))); intro v1301 w4 ho5 hb hg_ hnew_; clear hg_ hnew_; (first | rw [← Ny1300.out] at ho5 | (simp only [Int.reduceToNat] at ho5; rw [← Ny1300.out] at ho5)); have n0_ := Aside0.mk (Kd.R_lower ho5 (below_size (by repeat (first | (with_reducible first | exact HB.out | apply below_alloc | apply pw_below_drewN | apply below_drew1) | exact HB.out)))); have n1_ := Aside0.mk (below_step (by repeat (first | (with_reducible first | exact HB.out | apply below_alloc | apply pw_below_drewN | apply below_drew1) | exact HB.out)) hb); clear HB; have HO1302 := n0_; have HB := n1_; clear n0_ n1_; clear hb ho5; have hcv6 := own_string (P := Try.prog) Try.underlying180 Try.underlying5 Try.underlying9 (Kd.own_of_R HO1302.out)))
      go_ret2
      exact ⟨by first | rfl | (simp [errW_none, errW_some] <;> rfl) | (simp [*, errW_none, errW_some] <;> rfl), by repeat (first | (with_reducible first | exact HB.out | apply below_alloc | apply pw_below_drewN | apply below_drew1) | exact HB.out)⟩
    · rw [if_neg c3] at H
      exact absurd H (by simp)
end Go.Proofs.Ytakkhomjpflkbaa.F
namespace Go.Proofs.Ytakkhomjpflkbaa.F
open Go.RowKit Go.Proofs.YtakkhomjpflkbaaX Go.Proofs.YtakkhomjpflkbaaW.PrintWords Go.Proofs.YtakkhomjpflkbaaW.PrintLast Go.Proofs.YtakkhomjpflkbaaW.PrintMore
attribute [local go_sem] max2_int min2_int max_two min_two max_three min_three max_four min_four   
attribute [local go_sem high] str_geq str_leq str_gtr
set_option linter.unusedVariables false
set_option linter.unusedSimpArgs false
def octet_Flag.f (a0 : Bool) : Option (ByteArray) := if a0 = true then (some (⟨#[1]⟩ : ByteArray)) else (some (⟨#[0]⟩ : ByteArray))
set_option maxHeartbeats 8000000 in
set_option maxRecDepth 100000 in
theorem octet_Flag.calls (a0 : Bool) (r : ByteArray) (w : World) (h : octet_Flag.f a0 = some r) :
    Calls Try.prog 73 #[.bool a0] w fun e w' => e = .returned (.string r) ∧ Drawn0 w w' := by
  have H : (if a0 = true then (some (⟨#[1]⟩ : ByteArray)) else (some (⟨#[0]⟩ : ByteArray))) = some r := h
  clear h
  by_cases c2 : a0 = true
  · subst c2
    have H1 : (some (⟨#[1]⟩ : ByteArray)) = some r := by first | (rw [if_pos rfl] at H; exact H) | rfl
    clear H
    have H := H1
    clear H1
    obtain rfl := Option.some.inj H
    go_enter Try.func73, Try.ntmps73
    go_wp2
    go_ret
    exact ⟨by first | rfl | (simp; done) | (simp [*]; done), by repeat (first | exact Drawn0.refl _ | apply Drawn0.step)⟩
  · replace c2 := Bool.eq_false_iff.mpr c2
    subst c2
    have H1 : (some (⟨#[0]⟩ : ByteArray)) = some r := by first | (rw [if_neg (show ¬ (false = true) by decide)] at H; exact H) | rfl
    clear H
    have H := H1
    clear H1
    obtain rfl := Option.some.inj H
    go_enter Try.func73, Try.ntmps73
    go_wp2
    go_ret
    exact ⟨by first | rfl | (simp; done) | (simp [*]; done), by repeat (first | exact Drawn0.refl _ | apply Drawn0.step)⟩
end Go.Proofs.Ytakkhomjpflkbaa.F
namespace Go.Proofs.Ytakkhomjpflkbaa.F
open Go.RowKit Go.Proofs.YtakkhomjpflkbaaX Go.Proofs.YtakkhomjpflkbaaW.PrintWords Go.Proofs.YtakkhomjpflkbaaW.PrintLast Go.Proofs.YtakkhomjpflkbaaW.PrintMore
attribute [local go_sem] max2_int min2_int max_two min_two max_three min_three max_four min_four   
attribute [local go_sem high] str_geq str_leq str_gtr
set_option linter.unusedVariables false
set_option linter.unusedSimpArgs false
def strict_Reader_End.f (s0_0 : ByteArray) (s0_1 : Int) (s0_2 : Option (Int × Int)) (s0_3 : Bool) : Option (ByteArray × Int × Option (Int × Int) × Bool) := (strict_Reader_goes.f s0_0 s0_1 s0_2 s0_3).bind fun bt214 => (if bt214.1 = true then (if bt214.2.2.1 < (bt214.2.1.size : Int) then ((strict_Reader_done.f bt214.2.1 bt214.2.2.1 bt214.2.2.2.1 bt214.2.2.2.2 0 6).bind fun bt219 => (some (bt219.2.1, bt219.2.2.1, bt219.2.2.2.1, bt219.2.2.2.2))) else (some (bt214.2.1, bt214.2.2.1, bt214.2.2.2.1, bt214.2.2.2.2))) else (some (bt214.2.1, bt214.2.2.1, bt214.2.2.2.1, bt214.2.2.2.2)))
def strict_Reader_End.T0 : Bool × List (List Nat × List Nat) := (true, [([], []), ([0], [0]), ([1, 1], [1]), ([2], [2]), ([3, 2], [2, 3]), ([4, 2], [2, 4]), ([5, 2], [2, 5]), ([2], [2]), ([7, 2], [2, 7]), ([8, 2], [2, 8]), ([9, 2], [2, 9]), ([10, 2], [2, 10]), ([6, 11, 2], [2, 6, 11]), ([2, 12], [2, 12])])
def strict_Reader_End.B0 : List Nat := [0, 1, 3, 7, 15, 31, 63, 7, 135, 391, 903, 1927, 4095, 8191]
theorem strict_Reader_End.tab0 : rtab .any (opsOf Try.f74 0) = strict_Reader_End.T0 := by kernel_rfl
theorem strict_Reader_End.bits0 : waitsOk strict_Reader_End.T0.2 strict_Reader_End.B0 = true := by kernel_rfl
set_option maxHeartbeats 8000000 in
set_option maxRecDepth 100000 in
theorem strict_Reader_End.calls (g : Nat) (s0_0 : ByteArray) (s0_1 : Int) (s0_2 : Option (Int × Int)) (s0_3 : Bool) (r1 : ByteArray) (r2 : Int) (r3 : Option (Int × Int)) (r4 : Bool) (w0 w : World) (hI : IsS56 w0 w g s0_0 s0_1 s0_2 s0_3) (hB : Below w0.heap.size w0 w) (h : strict_Reader_End.f s0_0 s0_1 s0_2 s0_3 = some (r1, r2, r3, r4)) :
    Calls Try.prog 74 #[.pointer (some ⟨g, 0, none⟩)] w fun e w' => e = .returned (.tuple #[]) ∧ IsS56 w0 w' g r1 r2 r3 r4 ∧ Below w0.heap.size w0 w' ∧ KeepBut w w' g none := by
  have HI0 := Aside0.mk hI
  have HK := Aside0.mk (KeepBut.refl w g none)
  have HL := Aside0.mk hB.size
  clear hI
  have HW0 := Aside0.mk hB.size
  have HB := Aside0.mk hB
  clear hB
  have H : ((strict_Reader_goes.f s0_0 s0_1 s0_2 s0_3).bind fun bt214 => (if bt214.1 = true then (if bt214.2.2.1 < (bt214.2.1.size : Int) then ((strict_Reader_done.f bt214.2.1 bt214.2.2.1 bt214.2.2.2.1 bt214.2.2.2.2 0 6).bind fun bt219 => (some (bt219.2.1, bt219.2.2.1, bt219.2.2.2.1, bt219.2.2.2.2))) else (some (bt214.2.1, bt214.2.2.1, bt214.2.2.2.1, bt214.2.2.2.2))) else (some (bt214.2.1, bt214.2.2.1, bt214.2.2.2.1, bt214.2.2.2.2)))) = some (r1, r2, r3, r4) := h
  clear h
  replace H := Option.bind_eq_some_iff.mp H
  obtain ⟨⟨t214, s0_0, s0_1, s0_2, s0_3⟩, A20, H⟩ := H
  obtain ⟨rfl, rfl, rfl, rfl⟩ := strict_Reader_goes.same A20
  replace H : (if t214 = true then (if s0_1 < (s0_0.size : Int) then ((strict_Reader_done.f s0_0 s0_1 s0_2 s0_3 0 6).bind fun bt219 => (some (bt219.2.1, bt219.2.2.1, bt219.2.2.2.1, bt219.2.2.2.2))) else (some (s0_0, s0_1, s0_2, s0_3))) else (some (s0_0, s0_1, s0_2, s0_3))) = some (r1, r2, r3, r4) := H
  have A2 := Aside0.mk A20
  clear A20
  by_cases c3 : t214 = true
  · subst c3
    have H1 : (if s0_1 < (s0_0.size : Int) then ((strict_Reader_done.f s0_0 s0_1 s0_2 s0_3 0 6).bind fun bt219 => (some (bt219.2.1, bt219.2.2.1, bt219.2.2.2.1, bt219.2.2.2.2))) else (some (s0_0, s0_1, s0_2, s0_3))) = some (r1, r2, r3, r4) := by first | (rw [if_pos rfl] at H; exact H) | rfl
    clear H
    have H := H1
    clear H1
    by_cases c4 : s0_1 < (s0_0.size : Int)
    · rw [if_pos c4] at H
      have c4b0 : decide (s0_1 < (s0_0.size : Int)) = true := decide_eq_true c4
      clear c4
      replace H := Option.bind_eq_some_iff.mp H
      obtain ⟨⟨t219, t220, t221, t222, t223⟩, A50, H⟩ := H
      replace H : (some (t220, t221, t222, t223)) = some (r1, r2, r3, r4) := H
      have A5 := Aside0.mk A50
      clear A50
      simp only [Option.some.injEq, Prod.mk.injEq] at H
      obtain ⟨rfl, rfl, rfl, rfl⟩ := H
      have BKp0 : Aside0 (w.heap[g]? = some (.cells #[.string s0_0, .int .i64 s0_1, errW s0_2, .bool s0_3] 56 (0, 0))) := ⟨by obtain ⟨hb_, _⟩ := HI0.out; exact hb_⟩
      go_enter Try.func74, Try.ntmps74
      try go_wp2
      have n0_ := Aside0.mk (blk_drew BKp0.out)
      have n1_ := Aside0.mk (IsS56.drew HI0.out)
      have n2_ := Aside0.mk (keep_drew HK.out)
      have n3_ := Aside0.mk (below_drew1 HB.out)
      clear BKp0
      clear HI0
      clear HK
      clear HB
      have BKp0 := n0_
      have HI0 := n1_
      have HK := n2_
      have HB := n3_
      clear n0_ n1_ n2_ n3_
      refine start_ (n := 14) (S := fun w' => w'.cell? ⟨g, 0, none⟩ = some (.string s0_0) ∧ w'.cell? ⟨g, 1, none⟩ = some (.int .i64 s0_1) ∧ w'.cell? ⟨g, 2, none⟩ = some (errW s0_2) ∧ w'.cell? ⟨g, 3, none⟩ = some (.bool s0_3)) (ds := []) #[false, false, false, false, false, false, false, false, false, false, false, false, false, false] (by kernel_rfl) rfl rfl ⟨(blk_cell BKp0.out 0).trans rfl, (blk_cell BKp0.out 1).trans rfl, (blk_cell BKp0.out 2).trans rfl, (blk_cell BKp0.out 3).trans rfl⟩ (fun hHeld => ?_); refine with_tabW strict_Reader_End.tab0 strict_Reader_End.bits0 (fun HT_ HW_ => ?_)
      generalize w.drew = w6 at BKp0 HI0 HK HB hHeld ⊢
      refine pure_ (i := 0) (N := some 2) (v := ?_) (a' := ?_) #[true, false, false, false, false, false, false, false, false, false, false, false, false, false] rfl rfl (any_of HT_.out (by kernel_rfl)) (fun _ _ _ h => h) (Or.inl ⟨by rfl, ?_⟩) ?_ ?_
      rotate_left
      · intro w'
        go_simp
        with_reducible rfl
      rotate_left
      · simp only [Act.put, List.setIfInBounds_toArray, List.set_cons_zero, List.set_cons_succ, i64_w, i32_w]
        rfl
      refine one_ (i := 1) (N := some 3) #[true, true, false, false, false, false, false, false, false, false, false, false, false, false] rfl rfl (one_of HT_.out (by kernel_rfl)) (by decide) (fun K hK => ?_)
      refine goes_ Try.func133 (by kernel_rfl) rfl #[.pointer (some ⟨g, 0, none⟩)] (by rfl) rfl rfl (by (try simp only [List.map_toArray, List.map_cons, List.map_nil]); first | done | rfl | (simp only [List.length_drop, List.length_take]; rfl)) ?_
      with_reducible refine (strict_Reader_goes.calls g s0_0 s0_1 s0_2 s0_3 true s0_0 s0_1 s0_2 s0_3 w0 _ ?side1 ?side2 A2.out).mono ?_
      (case side1 => repeat (first | (with_reducible first | exact HI0.out | apply IsS56.alloc | apply IsS56.drewN | apply IsS56.drew | apply IsS56.set_0 | apply IsS56.set_1 | apply IsS56.set_2 | apply IsS56.set_3 | apply IsS56.sete_2 | with_unfolding_all rfl | refine IsS56.far ?_ NB0_0.out _) | exact HI0.out))
      (case side2 => repeat (first | (with_reducible first | exact HB.out | apply below_alloc | apply pw_below_drewN | apply below_drew1 | refine below_set ?_ (IsS56.ge HI0.out) | refine below_set ?_ GE0.out) | exact HB.out))
      rintro e w7 ⟨rfl, hi, hb, hk⟩
      refine ⟨_, rfl, ?_⟩
      have n0_ := Aside0.mk ((by obtain ⟨hb_, _⟩ := hi; exact hb_ : w7.heap[g]? = some (.cells #[.string s0_0, .int .i64 s0_1, errW s0_2, .bool s0_3] 56 (0, 0))))
      have n1_ := Aside0.mk (KeepBut.trans (by repeat (first | (with_reducible first | exact HK.out | apply KeepBut.set_ | apply keep_drewN | apply keep_drew | apply keep_alloc | refine keep_far ?_ GW0.out _) | exact HK.out)) hk (.inl rfl))
      have n2_ := Aside0.mk (hb)
      have n3_ := Aside0.mk (hi)
      clear BKp0
      clear HK
      clear HB
      clear HI0
      have BKp0 := n0_
      have HK := n1_
      have HB := n2_
      have HI0 := n3_
      clear n0_ n1_ n2_ n3_
      (try clear hb)
      (try clear hb2)
      (try clear hk)
      (try clear hi)
      (try simp only [errW_none, errW_some])
      refine hK.out _ _ ⟨(blk_cell BKp0.out 0).trans rfl, (blk_cell BKp0.out 1).trans rfl, (blk_cell BKp0.out 2).trans rfl, (blk_cell BKp0.out 3).trans rfl⟩ (fun hHeld => ?_)
      clear hK K
      refine norm_ (a' := ?_) ?_ ?_
      rotate_left
      · show Act.put _ (some 3) _ = _
        simp only [Act.put, List.setIfInBounds_toArray, List.set_cons_zero, List.set_cons_succ, i64_w, i32_w]
        rfl
      refine pure_ (i := 2) (N := some 4) (v := ?_) (a' := ?_) #[true, true, true, false, false, false, false, false, false, false, false, false, false, false] rfl rfl (any_of HT_.out (by kernel_rfl)) (fun _ _ _ h => h) (Or.inl ⟨by rfl, ?_⟩) ?_ ?_
      rotate_left
      · intro w'
        go_simp
        with_reducible rfl
      rotate_left
      · simp only [Act.put, List.setIfInBounds_toArray, List.set_cons_zero, List.set_cons_succ, i64_w, i32_w]
        rfl
      refine pure_ (i := 3) (N := some 5) (v := ?_) (a' := ?_) #[true, true, true, true, false, false, false, false, false, false, false, false, false, false] rfl rfl (any_of HT_.out (by kernel_rfl)) (fun _ _ _ h => h) (Or.inl ⟨by rfl, ?_⟩) ?_ ?_
      rotate_left
      · intro w'
        go_simp
        with_reducible rfl
      rotate_left
      · simp only [Act.put, List.setIfInBounds_toArray, List.set_cons_zero, List.set_cons_succ, i64_w, i32_w]
        rfl
      refine pure_ (i := 4) (N := some 6) (v := ?_) (a' := ?_) #[true, true, true, true, true, false, false, false, false, false, false, false, false, false] rfl rfl (any_of HT_.out (by kernel_rfl)) (fun _ _ _ h => h) (Or.inl ⟨by rfl, ?_⟩) ?_ ?_
      rotate_left
      · intro w'
        go_simp
        with_reducible rfl
      rotate_left
      · simp only [Act.put, List.setIfInBounds_toArray, List.set_cons_zero, List.set_cons_succ, i64_w, i32_w]
        rfl
      refine pure_ (i := 5) (N := some 7) (v := ?_) (a' := ?_) #[true, true, true, true, true, true, false, false, false, false, false, false, false, false] rfl rfl (any_of HT_.out (by kernel_rfl)) (fun _ _ _ h => h) (Or.inl ⟨by rfl, ?_⟩) ?_ ?_
      rotate_left
      · intro w'
        go_simp
        with_reducible rfl
      rotate_left
      · simp only [Act.put, List.setIfInBounds_toArray, List.set_cons_zero, List.set_cons_succ, i64_w, i32_w]
        rfl
      refine pure_ (i := 7) (N := some 9) (v := ?_) (a' := ?_) #[true, true, true, true, true, true, false, true, false, false, false, false, false, false] rfl rfl (any_of HT_.out (by kernel_rfl)) (fun _ _ _ h => h) (Or.inl ⟨by rfl, ?_⟩) ?_ ?_
      rotate_left
      · intro w'
        go_simp
        with_reducible rfl
      rotate_left
      · simp only [Act.put, List.setIfInBounds_toArray, List.set_cons_zero, List.set_cons_succ, i64_w, i32_w]
        rfl
      refine pure_ (i := 8) (N := some 10) (v := ?_) (a' := ?_) #[true, true, true, true, true, true, false, true, true, false, false, false, false, false] rfl rfl (any_of HT_.out (by kernel_rfl)) (fun _ _ _ h => h) (Or.inl ⟨by rfl, ?_⟩) ?_ ?_
      rotate_left
      · intro w'
        go_simp
        with_reducible rfl
      rotate_left
      · simp only [Act.put, List.setIfInBounds_toArray, List.set_cons_zero, List.set_cons_succ, i64_w, i32_w]
        rfl
      refine pure_ (i := 9) (N := some 11) (v := ?_) (a' := ?_) #[true, true, true, true, true, true, false, true, true, true, false, false, false, false] rfl rfl (any_of HT_.out (by kernel_rfl)) (fun _ _ _ h => h) (Or.inl ⟨by rfl, ?_⟩) ?_ ?_
      rotate_left
      · intro w'
        go_simp
        with_reducible rfl
      rotate_left
      · simp only [Act.put, List.setIfInBounds_toArray, List.set_cons_zero, List.set_cons_succ, i64_w, i32_w]
        rfl
      refine take_ (i := 6) (N := some 8) (v := ?_) (a' := ?_) #[true, true, true, true, true, true, true, true, true, true, false, false, false, false] rfl rfl (take_ofW HT_.out HW_.out (by kernel_rfl)) (fun _ _ _ h => h) (Or.inl ⟨by rfl, ?_⟩) hHeld ?_ ?_
      rotate_left
      · rintro w' ⟨s0, s1, s2, s3⟩
        go_simp
        with_reducible rfl
      rotate_left
      · simp only [Act.put, List.setIfInBounds_toArray, List.set_cons_zero, List.set_cons_succ, i64_w, i32_w]
        rfl
      refine take_ (i := 10) (N := some 12) (v := ?_) (a' := ?_) #[true, true, true, true, true, true, true, true, true, true, true, false, false, false] rfl rfl (take_ofW HT_.out HW_.out (by kernel_rfl)) (fun _ _ _ h => h) (Or.inl ⟨by rfl, ?_⟩) hHeld ?_ ?_
      rotate_left
      · rintro w' ⟨s0, s1, s2, s3⟩
        go_simp
        with_reducible rfl
      rotate_left
      · simp only [Act.put, List.setIfInBounds_toArray, List.set_cons_zero, List.set_cons_succ, i64_w, i32_w]
        rfl
      refine pure_ (i := 11) (N := some 13) (v := ?_) (a' := ?_) #[true, true, true, true, true, true, true, true, true, true, true, true, false, false] rfl rfl (any_of HT_.out (by kernel_rfl)) (fun _ _ _ h => h) (Or.inl ⟨by rfl, ?_⟩) ?_ ?_
      rotate_left
      · intro w'
        go_simp
        with_reducible rfl
      rotate_left
      · simp only [Act.put, List.setIfInBounds_toArray, List.set_cons_zero, List.set_cons_succ, i64_w, i32_w]
        rfl
      refine pure_ (i := 12) (N := some 14) (v := ?_) (a' := ?_) #[true, true, true, true, true, true, true, true, true, true, true, true, true, false] rfl rfl (any_of HT_.out (by kernel_rfl)) (fun _ _ _ h => h) (Or.inl ⟨by rfl, ?_⟩) ?_ ?_
      rotate_left
      · intro w'
        go_simp
        with_reducible rfl
      rotate_left
      · simp only [Act.put, List.setIfInBounds_toArray, List.set_cons_zero, List.set_cons_succ, i64_w, i32_w]
        rfl
      refine pure_ (i := 13) (N := some 15) (v := ?_) (a' := ?_) #[true, true, true, true, true, true, true, true, true, true, true, true, true, true] rfl rfl (any_of HT_.out (by kernel_rfl)) (fun _ _ _ h => h) (Or.inl ⟨by rfl, ?_⟩) ?_ ?_
      rotate_left
      · intro w'
        go_simp
        with_reducible rfl
      rotate_left
      · simp only [Act.put, List.setIfInBounds_toArray, List.set_cons_zero, List.set_cons_succ, i64_w, i32_w]
        rfl
      refine done_ (done_of HT_.out (by kernel_rfl)) ?_
      clear BKp0
      try go_wp2_with (first | ((with_reducible refine gate_callee (f := 135) rfl ?_); refine goesL_ (some 17) rfl rfl Try.func135 (by kernel_rfl) rfl #[.pointer (some ⟨g, 0, none⟩), .int .i64 0, .int .i64 6] rfl (by (try simp only [List.map_toArray, List.map_cons, List.map_nil]); first | done | rfl | (simp only [List.length_drop, List.length_take]; rfl)) ?_; (with_reducible refine (strict_Reader_done.calls g s0_0 s0_1 s0_2 s0_3 0 6 t219 t220 t221 t222 t223 w0 _ ?side1 ?side2 A5.out).mono ?_); (case side1 => repeat (first | (with_reducible first | exact HI0.out | apply IsS56.alloc | apply IsS56.drewN | apply IsS56.drew | apply IsS56.set_0 | apply IsS56.set_1 | apply IsS56.set_2 | apply IsS56.set_3 | apply IsS56.sete_2 | with_unfolding_all rfl) | exact HI0.out)); (case side2 => repeat (first | (with_reducible first | exact HB.out | apply below_alloc | apply pw_below_drewN | apply below_drew1 | refine below_set ?_ (IsS56.ge HI0.out)) | exact HB.out)); rintro e w8 ⟨rfl, hi, hb, hk⟩; refine ⟨_, rfl, ?_⟩; have n0_ := Aside0.mk (KeepBut.trans (by repeat (first | (with_reducible first | exact HK.out | apply KeepBut.set_ | apply keep_drewN | apply keep_drew | apply keep_alloc) | exact HK.out)) hk (.inl rfl)); have n1_ := Aside0.mk (hb); have n2_ := Aside0.mk (hi); clear HK; clear HB; clear HI0; have HK := n0_; have HB := n1_; have HI0 := n2_; clear n0_ n1_ n2_; (try clear hb); (try clear hb2); (try clear hk); (try clear hi); (try simp only [errW_none, errW_some])))
      first | go_end0 | ((try simp only [Exit.inBlock, Exit.then]); refine bodyPost_ret (results_none rfl _ _ _) rfl ?_)
      exact ⟨by first | rfl | (simp [errW_none, errW_some] <;> rfl) | (simp [*, errW_none, errW_some] <;> rfl), by repeat (first | (with_reducible first | exact HI0.out | apply IsS56.alloc | apply IsS56.drewN | apply IsS56.drew | apply IsS56.set_0 | apply IsS56.set_1 | apply IsS56.set_2 | apply IsS56.set_3 | apply IsS56.sete_2 | with_unfolding_all rfl) | exact HI0.out), by repeat (first | (with_reducible first | exact HB.out | apply below_alloc | apply pw_below_drewN | apply below_drew1 | refine below_set ?_ (IsS56.ge HI0.out)) | exact HB.out), by repeat (first | (with_reducible first | exact HK.out | apply KeepBut.set_ | apply keep_drewN | apply keep_drew | apply keep_alloc) | exact HK.out)⟩
    · rw [if_neg c4] at H
      have c4b0 : decide (s0_1 < (s0_0.size : Int)) = false := decide_eq_false c4
      clear c4
      simp only [Option.some.injEq, Prod.mk.injEq] at H
      obtain ⟨rfl, rfl, rfl, rfl⟩ := H
      have BKp0 : Aside0 (w.heap[g]? = some (.cells #[.string s0_0, .int .i64 s0_1, errW s0_2, .bool s0_3] 56 (0, 0))) := ⟨by obtain ⟨hb_, _⟩ := HI0.out; exact hb_⟩
      go_enter Try.func74, Try.ntmps74
      try go_wp2
      have n0_ := Aside0.mk (blk_drew BKp0.out)
      have n1_ := Aside0.mk (IsS56.drew HI0.out)
      have n2_ := Aside0.mk (keep_drew HK.out)
      have n3_ := Aside0.mk (below_drew1 HB.out)
      clear BKp0
      clear HI0
      clear HK
      clear HB
      have BKp0 := n0_
      have HI0 := n1_
      have HK := n2_
      have HB := n3_
      clear n0_ n1_ n2_ n3_
      refine start_ (n := 14) (S := fun w' => w'.cell? ⟨g, 0, none⟩ = some (.string s0_0) ∧ w'.cell? ⟨g, 1, none⟩ = some (.int .i64 s0_1) ∧ w'.cell? ⟨g, 2, none⟩ = some (errW s0_2) ∧ w'.cell? ⟨g, 3, none⟩ = some (.bool s0_3)) (ds := []) #[false, false, false, false, false, false, false, false, false, false, false, false, false, false] (by kernel_rfl) rfl rfl ⟨(blk_cell BKp0.out 0).trans rfl, (blk_cell BKp0.out 1).trans rfl, (blk_cell BKp0.out 2).trans rfl, (blk_cell BKp0.out 3).trans rfl⟩ (fun hHeld => ?_); refine with_tabW strict_Reader_End.tab0 strict_Reader_End.bits0 (fun HT_ HW_ => ?_)
      generalize w.drew = w9 at BKp0 HI0 HK HB hHeld ⊢
      refine pure_ (i := 0) (N := some 2) (v := ?_) (a' := ?_) #[true, false, false, false, false, false, false, false, false, false, false, false, false, false] rfl rfl (any_of HT_.out (by kernel_rfl)) (fun _ _ _ h => h) (Or.inl ⟨by rfl, ?_⟩) ?_ ?_
      rotate_left
      · intro w'
        go_simp
        with_reducible rfl
      rotate_left
      · simp only [Act.put, List.setIfInBounds_toArray, List.set_cons_zero, List.set_cons_succ, i64_w, i32_w]
        rfl
      refine one_ (i := 1) (N := some 3) #[true, true, false, false, false, false, false, false, false, false, false, false, false, false] rfl rfl (one_of HT_.out (by kernel_rfl)) (by decide) (fun K hK => ?_)
      refine goes_ Try.func133 (by kernel_rfl) rfl #[.pointer (some ⟨g, 0, none⟩)] (by rfl) rfl rfl (by (try simp only [List.map_toArray, List.map_cons, List.map_nil]); first | done | rfl | (simp only [List.length_drop, List.length_take]; rfl)) ?_
      with_reducible refine (strict_Reader_goes.calls g s0_0 s0_1 s0_2 s0_3 true s0_0 s0_1 s0_2 s0_3 w0 _ ?side1 ?side2 A2.out).mono ?_
      (case side1 => repeat (first | (with_reducible first | exact HI0.out | apply IsS56.alloc | apply IsS56.drewN | apply IsS56.drew | apply IsS56.set_0 | apply IsS56.set_1 | apply IsS56.set_2 | apply IsS56.set_3 | apply IsS56.sete_2 | with_unfolding_all rfl | refine IsS56.far ?_ NB0_0.out _) | exact HI0.out))
      (case side2 => repeat (first | (with_reducible first | exact HB.out | apply below_alloc | apply pw_below_drewN | apply below_drew1 | refine below_set ?_ (IsS56.ge HI0.out) | refine below_set ?_ GE0.out) | exact HB.out))
      rintro e w10 ⟨rfl, hi, hb, hk⟩
      refine ⟨_, rfl, ?_⟩
      have n0_ := Aside0.mk ((by obtain ⟨hb_, _⟩ := hi; exact hb_ : w10.heap[g]? = some (.cells #[.string s0_0, .int .i64 s0_1, errW s0_2, .bool s0_3] 56 (0, 0))))
      have n1_ := Aside0.mk (KeepBut.trans (by repeat (first | (with_reducible first | exact HK.out | apply KeepBut.set_ | apply keep_drewN | apply keep_drew | apply keep_alloc | refine keep_far ?_ GW0.out _) | exact HK.out)) hk (.inl rfl))
      have n2_ := Aside0.mk (hb)
      have n3_ := Aside0.mk (hi)
      clear BKp0
      clear HK
      clear HB
      clear HI0
      have BKp0 := n0_
      have HK := n1_
      have HB := n2_
      have HI0 := n3_
      clear n0_ n1_ n2_ n3_
      (try clear hb)
      (try clear hb2)
      (try clear hk)
      (try clear hi)
      (try simp only [errW_none, errW_some])
      refine hK.out _ _ ⟨(blk_cell BKp0.out 0).trans rfl, (blk_cell BKp0.out 1).trans rfl, (blk_cell BKp0.out 2).trans rfl, (blk_cell BKp0.out 3).trans rfl⟩ (fun hHeld => ?_)
      clear hK K
      refine norm_ (a' := ?_) ?_ ?_
      rotate_left
      · show Act.put _ (some 3) _ = _
        simp only [Act.put, List.setIfInBounds_toArray, List.set_cons_zero, List.set_cons_succ, i64_w, i32_w]
        rfl
      refine pure_ (i := 2) (N := some 4) (v := ?_) (a' := ?_) #[true, true, true, false, false, false, false, false, false, false, false, false, false, false] rfl rfl (any_of HT_.out (by kernel_rfl)) (fun _ _ _ h => h) (Or.inl ⟨by rfl, ?_⟩) ?_ ?_
      rotate_left
      · intro w'
        go_simp
        with_reducible rfl
      rotate_left
      · simp only [Act.put, List.setIfInBounds_toArray, List.set_cons_zero, List.set_cons_succ, i64_w, i32_w]
        rfl
      refine pure_ (i := 3) (N := some 5) (v := ?_) (a' := ?_) #[true, true, true, true, false, false, false, false, false, false, false, false, false, false] rfl rfl (any_of HT_.out (by kernel_rfl)) (fun _ _ _ h => h) (Or.inl ⟨by rfl, ?_⟩) ?_ ?_
      rotate_left
      · intro w'
        go_simp
        with_reducible rfl
      rotate_left
      · simp only [Act.put, List.setIfInBounds_toArray, List.set_cons_zero, List.set_cons_succ, i64_w, i32_w]
        rfl
      refine pure_ (i := 4) (N := some 6) (v := ?_) (a' := ?_) #[true, true, true, true, true, false, false, false, false, false, false, false, false, false] rfl rfl (any_of HT_.out (by kernel_rfl)) (fun _ _ _ h => h) (Or.inl ⟨by rfl, ?_⟩) ?_ ?_
      rotate_left
      · intro w'
        go_simp
        with_reducible rfl
      rotate_left
      · simp only [Act.put, List.setIfInBounds_toArray, List.set_cons_zero, List.set_cons_succ, i64_w, i32_w]
        rfl
      refine pure_ (i := 5) (N := some 7) (v := ?_) (a' := ?_) #[true, true, true, true, true, true, false, false, false, false, false, false, false, false] rfl rfl (any_of HT_.out (by kernel_rfl)) (fun _ _ _ h => h) (Or.inl ⟨by rfl, ?_⟩) ?_ ?_
      rotate_left
      · intro w'
        go_simp
        with_reducible rfl
      rotate_left
      · simp only [Act.put, List.setIfInBounds_toArray, List.set_cons_zero, List.set_cons_succ, i64_w, i32_w]
        rfl
      refine pure_ (i := 7) (N := some 9) (v := ?_) (a' := ?_) #[true, true, true, true, true, true, false, true, false, false, false, false, false, false] rfl rfl (any_of HT_.out (by kernel_rfl)) (fun _ _ _ h => h) (Or.inl ⟨by rfl, ?_⟩) ?_ ?_
      rotate_left
      · intro w'
        go_simp
        with_reducible rfl
      rotate_left
      · simp only [Act.put, List.setIfInBounds_toArray, List.set_cons_zero, List.set_cons_succ, i64_w, i32_w]
        rfl
      refine pure_ (i := 8) (N := some 10) (v := ?_) (a' := ?_) #[true, true, true, true, true, true, false, true, true, false, false, false, false, false] rfl rfl (any_of HT_.out (by kernel_rfl)) (fun _ _ _ h => h) (Or.inl ⟨by rfl, ?_⟩) ?_ ?_
      rotate_left
      · intro w'
        go_simp
        with_reducible rfl
      rotate_left
      · simp only [Act.put, List.setIfInBounds_toArray, List.set_cons_zero, List.set_cons_succ, i64_w, i32_w]
        rfl
      refine pure_ (i := 9) (N := some 11) (v := ?_) (a' := ?_) #[true, true, true, true, true, true, false, true, true, true, false, false, false, false] rfl rfl (any_of HT_.out (by kernel_rfl)) (fun _ _ _ h => h) (Or.inl ⟨by rfl, ?_⟩) ?_ ?_
      rotate_left
      · intro w'
        go_simp
        with_reducible rfl
      rotate_left
      · simp only [Act.put, List.setIfInBounds_toArray, List.set_cons_zero, List.set_cons_succ, i64_w, i32_w]
        rfl
      refine take_ (i := 6) (N := some 8) (v := ?_) (a' := ?_) #[true, true, true, true, true, true, true, true, true, true, false, false, false, false] rfl rfl (take_ofW HT_.out HW_.out (by kernel_rfl)) (fun _ _ _ h => h) (Or.inl ⟨by rfl, ?_⟩) hHeld ?_ ?_
      rotate_left
      · rintro w' ⟨s0, s1, s2, s3⟩
        go_simp
        with_reducible rfl
      rotate_left
      · simp only [Act.put, List.setIfInBounds_toArray, List.set_cons_zero, List.set_cons_succ, i64_w, i32_w]
        rfl
      refine take_ (i := 10) (N := some 12) (v := ?_) (a' := ?_) #[true, true, true, true, true, true, true, true, true, true, true, false, false, false] rfl rfl (take_ofW HT_.out HW_.out (by kernel_rfl)) (fun _ _ _ h => h) (Or.inl ⟨by rfl, ?_⟩) hHeld ?_ ?_
      rotate_left
      · rintro w' ⟨s0, s1, s2, s3⟩
        go_simp
        with_reducible rfl
      rotate_left
      · simp only [Act.put, List.setIfInBounds_toArray, List.set_cons_zero, List.set_cons_succ, i64_w, i32_w]
        rfl
      refine pure_ (i := 11) (N := some 13) (v := ?_) (a' := ?_) #[true, true, true, true, true, true, true, true, true, true, true, true, false, false] rfl rfl (any_of HT_.out (by kernel_rfl)) (fun _ _ _ h => h) (Or.inl ⟨by rfl, ?_⟩) ?_ ?_
      rotate_left
      · intro w'
        go_simp
        with_reducible rfl
      rotate_left
      · simp only [Act.put, List.setIfInBounds_toArray, List.set_cons_zero, List.set_cons_succ, i64_w, i32_w]
        rfl
      refine pure_ (i := 12) (N := some 14) (v := ?_) (a' := ?_) #[true, true, true, true, true, true, true, true, true, true, true, true, true, false] rfl rfl (any_of HT_.out (by kernel_rfl)) (fun _ _ _ h => h) (Or.inl ⟨by rfl, ?_⟩) ?_ ?_
      rotate_left
      · intro w'
        go_simp
        with_reducible rfl
      rotate_left
      · simp only [Act.put, List.setIfInBounds_toArray, List.set_cons_zero, List.set_cons_succ, i64_w, i32_w]
        rfl
      refine pure_ (i := 13) (N := some 15) (v := ?_) (a' := ?_) #[true, true, true, true, true, true, true, true, true, true, true, true, true, true] rfl rfl (any_of HT_.out (by kernel_rfl)) (fun _ _ _ h => h) (Or.inl ⟨by rfl, ?_⟩) ?_ ?_
      rotate_left
      · intro w'
        go_simp
        with_reducible rfl
      rotate_left
      · simp only [Act.put, List.setIfInBounds_toArray, List.set_cons_zero, List.set_cons_succ, i64_w, i32_w]
        rfl
      refine done_ (done_of HT_.out (by kernel_rfl)) ?_
      clear BKp0
      try go_wp2
      first | go_end0 | ((try simp only [Exit.inBlock, Exit.then]); refine bodyPost_ret (results_none rfl _ _ _) rfl ?_)
      exact ⟨by first | rfl | (simp [errW_none, errW_some] <;> rfl) | (simp [*, errW_none, errW_some] <;> rfl), by repeat (first | (with_reducible first | exact HI0.out | apply IsS56.alloc | apply IsS56.drewN | apply IsS56.drew | apply IsS56.set_0 | apply IsS56.set_1 | apply IsS56.set_2 | apply IsS56.set_3 | apply IsS56.sete_2 | with_unfolding_all rfl) | exact HI0.out), by repeat (first | (with_reducible first | exact HB.out | apply below_alloc | apply pw_below_drewN | apply below_drew1 | refine below_set ?_ (IsS56.ge HI0.out)) | exact HB.out), by repeat (first | (with_reducible first | exact HK.out | apply KeepBut.set_ | apply keep_drewN | apply keep_drew | apply keep_alloc) | exact HK.out)⟩
  · replace c3 := Bool.eq_false_iff.mpr c3
    subst c3
    have H1 : (some (s0_0, s0_1, s0_2, s0_3)) = some (r1, r2, r3, r4) := by first | (rw [if_neg (show ¬ (false = true) by decide)] at H; exact H) | rfl
    clear H
    have H := H1
    clear H1
    simp only [Option.some.injEq, Prod.mk.injEq] at H
    obtain ⟨rfl, rfl, rfl, rfl⟩ := H
    have BKp0 : Aside0 (w.heap[g]? = some (.cells #[.string s0_0, .int .i64 s0_1, errW s0_2, .bool s0_3] 56 (0, 0))) := ⟨by obtain ⟨hb_, _⟩ := HI0.out; exact hb_⟩
    go_enter Try.func74, Try.ntmps74
    try go_wp2
    have n0_ := Aside0.mk (blk_drew BKp0.out)
    have n1_ := Aside0.mk (IsS56.drew HI0.out)
    have n2_ := Aside0.mk (keep_drew HK.out)
    have n3_ := Aside0.mk (below_drew1 HB.out)
    clear BKp0
    clear HI0
    clear HK
    clear HB
    have BKp0 := n0_
    have HI0 := n1_
    have HK := n2_
    have HB := n3_
    clear n0_ n1_ n2_ n3_
    refine start_ (n := 14) (S := fun w' => True) (ds := []) #[false, false, false, false, false, false, false, false, false, false, false, false, false, false] (by kernel_rfl) rfl rfl trivial (fun hHeld => ?_); refine with_tabW strict_Reader_End.tab0 strict_Reader_End.bits0 (fun HT_ HW_ => ?_)
    generalize w.drew = w11 at BKp0 HI0 HK HB hHeld ⊢
    refine pure_ (i := 0) (N := some 2) (v := ?_) (a' := ?_) #[true, false, false, false, false, false, false, false, false, false, false, false, false, false] rfl rfl (any_of HT_.out (by kernel_rfl)) (fun _ _ _ h => h) (Or.inl ⟨by rfl, ?_⟩) ?_ ?_
    rotate_left
    · intro w'
      go_simp
      with_reducible rfl
    rotate_left
    · simp only [Act.put, List.setIfInBounds_toArray, List.set_cons_zero, List.set_cons_succ, i64_w, i32_w]
      rfl
    refine one_ (i := 1) (N := some 3) #[true, true, false, false, false, false, false, false, false, false, false, false, false, false] rfl rfl (one_of HT_.out (by kernel_rfl)) (by decide) (fun K hK => ?_)
    refine goes_ Try.func133 (by kernel_rfl) rfl #[.pointer (some ⟨g, 0, none⟩)] (by rfl) rfl rfl (by (try simp only [List.map_toArray, List.map_cons, List.map_nil]); first | done | rfl | (simp only [List.length_drop, List.length_take]; rfl)) ?_
    with_reducible refine (strict_Reader_goes.calls g s0_0 s0_1 s0_2 s0_3 false s0_0 s0_1 s0_2 s0_3 w0 _ ?side1 ?side2 A2.out).mono ?_
    (case side1 => repeat (first | (with_reducible first | exact HI0.out | apply IsS56.alloc | apply IsS56.drewN | apply IsS56.drew | apply IsS56.set_0 | apply IsS56.set_1 | apply IsS56.set_2 | apply IsS56.set_3 | apply IsS56.sete_2 | with_unfolding_all rfl | refine IsS56.far ?_ NB0_0.out _) | exact HI0.out))
    (case side2 => repeat (first | (with_reducible first | exact HB.out | apply below_alloc | apply pw_below_drewN | apply below_drew1 | refine below_set ?_ (IsS56.ge HI0.out) | refine below_set ?_ GE0.out) | exact HB.out))
    rintro e w12 ⟨rfl, hi, hb, hk⟩
    refine ⟨_, rfl, ?_⟩
    have n0_ := Aside0.mk ((by obtain ⟨hb_, _⟩ := hi; exact hb_ : w12.heap[g]? = some (.cells #[.string s0_0, .int .i64 s0_1, errW s0_2, .bool s0_3] 56 (0, 0))))
    have n1_ := Aside0.mk (KeepBut.trans (by repeat (first | (with_reducible first | exact HK.out | apply KeepBut.set_ | apply keep_drewN | apply keep_drew | apply keep_alloc | refine keep_far ?_ GW0.out _) | exact HK.out)) hk (.inl rfl))
    have n2_ := Aside0.mk (hb)
    have n3_ := Aside0.mk (hi)
    clear BKp0
    clear HK
    clear HB
    clear HI0
    have BKp0 := n0_
    have HK := n1_
    have HB := n2_
    have HI0 := n3_
    clear n0_ n1_ n2_ n3_
    (try clear hb)
    (try clear hb2)
    (try clear hk)
    (try clear hi)
    (try simp only [errW_none, errW_some])
    refine hK.out _ _ trivial (fun hHeld => ?_)
    clear hK K
    refine norm_ (a' := ?_) ?_ ?_
    rotate_left
    · show Act.put _ (some 3) _ = _
      simp only [Act.put, List.setIfInBounds_toArray, List.set_cons_zero, List.set_cons_succ, i64_w, i32_w]
      rfl
    refine pure_ (i := 2) (N := some 4) (v := ?_) (a' := ?_) #[true, true, true, false, false, false, false, false, false, false, false, false, false, false] rfl rfl (any_of HT_.out (by kernel_rfl)) (fun _ _ _ h => h) (Or.inl ⟨by rfl, ?_⟩) ?_ ?_
    rotate_left
    · intro w'
      go_simp
      with_reducible rfl
    rotate_left
    · simp only [Act.put, List.setIfInBounds_toArray, List.set_cons_zero, List.set_cons_succ, i64_w, i32_w]
      rfl
    refine pure_ (i := 3) (N := some 5) (v := undef) (a' := ?_) #[true, true, true, true, false, false, false, false, false, false, false, false, false, false] rfl rfl (any_of HT_.out (by kernel_rfl)) (fun _ _ _ h => h) (Or.inr ⟨by rfl, rfl⟩) ?_ ?_
    rotate_left
    · simp only [Act.put, List.setIfInBounds_toArray, List.set_cons_zero, List.set_cons_succ, i64_w, i32_w]
      rfl
    refine pure_ (i := 4) (N := some 6) (v := undef) (a' := ?_) #[true, true, true, true, true, false, false, false, false, false, false, false, false, false] rfl rfl (any_of HT_.out (by kernel_rfl)) (fun _ _ _ h => h) (Or.inr ⟨by rfl, rfl⟩) ?_ ?_
    rotate_left
    · simp only [Act.put, List.setIfInBounds_toArray, List.set_cons_zero, List.set_cons_succ, i64_w, i32_w]
      rfl
    refine pure_ (i := 5) (N := some 7) (v := undef) (a' := ?_) #[true, true, true, true, true, true, false, false, false, false, false, false, false, false] rfl rfl (any_of HT_.out (by kernel_rfl)) (fun _ _ _ h => h) (Or.inr ⟨by rfl, rfl⟩) ?_ ?_
    rotate_left
    · simp only [Act.put, List.setIfInBounds_toArray, List.set_cons_zero, List.set_cons_succ, i64_w, i32_w]
      rfl
    refine pure_ (i := 6) (N := some 8) (v := undef) (a' := ?_) #[true, true, true, true, true, true, true, false, false, false, false, false, false, false] rfl rfl (any_of HT_.out (by kernel_rfl)) (fun _ _ _ h => h) (Or.inr ⟨by rfl, rfl⟩) ?_ ?_
    rotate_left
    · simp only [Act.put, List.setIfInBounds_toArray, List.set_cons_zero, List.set_cons_succ, i64_w, i32_w]
      rfl
    refine pure_ (i := 7) (N := some 9) (v := undef) (a' := ?_) #[true, true, true, true, true, true, true, true, false, false, false, false, false, false] rfl rfl (any_of HT_.out (by kernel_rfl)) (fun _ _ _ h => h) (Or.inr ⟨by rfl, rfl⟩) ?_ ?_
    rotate_left
    · simp only [Act.put, List.setIfInBounds_toArray, List.set_cons_zero, List.set_cons_succ, i64_w, i32_w]
      rfl
    refine pure_ (i := 8) (N := some 10) (v := undef) (a' := ?_) #[true, true, true, true, true, true, true, true, true, false, false, false, false, false] rfl rfl (any_of HT_.out (by kernel_rfl)) (fun _ _ _ h => h) (Or.inr ⟨by rfl, rfl⟩) ?_ ?_
    rotate_left
    · simp only [Act.put, List.setIfInBounds_toArray, List.set_cons_zero, List.set_cons_succ, i64_w, i32_w]
      rfl
    refine pure_ (i := 9) (N := some 11) (v := undef) (a' := ?_) #[true, true, true, true, true, true, true, true, true, true, false, false, false, false] rfl rfl (any_of HT_.out (by kernel_rfl)) (fun _ _ _ h => h) (Or.inr ⟨by rfl, rfl⟩) ?_ ?_
    rotate_left
    · simp only [Act.put, List.setIfInBounds_toArray, List.set_cons_zero, List.set_cons_succ, i64_w, i32_w]
      rfl
    refine pure_ (i := 10) (N := some 12) (v := undef) (a' := ?_) #[true, true, true, true, true, true, true, true, true, true, true, false, false, false] rfl rfl (any_of HT_.out (by kernel_rfl)) (fun _ _ _ h => h) (Or.inr ⟨by rfl, rfl⟩) ?_ ?_
    rotate_left
    · simp only [Act.put, List.setIfInBounds_toArray, List.set_cons_zero, List.set_cons_succ, i64_w, i32_w]
      rfl
    refine pure_ (i := 11) (N := some 13) (v := undef) (a' := ?_) #[true, true, true, true, true, true, true, true, true, true, true, true, false, false] rfl rfl (any_of HT_.out (by kernel_rfl)) (fun _ _ _ h => h) (Or.inr ⟨by rfl, rfl⟩) ?_ ?_
    rotate_left
    · simp only [Act.put, List.setIfInBounds_toArray, List.set_cons_zero, List.set_cons_succ, i64_w, i32_w]
      rfl
    refine pure_ (i := 12) (N := some 14) (v := undef) (a' := ?_) #[true, true, true, true, true, true, true, true, true, true, true, true, true, false] rfl rfl (any_of HT_.out (by kernel_rfl)) (fun _ _ _ h => h) (Or.inr ⟨by rfl, rfl⟩) ?_ ?_
    rotate_left
    · simp only [Act.put, List.setIfInBounds_toArray, List.set_cons_zero, List.set_cons_succ, i64_w, i32_w]
      rfl
    refine pure_ (i := 13) (N := some 15) (v := ?_) (a' := ?_) #[true, true, true, true, true, true, true, true, true, true, true, true, true, true] rfl rfl (any_of HT_.out (by kernel_rfl)) (fun _ _ _ h => h) (Or.inl ⟨by rfl, ?_⟩) ?_ ?_
    rotate_left
    · intro w'
      go_simp
      with_reducible rfl
    rotate_left
    · simp only [Act.put, List.setIfInBounds_toArray, List.set_cons_zero, List.set_cons_succ, i64_w, i32_w]
      rfl
    refine done_ (done_of HT_.out (by kernel_rfl)) ?_
    clear BKp0
    try go_wp2
    first | go_end0 | ((try simp only [Exit.inBlock, Exit.then]); refine bodyPost_ret (results_none rfl _ _ _) rfl ?_)
    exact ⟨by first | rfl | (simp [errW_none, errW_some] <;> rfl) | (simp [*, errW_none, errW_some] <;> rfl), by repeat (first | (with_reducible first | exact HI0.out | apply IsS56.alloc | apply IsS56.drewN | apply IsS56.drew | apply IsS56.set_0 | apply IsS56.set_1 | apply IsS56.set_2 | apply IsS56.set_3 | apply IsS56.sete_2 | with_unfolding_all rfl) | exact HI0.out), by repeat (first | (with_reducible first | exact HB.out | apply below_alloc | apply pw_below_drewN | apply below_drew1 | refine below_set ?_ (IsS56.ge HI0.out)) | exact HB.out), by repeat (first | (with_reducible first | exact HK.out | apply KeepBut.set_ | apply keep_drewN | apply keep_drew | apply keep_alloc) | exact HK.out)⟩
end Go.Proofs.Ytakkhomjpflkbaa.F
namespace Go.Proofs.Ytakkhomjpflkbaa.F
open Go.RowKit Go.Proofs.YtakkhomjpflkbaaX Go.Proofs.YtakkhomjpflkbaaW.PrintWords Go.Proofs.YtakkhomjpflkbaaW.PrintLast Go.Proofs.YtakkhomjpflkbaaW.PrintMore
attribute [local go_sem] max2_int min2_int max_two min_two max_three min_three max_four min_four   
attribute [local go_sem high] str_geq str_leq str_gtr
set_option linter.unusedVariables false
set_option linter.unusedSimpArgs false
mutual
def backhaullaw06_StrictWhole.j0 : Nat → ByteArray → List (S51) → Bool → Option (Bool)
  | 0, _, _, _ => none
  | k + 1, x0, x1, x22 => if x22 = true then ((backhaullaw06_awake.f).bind fun t1303 => (if t1303 = true then (some true) else (some false))) else ((strict_New.f x0).bind fun bt1304 => (backhaullaw06_StrictWhole.l0 k x0 x1 (⟨#[]⟩ : ByteArray) 0 bt1304.1 bt1304.2.1 bt1304.2.2.1 bt1304.2.2.2))
def backhaullaw06_StrictWhole.l0 : Nat → ByteArray → List (S51) → ByteArray → Int → ByteArray → Int → Option (Int × Int) → Bool → Option (Bool)
  | 0, _, _, _, _, _, _, _, _ => none
  | k + 1, x0, x1, x6, x7, x1309000, x1309001, x1309002, x1309003 => if x7 < (x1.length : Int) then (if 0 ≤ x7 then (if ((rd_T51 x1 x7).f0) = 0 then ((strict_Reader_Num.f k x1309000 x1309001 x1309002 x1309003 ((rd_T51 x1 x7).f1) ((rd_T51 x1 x7).f2)).bind fun bt1312 => ((octet_Put.f k bt1312.1 ((rd_T51 x1 x7).f1)).bind fun bt1318 => (if x6.size + bt1318.1.size ≤ 9223372036854775807 then (backhaullaw06_StrictWhole.l0 k x0 x1 (x6 ++ bt1318.1) (wrap64 (x7 + 1)) bt1312.2.1 bt1312.2.2.1 bt1312.2.2.2.1 bt1312.2.2.2.2) else (none)))) else (if ((rd_T51 x1 x7).f0) = 1 then ((strict_Reader_Text.f k x1309000 x1309001 x1309002 x1309003 ((rd_T51 x1 x7).f2)).bind fun bt1321 => ((octet_Lay.f k bt1321.1).bind fun bt1326 => (if x6.size + bt1326.1.size ≤ 9223372036854775807 then (backhaullaw06_StrictWhole.l0 k x0 x1 (x6 ++ bt1326.1) (wrap64 (x7 + 1)) bt1321.2.1 bt1321.2.2.1 bt1321.2.2.2.1 bt1321.2.2.2.2) else (none)))) else (if ((rd_T51 x1 x7).f0) = 2 then ((strict_Reader_Serial.f k x1309000 x1309001 x1309002 x1309003).bind fun bt1328 => ((octet_Lay.f k bt1328.1).bind fun bt1333 => (if x6.size + bt1333.1.size ≤ 9223372036854775807 then (backhaullaw06_StrictWhole.l0 k x0 x1 (x6 ++ bt1333.1) (wrap64 (x7 + 1)) bt1328.2.1 bt1328.2.2.1 bt1328.2.2.2.1 bt1328.2.2.2.2) else (none)))) else (if ((rd_T51 x1 x7).f0) = 3 then ((strict_Reader_Row.f k x1309000 x1309001 x1309002 x1309003 ((rd_T51 x1 x7).f1) ((rd_T51 x1 x7).f2)).bind fun bt1338 => ((octet_Row.f k ((rd_T51 x1 x7).f1) bt1338.1).bind fun bt1345 => (if x6.size + bt1345.1.size ≤ 9223372036854775807 then (backhaullaw06_StrictWhole.l0 k x0 x1 (x6 ++ bt1345.1) (wrap64 (x7 + 1)) bt1338.2.1 bt1338.2.2.1 bt1338.2.2.2.1 bt1338.2.2.2.2) else (none)))) else (if ((rd_T51 x1 x7).f0) = 4 then ((strict_Reader_Serials.f k x1309000 x1309001 x1309002 x1309003 ((rd_T51 x1 x7).f2)).bind fun bt1348 => ((octet_Put.f k (bt1348.1.length : Int) 1).bind fun bt1355 => (backhaullaw06_StrictWhole.l1 k x0 x1 x6 x7 bt1355.1 bt1348.1 0 bt1348.2.1 bt1348.2.2.1 bt1348.2.2.2.1 bt1348.2.2.2.2))) else (if ((rd_T51 x1 x7).f0) = 5 then ((strict_Reader_Flag.f k x1309000 x1309001 x1309002 x1309003).bind fun bt1360 => ((octet_Flag.f bt1360.1).bind fun t1365 => (if x6.size + t1365.size ≤ 9223372036854775807 then (backhaullaw06_StrictWhole.l0 k x0 x1 (x6 ++ t1365) (wrap64 (x7 + 1)) bt1360.2.1 bt1360.2.2.1 bt1360.2.2.2.1 bt1360.2.2.2.2) else (none)))) else (if x6.size + 0 ≤ 9223372036854775807 then (backhaullaw06_StrictWhole.l0 k x0 x1 (x6 ++ (⟨#[]⟩ : ByteArray)) (wrap64 (x7 + 1)) x1309000 x1309001 x1309002 x1309003) else (none)))))))) else (none)) else ((strict_Reader_End.f x1309000 x1309001 x1309002 x1309003).bind fun bt1366 => ((strict_Reader_Err.f bt1366.1 bt1366.2.1 bt1366.2.2.1 bt1366.2.2.2).bind fun bt1370 => ((strict_Why.f bt1370.1).bind fun bt1375 => (if bt1375.1 = 0 then (if x6.toList = x0.toList then ((backhaullaw06_awake.f).bind fun t1377 => (if t1377 = true then (some true) else (some false))) else (some false)) else ((backhaullaw06_awake.f).bind fun t1378 => (if t1378 = true then (some true) else (some false)))))))
def backhaullaw06_StrictWhole.l1 : Nat → ByteArray → List (S51) → ByteArray → Int → ByteArray → List ByteArray → Int → ByteArray → Int → Option (Int × Int) → Bool → Option (Bool)
  | 0, _, _, _, _, _, _, _, _, _, _, _ => none
  | k + 1, x0, x1, x6, x7, x8, x9, x10, x1309000, x1309001, x1309002, x1309003 => if x10 < (x9.length : Int) then (if 0 ≤ x10 then ((backhaulref05_Lay.f (rdOf ByteArray.empty x9 x10)).bind fun bt1358 => (if x8.size + bt1358.1.size ≤ 9223372036854775807 then (backhaullaw06_StrictWhole.l1 k x0 x1 x6 x7 (x8 ++ bt1358.1) x9 (wrap64 (x10 + 1)) x1309000 x1309001 x1309002 x1309003) else (none))) else (none)) else (if x6.size + x8.size ≤ 9223372036854775807 then (backhaullaw06_StrictWhole.l0 k x0 x1 (x6 ++ x8) (wrap64 (x7 + 1)) x1309000 x1309001 x1309002 x1309003) else (none))
end
def backhaullaw06_StrictWhole.f (k : Nat) (a0 : ByteArray) (l1 : List (S51)) : Option (Bool) := if (a0.size : Int) > 2000 then (backhaullaw06_StrictWhole.j0 k a0 l1 true) else (backhaullaw06_StrictWhole.j0 k a0 l1 (decide ((l1.length : Int) > 40)))
theorem backhaullaw06_StrictWhole.mono_l : ∀ k, (∀ y0 y1 y2, LeO (backhaullaw06_StrictWhole.j0 k y0 y1 y2) (backhaullaw06_StrictWhole.j0 (k + 1) y0 y1 y2)) ∧ (∀ y0 y1 y2 y3 y4 y5 y6 y7, LeO (backhaullaw06_StrictWhole.l0 k y0 y1 y2 y3 y4 y5 y6 y7) (backhaullaw06_StrictWhole.l0 (k + 1) y0 y1 y2 y3 y4 y5 y6 y7)) ∧ (∀ y0 y1 y2 y3 y4 y5 y6 y7 y8 y9 y10, LeO (backhaullaw06_StrictWhole.l1 k y0 y1 y2 y3 y4 y5 y6 y7 y8 y9 y10) (backhaullaw06_StrictWhole.l1 (k + 1) y0 y1 y2 y3 y4 y5 y6 y7 y8 y9 y10))
  | 0 => ⟨fun _ _ _ r h => by simp [backhaullaw06_StrictWhole.j0] at h, fun _ _ _ _ _ _ _ _ r h => by simp [backhaullaw06_StrictWhole.l0] at h, fun _ _ _ _ _ _ _ _ _ _ _ r h => by simp [backhaullaw06_StrictWhole.l1] at h⟩
  | k + 1 => by
    obtain ⟨ih0, ih1, ih2⟩ := backhaullaw06_StrictWhole.mono_l k
    refine ⟨?_, ?_, ?_⟩
    · intro y0 y1 y2
      unfold backhaullaw06_StrictWhole.j0
      repeat' first
      | (with_reducible exact ih0 _ _ _)
      | (with_reducible exact ih1 _ _ _ _ _ _ _ _)
      | (with_reducible exact ih2 _ _ _ _ _ _ _ _ _ _ _)
      | (with_reducible exact octet_Lay.mono _ _)
      | (with_reducible exact octet_Put.mono _ _ _)
      | (with_reducible exact octet_Row.mono _ _ _)
      | (with_reducible exact strict_Reader_Flag.mono _ _ _ _ _)
      | (with_reducible exact strict_Reader_Num.mono _ _ _ _ _ _ _)
      | (with_reducible exact strict_Reader_Row.mono _ _ _ _ _ _ _)
      | (with_reducible exact strict_Reader_Serial.mono _ _ _ _ _)
      | (with_reducible exact strict_Reader_Serials.mono _ _ _ _ _ _)
      | (with_reducible exact strict_Reader_Text.mono _ _ _ _ _ _)
      | (with_reducible exact LeO.refl _)
      | (with_reducible exact LeO.none _)
      | (with_reducible refine LeO.ite ?_ ?_)
      | (with_reducible refine LeO.bind ?_ (fun _ => ?_))
      | exact ih0 _ _ _
      | exact ih1 _ _ _ _ _ _ _ _
      | exact ih2 _ _ _ _ _ _ _ _ _ _ _
      | exact octet_Lay.mono _ _
      | exact octet_Put.mono _ _ _
      | exact octet_Row.mono _ _ _
      | exact strict_Reader_Flag.mono _ _ _ _ _
      | exact strict_Reader_Num.mono _ _ _ _ _ _ _
      | exact strict_Reader_Row.mono _ _ _ _ _ _ _
      | exact strict_Reader_Serial.mono _ _ _ _ _
      | exact strict_Reader_Serials.mono _ _ _ _ _ _
      | exact strict_Reader_Text.mono _ _ _ _ _ _
      | exact LeO.none _
      | refine LeO.ite ?_ ?_
      | refine LeO.bind ?_ (fun _ => ?_)
    · intro y0 y1 y2 y3 y4 y5 y6 y7
      unfold backhaullaw06_StrictWhole.l0
      repeat' first
      | (with_reducible exact ih0 _ _ _)
      | (with_reducible exact ih1 _ _ _ _ _ _ _ _)
      | (with_reducible exact ih2 _ _ _ _ _ _ _ _ _ _ _)
      | (with_reducible exact octet_Lay.mono _ _)
      | (with_reducible exact octet_Put.mono _ _ _)
      | (with_reducible exact octet_Row.mono _ _ _)
      | (with_reducible exact strict_Reader_Flag.mono _ _ _ _ _)
      | (with_reducible exact strict_Reader_Num.mono _ _ _ _ _ _ _)
      | (with_reducible exact strict_Reader_Row.mono _ _ _ _ _ _ _)
      | (with_reducible exact strict_Reader_Serial.mono _ _ _ _ _)
      | (with_reducible exact strict_Reader_Serials.mono _ _ _ _ _ _)
      | (with_reducible exact strict_Reader_Text.mono _ _ _ _ _ _)
      | (with_reducible exact LeO.refl _)
      | (with_reducible exact LeO.none _)
      | (with_reducible refine LeO.ite ?_ ?_)
      | (with_reducible refine LeO.bind ?_ (fun _ => ?_))
      | exact ih0 _ _ _
      | exact ih1 _ _ _ _ _ _ _ _
      | exact ih2 _ _ _ _ _ _ _ _ _ _ _
      | exact octet_Lay.mono _ _
      | exact octet_Put.mono _ _ _
      | exact octet_Row.mono _ _ _
      | exact strict_Reader_Flag.mono _ _ _ _ _
      | exact strict_Reader_Num.mono _ _ _ _ _ _ _
      | exact strict_Reader_Row.mono _ _ _ _ _ _ _
      | exact strict_Reader_Serial.mono _ _ _ _ _
      | exact strict_Reader_Serials.mono _ _ _ _ _ _
      | exact strict_Reader_Text.mono _ _ _ _ _ _
      | exact LeO.none _
      | refine LeO.ite ?_ ?_
      | refine LeO.bind ?_ (fun _ => ?_)
    · intro y0 y1 y2 y3 y4 y5 y6 y7 y8 y9 y10
      unfold backhaullaw06_StrictWhole.l1
      repeat' first
      | (with_reducible exact ih0 _ _ _)
      | (with_reducible exact ih1 _ _ _ _ _ _ _ _)
      | (with_reducible exact ih2 _ _ _ _ _ _ _ _ _ _ _)
      | (with_reducible exact octet_Lay.mono _ _)
      | (with_reducible exact octet_Put.mono _ _ _)
      | (with_reducible exact octet_Row.mono _ _ _)
      | (with_reducible exact strict_Reader_Flag.mono _ _ _ _ _)
      | (with_reducible exact strict_Reader_Num.mono _ _ _ _ _ _ _)
      | (with_reducible exact strict_Reader_Row.mono _ _ _ _ _ _ _)
      | (with_reducible exact strict_Reader_Serial.mono _ _ _ _ _)
      | (with_reducible exact strict_Reader_Serials.mono _ _ _ _ _ _)
      | (with_reducible exact strict_Reader_Text.mono _ _ _ _ _ _)
      | (with_reducible exact LeO.refl _)
      | (with_reducible exact LeO.none _)
      | (with_reducible refine LeO.ite ?_ ?_)
      | (with_reducible refine LeO.bind ?_ (fun _ => ?_))
      | exact ih0 _ _ _
      | exact ih1 _ _ _ _ _ _ _ _
      | exact ih2 _ _ _ _ _ _ _ _ _ _ _
      | exact octet_Lay.mono _ _
      | exact octet_Put.mono _ _ _
      | exact octet_Row.mono _ _ _
      | exact strict_Reader_Flag.mono _ _ _ _ _
      | exact strict_Reader_Num.mono _ _ _ _ _ _ _
      | exact strict_Reader_Row.mono _ _ _ _ _ _ _
      | exact strict_Reader_Serial.mono _ _ _ _ _
      | exact strict_Reader_Serials.mono _ _ _ _ _ _
      | exact strict_Reader_Text.mono _ _ _ _ _ _
      | exact LeO.none _
      | refine LeO.ite ?_ ?_
      | refine LeO.bind ?_ (fun _ => ?_)
theorem backhaullaw06_StrictWhole.mono : ∀ a0 a1 k, LeO (backhaullaw06_StrictWhole.f k a0 a1) (backhaullaw06_StrictWhole.f (k + 1) a0 a1) := by
  intro a0 a1 k
  obtain ⟨ih0, ih1, ih2⟩ := backhaullaw06_StrictWhole.mono_l k
  unfold backhaullaw06_StrictWhole.f
  repeat' first
      | (with_reducible exact ih0 _ _ _)
      | (with_reducible exact ih1 _ _ _ _ _ _ _ _)
      | (with_reducible exact ih2 _ _ _ _ _ _ _ _ _ _ _)
      | (with_reducible exact octet_Lay.mono _ _)
      | (with_reducible exact octet_Put.mono _ _ _)
      | (with_reducible exact octet_Row.mono _ _ _)
      | (with_reducible exact strict_Reader_Flag.mono _ _ _ _ _)
      | (with_reducible exact strict_Reader_Num.mono _ _ _ _ _ _ _)
      | (with_reducible exact strict_Reader_Row.mono _ _ _ _ _ _ _)
      | (with_reducible exact strict_Reader_Serial.mono _ _ _ _ _)
      | (with_reducible exact strict_Reader_Serials.mono _ _ _ _ _ _)
      | (with_reducible exact strict_Reader_Text.mono _ _ _ _ _ _)
      | (with_reducible exact LeO.refl _)
      | (with_reducible exact LeO.none _)
      | (with_reducible refine LeO.ite ?_ ?_)
      | (with_reducible refine LeO.bind ?_ (fun _ => ?_))
      | exact ih0 _ _ _
      | exact ih1 _ _ _ _ _ _ _ _
      | exact ih2 _ _ _ _ _ _ _ _ _ _ _
      | exact octet_Lay.mono _ _
      | exact octet_Put.mono _ _ _
      | exact octet_Row.mono _ _ _
      | exact strict_Reader_Flag.mono _ _ _ _ _
      | exact strict_Reader_Num.mono _ _ _ _ _ _ _
      | exact strict_Reader_Row.mono _ _ _ _ _ _ _
      | exact strict_Reader_Serial.mono _ _ _ _ _
      | exact strict_Reader_Serials.mono _ _ _ _ _ _
      | exact strict_Reader_Text.mono _ _ _ _ _ _
      | exact LeO.none _
      | refine LeO.ite ?_ ?_
      | refine LeO.bind ?_ (fun _ => ?_)
def backhaullaw06_StrictWhole.T13 : Bool × List (List Nat × List Nat) := (true, [([], []), ([], []), ([], []), ([1, 2], [1, 2]), ([3], [3]), ([4], [4]), ([], []), ([], []), ([6, 7], [6, 7]), ([8], [8]), ([9], [9]), ([0, 5, 10], [0, 5, 10]), ([], []), ([], []), ([12, 13], [12, 13]), ([14], [14]), ([15], [15]), ([11, 16, 11], [11, 16]), ([17], [17]), ([18], [18]), ([18], [18]), ([19, 17, 0, 1, 2, 3, 4, 5, 6, 7, 8, 9, 10, 11, 12, 13, 14, 15, 16, 17, 18, 19], [19])])
def backhaullaw06_StrictWhole.B13 : List Nat := [0, 0, 0, 6, 14, 30, 0, 0, 192, 448, 960, 2047, 0, 0, 12288, 28672, 61440, 131071, 262143, 524287, 524287, 1048575]
theorem backhaullaw06_StrictWhole.tab13 : rtab .any (opsOf Try.f12 13) = backhaullaw06_StrictWhole.T13 := by kernel_rfl
theorem backhaullaw06_StrictWhole.bits13 : waitsOk backhaullaw06_StrictWhole.T13.2 backhaullaw06_StrictWhole.B13 = true := by kernel_rfl
def backhaullaw06_StrictWhole.T19 : Bool × List (List Nat × List Nat) := (true, [([], []), ([], []), ([0, 1], [0, 1]), ([2], [2]), ([3], [3]), ([], []), ([], []), ([], []), ([6, 7], [6, 7]), ([8], [8]), ([9], [9]), ([], []), ([], []), ([11, 12], [11, 12]), ([13], [13]), ([14], [14]), ([5, 10, 15], [5, 10, 15]), ([4, 16, 16], [4, 16]), ([17], [17]), ([18], [18]), ([18], [18]), ([19, 17, 0, 1, 2, 3, 4, 5, 6, 7, 8, 9, 10, 11, 12, 13, 14, 15, 16, 17, 18, 19], [19])])
def backhaullaw06_StrictWhole.B19 : List Nat := [0, 0, 3, 7, 15, 0, 0, 0, 192, 448, 960, 0, 0, 6144, 14336, 30720, 65504, 131071, 262143, 524287, 524287, 1048575]
theorem backhaullaw06_StrictWhole.tab19 : rtab .any (opsOf Try.f12 19) = backhaullaw06_StrictWhole.T19 := by kernel_rfl
theorem backhaullaw06_StrictWhole.bits19 : waitsOk backhaullaw06_StrictWhole.T19.2 backhaullaw06_StrictWhole.B19 = true := by kernel_rfl
set_option maxHeartbeats 8000000 in
set_option maxRecDepth 100000 in
theorem backhaullaw06_StrictWhole.calls (k : Nat) (a0 : ByteArray) (A1 : Option Addr) (c1 : Nat) (l1 : List (S51)) (w : World) (hr1 : Kd.C k51 w A1 l1.length l1) (hc1 : l1.length ≤ c1) (h : backhaullaw06_StrictWhole.f k a0 l1 = some true) :
    Calls Try.prog 12 #[.string a0, .slice A1 l1.length c1] w fun e w' => e = .returned (.bool true) ∧ Below w.heap.size w w' := by
  have HR1 := Aside0.mk hr1
  have HC1 := Aside0.mk hc1
  clear hr1 hc1
  have HB := Aside0.mk (Below.refl w.heap.size w)
  have H : (if (a0.size : Int) > 2000 then (backhaullaw06_StrictWhole.j0 k a0 l1 true) else (backhaullaw06_StrictWhole.j0 k a0 l1 (decide ((l1.length : Int) > 40)))) = some true := h
  clear h
  have HC3 := Aside0.mk H
  clear H
  go_enter Try.func12, Try.ntmps12
  go_upto_region 1 with (fail)
  go_cut [22] (fun v22 wc => ∃ (kq : Nat) (x22_2 : Bool), v22 = .bool x22_2 ∧ Aside0 (backhaullaw06_StrictWhole.j0 kq a0 l1 x22_2 = some true) ∧ Aside0 (kq ≤ k) ∧ Aside0 (Below w.heap.size w wc))
  case first =>
    have H := HC3.out
    clear HC3
    by_cases c4 : (a0.size : Int) > 2000
    · rw [if_pos c4] at H
      have c4b0 : decide (2000 < (a0.size : Int)) = true := decide_eq_true c4
      have c4b1 : decide (2000 < a0.size) = true := decide_eq_true (by omega)
      clear c4
      (first | rw [c4b0] | (simp only [i64_w, i32_w]; rw [c4b0]) | skip)
      have H' := Aside0.mk H
      clear H
      go_wp2
      go_meet
      case rel => exact ⟨_, (true), (by first | rfl | (simp; done) | (simp [*]; done)), H', ⟨by first | omega | exact Nat.le_refl _⟩, ⟨by repeat (first | (with_reducible first | exact HB.out | apply below_alloc | apply pw_below_drewN | apply below_drew1) | exact HB.out)⟩⟩
    · rw [if_neg c4] at H
      have c4b0 : decide (2000 < (a0.size : Int)) = false := decide_eq_false c4
      have c4b1 : decide (2000 < a0.size) = false := decide_eq_false (by omega)
      clear c4
      (first | rw [c4b0] | (simp only [i64_w, i32_w]; rw [c4b0]) | skip)
      have H' := Aside0.mk H
      clear H
      go_wp2
      go_meet
      case rel => exact ⟨_, (decide ((l1.length : Int) > 40)), (by first | rfl | (simp; done) | (simp [*]; done)), H', ⟨by first | omega | exact Nat.le_refl _⟩, ⟨by repeat (first | (with_reducible first | exact HB.out | apply below_alloc | apply pw_below_drewN | apply below_drew1) | exact HB.out)⟩⟩
  case rest =>
    clear HC3
    try clear c1
    try clear p2
    try clear c4
    try clear c4b0
    try clear c4b1
    obtain ⟨kq, x22_2, rfl, HA, HJ2, HB⟩ := hcut
    cases kq with
    | zero => exact absurd HA.out (by simp [backhaullaw06_StrictWhole.j0])
    | succ kj2 =>
      have H := HA.out
      clear HA
      simp only [backhaullaw06_StrictWhole.j0] at H
      by_cases c5 : x22_2 = true
      · subst c5
        have H1 : ((backhaullaw06_awake.f).bind fun t1303 => (if t1303 = true then (some true) else (some false))) = some true := by first | (rw [if_pos rfl] at H; exact H) | rfl
        clear H
        have H := H1
        clear H1
        replace H := Option.bind_eq_some_iff.mp H
        obtain ⟨t1303, A60, H⟩ := H
        replace H : (if t1303 = true then (some true) else (some false)) = some true := H
        have A6 := Aside0.mk A60
        clear A60
        by_cases c7 : t1303 = true
        · subst c7
          have H1 : (some true) = some true := by first | (rw [if_pos rfl] at H; exact H) | rfl
          clear H
          have H := H1
          clear H1
          clear H
          go_wp2_with (first | ((with_reducible refine gate_callee (f := 35) rfl ?_); refine goesL_ (some 23) rfl rfl Try.func35 (by kernel_rfl) rfl #[] rfl (by (try simp only [List.map_toArray, List.map_cons, List.map_nil]); first | done | rfl | (simp only [List.length_drop, List.length_take]; rfl)) ?_; (with_reducible refine (backhaullaw06_awake.calls  true _ A6.out).mono ?_); rintro e w8 ⟨rfl, hb⟩; refine ⟨_, rfl, ?_⟩; have n0_ := Aside0.mk (below_step (by repeat (first | (with_reducible first | exact HB.out | apply below_alloc | apply pw_below_drewN | apply below_drew1) | exact HB.out)) hb); clear HB; have HB := n0_; clear n0_; (try clear hb); (try clear hb2); (try clear hk); (try clear hi)))
          go_ret
          exact ⟨by first | rfl | (simp [errW_none, errW_some] <;> rfl) | (simp [*, errW_none, errW_some] <;> rfl), by repeat (first | (with_reducible first | exact HB.out | apply below_alloc | apply pw_below_drewN | apply below_drew1) | exact HB.out)⟩
        · replace c7 := Bool.eq_false_iff.mpr c7
          subst c7
          have H1 : (some false) = some true := by first | (rw [if_neg (show ¬ (false = true) by decide)] at H; exact H) | rfl
          clear H
          have H := H1
          clear H1
          exact absurd H (by simp)
      · replace c5 := Bool.eq_false_iff.mpr c5
        subst c5
        have H1 : ((strict_New.f a0).bind fun bt1304 => (backhaullaw06_StrictWhole.l0 kj2 a0 l1 (⟨#[]⟩ : ByteArray) 0 bt1304.1 bt1304.2.1 bt1304.2.2.1 bt1304.2.2.2)) = some true := by first | (rw [if_neg (show ¬ (false = true) by decide)] at H; exact H) | rfl
        clear H
        have H := H1
        clear H1
        replace H := Option.bind_eq_some_iff.mp H
        obtain ⟨⟨t1304, t1305, t1306, t1307⟩, A90, H⟩ := H
        replace H : (backhaullaw06_StrictWhole.l0 kj2 a0 l1 (⟨#[]⟩ : ByteArray) 0 t1304 t1305 t1306 t1307) = some true := H
        have A9 := Aside0.mk A90
        clear A90
        have H' := Aside0.mk H
        clear H
        go_wp2_with (first | ((with_reducible refine gate_callee (f := 36) rfl ?_); refine goesL_ (some 25) rfl rfl Try.func36 (by kernel_rfl) rfl #[.string a0] rfl (by (try simp only [List.map_toArray, List.map_cons, List.map_nil]); first | done | rfl | (simp only [List.length_drop, List.length_take]; rfl)) ?_; (with_reducible refine (strict_New.calls a0 t1304 t1305 t1306 t1307 w _ ?side1 A9.out).mono ?_); (case side1 => repeat (first | (with_reducible first | exact HB.out | apply below_alloc | apply pw_below_drewN | apply below_drew1) | exact HB.out)); rintro e w10 ⟨g1308, rfl, hi, hb, hb2⟩; refine ⟨_, rfl, ?_⟩; have n0_ := Aside0.mk (hb); have n1_ := Aside0.mk (hi); clear HB; have HB := n0_; have HI1308 := n1_; clear n0_ n1_; (try clear hb); (try clear hb2); (try clear hk); (try clear hi); (try simp only [errW_none, errW_some])))
        go_loopg [6, 7] kj2 (fun kq v6 v7 w' => ∃ (x6_2 : ByteArray) (x7_2 : Int) (x1309000_2 : ByteArray) (x1309001_2 : Int) (x1309002_2 : Option (Int × Int)) (x1309003_2 : Bool), v6 = .string x6_2 ∧ v7 = .int .i64 x7_2 ∧ Aside0 (backhaullaw06_StrictWhole.l0 kq a0 l1 x6_2 x7_2 x1309000_2 x1309001_2 x1309002_2 x1309003_2 = some true) ∧ Aside0 (kq ≤ kj2) ∧ Aside0 (IsS56 w w' g1308 x1309000_2 x1309001_2 x1309002_2 x1309003_2) ∧ Aside0 (Below w.heap.size w w'))
        case atStart => exact ⟨((⟨#[]⟩ : ByteArray)), (0), (t1304), (t1305), (t1306), (t1307), (by first | rfl | (simp; done) | (simp [*]; done)), (by first | rfl | (simp; done) | (simp [*]; done)), H', ⟨Nat.le_refl _⟩, ⟨by repeat (first | (with_reducible first | exact HI1308.out | apply IsS56.alloc | apply IsS56.drewN | apply IsS56.drew | apply IsS56.set_0 | apply IsS56.set_1 | apply IsS56.set_2 | apply IsS56.set_3 | apply IsS56.sete_2 | with_unfolding_all rfl) | exact HI1308.out)⟩, ⟨by repeat (first | (with_reducible first | exact HB.out | apply below_alloc | apply pw_below_drewN | apply below_drew1 | refine below_set ?_ (IsS56.ge HI1308.out)) | exact HB.out)⟩⟩
        case round =>
          clear H'
          try clear c1
          try clear p2
          try clear c3
          try clear c4
          try clear c4b0
          try clear c4b1
          try clear c5
          try clear c7
          try clear p2
          obtain ⟨x6_2, x7_2, x1309000_2, x1309001_2, x1309002_2, x1309003_2, rfl, rfl, HA, HK2, HI1308, HB⟩ := hrel
          cases gk with
          | zero => exact absurd HA.out (by simp [backhaullaw06_StrictWhole.l0])
          | succ k2 =>
            have H := HA.out
            clear HA
            simp only [backhaullaw06_StrictWhole.l0] at H
            by_cases c11 : x7_2 < (l1.length : Int)
            · rw [if_pos c11] at H
              have c11b0 : decide (x7_2 < (l1.length : Int)) = true := decide_eq_true c11
              clear c11
              by_cases c12 : 0 ≤ x7_2
              · rw [if_pos c12] at H
                have c12b0 : decide (0 ≤ x7_2) = true := decide_eq_true c12
                clear c12
                by_cases c13 : ((rd_T51 l1 x7_2).f0) = 0
                · rw [if_pos c13] at H
                  have c13b0 : (((rd_T51 l1 x7_2).f0) == 0) = true := beq_iff_eq.mpr c13
                  have c13b1 : (((rd_T51 l1 x7_2).f0) != 0) = false := bne_eq_false_iff_eq.mpr c13
                  clear c13
                  replace H := Option.bind_eq_some_iff.mp H
                  obtain ⟨⟨t1312, t1313, t1314, t1315, t1316⟩, A140, H⟩ := H
                  replace H : ((octet_Put.f k2 t1312 ((rd_T51 l1 x7_2).f1)).bind fun bt1318 => (if x6_2.size + bt1318.1.size ≤ 9223372036854775807 then (backhaullaw06_StrictWhole.l0 k2 a0 l1 (x6_2 ++ bt1318.1) (wrap64 (x7_2 + 1)) t1313 t1314 t1315 t1316) else (none))) = some true := H
                  have A14 := Aside0.mk A140
                  clear A140
                  replace H := Option.bind_eq_some_iff.mp H
                  obtain ⟨⟨t1318, t1319⟩, A150, H⟩ := H
                  replace H : (if x6_2.size + t1318.size ≤ 9223372036854775807 then (backhaullaw06_StrictWhole.l0 k2 a0 l1 (x6_2 ++ t1318) (wrap64 (x7_2 + 1)) t1313 t1314 t1315 t1316) else (none)) = some true := H
                  have A15 := Aside0.mk A150
                  clear A150
                  by_cases c16 : x6_2.size + t1318.size ≤ 9223372036854775807
                  · rw [if_pos c16] at H
                    have c16b0 := eq_true c16
                    have c16b1 : decide (x6_2.size + t1318.size ≤ 9223372036854775807) = true := decide_eq_true c16
                    try have c16b2 : (9223372036854775807 < x6_2.size + t1318.size) = False := eq_false (Nat.not_lt.2 c16)
                    have H' := Aside0.mk H
                    clear H
                    have p1309 : 0 ≤ (x7_2 : Int) := of_decide_eq_true (by first | (with_reducible assumption) | assumption)
                    have q1309 : x7_2 < (l1.length : Int) := of_decide_eq_true (by first | (with_reducible assumption) | assumption)
                    obtain ⟨ad1309, e1309, hx1309_0, hx1309_1, hx1309_2⟩ := at_T51 HR1.out x7_2 p1309 q1309
                    cases e1309
                    replace hx1309_0 := (HB.out.cell (World.block_lt_of_cell? w _ hx1309_0)).trans hx1309_0
                    replace hx1309_1 := (HB.out.cell (World.block_lt_of_cell? w _ hx1309_1)).trans hx1309_1
                    replace hx1309_2 := (HB.out.cell (World.block_lt_of_cell? w _ hx1309_2)).trans hx1309_2
                    replace p1309 := eq_true p1309
                    replace q1309 := eq_true q1309
                    try go_wp2
                    have n0_ := Aside0.mk (IsS56.drew HI1308.out)
                    have n1_ := Aside0.mk (below_drew1 HB.out)
                    clear HI1308
                    clear HB
                    have HI1308 := n0_
                    have HB := n1_
                    clear n0_ n1_
                    have p1310 : 0 ≤ (x7_2 : Int) := of_decide_eq_true (by first | (with_reducible assumption) | assumption)
                    have q1310 : x7_2 < (l1.length : Int) := of_decide_eq_true (by first | (with_reducible assumption) | assumption)
                    obtain ⟨ad1310, e1310, hx1310_0, hx1310_1, hx1310_2⟩ := at_T51 HR1.out x7_2 p1310 q1310
                    have hw1310_2 := hx1310_2
                    have hw1310_1 := hx1310_1
                    have hw1310_0 := hx1310_0
                    obtain rfl : ad1309 = ad1310 := (by injection e1310)
                    replace hx1310_0 := (HB.out.cell (World.block_lt_of_cell? w _ hx1310_0)).trans hx1310_0
                    replace hx1310_1 := (HB.out.cell (World.block_lt_of_cell? w _ hx1310_1)).trans hx1310_1
                    replace hx1310_2 := (HB.out.cell (World.block_lt_of_cell? w _ hx1310_2)).trans hx1310_2
                    replace p1310 := eq_true p1310
                    replace q1310 := eq_true q1310
                    have p1311 : 0 ≤ (x7_2 : Int) := of_decide_eq_true (by first | (with_reducible assumption) | assumption)
                    have q1311 : x7_2 < (l1.length : Int) := of_decide_eq_true (by first | (with_reducible assumption) | assumption)
                    obtain ⟨ad1311, e1311, hx1311_0, hx1311_1, hx1311_2⟩ := at_T51 HR1.out x7_2 p1311 q1311
                    have hw1311_2 := hx1311_2
                    have hw1311_1 := hx1311_1
                    have hw1311_0 := hx1311_0
                    obtain rfl : ad1309 = ad1311 := (by injection e1311)
                    replace hx1311_0 := (HB.out.cell (World.block_lt_of_cell? w _ hx1311_0)).trans hx1311_0
                    replace hx1311_1 := (HB.out.cell (World.block_lt_of_cell? w _ hx1311_1)).trans hx1311_1
                    replace hx1311_2 := (HB.out.cell (World.block_lt_of_cell? w _ hx1311_2)).trans hx1311_2
                    replace p1311 := eq_true p1311
                    replace q1311 := eq_true q1311
                    have p1317 : 0 ≤ (x7_2 : Int) := of_decide_eq_true (by first | (with_reducible assumption) | assumption)
                    have q1317 : x7_2 < (l1.length : Int) := of_decide_eq_true (by first | (with_reducible assumption) | assumption)
                    obtain ⟨ad1317, e1317, hx1317_0, hx1317_1, hx1317_2⟩ := at_T51 HR1.out x7_2 p1317 q1317
                    have hw1317_2 := hx1317_2
                    have hw1317_1 := hx1317_1
                    have hw1317_0 := hx1317_0
                    obtain rfl : ad1309 = ad1317 := (by injection e1317)
                    replace hx1317_0 := (HB.out.cell (World.block_lt_of_cell? w _ hx1317_0)).trans hx1317_0
                    replace hx1317_1 := (HB.out.cell (World.block_lt_of_cell? w _ hx1317_1)).trans hx1317_1
                    replace hx1317_2 := (HB.out.cell (World.block_lt_of_cell? w _ hx1317_2)).trans hx1317_2
                    replace p1317 := eq_true p1317
                    replace q1317 := eq_true q1317
                    refine start_ (n := 22) (S := fun w' => w'.cell? (ad1309.add ((x7_2).toNat * 3)) = some (.int .i64 ((rd_T51 l1 x7_2).f0)) ∧ w'.cell? ⟨(ad1309.add ((x7_2).toNat * 3)).block, (ad1309.add ((x7_2).toNat * 3)).off + 1, none⟩ = some (.int .i64 ((rd_T51 l1 x7_2).f1)) ∧ w'.cell? ⟨(ad1309.add ((x7_2).toNat * 3)).block, (ad1309.add ((x7_2).toNat * 3)).off + 2, none⟩ = some (.int .i64 ((rd_T51 l1 x7_2).f2)) ∧ w'.cell? (ad1309.add ((x7_2).toNat * 3)) = some (.int .i64 ((rd_T51 l1 x7_2).f0)) ∧ w'.cell? ⟨(ad1309.add ((x7_2).toNat * 3)).block, (ad1309.add ((x7_2).toNat * 3)).off + 1, none⟩ = some (.int .i64 ((rd_T51 l1 x7_2).f1)) ∧ w'.cell? ⟨(ad1309.add ((x7_2).toNat * 3)).block, (ad1309.add ((x7_2).toNat * 3)).off + 2, none⟩ = some (.int .i64 ((rd_T51 l1 x7_2).f2)) ∧ w'.cell? (ad1309.add ((x7_2).toNat * 3)) = some (.int .i64 ((rd_T51 l1 x7_2).f0)) ∧ w'.cell? ⟨(ad1309.add ((x7_2).toNat * 3)).block, (ad1309.add ((x7_2).toNat * 3)).off + 1, none⟩ = some (.int .i64 ((rd_T51 l1 x7_2).f1)) ∧ w'.cell? ⟨(ad1309.add ((x7_2).toNat * 3)).block, (ad1309.add ((x7_2).toNat * 3)).off + 2, none⟩ = some (.int .i64 ((rd_T51 l1 x7_2).f2))) (ds := []) #[false, false, false, false, false, false, false, false, false, false, false, false, false, false, false, false, false, false, false, false, false, false] (by kernel_rfl) rfl rfl ⟨((HB.out.cell (World.block_lt_of_cell? w _ hw1310_0)).trans hw1310_0), ((HB.out.cell (World.block_lt_of_cell? w _ hw1310_1)).trans hw1310_1), ((HB.out.cell (World.block_lt_of_cell? w _ hw1310_2)).trans hw1310_2), ((HB.out.cell (World.block_lt_of_cell? w _ hw1311_0)).trans hw1311_0), ((HB.out.cell (World.block_lt_of_cell? w _ hw1311_1)).trans hw1311_1), ((HB.out.cell (World.block_lt_of_cell? w _ hw1311_2)).trans hw1311_2), ((HB.out.cell (World.block_lt_of_cell? w _ hw1317_0)).trans hw1317_0), ((HB.out.cell (World.block_lt_of_cell? w _ hw1317_1)).trans hw1317_1), ((HB.out.cell (World.block_lt_of_cell? w _ hw1317_2)).trans hw1317_2)⟩ (fun hHeld => ?_); refine with_tabW backhaullaw06_StrictWhole.tab13 backhaullaw06_StrictWhole.bits13 (fun HT_ HW_ => ?_)
                    generalize wr.drew = w17 at HI1308 HB hx1310_0 hx1310_1 hx1310_2 hx1311_0 hx1311_1 hx1311_2 hx1317_0 hx1317_1 hx1317_2 hHeld ⊢
                    refine pure_ (i := 0) (N := some 42) (v := ?_) (a' := ?_) #[true, false, false, false, false, false, false, false, false, false, false, false, false, false, false, false, false, false, false, false, false, false] rfl rfl (any_of HT_.out (by kernel_rfl)) (fun _ _ _ h => h) (Or.inl ⟨by rfl, ?_⟩) ?_ ?_
                    rotate_left
                    · intro w'
                      go_simp
                      with_reducible rfl
                    rotate_left
                    · simp only [Act.put, List.setIfInBounds_toArray, List.set_cons_zero, List.set_cons_succ, i64_w, i32_w]
                      rfl
                    refine pure_ (i := 1) (N := some 43) (v := ?_) (a' := ?_) #[true, true, false, false, false, false, false, false, false, false, false, false, false, false, false, false, false, false, false, false, false, false] rfl rfl (any_of HT_.out (by kernel_rfl)) (fun _ _ _ h => h) (Or.inl ⟨by rfl, ?_⟩) ?_ ?_
                    rotate_left
                    · intro w'
                      go_simp
                      with_reducible rfl
                    rotate_left
                    · simp only [Act.put, List.setIfInBounds_toArray, List.set_cons_zero, List.set_cons_succ, i64_w, i32_w]
                      rfl
                    refine pure_ (i := 2) (N := some 44) (v := ?_) (a' := ?_) #[true, true, true, false, false, false, false, false, false, false, false, false, false, false, false, false, false, false, false, false, false, false] rfl rfl (any_of HT_.out (by kernel_rfl)) (fun _ _ _ h => h) (Or.inl ⟨by rfl, ?_⟩) ?_ ?_
                    rotate_left
                    · intro w'
                      go_simp
                      with_reducible rfl
                    rotate_left
                    · simp only [Act.put, List.setIfInBounds_toArray, List.set_cons_zero, List.set_cons_succ, i64_w, i32_w]
                      rfl
                    refine pure_ (i := 3) (N := some 45) (v := ?_) (a' := ?_) #[true, true, true, true, false, false, false, false, false, false, false, false, false, false, false, false, false, false, false, false, false, false] rfl rfl (any_of HT_.out (by kernel_rfl)) (fun _ _ _ h => h) (Or.inl ⟨by rfl, ?_⟩) ?_ ?_
                    rotate_left
                    · intro w'
                      go_simp
                      with_reducible rfl
                    rotate_left
                    · simp only [Act.put, List.setIfInBounds_toArray, List.set_cons_zero, List.set_cons_succ, i64_w, i32_w]
                      rfl
                    refine pure_ (i := 4) (N := some 46) (v := ?_) (a' := ?_) #[true, true, true, true, true, false, false, false, false, false, false, false, false, false, false, false, false, false, false, false, false, false] rfl rfl (any_of HT_.out (by kernel_rfl)) (fun _ _ _ h => h) (Or.inl ⟨by rfl, ?_⟩) ?_ ?_
                    rotate_left
                    · intro w'
                      go_simp
                      with_reducible rfl
                    rotate_left
                    · simp only [Act.put, List.setIfInBounds_toArray, List.set_cons_zero, List.set_cons_succ, i64_w, i32_w]
                      rfl
                    refine pure_ (i := 6) (N := some 48) (v := ?_) (a' := ?_) #[true, true, true, true, true, false, true, false, false, false, false, false, false, false, false, false, false, false, false, false, false, false] rfl rfl (any_of HT_.out (by kernel_rfl)) (fun _ _ _ h => h) (Or.inl ⟨by rfl, ?_⟩) ?_ ?_
                    rotate_left
                    · intro w'
                      go_simp
                      with_reducible rfl
                    rotate_left
                    · simp only [Act.put, List.setIfInBounds_toArray, List.set_cons_zero, List.set_cons_succ, i64_w, i32_w]
                      rfl
                    refine pure_ (i := 7) (N := some 49) (v := ?_) (a' := ?_) #[true, true, true, true, true, false, true, true, false, false, false, false, false, false, false, false, false, false, false, false, false, false] rfl rfl (any_of HT_.out (by kernel_rfl)) (fun _ _ _ h => h) (Or.inl ⟨by rfl, ?_⟩) ?_ ?_
                    rotate_left
                    · intro w'
                      go_simp
                      with_reducible rfl
                    rotate_left
                    · simp only [Act.put, List.setIfInBounds_toArray, List.set_cons_zero, List.set_cons_succ, i64_w, i32_w]
                      rfl
                    refine pure_ (i := 8) (N := some 50) (v := ?_) (a' := ?_) #[true, true, true, true, true, false, true, true, true, false, false, false, false, false, false, false, false, false, false, false, false, false] rfl rfl (any_of HT_.out (by kernel_rfl)) (fun _ _ _ h => h) (Or.inl ⟨by rfl, ?_⟩) ?_ ?_
                    rotate_left
                    · intro w'
                      go_simp
                      with_reducible rfl
                    rotate_left
                    · simp only [Act.put, List.setIfInBounds_toArray, List.set_cons_zero, List.set_cons_succ, i64_w, i32_w]
                      rfl
                    refine pure_ (i := 9) (N := some 51) (v := ?_) (a' := ?_) #[true, true, true, true, true, false, true, true, true, true, false, false, false, false, false, false, false, false, false, false, false, false] rfl rfl (any_of HT_.out (by kernel_rfl)) (fun _ _ _ h => h) (Or.inl ⟨by rfl, ?_⟩) ?_ ?_
                    rotate_left
                    · intro w'
                      go_simp
                      with_reducible rfl
                    rotate_left
                    · simp only [Act.put, List.setIfInBounds_toArray, List.set_cons_zero, List.set_cons_succ, i64_w, i32_w]
                      rfl
                    refine pure_ (i := 12) (N := some 54) (v := ?_) (a' := ?_) #[true, true, true, true, true, false, true, true, true, true, false, false, true, false, false, false, false, false, false, false, false, false] rfl rfl (any_of HT_.out (by kernel_rfl)) (fun _ _ _ h => h) (Or.inl ⟨by rfl, ?_⟩) ?_ ?_
                    rotate_left
                    · intro w'
                      go_simp
                      with_reducible rfl
                    rotate_left
                    · simp only [Act.put, List.setIfInBounds_toArray, List.set_cons_zero, List.set_cons_succ, i64_w, i32_w]
                      rfl
                    refine pure_ (i := 13) (N := some 55) (v := ?_) (a' := ?_) #[true, true, true, true, true, false, true, true, true, true, false, false, true, true, false, false, false, false, false, false, false, false] rfl rfl (any_of HT_.out (by kernel_rfl)) (fun _ _ _ h => h) (Or.inl ⟨by rfl, ?_⟩) ?_ ?_
                    rotate_left
                    · intro w'
                      go_simp
                      with_reducible rfl
                    rotate_left
                    · simp only [Act.put, List.setIfInBounds_toArray, List.set_cons_zero, List.set_cons_succ, i64_w, i32_w]
                      rfl
                    refine pure_ (i := 14) (N := some 56) (v := ?_) (a' := ?_) #[true, true, true, true, true, false, true, true, true, true, false, false, true, true, true, false, false, false, false, false, false, false] rfl rfl (any_of HT_.out (by kernel_rfl)) (fun _ _ _ h => h) (Or.inl ⟨by rfl, ?_⟩) ?_ ?_
                    rotate_left
                    · intro w'
                      go_simp
                      with_reducible rfl
                    rotate_left
                    · simp only [Act.put, List.setIfInBounds_toArray, List.set_cons_zero, List.set_cons_succ, i64_w, i32_w]
                      rfl
                    refine pure_ (i := 15) (N := some 57) (v := ?_) (a' := ?_) #[true, true, true, true, true, false, true, true, true, true, false, false, true, true, true, true, false, false, false, false, false, false] rfl rfl (any_of HT_.out (by kernel_rfl)) (fun _ _ _ h => h) (Or.inl ⟨by rfl, ?_⟩) ?_ ?_
                    rotate_left
                    · intro w'
                      go_simp
                      with_reducible rfl
                    rotate_left
                    · simp only [Act.put, List.setIfInBounds_toArray, List.set_cons_zero, List.set_cons_succ, i64_w, i32_w]
                      rfl
                    refine take_ (i := 5) (N := some 47) (v := ?_) (a' := ?_) #[true, true, true, true, true, true, true, true, true, true, false, false, true, true, true, true, false, false, false, false, false, false] rfl rfl (take_ofW HT_.out HW_.out (by kernel_rfl)) (fun _ _ _ h => h) (Or.inl ⟨by rfl, ?_⟩) hHeld ?_ ?_
                    rotate_left
                    · rintro w' ⟨s0, s1, s2, s3, s4, s5, s6, s7, s8⟩
                      go_simp
                      with_reducible rfl
                    rotate_left
                    · simp only [Act.put, List.setIfInBounds_toArray, List.set_cons_zero, List.set_cons_succ, i64_w, i32_w]
                      rfl
                    refine take_ (i := 10) (N := some 52) (v := ?_) (a' := ?_) #[true, true, true, true, true, true, true, true, true, true, true, false, true, true, true, true, false, false, false, false, false, false] rfl rfl (take_ofW HT_.out HW_.out (by kernel_rfl)) (fun _ _ _ h => h) (Or.inl ⟨by rfl, ?_⟩) hHeld ?_ ?_
                    rotate_left
                    · rintro w' ⟨s0, s1, s2, s3, s4, s5, s6, s7, s8⟩
                      go_simp
                      with_reducible rfl
                    rotate_left
                    · simp only [Act.put, List.setIfInBounds_toArray, List.set_cons_zero, List.set_cons_succ, i64_w, i32_w]
                      rfl
                    refine take_ (i := 16) (N := some 58) (v := ?_) (a' := ?_) #[true, true, true, true, true, true, true, true, true, true, true, false, true, true, true, true, true, false, false, false, false, false] rfl rfl (take_ofW HT_.out HW_.out (by kernel_rfl)) (fun _ _ _ h => h) (Or.inl ⟨by rfl, ?_⟩) hHeld ?_ ?_
                    rotate_left
                    · rintro w' ⟨s0, s1, s2, s3, s4, s5, s6, s7, s8⟩
                      go_simp
                      with_reducible rfl
                    rotate_left
                    · simp only [Act.put, List.setIfInBounds_toArray, List.set_cons_zero, List.set_cons_succ, i64_w, i32_w]
                      rfl
                    refine one_ (i := 11) (N := some 53) #[true, true, true, true, true, true, true, true, true, true, true, true, true, true, true, true, true, false, false, false, false, false] rfl rfl (one_of HT_.out (by kernel_rfl)) (by decide) (fun K hK => ?_)
                    refine goes_ Try.func41 (by kernel_rfl) rfl #[.pointer (some ⟨g1308, 0, none⟩), .int .i64 ((rd_T51 l1 x7_2).f1), .int .i64 ((rd_T51 l1 x7_2).f2)] (by rfl) rfl rfl (by (try simp only [List.map_toArray, List.map_cons, List.map_nil]); first | done | rfl | (simp only [List.length_drop, List.length_take]; rfl)) ?_
                    with_reducible refine (strict_Reader_Num.calls k2 g1308 x1309000_2 x1309001_2 x1309002_2 x1309003_2 ((rd_T51 l1 x7_2).f1) ((rd_T51 l1 x7_2).f2) t1312 t1313 t1314 t1315 t1316 w _ ?side1 ?side2 A14.out).mono ?_
                    (case side1 => repeat (first | (with_reducible first | exact HI1308.out | apply IsS56.alloc | apply IsS56.drewN | apply IsS56.drew | apply IsS56.set_0 | apply IsS56.set_1 | apply IsS56.set_2 | apply IsS56.set_3 | apply IsS56.sete_2 | with_unfolding_all rfl) | exact HI1308.out))
                    (case side2 => repeat (first | (with_reducible first | exact HB.out | apply below_alloc | apply pw_below_drewN | apply below_drew1 | refine below_set ?_ (IsS56.ge HI1308.out)) | exact HB.out))
                    rintro e w18 ⟨rfl, hi, hb, hk⟩
                    refine ⟨_, rfl, ?_⟩
                    have n0_ := Aside0.mk (hb)
                    have n1_ := Aside0.mk (hi)
                    clear HB
                    clear HI1308
                    have HB := n0_
                    have HI1308 := n1_
                    clear n0_ n1_
                    (try clear hb)
                    (try clear hb2)
                    (try clear hk)
                    (try clear hi)
                    (try simp only [errW_none, errW_some])
                    refine hK.out _ _ ⟨((HB.out.cell (World.block_lt_of_cell? w _ hw1310_0)).trans hw1310_0), ((HB.out.cell (World.block_lt_of_cell? w _ hw1310_1)).trans hw1310_1), ((HB.out.cell (World.block_lt_of_cell? w _ hw1310_2)).trans hw1310_2), ((HB.out.cell (World.block_lt_of_cell? w _ hw1311_0)).trans hw1311_0), ((HB.out.cell (World.block_lt_of_cell? w _ hw1311_1)).trans hw1311_1), ((HB.out.cell (World.block_lt_of_cell? w _ hw1311_2)).trans hw1311_2), ((HB.out.cell (World.block_lt_of_cell? w _ hw1317_0)).trans hw1317_0), ((HB.out.cell (World.block_lt_of_cell? w _ hw1317_1)).trans hw1317_1), ((HB.out.cell (World.block_lt_of_cell? w _ hw1317_2)).trans hw1317_2)⟩ (fun hHeld => ?_)
                    clear hK K
                    refine norm_ (a' := ?_) ?_ ?_
                    rotate_left
                    · show Act.put _ (some 53) _ = _
                      simp only [Act.put, List.setIfInBounds_toArray, List.set_cons_zero, List.set_cons_succ, i64_w, i32_w]
                      rfl
                    refine one_ (i := 17) (N := some 59) #[true, true, true, true, true, true, true, true, true, true, true, true, true, true, true, true, true, true, false, false, false, false] rfl rfl (one_of HT_.out (by kernel_rfl)) (by decide) (fun K hK => ?_)
                    refine goes_ Try.func69 (by kernel_rfl) rfl #[.int .i64 t1312, .int .i64 ((rd_T51 l1 x7_2).f1)] (by rfl) rfl rfl (by (try simp only [List.map_toArray, List.map_cons, List.map_nil]); first | done | rfl | (simp only [List.length_drop, List.length_take]; rfl)) ?_
                    with_reducible refine (octet_Put.calls k2 t1312 ((rd_T51 l1 x7_2).f1) t1318 t1319 _ A15.out).mono ?_
                    rintro e w19 ⟨rfl, hb⟩
                    refine ⟨_, rfl, ?_⟩
                    have n0_ := Aside0.mk (IsS56.below (by repeat (first | (with_reducible first | exact HI1308.out | apply IsS56.alloc | apply IsS56.drewN | apply IsS56.drew | apply IsS56.set_0 | apply IsS56.set_1 | apply IsS56.set_2 | apply IsS56.set_3 | apply IsS56.sete_2 | with_unfolding_all rfl) | exact HI1308.out)) hb)
                    have n1_ := Aside0.mk (below_step (by repeat (first | (with_reducible first | exact HB.out | apply below_alloc | apply pw_below_drewN | apply below_drew1 | refine below_set ?_ (IsS56.ge HI1308.out)) | exact HB.out)) hb)
                    clear HI1308
                    clear HB
                    have HI1308 := n0_
                    have HB := n1_
                    clear n0_ n1_
                    (try clear hb)
                    (try clear hb2)
                    (try clear hk)
                    (try clear hi)
                    refine hK.out _ _ ⟨((HB.out.cell (World.block_lt_of_cell? w _ hw1310_0)).trans hw1310_0), ((HB.out.cell (World.block_lt_of_cell? w _ hw1310_1)).trans hw1310_1), ((HB.out.cell (World.block_lt_of_cell? w _ hw1310_2)).trans hw1310_2), ((HB.out.cell (World.block_lt_of_cell? w _ hw1311_0)).trans hw1311_0), ((HB.out.cell (World.block_lt_of_cell? w _ hw1311_1)).trans hw1311_1), ((HB.out.cell (World.block_lt_of_cell? w _ hw1311_2)).trans hw1311_2), ((HB.out.cell (World.block_lt_of_cell? w _ hw1317_0)).trans hw1317_0), ((HB.out.cell (World.block_lt_of_cell? w _ hw1317_1)).trans hw1317_1), ((HB.out.cell (World.block_lt_of_cell? w _ hw1317_2)).trans hw1317_2)⟩ (fun hHeld => ?_)
                    clear hK K
                    refine norm_ (a' := ?_) ?_ ?_
                    rotate_left
                    · show Act.put _ (some 59) _ = _
                      simp only [Act.put, List.setIfInBounds_toArray, List.set_cons_zero, List.set_cons_succ, i64_w, i32_w]
                      rfl
                    refine pure_ (i := 18) (N := some 41) (v := ?_) (a' := ?_) #[true, true, true, true, true, true, true, true, true, true, true, true, true, true, true, true, true, true, true, false, false, false] rfl rfl (any_of HT_.out (by kernel_rfl)) (fun _ _ _ h => h) (Or.inl ⟨by rfl, ?_⟩) ?_ ?_
                    rotate_left
                    · intro w'
                      go_simp
                      with_reducible rfl
                    rotate_left
                    · simp only [Act.put, List.setIfInBounds_toArray, List.set_cons_zero, List.set_cons_succ, i64_w, i32_w]
                      rfl
                    refine pure_ (i := 19) (N := some 60) (v := ?_) (a' := ?_) #[true, true, true, true, true, true, true, true, true, true, true, true, true, true, true, true, true, true, true, true, false, false] rfl rfl (any_of HT_.out (by kernel_rfl)) (fun _ _ _ h => h) (Or.inl ⟨by rfl, ?_⟩) ?_ ?_
                    rotate_left
                    · intro w'
                      go_simp
                      with_reducible rfl
                    rotate_left
                    · simp only [Act.put, List.setIfInBounds_toArray, List.set_cons_zero, List.set_cons_succ, i64_w, i32_w]
                      rfl
                    refine pure_ (i := 20) (N := some 61) (v := ?_) (a' := ?_) #[true, true, true, true, true, true, true, true, true, true, true, true, true, true, true, true, true, true, true, true, true, false] rfl rfl (any_of HT_.out (by kernel_rfl)) (fun _ _ _ h => h) (Or.inl ⟨by rfl, ?_⟩) ?_ ?_
                    rotate_left
                    · intro w'
                      go_simp
                      with_reducible rfl
                    rotate_left
                    · simp only [Act.put, List.setIfInBounds_toArray, List.set_cons_zero, List.set_cons_succ, i64_w, i32_w]
                      rfl
                    refine pure_ (i := 21) (N := some 8) (v := ?_) (a' := ?_) #[true, true, true, true, true, true, true, true, true, true, true, true, true, true, true, true, true, true, true, true, true, true] rfl rfl (any_of HT_.out (by kernel_rfl)) (fun _ _ _ h => h) (Or.inl ⟨by rfl, ?_⟩) ?_ ?_
                    rotate_left
                    · intro w'
                      go_simp
                      with_reducible rfl
                    rotate_left
                    · simp only [Act.put, List.setIfInBounds_toArray, List.set_cons_zero, List.set_cons_succ, i64_w, i32_w]
                      rfl
                    refine done_ (done_of HT_.out (by kernel_rfl)) ?_
                    try go_wp2
                    go_roundg k2
                    case measure => have := HJ2.out; have := HK2.out; omega
                    case rel => exact ⟨(x6_2 ++ t1318), (wrap64 (x7_2 + 1)), (t1313), (t1314), (t1315), (t1316), (by first | rfl | (simp; done) | (simp [*]; done)), (by first | rfl | (simp; done) | (simp [*]; done)), H', ⟨by have := HJ2.out; have := HK2.out; omega⟩, ⟨by repeat (first | (with_reducible first | exact HI1308.out | apply IsS56.alloc | apply IsS56.drewN | apply IsS56.drew | apply IsS56.set_0 | apply IsS56.set_1 | apply IsS56.set_2 | apply IsS56.set_3 | apply IsS56.sete_2 | with_unfolding_all rfl) | exact HI1308.out)⟩, ⟨by repeat (first | (with_reducible first | exact HB.out | apply below_alloc | apply pw_below_drewN | apply below_drew1 | refine below_set ?_ (IsS56.ge HI1308.out)) | exact HB.out)⟩⟩
                  · rw [if_neg c16] at H
                    exact absurd H (by simp)
                · rw [if_neg c13] at H
                  have c13b0 : (((rd_T51 l1 x7_2).f0) == 0) = false := beq_eq_false_iff_ne.mpr c13
                  have c13b1 : (((rd_T51 l1 x7_2).f0) != 0) = true := bne_iff_ne.mpr c13
                  by_cases c20 : ((rd_T51 l1 x7_2).f0) = 1
                  · rw [if_pos c20] at H
                    have c20b0 : (((rd_T51 l1 x7_2).f0) == 1) = true := beq_iff_eq.mpr c20
                    have c20b1 : (((rd_T51 l1 x7_2).f0) != 1) = false := bne_eq_false_iff_eq.mpr c20
                    clear c20
                    replace H := Option.bind_eq_some_iff.mp H
                    obtain ⟨⟨t1321, t1322, t1323, t1324, t1325⟩, A210, H⟩ := H
                    replace H : ((octet_Lay.f k2 t1321).bind fun bt1326 => (if x6_2.size + bt1326.1.size ≤ 9223372036854775807 then (backhaullaw06_StrictWhole.l0 k2 a0 l1 (x6_2 ++ bt1326.1) (wrap64 (x7_2 + 1)) t1322 t1323 t1324 t1325) else (none))) = some true := H
                    have A21 := Aside0.mk A210
                    clear A210
                    replace H := Option.bind_eq_some_iff.mp H
                    obtain ⟨⟨t1326, t1327⟩, A220, H⟩ := H
                    replace H : (if x6_2.size + t1326.size ≤ 9223372036854775807 then (backhaullaw06_StrictWhole.l0 k2 a0 l1 (x6_2 ++ t1326) (wrap64 (x7_2 + 1)) t1322 t1323 t1324 t1325) else (none)) = some true := H
                    have A22 := Aside0.mk A220
                    clear A220
                    by_cases c23 : x6_2.size + t1326.size ≤ 9223372036854775807
                    · rw [if_pos c23] at H
                      have c23b0 := eq_true c23
                      have c23b1 : decide (x6_2.size + t1326.size ≤ 9223372036854775807) = true := decide_eq_true c23
                      try have c23b2 : (9223372036854775807 < x6_2.size + t1326.size) = False := eq_false (Nat.not_lt.2 c23)
                      have H' := Aside0.mk H
                      clear H
                      have p1309 : 0 ≤ (x7_2 : Int) := of_decide_eq_true (by first | (with_reducible assumption) | assumption)
                      have q1309 : x7_2 < (l1.length : Int) := of_decide_eq_true (by first | (with_reducible assumption) | assumption)
                      obtain ⟨ad1309, e1309, hx1309_0, hx1309_1, hx1309_2⟩ := at_T51 HR1.out x7_2 p1309 q1309
                      cases e1309
                      replace hx1309_0 := (HB.out.cell (World.block_lt_of_cell? w _ hx1309_0)).trans hx1309_0
                      replace hx1309_1 := (HB.out.cell (World.block_lt_of_cell? w _ hx1309_1)).trans hx1309_1
                      replace hx1309_2 := (HB.out.cell (World.block_lt_of_cell? w _ hx1309_2)).trans hx1309_2
                      replace p1309 := eq_true p1309
                      replace q1309 := eq_true q1309
                      have p1320 : 0 ≤ (x7_2 : Int) := of_decide_eq_true (by first | (with_reducible assumption) | assumption)
                      have q1320 : x7_2 < (l1.length : Int) := of_decide_eq_true (by first | (with_reducible assumption) | assumption)
                      obtain ⟨ad1320, e1320, hx1320_0, hx1320_1, hx1320_2⟩ := at_T51 HR1.out x7_2 p1320 q1320
                      obtain rfl : ad1309 = ad1320 := (by injection e1320)
                      replace hx1320_0 := (HB.out.cell (World.block_lt_of_cell? w _ hx1320_0)).trans hx1320_0
                      replace hx1320_1 := (HB.out.cell (World.block_lt_of_cell? w _ hx1320_1)).trans hx1320_1
                      replace hx1320_2 := (HB.out.cell (World.block_lt_of_cell? w _ hx1320_2)).trans hx1320_2
                      replace p1320 := eq_true p1320
                      replace q1320 := eq_true q1320
                      go_wp2_with (first | ((with_reducible refine gate_callee (f := 42) rfl ?_); refine goesL_ (some 71) rfl rfl Try.func42 (by kernel_rfl) rfl #[.pointer (some ⟨g1308, 0, none⟩), .int .i64 ((rd_T51 l1 x7_2).f2)] rfl (by (try simp only [List.map_toArray, List.map_cons, List.map_nil]); first | done | rfl | (simp only [List.length_drop, List.length_take]; rfl)) ?_; (with_reducible refine (strict_Reader_Text.calls k2 g1308 x1309000_2 x1309001_2 x1309002_2 x1309003_2 ((rd_T51 l1 x7_2).f2) t1321 t1322 t1323 t1324 t1325 w _ ?side1 ?side2 A21.out).mono ?_); (case side1 => repeat (first | (with_reducible first | exact HI1308.out | apply IsS56.alloc | apply IsS56.drewN | apply IsS56.drew | apply IsS56.set_0 | apply IsS56.set_1 | apply IsS56.set_2 | apply IsS56.set_3 | apply IsS56.sete_2 | with_unfolding_all rfl) | exact HI1308.out)); (case side2 => repeat (first | (with_reducible first | exact HB.out | apply below_alloc | apply pw_below_drewN | apply below_drew1 | refine below_set ?_ (IsS56.ge HI1308.out)) | exact HB.out)); rintro e w24 ⟨rfl, hi, hb, hk⟩; refine ⟨_, rfl, ?_⟩; have n0_ := Aside0.mk (hb); have n1_ := Aside0.mk (hi); clear HB; clear HI1308; have HB := n0_; have HI1308 := n1_; clear n0_ n1_; (try clear hb); (try clear hb2); (try clear hk); (try clear hi); (try simp only [errW_none, errW_some])) | ((with_reducible refine gate_callee (f := 70) rfl ?_); refine goesL_ (some 72) rfl rfl Try.func70 (by kernel_rfl) rfl #[.string t1321] rfl (by (try simp only [List.map_toArray, List.map_cons, List.map_nil]); first | done | rfl | (simp only [List.length_drop, List.length_take]; rfl)) ?_; (with_reducible refine (octet_Lay.calls k2 t1321 t1326 t1327 _ A22.out).mono ?_); rintro e w25 ⟨rfl, hb⟩; refine ⟨_, rfl, ?_⟩; have n0_ := Aside0.mk (IsS56.below (by repeat (first | (with_reducible first | exact HI1308.out | apply IsS56.alloc | apply IsS56.drewN | apply IsS56.drew | apply IsS56.set_0 | apply IsS56.set_1 | apply IsS56.set_2 | apply IsS56.set_3 | apply IsS56.sete_2 | with_unfolding_all rfl) | exact HI1308.out)) hb); have n1_ := Aside0.mk (below_step (by repeat (first | (with_reducible first | exact HB.out | apply below_alloc | apply pw_below_drewN | apply below_drew1 | refine below_set ?_ (IsS56.ge HI1308.out)) | exact HB.out)) hb); clear HI1308; clear HB; have HI1308 := n0_; have HB := n1_; clear n0_ n1_; (try clear hb); (try clear hb2); (try clear hk); (try clear hi)))
                      go_roundg k2
                      case measure => have := HJ2.out; have := HK2.out; omega
                      case rel => exact ⟨(x6_2 ++ t1326), (wrap64 (x7_2 + 1)), (t1322), (t1323), (t1324), (t1325), (by first | rfl | (simp; done) | (simp [*]; done)), (by first | rfl | (simp; done) | (simp [*]; done)), H', ⟨by have := HJ2.out; have := HK2.out; omega⟩, ⟨by repeat (first | (with_reducible first | exact HI1308.out | apply IsS56.alloc | apply IsS56.drewN | apply IsS56.drew | apply IsS56.set_0 | apply IsS56.set_1 | apply IsS56.set_2 | apply IsS56.set_3 | apply IsS56.sete_2 | with_unfolding_all rfl) | exact HI1308.out)⟩, ⟨by repeat (first | (with_reducible first | exact HB.out | apply below_alloc | apply pw_below_drewN | apply below_drew1 | refine below_set ?_ (IsS56.ge HI1308.out)) | exact HB.out)⟩⟩
                    · rw [if_neg c23] at H
                      exact absurd H (by simp)
                  · rw [if_neg c20] at H
                    have c20b0 : (((rd_T51 l1 x7_2).f0) == 1) = false := beq_eq_false_iff_ne.mpr c20
                    have c20b1 : (((rd_T51 l1 x7_2).f0) != 1) = true := bne_iff_ne.mpr c20
                    by_cases c26 : ((rd_T51 l1 x7_2).f0) = 2
                    · rw [if_pos c26] at H
                      have c26b0 : (((rd_T51 l1 x7_2).f0) == 2) = true := beq_iff_eq.mpr c26
                      have c26b1 : (((rd_T51 l1 x7_2).f0) != 2) = false := bne_eq_false_iff_eq.mpr c26
                      clear c26
                      replace H := Option.bind_eq_some_iff.mp H
                      obtain ⟨⟨t1328, t1329, t1330, t1331, t1332⟩, A270, H⟩ := H
                      replace H : ((octet_Lay.f k2 t1328).bind fun bt1333 => (if x6_2.size + bt1333.1.size ≤ 9223372036854775807 then (backhaullaw06_StrictWhole.l0 k2 a0 l1 (x6_2 ++ bt1333.1) (wrap64 (x7_2 + 1)) t1329 t1330 t1331 t1332) else (none))) = some true := H
                      have A27 := Aside0.mk A270
                      clear A270
                      replace H := Option.bind_eq_some_iff.mp H
                      obtain ⟨⟨t1333, t1334⟩, A280, H⟩ := H
                      replace H : (if x6_2.size + t1333.size ≤ 9223372036854775807 then (backhaullaw06_StrictWhole.l0 k2 a0 l1 (x6_2 ++ t1333) (wrap64 (x7_2 + 1)) t1329 t1330 t1331 t1332) else (none)) = some true := H
                      have A28 := Aside0.mk A280
                      clear A280
                      by_cases c29 : x6_2.size + t1333.size ≤ 9223372036854775807
                      · rw [if_pos c29] at H
                        have c29b0 := eq_true c29
                        have c29b1 : decide (x6_2.size + t1333.size ≤ 9223372036854775807) = true := decide_eq_true c29
                        try have c29b2 : (9223372036854775807 < x6_2.size + t1333.size) = False := eq_false (Nat.not_lt.2 c29)
                        have H' := Aside0.mk H
                        clear H
                        have p1309 : 0 ≤ (x7_2 : Int) := of_decide_eq_true (by first | (with_reducible assumption) | assumption)
                        have q1309 : x7_2 < (l1.length : Int) := of_decide_eq_true (by first | (with_reducible assumption) | assumption)
                        obtain ⟨ad1309, e1309, hx1309_0, hx1309_1, hx1309_2⟩ := at_T51 HR1.out x7_2 p1309 q1309
                        cases e1309
                        replace hx1309_0 := (HB.out.cell (World.block_lt_of_cell? w _ hx1309_0)).trans hx1309_0
                        replace hx1309_1 := (HB.out.cell (World.block_lt_of_cell? w _ hx1309_1)).trans hx1309_1
                        replace hx1309_2 := (HB.out.cell (World.block_lt_of_cell? w _ hx1309_2)).trans hx1309_2
                        replace p1309 := eq_true p1309
                        replace q1309 := eq_true q1309
                        go_wp2_with (first | ((with_reducible refine gate_callee (f := 43) rfl ?_); refine goesL_ (some 79) rfl rfl Try.func43 (by kernel_rfl) rfl #[.pointer (some ⟨g1308, 0, none⟩)] rfl (by (try simp only [List.map_toArray, List.map_cons, List.map_nil]); first | done | rfl | (simp only [List.length_drop, List.length_take]; rfl)) ?_; (with_reducible refine (strict_Reader_Serial.calls k2 g1308 x1309000_2 x1309001_2 x1309002_2 x1309003_2 t1328 t1329 t1330 t1331 t1332 w _ ?side1 ?side2 A27.out).mono ?_); (case side1 => repeat (first | (with_reducible first | exact HI1308.out | apply IsS56.alloc | apply IsS56.drewN | apply IsS56.drew | apply IsS56.set_0 | apply IsS56.set_1 | apply IsS56.set_2 | apply IsS56.set_3 | apply IsS56.sete_2 | with_unfolding_all rfl) | exact HI1308.out)); (case side2 => repeat (first | (with_reducible first | exact HB.out | apply below_alloc | apply pw_below_drewN | apply below_drew1 | refine below_set ?_ (IsS56.ge HI1308.out)) | exact HB.out)); rintro e w30 ⟨rfl, hi, hb, hk⟩; refine ⟨_, rfl, ?_⟩; have n0_ := Aside0.mk (hb); have n1_ := Aside0.mk (hi); clear HB; clear HI1308; have HB := n0_; have HI1308 := n1_; clear n0_ n1_; (try clear hb); (try clear hb2); (try clear hk); (try clear hi); (try simp only [errW_none, errW_some])) | ((with_reducible refine gate_callee (f := 70) rfl ?_); refine goesL_ (some 80) rfl rfl Try.func70 (by kernel_rfl) rfl #[.string t1328] rfl (by (try simp only [List.map_toArray, List.map_cons, List.map_nil]); first | done | rfl | (simp only [List.length_drop, List.length_take]; rfl)) ?_; (with_reducible refine (octet_Lay.calls k2 t1328 t1333 t1334 _ A28.out).mono ?_); rintro e w31 ⟨rfl, hb⟩; refine ⟨_, rfl, ?_⟩; have n0_ := Aside0.mk (IsS56.below (by repeat (first | (with_reducible first | exact HI1308.out | apply IsS56.alloc | apply IsS56.drewN | apply IsS56.drew | apply IsS56.set_0 | apply IsS56.set_1 | apply IsS56.set_2 | apply IsS56.set_3 | apply IsS56.sete_2 | with_unfolding_all rfl) | exact HI1308.out)) hb); have n1_ := Aside0.mk (below_step (by repeat (first | (with_reducible first | exact HB.out | apply below_alloc | apply pw_below_drewN | apply below_drew1 | refine below_set ?_ (IsS56.ge HI1308.out)) | exact HB.out)) hb); clear HI1308; clear HB; have HI1308 := n0_; have HB := n1_; clear n0_ n1_; (try clear hb); (try clear hb2); (try clear hk); (try clear hi)))
                        go_roundg k2
                        case measure => have := HJ2.out; have := HK2.out; omega
                        case rel => exact ⟨(x6_2 ++ t1333), (wrap64 (x7_2 + 1)), (t1329), (t1330), (t1331), (t1332), (by first | rfl | (simp; done) | (simp [*]; done)), (by first | rfl | (simp; done) | (simp [*]; done)), H', ⟨by have := HJ2.out; have := HK2.out; omega⟩, ⟨by repeat (first | (with_reducible first | exact HI1308.out | apply IsS56.alloc | apply IsS56.drewN | apply IsS56.drew | apply IsS56.set_0 | apply IsS56.set_1 | apply IsS56.set_2 | apply IsS56.set_3 | apply IsS56.sete_2 | with_unfolding_all rfl) | exact HI1308.out)⟩, ⟨by repeat (first | (with_reducible first | exact HB.out | apply below_alloc | apply pw_below_drewN | apply below_drew1 | refine below_set ?_ (IsS56.ge HI1308.out)) | exact HB.out)⟩⟩
                      · rw [if_neg c29] at H
                        exact absurd H (by simp)
                    · rw [if_neg c26] at H
                      have c26b0 : (((rd_T51 l1 x7_2).f0) == 2) = false := beq_eq_false_iff_ne.mpr c26
                      have c26b1 : (((rd_T51 l1 x7_2).f0) != 2) = true := bne_iff_ne.mpr c26
                      by_cases c32 : ((rd_T51 l1 x7_2).f0) = 3
                      · rw [if_pos c32] at H
                        have c32b0 : (((rd_T51 l1 x7_2).f0) == 3) = true := beq_iff_eq.mpr c32
                        have c32b1 : (((rd_T51 l1 x7_2).f0) != 3) = false := bne_eq_false_iff_eq.mpr c32
                        clear c32
                        replace H := Option.bind_eq_some_iff.mp H
                        obtain ⟨⟨t1338, t1341, t1342, t1343, t1344⟩, A330, H⟩ := H
                        replace H : ((octet_Row.f k2 ((rd_T51 l1 x7_2).f1) t1338).bind fun bt1345 => (if x6_2.size + bt1345.1.size ≤ 9223372036854775807 then (backhaullaw06_StrictWhole.l0 k2 a0 l1 (x6_2 ++ bt1345.1) (wrap64 (x7_2 + 1)) t1341 t1342 t1343 t1344) else (none))) = some true := H
                        have A33 := Aside0.mk A330
                        clear A330
                        replace H := Option.bind_eq_some_iff.mp H
                        obtain ⟨⟨t1345, t1346⟩, A340, H⟩ := H
                        replace H : (if x6_2.size + t1345.size ≤ 9223372036854775807 then (backhaullaw06_StrictWhole.l0 k2 a0 l1 (x6_2 ++ t1345) (wrap64 (x7_2 + 1)) t1341 t1342 t1343 t1344) else (none)) = some true := H
                        have A34 := Aside0.mk A340
                        clear A340
                        by_cases c35 : x6_2.size + t1345.size ≤ 9223372036854775807
                        · rw [if_pos c35] at H
                          have c35b0 := eq_true c35
                          have c35b1 : decide (x6_2.size + t1345.size ≤ 9223372036854775807) = true := decide_eq_true c35
                          try have c35b2 : (9223372036854775807 < x6_2.size + t1345.size) = False := eq_false (Nat.not_lt.2 c35)
                          have H' := Aside0.mk H
                          clear H
                          have p1309 : 0 ≤ (x7_2 : Int) := of_decide_eq_true (by first | (with_reducible assumption) | assumption)
                          have q1309 : x7_2 < (l1.length : Int) := of_decide_eq_true (by first | (with_reducible assumption) | assumption)
                          obtain ⟨ad1309, e1309, hx1309_0, hx1309_1, hx1309_2⟩ := at_T51 HR1.out x7_2 p1309 q1309
                          cases e1309
                          replace hx1309_0 := (HB.out.cell (World.block_lt_of_cell? w _ hx1309_0)).trans hx1309_0
                          replace hx1309_1 := (HB.out.cell (World.block_lt_of_cell? w _ hx1309_1)).trans hx1309_1
                          replace hx1309_2 := (HB.out.cell (World.block_lt_of_cell? w _ hx1309_2)).trans hx1309_2
                          replace p1309 := eq_true p1309
                          replace q1309 := eq_true q1309
                          try go_wp2
                          have n0_ := Aside0.mk (IsS56.drew HI1308.out)
                          have n1_ := Aside0.mk (below_drew1 HB.out)
                          clear HI1308
                          clear HB
                          have HI1308 := n0_
                          have HB := n1_
                          clear n0_ n1_
                          have p1335 : 0 ≤ (x7_2 : Int) := of_decide_eq_true (by first | (with_reducible assumption) | assumption)
                          have q1335 : x7_2 < (l1.length : Int) := of_decide_eq_true (by first | (with_reducible assumption) | assumption)
                          obtain ⟨ad1335, e1335, hx1335_0, hx1335_1, hx1335_2⟩ := at_T51 HR1.out x7_2 p1335 q1335
                          have hw1335_2 := hx1335_2
                          have hw1335_1 := hx1335_1
                          have hw1335_0 := hx1335_0
                          obtain rfl : ad1309 = ad1335 := (by injection e1335)
                          replace hx1335_0 := (HB.out.cell (World.block_lt_of_cell? w _ hx1335_0)).trans hx1335_0
                          replace hx1335_1 := (HB.out.cell (World.block_lt_of_cell? w _ hx1335_1)).trans hx1335_1
                          replace hx1335_2 := (HB.out.cell (World.block_lt_of_cell? w _ hx1335_2)).trans hx1335_2
                          replace p1335 := eq_true p1335
                          replace q1335 := eq_true q1335
                          have p1336 : 0 ≤ (x7_2 : Int) := of_decide_eq_true (by first | (with_reducible assumption) | assumption)
                          have q1336 : x7_2 < (l1.length : Int) := of_decide_eq_true (by first | (with_reducible assumption) | assumption)
                          obtain ⟨ad1336, e1336, hx1336_0, hx1336_1, hx1336_2⟩ := at_T51 HR1.out x7_2 p1336 q1336
                          have hw1336_2 := hx1336_2
                          have hw1336_1 := hx1336_1
                          have hw1336_0 := hx1336_0
                          obtain rfl : ad1309 = ad1336 := (by injection e1336)
                          replace hx1336_0 := (HB.out.cell (World.block_lt_of_cell? w _ hx1336_0)).trans hx1336_0
                          replace hx1336_1 := (HB.out.cell (World.block_lt_of_cell? w _ hx1336_1)).trans hx1336_1
                          replace hx1336_2 := (HB.out.cell (World.block_lt_of_cell? w _ hx1336_2)).trans hx1336_2
                          replace p1336 := eq_true p1336
                          replace q1336 := eq_true q1336
                          have p1337 : 0 ≤ (x7_2 : Int) := of_decide_eq_true (by first | (with_reducible assumption) | assumption)
                          have q1337 : x7_2 < (l1.length : Int) := of_decide_eq_true (by first | (with_reducible assumption) | assumption)
                          obtain ⟨ad1337, e1337, hx1337_0, hx1337_1, hx1337_2⟩ := at_T51 HR1.out x7_2 p1337 q1337
                          have hw1337_2 := hx1337_2
                          have hw1337_1 := hx1337_1
                          have hw1337_0 := hx1337_0
                          obtain rfl : ad1309 = ad1337 := (by injection e1337)
                          replace hx1337_0 := (HB.out.cell (World.block_lt_of_cell? w _ hx1337_0)).trans hx1337_0
                          replace hx1337_1 := (HB.out.cell (World.block_lt_of_cell? w _ hx1337_1)).trans hx1337_1
                          replace hx1337_2 := (HB.out.cell (World.block_lt_of_cell? w _ hx1337_2)).trans hx1337_2
                          replace p1337 := eq_true p1337
                          replace q1337 := eq_true q1337
                          refine start_ (n := 22) (S := fun w' => w'.cell? (ad1309.add ((x7_2).toNat * 3)) = some (.int .i64 ((rd_T51 l1 x7_2).f0)) ∧ w'.cell? ⟨(ad1309.add ((x7_2).toNat * 3)).block, (ad1309.add ((x7_2).toNat * 3)).off + 1, none⟩ = some (.int .i64 ((rd_T51 l1 x7_2).f1)) ∧ w'.cell? ⟨(ad1309.add ((x7_2).toNat * 3)).block, (ad1309.add ((x7_2).toNat * 3)).off + 2, none⟩ = some (.int .i64 ((rd_T51 l1 x7_2).f2)) ∧ w'.cell? (ad1309.add ((x7_2).toNat * 3)) = some (.int .i64 ((rd_T51 l1 x7_2).f0)) ∧ w'.cell? ⟨(ad1309.add ((x7_2).toNat * 3)).block, (ad1309.add ((x7_2).toNat * 3)).off + 1, none⟩ = some (.int .i64 ((rd_T51 l1 x7_2).f1)) ∧ w'.cell? ⟨(ad1309.add ((x7_2).toNat * 3)).block, (ad1309.add ((x7_2).toNat * 3)).off + 2, none⟩ = some (.int .i64 ((rd_T51 l1 x7_2).f2)) ∧ w'.cell? (ad1309.add ((x7_2).toNat * 3)) = some (.int .i64 ((rd_T51 l1 x7_2).f0)) ∧ w'.cell? ⟨(ad1309.add ((x7_2).toNat * 3)).block, (ad1309.add ((x7_2).toNat * 3)).off + 1, none⟩ = some (.int .i64 ((rd_T51 l1 x7_2).f1)) ∧ w'.cell? ⟨(ad1309.add ((x7_2).toNat * 3)).block, (ad1309.add ((x7_2).toNat * 3)).off + 2, none⟩ = some (.int .i64 ((rd_T51 l1 x7_2).f2))) (ds := []) #[false, false, false, false, false, false, false, false, false, false, false, false, false, false, false, false, false, false, false, false, false, false] (by kernel_rfl) rfl rfl ⟨((HB.out.cell (World.block_lt_of_cell? w _ hw1335_0)).trans hw1335_0), ((HB.out.cell (World.block_lt_of_cell? w _ hw1335_1)).trans hw1335_1), ((HB.out.cell (World.block_lt_of_cell? w _ hw1335_2)).trans hw1335_2), ((HB.out.cell (World.block_lt_of_cell? w _ hw1336_0)).trans hw1336_0), ((HB.out.cell (World.block_lt_of_cell? w _ hw1336_1)).trans hw1336_1), ((HB.out.cell (World.block_lt_of_cell? w _ hw1336_2)).trans hw1336_2), ((HB.out.cell (World.block_lt_of_cell? w _ hw1337_0)).trans hw1337_0), ((HB.out.cell (World.block_lt_of_cell? w _ hw1337_1)).trans hw1337_1), ((HB.out.cell (World.block_lt_of_cell? w _ hw1337_2)).trans hw1337_2)⟩ (fun hHeld => ?_); refine with_tabW backhaullaw06_StrictWhole.tab19 backhaullaw06_StrictWhole.bits19 (fun HT_ HW_ => ?_)
                          generalize wr.drew = w36 at HI1308 HB hx1335_0 hx1335_1 hx1335_2 hx1336_0 hx1336_1 hx1336_2 hx1337_0 hx1337_1 hx1337_2 hHeld ⊢
                          refine pure_ (i := 0) (N := some 86) (v := ?_) (a' := ?_) #[true, false, false, false, false, false, false, false, false, false, false, false, false, false, false, false, false, false, false, false, false, false] rfl rfl (any_of HT_.out (by kernel_rfl)) (fun _ _ _ h => h) (Or.inl ⟨by rfl, ?_⟩) ?_ ?_
                          rotate_left
                          · intro w'
                            go_simp
                            with_reducible rfl
                          rotate_left
                          · simp only [Act.put, List.setIfInBounds_toArray, List.set_cons_zero, List.set_cons_succ, i64_w, i32_w]
                            rfl
                          refine pure_ (i := 1) (N := some 87) (v := ?_) (a' := ?_) #[true, true, false, false, false, false, false, false, false, false, false, false, false, false, false, false, false, false, false, false, false, false] rfl rfl (any_of HT_.out (by kernel_rfl)) (fun _ _ _ h => h) (Or.inl ⟨by rfl, ?_⟩) ?_ ?_
                          rotate_left
                          · intro w'
                            go_simp
                            with_reducible rfl
                          rotate_left
                          · simp only [Act.put, List.setIfInBounds_toArray, List.set_cons_zero, List.set_cons_succ, i64_w, i32_w]
                            rfl
                          refine pure_ (i := 2) (N := some 88) (v := ?_) (a' := ?_) #[true, true, true, false, false, false, false, false, false, false, false, false, false, false, false, false, false, false, false, false, false, false] rfl rfl (any_of HT_.out (by kernel_rfl)) (fun _ _ _ h => h) (Or.inl ⟨by rfl, ?_⟩) ?_ ?_
                          rotate_left
                          · intro w'
                            go_simp
                            with_reducible rfl
                          rotate_left
                          · simp only [Act.put, List.setIfInBounds_toArray, List.set_cons_zero, List.set_cons_succ, i64_w, i32_w]
                            rfl
                          refine pure_ (i := 3) (N := some 89) (v := ?_) (a' := ?_) #[true, true, true, true, false, false, false, false, false, false, false, false, false, false, false, false, false, false, false, false, false, false] rfl rfl (any_of HT_.out (by kernel_rfl)) (fun _ _ _ h => h) (Or.inl ⟨by rfl, ?_⟩) ?_ ?_
                          rotate_left
                          · intro w'
                            go_simp
                            with_reducible rfl
                          rotate_left
                          · simp only [Act.put, List.setIfInBounds_toArray, List.set_cons_zero, List.set_cons_succ, i64_w, i32_w]
                            rfl
                          refine pure_ (i := 5) (N := some 91) (v := ?_) (a' := ?_) #[true, true, true, true, false, true, false, false, false, false, false, false, false, false, false, false, false, false, false, false, false, false] rfl rfl (any_of HT_.out (by kernel_rfl)) (fun _ _ _ h => h) (Or.inl ⟨by rfl, ?_⟩) ?_ ?_
                          rotate_left
                          · intro w'
                            go_simp
                            with_reducible rfl
                          rotate_left
                          · simp only [Act.put, List.setIfInBounds_toArray, List.set_cons_zero, List.set_cons_succ, i64_w, i32_w]
                            rfl
                          refine pure_ (i := 6) (N := some 92) (v := ?_) (a' := ?_) #[true, true, true, true, false, true, true, false, false, false, false, false, false, false, false, false, false, false, false, false, false, false] rfl rfl (any_of HT_.out (by kernel_rfl)) (fun _ _ _ h => h) (Or.inl ⟨by rfl, ?_⟩) ?_ ?_
                          rotate_left
                          · intro w'
                            go_simp
                            with_reducible rfl
                          rotate_left
                          · simp only [Act.put, List.setIfInBounds_toArray, List.set_cons_zero, List.set_cons_succ, i64_w, i32_w]
                            rfl
                          refine pure_ (i := 7) (N := some 93) (v := ?_) (a' := ?_) #[true, true, true, true, false, true, true, true, false, false, false, false, false, false, false, false, false, false, false, false, false, false] rfl rfl (any_of HT_.out (by kernel_rfl)) (fun _ _ _ h => h) (Or.inl ⟨by rfl, ?_⟩) ?_ ?_
                          rotate_left
                          · intro w'
                            go_simp
                            with_reducible rfl
                          rotate_left
                          · simp only [Act.put, List.setIfInBounds_toArray, List.set_cons_zero, List.set_cons_succ, i64_w, i32_w]
                            rfl
                          refine pure_ (i := 8) (N := some 94) (v := ?_) (a' := ?_) #[true, true, true, true, false, true, true, true, true, false, false, false, false, false, false, false, false, false, false, false, false, false] rfl rfl (any_of HT_.out (by kernel_rfl)) (fun _ _ _ h => h) (Or.inl ⟨by rfl, ?_⟩) ?_ ?_
                          rotate_left
                          · intro w'
                            go_simp
                            with_reducible rfl
                          rotate_left
                          · simp only [Act.put, List.setIfInBounds_toArray, List.set_cons_zero, List.set_cons_succ, i64_w, i32_w]
                            rfl
                          refine pure_ (i := 9) (N := some 95) (v := ?_) (a' := ?_) #[true, true, true, true, false, true, true, true, true, true, false, false, false, false, false, false, false, false, false, false, false, false] rfl rfl (any_of HT_.out (by kernel_rfl)) (fun _ _ _ h => h) (Or.inl ⟨by rfl, ?_⟩) ?_ ?_
                          rotate_left
                          · intro w'
                            go_simp
                            with_reducible rfl
                          rotate_left
                          · simp only [Act.put, List.setIfInBounds_toArray, List.set_cons_zero, List.set_cons_succ, i64_w, i32_w]
                            rfl
                          refine pure_ (i := 11) (N := some 97) (v := ?_) (a' := ?_) #[true, true, true, true, false, true, true, true, true, true, false, true, false, false, false, false, false, false, false, false, false, false] rfl rfl (any_of HT_.out (by kernel_rfl)) (fun _ _ _ h => h) (Or.inl ⟨by rfl, ?_⟩) ?_ ?_
                          rotate_left
                          · intro w'
                            go_simp
                            with_reducible rfl
                          rotate_left
                          · simp only [Act.put, List.setIfInBounds_toArray, List.set_cons_zero, List.set_cons_succ, i64_w, i32_w]
                            rfl
                          refine pure_ (i := 12) (N := some 98) (v := ?_) (a' := ?_) #[true, true, true, true, false, true, true, true, true, true, false, true, true, false, false, false, false, false, false, false, false, false] rfl rfl (any_of HT_.out (by kernel_rfl)) (fun _ _ _ h => h) (Or.inl ⟨by rfl, ?_⟩) ?_ ?_
                          rotate_left
                          · intro w'
                            go_simp
                            with_reducible rfl
                          rotate_left
                          · simp only [Act.put, List.setIfInBounds_toArray, List.set_cons_zero, List.set_cons_succ, i64_w, i32_w]
                            rfl
                          refine pure_ (i := 13) (N := some 99) (v := ?_) (a' := ?_) #[true, true, true, true, false, true, true, true, true, true, false, true, true, true, false, false, false, false, false, false, false, false] rfl rfl (any_of HT_.out (by kernel_rfl)) (fun _ _ _ h => h) (Or.inl ⟨by rfl, ?_⟩) ?_ ?_
                          rotate_left
                          · intro w'
                            go_simp
                            with_reducible rfl
                          rotate_left
                          · simp only [Act.put, List.setIfInBounds_toArray, List.set_cons_zero, List.set_cons_succ, i64_w, i32_w]
                            rfl
                          refine pure_ (i := 14) (N := some 100) (v := ?_) (a' := ?_) #[true, true, true, true, false, true, true, true, true, true, false, true, true, true, true, false, false, false, false, false, false, false] rfl rfl (any_of HT_.out (by kernel_rfl)) (fun _ _ _ h => h) (Or.inl ⟨by rfl, ?_⟩) ?_ ?_
                          rotate_left
                          · intro w'
                            go_simp
                            with_reducible rfl
                          rotate_left
                          · simp only [Act.put, List.setIfInBounds_toArray, List.set_cons_zero, List.set_cons_succ, i64_w, i32_w]
                            rfl
                          refine take_ (i := 4) (N := some 90) (v := ?_) (a' := ?_) #[true, true, true, true, true, true, true, true, true, true, false, true, true, true, true, false, false, false, false, false, false, false] rfl rfl (take_ofW HT_.out HW_.out (by kernel_rfl)) (fun _ _ _ h => h) (Or.inl ⟨by rfl, ?_⟩) hHeld ?_ ?_
                          rotate_left
                          · rintro w' ⟨s0, s1, s2, s3, s4, s5, s6, s7, s8⟩
                            go_simp
                            with_reducible rfl
                          rotate_left
                          · simp only [Act.put, List.setIfInBounds_toArray, List.set_cons_zero, List.set_cons_succ, i64_w, i32_w]
                            rfl
                          refine take_ (i := 10) (N := some 96) (v := ?_) (a' := ?_) #[true, true, true, true, true, true, true, true, true, true, true, true, true, true, true, false, false, false, false, false, false, false] rfl rfl (take_ofW HT_.out HW_.out (by kernel_rfl)) (fun _ _ _ h => h) (Or.inl ⟨by rfl, ?_⟩) hHeld ?_ ?_
                          rotate_left
                          · rintro w' ⟨s0, s1, s2, s3, s4, s5, s6, s7, s8⟩
                            go_simp
                            with_reducible rfl
                          rotate_left
                          · simp only [Act.put, List.setIfInBounds_toArray, List.set_cons_zero, List.set_cons_succ, i64_w, i32_w]
                            rfl
                          refine take_ (i := 15) (N := some 101) (v := ?_) (a' := ?_) #[true, true, true, true, true, true, true, true, true, true, true, true, true, true, true, true, false, false, false, false, false, false] rfl rfl (take_ofW HT_.out HW_.out (by kernel_rfl)) (fun _ _ _ h => h) (Or.inl ⟨by rfl, ?_⟩) hHeld ?_ ?_
                          rotate_left
                          · rintro w' ⟨s0, s1, s2, s3, s4, s5, s6, s7, s8⟩
                            go_simp
                            with_reducible rfl
                          rotate_left
                          · simp only [Act.put, List.setIfInBounds_toArray, List.set_cons_zero, List.set_cons_succ, i64_w, i32_w]
                            rfl
                          refine one_ (i := 16) (N := some 102) #[true, true, true, true, true, true, true, true, true, true, true, true, true, true, true, true, true, false, false, false, false, false] rfl rfl (one_of HT_.out (by kernel_rfl)) (by decide) (fun K hK => ?_)
                          refine goes_ Try.func44 (by kernel_rfl) rfl #[.pointer (some ⟨g1308, 0, none⟩), .int .i64 ((rd_T51 l1 x7_2).f1), .int .i64 ((rd_T51 l1 x7_2).f2)] (by rfl) rfl rfl (by (try simp only [List.map_toArray, List.map_cons, List.map_nil]); first | done | rfl | (simp only [List.length_drop, List.length_take]; rfl)) ?_
                          with_reducible refine (strict_Reader_Row.calls k2 g1308 x1309000_2 x1309001_2 x1309002_2 x1309003_2 ((rd_T51 l1 x7_2).f1) ((rd_T51 l1 x7_2).f2) t1338 t1341 t1342 t1343 t1344 w _ ?side1 ?side2 A33.out).mono ?_
                          (case side1 => repeat (first | (with_reducible first | exact HI1308.out | apply IsS56.alloc | apply IsS56.drewN | apply IsS56.drew | apply IsS56.set_0 | apply IsS56.set_1 | apply IsS56.set_2 | apply IsS56.set_3 | apply IsS56.sete_2 | with_unfolding_all rfl) | exact HI1308.out))
                          (case side2 => repeat (first | (with_reducible first | exact HB.out | apply below_alloc | apply pw_below_drewN | apply below_drew1 | refine below_set ?_ (IsS56.ge HI1308.out)) | exact HB.out))
                          rintro e w37 ⟨v1339, rfl, ho0, hi, hb, hk⟩
                          refine ⟨_, rfl, ?_⟩
                          have n0_ := Aside0.mk (Kd.R_lower ho0 (below_size (by repeat (first | (with_reducible first | exact HB.out | apply below_alloc | apply pw_below_drewN | apply below_drew1 | refine below_set ?_ (IsS56.ge HI1308.out)) | exact HB.out))))
                          have n1_ := Aside0.mk (hb)
                          have n2_ := Aside0.mk (hi)
                          clear HB
                          clear HI1308
                          have HO1340 := n0_
                          have HB := n1_
                          have HI1308 := n2_
                          clear n0_ n1_ n2_
                          (try clear hb)
                          (try clear hb2)
                          (try clear hk)
                          (try clear hi)
                          (try clear ho0)
                          (try simp only [errW_none, errW_some])
                          obtain ⟨Ao38, co38, eo38⟩ := Kd.R_slice HO1340.out
                          (first | subst eo38 | (injection eo38 with f1_ f2_ f3_; have f4_ := f1_.symm; have f5_ := f3_.symm; clear f1_ f2_ f3_; subst f4_; subst f5_))
                          refine hK.out _ _ ⟨((HB.out.cell (World.block_lt_of_cell? w _ hw1335_0)).trans hw1335_0), ((HB.out.cell (World.block_lt_of_cell? w _ hw1335_1)).trans hw1335_1), ((HB.out.cell (World.block_lt_of_cell? w _ hw1335_2)).trans hw1335_2), ((HB.out.cell (World.block_lt_of_cell? w _ hw1336_0)).trans hw1336_0), ((HB.out.cell (World.block_lt_of_cell? w _ hw1336_1)).trans hw1336_1), ((HB.out.cell (World.block_lt_of_cell? w _ hw1336_2)).trans hw1336_2), ((HB.out.cell (World.block_lt_of_cell? w _ hw1337_0)).trans hw1337_0), ((HB.out.cell (World.block_lt_of_cell? w _ hw1337_1)).trans hw1337_1), ((HB.out.cell (World.block_lt_of_cell? w _ hw1337_2)).trans hw1337_2)⟩ (fun hHeld => ?_)
                          clear hK K
                          refine norm_ (a' := ?_) ?_ ?_
                          rotate_left
                          · show Act.put _ (some 102) _ = _
                            simp only [Act.put, List.setIfInBounds_toArray, List.set_cons_zero, List.set_cons_succ, i64_w, i32_w]
                            rfl
                          refine one_ (i := 17) (N := some 103) #[true, true, true, true, true, true, true, true, true, true, true, true, true, true, true, true, true, true, false, false, false, false] rfl rfl (one_of HT_.out (by kernel_rfl)) (by decide) (fun K hK => ?_)
                          refine goes_ Try.func71 (by kernel_rfl) rfl #[.int .i64 ((rd_T51 l1 x7_2).f1), .slice Ao38 t1338.length co38] (by rfl) rfl rfl (by (try simp only [List.map_toArray, List.map_cons, List.map_nil]); first | done | rfl | (simp only [List.length_drop, List.length_take]; rfl)) ?_
                          with_reducible refine (octet_Row.calls k2 ((rd_T51 l1 x7_2).f1) _ _ t1338 t1345 t1346 _ ?side1 ?side2 A34.out).mono ?_
                          (case side1 => repeat (first | exact (Kd.R_reads' HO1340.out).2.2 | (with_reducible refine Kd.C_alloc ?_ _) | (with_reducible refine Kd.C_drewN ?_ _) | (with_reducible refine Kd.C_drew ?_)))
                          (case side2 => exact (Kd.R_reads' HO1340.out).2.1)
                          rintro e w39 ⟨rfl, hb⟩
                          refine ⟨_, rfl, ?_⟩
                          have n0_ := Aside0.mk (Kd.R_below (by (with_reducible repeat (first | apply Kd.R_alloc | apply Kd.R_drewN | apply Kd.R_drew)); exact HO1340.out) hb)
                          have n1_ := Aside0.mk (IsS56.below (by repeat (first | (with_reducible first | exact HI1308.out | apply IsS56.alloc | apply IsS56.drewN | apply IsS56.drew | apply IsS56.set_0 | apply IsS56.set_1 | apply IsS56.set_2 | apply IsS56.set_3 | apply IsS56.sete_2 | with_unfolding_all rfl) | exact HI1308.out)) hb)
                          have n2_ := Aside0.mk (below_step (by repeat (first | (with_reducible first | exact HB.out | apply below_alloc | apply pw_below_drewN | apply below_drew1 | refine below_set ?_ (IsS56.ge HI1308.out)) | exact HB.out)) hb)
                          clear HO1340
                          clear HI1308
                          clear HB
                          have HO1340 := n0_
                          have HI1308 := n1_
                          have HB := n2_
                          clear n0_ n1_ n2_
                          (try clear hb)
                          (try clear hb2)
                          (try clear hk)
                          (try clear hi)
                          refine hK.out _ _ ⟨((HB.out.cell (World.block_lt_of_cell? w _ hw1335_0)).trans hw1335_0), ((HB.out.cell (World.block_lt_of_cell? w _ hw1335_1)).trans hw1335_1), ((HB.out.cell (World.block_lt_of_cell? w _ hw1335_2)).trans hw1335_2), ((HB.out.cell (World.block_lt_of_cell? w _ hw1336_0)).trans hw1336_0), ((HB.out.cell (World.block_lt_of_cell? w _ hw1336_1)).trans hw1336_1), ((HB.out.cell (World.block_lt_of_cell? w _ hw1336_2)).trans hw1336_2), ((HB.out.cell (World.block_lt_of_cell? w _ hw1337_0)).trans hw1337_0), ((HB.out.cell (World.block_lt_of_cell? w _ hw1337_1)).trans hw1337_1), ((HB.out.cell (World.block_lt_of_cell? w _ hw1337_2)).trans hw1337_2)⟩ (fun hHeld => ?_)
                          clear hK K
                          refine norm_ (a' := ?_) ?_ ?_
                          rotate_left
                          · show Act.put _ (some 103) _ = _
                            simp only [Act.put, List.setIfInBounds_toArray, List.set_cons_zero, List.set_cons_succ, i64_w, i32_w]
                            rfl
                          refine pure_ (i := 18) (N := some 85) (v := ?_) (a' := ?_) #[true, true, true, true, true, true, true, true, true, true, true, true, true, true, true, true, true, true, true, false, false, false] rfl rfl (any_of HT_.out (by kernel_rfl)) (fun _ _ _ h => h) (Or.inl ⟨by rfl, ?_⟩) ?_ ?_
                          rotate_left
                          · intro w'
                            go_simp
                            with_reducible rfl
                          rotate_left
                          · simp only [Act.put, List.setIfInBounds_toArray, List.set_cons_zero, List.set_cons_succ, i64_w, i32_w]
                            rfl
                          refine pure_ (i := 19) (N := some 104) (v := ?_) (a' := ?_) #[true, true, true, true, true, true, true, true, true, true, true, true, true, true, true, true, true, true, true, true, false, false] rfl rfl (any_of HT_.out (by kernel_rfl)) (fun _ _ _ h => h) (Or.inl ⟨by rfl, ?_⟩) ?_ ?_
                          rotate_left
                          · intro w'
                            go_simp
                            with_reducible rfl
                          rotate_left
                          · simp only [Act.put, List.setIfInBounds_toArray, List.set_cons_zero, List.set_cons_succ, i64_w, i32_w]
                            rfl
                          refine pure_ (i := 20) (N := some 105) (v := ?_) (a' := ?_) #[true, true, true, true, true, true, true, true, true, true, true, true, true, true, true, true, true, true, true, true, true, false] rfl rfl (any_of HT_.out (by kernel_rfl)) (fun _ _ _ h => h) (Or.inl ⟨by rfl, ?_⟩) ?_ ?_
                          rotate_left
                          · intro w'
                            go_simp
                            with_reducible rfl
                          rotate_left
                          · simp only [Act.put, List.setIfInBounds_toArray, List.set_cons_zero, List.set_cons_succ, i64_w, i32_w]
                            rfl
                          refine pure_ (i := 21) (N := some 8) (v := ?_) (a' := ?_) #[true, true, true, true, true, true, true, true, true, true, true, true, true, true, true, true, true, true, true, true, true, true] rfl rfl (any_of HT_.out (by kernel_rfl)) (fun _ _ _ h => h) (Or.inl ⟨by rfl, ?_⟩) ?_ ?_
                          rotate_left
                          · intro w'
                            go_simp
                            with_reducible rfl
                          rotate_left
                          · simp only [Act.put, List.setIfInBounds_toArray, List.set_cons_zero, List.set_cons_succ, i64_w, i32_w]
                            rfl
                          refine done_ (done_of HT_.out (by kernel_rfl)) ?_
                          try go_wp2
                          go_roundg k2
                          case measure => have := HJ2.out; have := HK2.out; omega
                          case rel => exact ⟨(x6_2 ++ t1345), (wrap64 (x7_2 + 1)), (t1341), (t1342), (t1343), (t1344), (by first | rfl | (simp; done) | (simp [*]; done)), (by first | rfl | (simp; done) | (simp [*]; done)), H', ⟨by have := HJ2.out; have := HK2.out; omega⟩, ⟨by repeat (first | (with_reducible first | exact HI1308.out | apply IsS56.alloc | apply IsS56.drewN | apply IsS56.drew | apply IsS56.set_0 | apply IsS56.set_1 | apply IsS56.set_2 | apply IsS56.set_3 | apply IsS56.sete_2 | with_unfolding_all rfl) | exact HI1308.out)⟩, ⟨by repeat (first | (with_reducible first | exact HB.out | apply below_alloc | apply pw_below_drewN | apply below_drew1 | refine below_set ?_ (IsS56.ge HI1308.out)) | exact HB.out)⟩⟩
                        · rw [if_neg c35] at H
                          exact absurd H (by simp)
                      · rw [if_neg c32] at H
                        have c32b0 : (((rd_T51 l1 x7_2).f0) == 3) = false := beq_eq_false_iff_ne.mpr c32
                        have c32b1 : (((rd_T51 l1 x7_2).f0) != 3) = true := bne_iff_ne.mpr c32
                        by_cases c40 : ((rd_T51 l1 x7_2).f0) = 4
                        · rw [if_pos c40] at H
                          have c40b0 : (((rd_T51 l1 x7_2).f0) == 4) = true := beq_iff_eq.mpr c40
                          have c40b1 : (((rd_T51 l1 x7_2).f0) != 4) = false := bne_eq_false_iff_eq.mpr c40
                          clear c40
                          replace H := Option.bind_eq_some_iff.mp H
                          obtain ⟨⟨t1348, t1351, t1352, t1353, t1354⟩, A410, H⟩ := H
                          replace H : ((octet_Put.f k2 (t1348.length : Int) 1).bind fun bt1355 => (backhaullaw06_StrictWhole.l1 k2 a0 l1 x6_2 x7_2 bt1355.1 t1348 0 t1351 t1352 t1353 t1354)) = some true := H
                          have A41 := Aside0.mk A410
                          clear A410
                          replace H := Option.bind_eq_some_iff.mp H
                          obtain ⟨⟨t1355, t1356⟩, A420, H⟩ := H
                          replace H : (backhaullaw06_StrictWhole.l1 k2 a0 l1 x6_2 x7_2 t1355 t1348 0 t1351 t1352 t1353 t1354) = some true := H
                          have A42 := Aside0.mk A420
                          clear A420
                          have H' := Aside0.mk H
                          clear H
                          have p1309 : 0 ≤ (x7_2 : Int) := of_decide_eq_true (by first | (with_reducible assumption) | assumption)
                          have q1309 : x7_2 < (l1.length : Int) := of_decide_eq_true (by first | (with_reducible assumption) | assumption)
                          obtain ⟨ad1309, e1309, hx1309_0, hx1309_1, hx1309_2⟩ := at_T51 HR1.out x7_2 p1309 q1309
                          cases e1309
                          replace hx1309_0 := (HB.out.cell (World.block_lt_of_cell? w _ hx1309_0)).trans hx1309_0
                          replace hx1309_1 := (HB.out.cell (World.block_lt_of_cell? w _ hx1309_1)).trans hx1309_1
                          replace hx1309_2 := (HB.out.cell (World.block_lt_of_cell? w _ hx1309_2)).trans hx1309_2
                          replace p1309 := eq_true p1309
                          replace q1309 := eq_true q1309
                          have p1347 : 0 ≤ (x7_2 : Int) := of_decide_eq_true (by first | (with_reducible assumption) | assumption)
                          have q1347 : x7_2 < (l1.length : Int) := of_decide_eq_true (by first | (with_reducible assumption) | assumption)
                          obtain ⟨ad1347, e1347, hx1347_0, hx1347_1, hx1347_2⟩ := at_T51 HR1.out x7_2 p1347 q1347
                          obtain rfl : ad1309 = ad1347 := (by injection e1347)
                          replace hx1347_0 := (HB.out.cell (World.block_lt_of_cell? w _ hx1347_0)).trans hx1347_0
                          replace hx1347_1 := (HB.out.cell (World.block_lt_of_cell? w _ hx1347_1)).trans hx1347_1
                          replace hx1347_2 := (HB.out.cell (World.block_lt_of_cell? w _ hx1347_2)).trans hx1347_2
                          replace p1347 := eq_true p1347
                          replace q1347 := eq_true q1347
                          go_wp2_with (first | ((with_reducible refine gate_callee (f := 45) rfl ?_); refine goesL_ (some 114) rfl rfl Try.func45 (by kernel_rfl) rfl #[.pointer (some ⟨g1308, 0, none⟩), .int .i64 ((rd_T51 l1 x7_2).f2)] rfl (by (try simp only [List.map_toArray, List.map_cons, List.map_nil]); first | done | rfl | (simp only [List.length_drop, List.length_take]; rfl)) ?_; (with_reducible refine (strict_Reader_Serials.calls k2 g1308 x1309000_2 x1309001_2 x1309002_2 x1309003_2 ((rd_T51 l1 x7_2).f2) t1348 t1351 t1352 t1353 t1354 w _ ?side1 ?side2 A41.out).mono ?_); (case side1 => repeat (first | (with_reducible first | exact HI1308.out | apply IsS56.alloc | apply IsS56.drewN | apply IsS56.drew | apply IsS56.set_0 | apply IsS56.set_1 | apply IsS56.set_2 | apply IsS56.set_3 | apply IsS56.sete_2 | with_unfolding_all rfl) | exact HI1308.out)); (case side2 => repeat (first | (with_reducible first | exact HB.out | apply below_alloc | apply pw_below_drewN | apply below_drew1 | refine below_set ?_ (IsS56.ge HI1308.out)) | exact HB.out)); rintro e w43 ⟨v1349, rfl, ho0, hi, hb, hk⟩; refine ⟨_, rfl, ?_⟩; have n0_ := Aside0.mk (Kd.R_lower ho0 (below_size (by repeat (first | (with_reducible first | exact HB.out | apply below_alloc | apply pw_below_drewN | apply below_drew1 | refine below_set ?_ (IsS56.ge HI1308.out)) | exact HB.out)))); have n1_ := Aside0.mk (hb); have n2_ := Aside0.mk (hi); clear HB; clear HI1308; have HO1350 := n0_; have HB := n1_; have HI1308 := n2_; clear n0_ n1_ n2_; (try clear hb); (try clear hb2); (try clear hk); (try clear hi); (try clear ho0); (try simp only [errW_none, errW_some]); obtain ⟨Ao44, co44, eo44⟩ := Kd.R_slice HO1350.out; subst eo44) | ((with_reducible refine gate_callee (f := 69) rfl ?_); refine goesL_ (some 118) rfl rfl Try.func69 (by kernel_rfl) rfl #[.int .i64 (t1348.length : Int), .int .i64 1] rfl (by (try simp only [List.map_toArray, List.map_cons, List.map_nil]); first | done | rfl | (simp only [List.length_drop, List.length_take]; rfl)) ?_; (with_reducible refine (octet_Put.calls k2 (t1348.length : Int) 1 t1355 t1356 _ A42.out).mono ?_); rintro e w45 ⟨rfl, hb⟩; refine ⟨_, rfl, ?_⟩; have n0_ := Aside0.mk (Kd.R_below (by (with_reducible repeat (first | apply Kd.R_alloc | apply Kd.R_drewN | apply Kd.R_drew)); exact HO1350.out) hb); have n1_ := Aside0.mk (IsS56.below (by repeat (first | (with_reducible first | exact HI1308.out | apply IsS56.alloc | apply IsS56.drewN | apply IsS56.drew | apply IsS56.set_0 | apply IsS56.set_1 | apply IsS56.set_2 | apply IsS56.set_3 | apply IsS56.sete_2 | with_unfolding_all rfl) | exact HI1308.out)) hb); have n2_ := Aside0.mk (below_step (by repeat (first | (with_reducible first | exact HB.out | apply below_alloc | apply pw_below_drewN | apply below_drew1 | refine below_set ?_ (IsS56.ge HI1308.out)) | exact HB.out)) hb); clear HO1350; clear HI1308; clear HB; have HO1350 := n0_; have HI1308 := n1_; have HB := n2_; clear n0_ n1_ n2_; (try clear hb); (try clear hb2); (try clear hk); (try clear hi)))
                          go_loopg [8, 10] k2 (fun kq v8 v10 w' => ∃ (x8_3 : ByteArray) (x10_3 : Int), v8 = .string x8_3 ∧ v10 = .int .i64 x10_3 ∧ Aside0 (backhaullaw06_StrictWhole.l1 kq a0 l1 x6_2 x7_2 x8_3 t1348 x10_3 t1351 t1352 t1353 t1354 = some true) ∧ Aside0 (kq ≤ k2) ∧ Aside0 (Kd.R Kd.string 9 w' w.heap.size (fun _ => True) (.slice Ao44 t1348.length co44) t1348) ∧ Aside0 (IsS56 w w' g1308 t1351 t1352 t1353 t1354) ∧ Aside0 (Below w.heap.size w w'))
                          case atStart => exact ⟨(t1355), (0), (by first | rfl | (simp; done) | (simp [*]; done)), (by first | rfl | (simp; done) | (simp [*]; done)), H', ⟨Nat.le_refl _⟩, ⟨by (with_reducible repeat (first | apply Kd.R_alloc | apply Kd.R_drewN | apply Kd.R_drew)); exact HO1350.out⟩, ⟨by repeat (first | (with_reducible first | exact HI1308.out | apply IsS56.alloc | apply IsS56.drewN | apply IsS56.drew | apply IsS56.set_0 | apply IsS56.set_1 | apply IsS56.set_2 | apply IsS56.set_3 | apply IsS56.sete_2 | with_unfolding_all rfl) | exact HI1308.out)⟩, ⟨by repeat (first | (with_reducible first | exact HB.out | apply below_alloc | apply pw_below_drewN | apply below_drew1 | refine below_set ?_ (IsS56.ge HI1308.out)) | exact HB.out)⟩⟩
                          case round =>
                            clear H'
                            try clear c1
                            try clear p1
                            try clear q1
                            try clear hx1
                            try clear c2
                            try clear p2
                            try clear c3
                            try clear c4
                            try clear c6
                            try clear p6
                            try clear c7
                            try clear c13
                            try clear c13b0
                            try clear c13b1
                            try clear p13
                            try clear q13
                            try clear hx13
                            try clear c16
                            try clear c20
                            try clear c20b0
                            try clear c20b1
                            try clear c23
                            try clear c23b0
                            try clear c23b1
                            try clear c23b2
                            try clear c26
                            try clear c26b0
                            try clear c26b1
                            try clear c29
                            try clear c29b0
                            try clear c29b1
                            try clear c29b2
                            try clear c32
                            try clear c32b0
                            try clear c32b1
                            try clear c35
                            try clear c35b0
                            try clear c35b1
                            try clear c35b2
                            try clear c40
                            try clear c40b0
                            try clear c40b1
                            try clear c41
                            try clear c42
                            try clear c43
                            try clear c44
                            try clear c45
                            try clear hx1309_0
                            try clear hx1309_1
                            try clear hx1309_2
                            try clear hx1320_0
                            try clear hx1320_1
                            try clear hx1320_2
                            try clear hx1335_0
                            try clear hx1335_1
                            try clear hx1335_2
                            try clear hx1336_0
                            try clear hx1336_1
                            try clear hx1336_2
                            try clear hx1337_0
                            try clear hx1337_1
                            try clear hx1337_2
                            try clear hx1347_0
                            try clear hx1347_1
                            try clear hx1347_2
                            try clear p1309
                            try clear p1320
                            try clear p1335
                            try clear p1336
                            try clear p1337
                            try clear p1347
                            try clear q1309
                            try clear q1320
                            try clear q1335
                            try clear q1336
                            try clear q1337
                            try clear q1347
                            obtain ⟨x8_3, x10_3, rfl, rfl, HA, HK3, HO_9, HI1308, HB⟩ := hrel
                            cases gk with
                            | zero => exact absurd HA.out (by simp [backhaullaw06_StrictWhole.l1])
                            | succ k3 =>
                              have H := HA.out
                              clear HA
                              simp only [backhaullaw06_StrictWhole.l1] at H
                              by_cases c46 : x10_3 < (t1348.length : Int)
                              · rw [if_pos c46] at H
                                have c46b0 : decide (x10_3 < (t1348.length : Int)) = true := decide_eq_true c46
                                clear c46
                                by_cases c47 : 0 ≤ x10_3
                                · rw [if_pos c47] at H
                                  have c47b0 : decide (0 ≤ x10_3) = true := decide_eq_true c47
                                  clear c47
                                  replace H := Option.bind_eq_some_iff.mp H
                                  obtain ⟨⟨t1358, t1359⟩, A480, H⟩ := H
                                  replace H : (if x8_3.size + t1358.size ≤ 9223372036854775807 then (backhaullaw06_StrictWhole.l1 k3 a0 l1 x6_2 x7_2 (x8_3 ++ t1358) t1348 (wrap64 (x10_3 + 1)) t1351 t1352 t1353 t1354) else (none)) = some true := H
                                  have A48 := Aside0.mk A480
                                  clear A480
                                  by_cases c49 : x8_3.size + t1358.size ≤ 9223372036854775807
                                  · rw [if_pos c49] at H
                                    have c49b0 := eq_true c49
                                    have c49b1 : decide (x8_3.size + t1358.size ≤ 9223372036854775807) = true := decide_eq_true c49
                                    try have c49b2 : (9223372036854775807 < x8_3.size + t1358.size) = False := eq_false (Nat.not_lt.2 c49)
                                    have H' := Aside0.mk H
                                    clear H
                                    have p1357 : 0 ≤ (x10_3 : Int) := of_decide_eq_true (by first | (with_reducible assumption) | assumption)
                                    have q1357 : x10_3 < (t1348.length : Int) := of_decide_eq_true (by first | (with_reducible assumption) | assumption)
                                    obtain ⟨ad1357, e1357, hx1357_0⟩ := Kd.at_string (Kd.R_reads' HO_9.out).2.2 x10_3 p1357 q1357
                                    cases e1357
                                    replace p1357 := eq_true p1357
                                    replace q1357 := eq_true q1357
                                    go_wp2_with (first | ((with_reducible refine gate_callee (f := 72) rfl ?_); refine goesL_ (some 132) rfl rfl Try.func72 (by kernel_rfl) rfl #[.string (rdOf ByteArray.empty t1348 x10_3)] rfl (by (try simp only [List.map_toArray, List.map_cons, List.map_nil]); first | done | rfl | (simp only [List.length_drop, List.length_take]; rfl)) ?_; (with_reducible refine (backhaulref05_Lay.calls (rdOf ByteArray.empty t1348 x10_3) t1358 t1359 _ A48.out).mono ?_); rintro e w50 ⟨rfl, hb⟩; refine ⟨_, rfl, ?_⟩; have n0_ := Aside0.mk (Kd.R_below (by (with_reducible repeat (first | apply Kd.R_alloc | apply Kd.R_drewN | apply Kd.R_drew)); exact HO_9.out) hb); have n1_ := Aside0.mk (IsS56.below (by repeat (first | (with_reducible first | exact HI1308.out | apply IsS56.alloc | apply IsS56.drewN | apply IsS56.drew | apply IsS56.set_0 | apply IsS56.set_1 | apply IsS56.set_2 | apply IsS56.set_3 | apply IsS56.sete_2 | with_unfolding_all rfl) | exact HI1308.out)) hb); have n2_ := Aside0.mk (below_step (by repeat (first | (with_reducible first | exact HB.out | apply below_alloc | apply pw_below_drewN | apply below_drew1 | refine below_set ?_ (IsS56.ge HI1308.out)) | exact HB.out)) hb); clear HO_9; clear HI1308; clear HB; have HO_9 := n0_; have HI1308 := n1_; have HB := n2_; clear n0_ n1_ n2_; (try clear hb); (try clear hb2); (try clear hk); (try clear hi)))
                                    go_roundg k3
                                    case measure => have := HJ2.out; have := HK2.out; have := HK3.out; omega
                                    case rel => exact ⟨(x8_3 ++ t1358), (wrap64 (x10_3 + 1)), (by first | rfl | (simp; done) | (simp [*]; done)), (by first | rfl | (simp; done) | (simp [*]; done)), H', ⟨by have := HJ2.out; have := HK2.out; have := HK3.out; omega⟩, ⟨by (with_reducible repeat (first | apply Kd.R_alloc | apply Kd.R_drewN | apply Kd.R_drew)); exact HO_9.out⟩, ⟨by repeat (first | (with_reducible first | exact HI1308.out | apply IsS56.alloc | apply IsS56.drewN | apply IsS56.drew | apply IsS56.set_0 | apply IsS56.set_1 | apply IsS56.set_2 | apply IsS56.set_3 | apply IsS56.sete_2 | with_unfolding_all rfl) | exact HI1308.out)⟩, ⟨by repeat (first | (with_reducible first | exact HB.out | apply below_alloc | apply pw_below_drewN | apply below_drew1 | refine below_set ?_ (IsS56.ge HI1308.out)) | exact HB.out)⟩⟩
                                  · rw [if_neg c49] at H
                                    exact absurd H (by simp)
                                · rw [if_neg c47] at H
                                  exact absurd H (by simp)
                              · rw [if_neg c46] at H
                                have c46b0 : decide (x10_3 < (t1348.length : Int)) = false := decide_eq_false c46
                                clear c46
                                by_cases c51 : x6_2.size + x8_3.size ≤ 9223372036854775807
                                · rw [if_pos c51] at H
                                  have c51b0 := eq_true c51
                                  have c51b1 : decide (x6_2.size + x8_3.size ≤ 9223372036854775807) = true := decide_eq_true c51
                                  try have c51b2 : (9223372036854775807 < x6_2.size + x8_3.size) = False := eq_false (Nat.not_lt.2 c51)
                                  have H' := Aside0.mk H
                                  clear H
                                  go_wp2
                                  go_roundg k3
                                  case measure => have := HJ2.out; have := HK2.out; have := HK3.out; omega
                                  case rel => exact ⟨(x6_2 ++ x8_3), (wrap64 (x7_2 + 1)), (t1351), (t1352), (t1353), (t1354), (by first | rfl | (simp; done) | (simp [*]; done)), (by first | rfl | (simp; done) | (simp [*]; done)), H', ⟨by have := HJ2.out; have := HK2.out; have := HK3.out; omega⟩, ⟨by repeat (first | (with_reducible first | exact HI1308.out | apply IsS56.alloc | apply IsS56.drewN | apply IsS56.drew | apply IsS56.set_0 | apply IsS56.set_1 | apply IsS56.set_2 | apply IsS56.set_3 | apply IsS56.sete_2 | with_unfolding_all rfl) | exact HI1308.out)⟩, ⟨by repeat (first | (with_reducible first | exact HB.out | apply below_alloc | apply pw_below_drewN | apply below_drew1 | refine below_set ?_ (IsS56.ge HI1308.out)) | exact HB.out)⟩⟩
                                · rw [if_neg c51] at H
                                  exact absurd H (by simp)
                        · rw [if_neg c40] at H
                          have c40b0 : (((rd_T51 l1 x7_2).f0) == 4) = false := beq_eq_false_iff_ne.mpr c40
                          have c40b1 : (((rd_T51 l1 x7_2).f0) != 4) = true := bne_iff_ne.mpr c40
                          by_cases c52 : ((rd_T51 l1 x7_2).f0) = 5
                          · rw [if_pos c52] at H
                            have c52b0 : (((rd_T51 l1 x7_2).f0) == 5) = true := beq_iff_eq.mpr c52
                            have c52b1 : (((rd_T51 l1 x7_2).f0) != 5) = false := bne_eq_false_iff_eq.mpr c52
                            clear c52
                            replace H := Option.bind_eq_some_iff.mp H
                            obtain ⟨⟨t1360, t1361, t1362, t1363, t1364⟩, A530, H⟩ := H
                            replace H : ((octet_Flag.f t1360).bind fun t1365 => (if x6_2.size + t1365.size ≤ 9223372036854775807 then (backhaullaw06_StrictWhole.l0 k2 a0 l1 (x6_2 ++ t1365) (wrap64 (x7_2 + 1)) t1361 t1362 t1363 t1364) else (none))) = some true := H
                            have A53 := Aside0.mk A530
                            clear A530
                            replace H := Option.bind_eq_some_iff.mp H
                            obtain ⟨t1365, A540, H⟩ := H
                            replace H : (if x6_2.size + t1365.size ≤ 9223372036854775807 then (backhaullaw06_StrictWhole.l0 k2 a0 l1 (x6_2 ++ t1365) (wrap64 (x7_2 + 1)) t1361 t1362 t1363 t1364) else (none)) = some true := H
                            have A54 := Aside0.mk A540
                            clear A540
                            by_cases c55 : x6_2.size + t1365.size ≤ 9223372036854775807
                            · rw [if_pos c55] at H
                              have c55b0 := eq_true c55
                              have c55b1 : decide (x6_2.size + t1365.size ≤ 9223372036854775807) = true := decide_eq_true c55
                              try have c55b2 : (9223372036854775807 < x6_2.size + t1365.size) = False := eq_false (Nat.not_lt.2 c55)
                              have H' := Aside0.mk H
                              clear H
                              have p1309 : 0 ≤ (x7_2 : Int) := of_decide_eq_true (by first | (with_reducible assumption) | assumption)
                              have q1309 : x7_2 < (l1.length : Int) := of_decide_eq_true (by first | (with_reducible assumption) | assumption)
                              obtain ⟨ad1309, e1309, hx1309_0, hx1309_1, hx1309_2⟩ := at_T51 HR1.out x7_2 p1309 q1309
                              cases e1309
                              replace hx1309_0 := (HB.out.cell (World.block_lt_of_cell? w _ hx1309_0)).trans hx1309_0
                              replace hx1309_1 := (HB.out.cell (World.block_lt_of_cell? w _ hx1309_1)).trans hx1309_1
                              replace hx1309_2 := (HB.out.cell (World.block_lt_of_cell? w _ hx1309_2)).trans hx1309_2
                              replace p1309 := eq_true p1309
                              replace q1309 := eq_true q1309
                              go_wp2_with (first | ((with_reducible refine gate_callee (f := 46) rfl ?_); refine goesL_ (some 141) rfl rfl Try.func46 (by kernel_rfl) rfl #[.pointer (some ⟨g1308, 0, none⟩)] rfl (by (try simp only [List.map_toArray, List.map_cons, List.map_nil]); first | done | rfl | (simp only [List.length_drop, List.length_take]; rfl)) ?_; (with_reducible refine (strict_Reader_Flag.calls k2 g1308 x1309000_2 x1309001_2 x1309002_2 x1309003_2 t1360 t1361 t1362 t1363 t1364 w _ ?side1 ?side2 A53.out).mono ?_); (case side1 => repeat (first | (with_reducible first | exact HI1308.out | apply IsS56.alloc | apply IsS56.drewN | apply IsS56.drew | apply IsS56.set_0 | apply IsS56.set_1 | apply IsS56.set_2 | apply IsS56.set_3 | apply IsS56.sete_2 | with_unfolding_all rfl) | exact HI1308.out)); (case side2 => repeat (first | (with_reducible first | exact HB.out | apply below_alloc | apply pw_below_drewN | apply below_drew1 | refine below_set ?_ (IsS56.ge HI1308.out)) | exact HB.out)); rintro e w56 ⟨rfl, hi, hb, hk⟩; refine ⟨_, rfl, ?_⟩; have n0_ := Aside0.mk (hb); have n1_ := Aside0.mk (hi); clear HB; clear HI1308; have HB := n0_; have HI1308 := n1_; clear n0_ n1_; (try clear hb); (try clear hb2); (try clear hk); (try clear hi); (try simp only [errW_none, errW_some])) | ((with_reducible refine gate_callee (f := 73) rfl ?_); refine goesL_ (some 142) rfl rfl Try.func73 (by kernel_rfl) rfl #[.bool t1360] rfl (by (try simp only [List.map_toArray, List.map_cons, List.map_nil]); first | done | rfl | (simp only [List.length_drop, List.length_take]; rfl)) ?_; (with_reducible refine (octet_Flag.calls t1360 t1365 _ A54.out).mono ?_); rintro e w' ⟨rfl, ⟨nd, rfl⟩⟩; refine ⟨_, rfl, ?_⟩))
                              go_roundg k2
                              case measure => have := HJ2.out; have := HK2.out; omega
                              case rel => exact ⟨(x6_2 ++ t1365), (wrap64 (x7_2 + 1)), (t1361), (t1362), (t1363), (t1364), (by first | rfl | (simp; done) | (simp [*]; done)), (by first | rfl | (simp; done) | (simp [*]; done)), H', ⟨by have := HJ2.out; have := HK2.out; omega⟩, ⟨by repeat (first | (with_reducible first | exact HI1308.out | apply IsS56.alloc | apply IsS56.drewN | apply IsS56.drew | apply IsS56.set_0 | apply IsS56.set_1 | apply IsS56.set_2 | apply IsS56.set_3 | apply IsS56.sete_2 | with_unfolding_all rfl) | exact HI1308.out)⟩, ⟨by repeat (first | (with_reducible first | exact HB.out | apply below_alloc | apply pw_below_drewN | apply below_drew1 | refine below_set ?_ (IsS56.ge HI1308.out)) | exact HB.out)⟩⟩
                            · rw [if_neg c55] at H
                              exact absurd H (by simp)
                          · rw [if_neg c52] at H
                            have c52b0 : (((rd_T51 l1 x7_2).f0) == 5) = false := beq_eq_false_iff_ne.mpr c52
                            have c52b1 : (((rd_T51 l1 x7_2).f0) != 5) = true := bne_iff_ne.mpr c52
                            by_cases c57 : x6_2.size + 0 ≤ 9223372036854775807
                            · rw [if_pos c57] at H
                              have c57b0 := eq_true c57
                              have c57b1 : decide (x6_2.size + 0 ≤ 9223372036854775807) = true := decide_eq_true c57
                              try have c57b2 : (9223372036854775807 < x6_2.size + 0) = False := eq_false (Nat.not_lt.2 c57)
                              have H' := Aside0.mk H
                              clear H
                              have p1309 : 0 ≤ (x7_2 : Int) := of_decide_eq_true (by first | (with_reducible assumption) | assumption)
                              have q1309 : x7_2 < (l1.length : Int) := of_decide_eq_true (by first | (with_reducible assumption) | assumption)
                              obtain ⟨ad1309, e1309, hx1309_0, hx1309_1, hx1309_2⟩ := at_T51 HR1.out x7_2 p1309 q1309
                              cases e1309
                              replace hx1309_0 := (HB.out.cell (World.block_lt_of_cell? w _ hx1309_0)).trans hx1309_0
                              replace hx1309_1 := (HB.out.cell (World.block_lt_of_cell? w _ hx1309_1)).trans hx1309_1
                              replace hx1309_2 := (HB.out.cell (World.block_lt_of_cell? w _ hx1309_2)).trans hx1309_2
                              replace p1309 := eq_true p1309
                              replace q1309 := eq_true q1309
                              go_wp2
                              go_roundg k2
                              case measure => have := HJ2.out; have := HK2.out; omega
                              case rel => exact ⟨(x6_2 ++ (⟨#[]⟩ : ByteArray)), (wrap64 (x7_2 + 1)), (x1309000_2), (x1309001_2), (x1309002_2), (x1309003_2), (by first | rfl | (simp; done) | (simp [*]; done)), (by first | rfl | (simp; done) | (simp [*]; done)), H', ⟨by have := HJ2.out; have := HK2.out; omega⟩, ⟨by repeat (first | (with_reducible first | exact HI1308.out | apply IsS56.alloc | apply IsS56.drewN | apply IsS56.drew | apply IsS56.set_0 | apply IsS56.set_1 | apply IsS56.set_2 | apply IsS56.set_3 | apply IsS56.sete_2 | with_unfolding_all rfl) | exact HI1308.out)⟩, ⟨by repeat (first | (with_reducible first | exact HB.out | apply below_alloc | apply pw_below_drewN | apply below_drew1 | refine below_set ?_ (IsS56.ge HI1308.out)) | exact HB.out)⟩⟩
                            · rw [if_neg c57] at H
                              exact absurd H (by simp)
              · rw [if_neg c12] at H
                exact absurd H (by simp)
            · rw [if_neg c11] at H
              have c11b0 : decide (x7_2 < (l1.length : Int)) = false := decide_eq_false c11
              clear c11
              replace H := Option.bind_eq_some_iff.mp H
              obtain ⟨⟨t1366, t1367, t1368, t1369⟩, A580, H⟩ := H
              replace H : ((strict_Reader_Err.f t1366 t1367 t1368 t1369).bind fun bt1370 => ((strict_Why.f bt1370.1).bind fun bt1375 => (if bt1375.1 = 0 then (if x6_2.toList = a0.toList then ((backhaullaw06_awake.f).bind fun t1377 => (if t1377 = true then (some true) else (some false))) else (some false)) else ((backhaullaw06_awake.f).bind fun t1378 => (if t1378 = true then (some true) else (some false)))))) = some true := H
              have A58 := Aside0.mk A580
              clear A580
              replace H := Option.bind_eq_some_iff.mp H
              obtain ⟨⟨t1370, t1366, t1367, t1368, t1369⟩, A590, H⟩ := H
              obtain ⟨rfl, rfl, rfl, rfl⟩ := strict_Reader_Err.same A590
              replace H : ((strict_Why.f t1370).bind fun bt1375 => (if bt1375.1 = 0 then (if x6_2.toList = a0.toList then ((backhaullaw06_awake.f).bind fun t1377 => (if t1377 = true then (some true) else (some false))) else (some false)) else ((backhaullaw06_awake.f).bind fun t1378 => (if t1378 = true then (some true) else (some false))))) = some true := H
              have A59 := Aside0.mk A590
              clear A590
              replace H := Option.bind_eq_some_iff.mp H
              obtain ⟨⟨t1375, t1376⟩, A600, H⟩ := H
              replace H : (if t1375 = 0 then (if x6_2.toList = a0.toList then ((backhaullaw06_awake.f).bind fun t1377 => (if t1377 = true then (some true) else (some false))) else (some false)) else ((backhaullaw06_awake.f).bind fun t1378 => (if t1378 = true then (some true) else (some false)))) = some true := H
              have A60 := Aside0.mk A600
              clear A600
              by_cases c61 : t1375 = 0
              · rw [if_pos c61] at H
                have c61b0 : (t1375 == 0) = true := beq_iff_eq.mpr c61
                have c61b1 : (t1375 != 0) = false := bne_eq_false_iff_eq.mpr c61
                clear c61
                by_cases c62 : x6_2.toList = a0.toList
                · rw [if_pos c62] at H
                  have c62b0 : (x6_2.toList == a0.toList) = true := beq_iff_eq.mpr c62
                  have c62b1 : (x6_2.toList != a0.toList) = false := bne_eq_false_iff_eq.mpr c62
                  clear c62
                  replace H := Option.bind_eq_some_iff.mp H
                  obtain ⟨t1377, A630, H⟩ := H
                  replace H : (if t1377 = true then (some true) else (some false)) = some true := H
                  have A63 := Aside0.mk A630
                  clear A630
                  by_cases c64 : t1377 = true
                  · subst c64
                    have H1 : (some true) = some true := by first | (rw [if_pos rfl] at H; exact H) | rfl
                    clear H
                    have H := H1
                    clear H1
                    clear H
                    go_wp2_with (first | ((with_reducible refine gate_callee (f := 74) rfl ?_); refine goesL_ (some 147) rfl rfl Try.func74 (by kernel_rfl) rfl #[.pointer (some ⟨g1308, 0, none⟩)] rfl (by (try simp only [List.map_toArray, List.map_cons, List.map_nil]); first | done | rfl | (simp only [List.length_drop, List.length_take]; rfl)) ?_; (with_reducible refine (strict_Reader_End.calls g1308 x1309000_2 x1309001_2 x1309002_2 x1309003_2 t1366 t1367 t1368 t1369 w _ ?side1 ?side2 A58.out).mono ?_); (case side1 => repeat (first | (with_reducible first | exact HI1308.out | apply IsS56.alloc | apply IsS56.drewN | apply IsS56.drew | apply IsS56.set_0 | apply IsS56.set_1 | apply IsS56.set_2 | apply IsS56.set_3 | apply IsS56.sete_2 | with_unfolding_all rfl) | exact HI1308.out)); (case side2 => repeat (first | (with_reducible first | exact HB.out | apply below_alloc | apply pw_below_drewN | apply below_drew1 | refine below_set ?_ (IsS56.ge HI1308.out)) | exact HB.out)); rintro e w65 ⟨rfl, hi, hb, hk⟩; refine ⟨_, rfl, ?_⟩; have n0_ := Aside0.mk (hb); have n1_ := Aside0.mk (hi); clear HB; clear HI1308; have HB := n0_; have HI1308 := n1_; clear n0_ n1_; (try clear hb); (try clear hb2); (try clear hk); (try clear hi); (try simp only [errW_none, errW_some])) | ((with_reducible refine gate_callee (f := 39) rfl ?_); refine goesL_ (some 150) rfl rfl Try.func39 (by kernel_rfl) rfl #[.pointer (some ⟨g1308, 0, none⟩)] rfl (by (try simp only [List.map_toArray, List.map_cons, List.map_nil]); first | done | rfl | (simp only [List.length_drop, List.length_take]; rfl)) ?_; (with_reducible refine (strict_Reader_Err.calls g1308 t1366 t1367 t1368 t1369 t1370 t1366 t1367 t1368 t1369 w _ ?side1 ?side2 A59.out).mono ?_); (case side1 => repeat (first | (with_reducible first | exact HI1308.out | apply IsS56.alloc | apply IsS56.drewN | apply IsS56.drew | apply IsS56.set_0 | apply IsS56.set_1 | apply IsS56.set_2 | apply IsS56.set_3 | apply IsS56.sete_2 | with_unfolding_all rfl) | exact HI1308.out)); (case side2 => repeat (first | (with_reducible first | exact HB.out | apply below_alloc | apply pw_below_drewN | apply below_drew1 | refine below_set ?_ (IsS56.ge HI1308.out)) | exact HB.out)); rintro e w66 ⟨rfl, hi, hb, hk⟩; refine ⟨_, rfl, ?_⟩; have n0_ := Aside0.mk (hb); have n1_ := Aside0.mk (hi); clear HB; clear HI1308; have HB := n0_; have HI1308 := n1_; clear n0_ n1_; (try clear hb); (try clear hb2); (try clear hk); (try clear hi); (try simp only [errW_none, errW_some]); have CA60 := fun W => strict_Why.calls t1370 t1375 t1376 W A60.out; try simp only [errW_none, errW_some] at CA60) | (go_at_call 38; (with_reducible refine (CA60 _).mono ?_); rintro e w67 ⟨rfl, hb⟩; have n0_ := Aside0.mk (IsS56.below (by repeat (first | (with_reducible first | exact HI1308.out | apply IsS56.alloc | apply IsS56.drewN | apply IsS56.drew | apply IsS56.set_0 | apply IsS56.set_1 | apply IsS56.set_2 | apply IsS56.set_3 | apply IsS56.sete_2 | with_unfolding_all rfl) | exact HI1308.out)) hb); have n1_ := Aside0.mk (below_step (by repeat (first | (with_reducible first | exact HB.out | apply below_alloc | apply pw_below_drewN | apply below_drew1 | refine below_set ?_ (IsS56.ge HI1308.out)) | exact HB.out)) hb); clear HI1308; clear HB; have HI1308 := n0_; have HB := n1_; clear n0_ n1_; (try clear hb); (try clear hb2); (try clear hk); (try clear hi)) | (go_at_call 35; (with_reducible refine (backhaullaw06_awake.calls  true _ A63.out).mono ?_); rintro e w68 ⟨rfl, hb⟩; have n0_ := Aside0.mk (IsS56.below (by repeat (first | (with_reducible first | exact HI1308.out | apply IsS56.alloc | apply IsS56.drewN | apply IsS56.drew | apply IsS56.set_0 | apply IsS56.set_1 | apply IsS56.set_2 | apply IsS56.set_3 | apply IsS56.sete_2 | with_unfolding_all rfl) | exact HI1308.out)) hb); have n1_ := Aside0.mk (below_step (by repeat (first | (with_reducible first | exact HB.out | apply below_alloc | apply pw_below_drewN | apply below_drew1 | refine below_set ?_ (IsS56.ge HI1308.out)) | exact HB.out)) hb); clear HI1308; clear HB; have HI1308 := n0_; have HB := n1_; clear n0_ n1_; (try clear hb); (try clear hb2); (try clear hk); (try clear hi)))
                    go_ret
                    exact ⟨by first | rfl | (simp [errW_none, errW_some] <;> rfl) | (simp [*, errW_none, errW_some] <;> rfl), by repeat (first | (with_reducible first | exact HB.out | apply below_alloc | apply pw_below_drewN | apply below_drew1 | refine below_set ?_ (IsS56.ge HI1308.out)) | exact HB.out)⟩
                  · replace c64 := Bool.eq_false_iff.mpr c64
                    subst c64
                    have H1 : (some false) = some true := by first | (rw [if_neg (show ¬ (false = true) by decide)] at H; exact H) | rfl
                    clear H
                    have H := H1
                    clear H1
                    exact absurd H (by simp)
                · rw [if_neg c62] at H
                  have c62b0 : (x6_2.toList == a0.toList) = false := beq_eq_false_iff_ne.mpr c62
                  have c62b1 : (x6_2.toList != a0.toList) = true := bne_iff_ne.mpr c62
                  exact absurd H (by simp)
              · rw [if_neg c61] at H
                have c61b0 : (t1375 == 0) = false := beq_eq_false_iff_ne.mpr c61
                have c61b1 : (t1375 != 0) = true := bne_iff_ne.mpr c61
                replace H := Option.bind_eq_some_iff.mp H
                obtain ⟨t1378, A690, H⟩ := H
                replace H : (if t1378 = true then (some true) else (some false)) = some true := H
                have A69 := Aside0.mk A690
                clear A690
                by_cases c70 : t1378 = true
                · subst c70
                  have H1 : (some true) = some true := by first | (rw [if_pos rfl] at H; exact H) | rfl
                  clear H
                  have H := H1
                  clear H1
                  clear H
                  go_wp2_with (first | ((with_reducible refine gate_callee (f := 74) rfl ?_); refine goesL_ (some 147) rfl rfl Try.func74 (by kernel_rfl) rfl #[.pointer (some ⟨g1308, 0, none⟩)] rfl (by (try simp only [List.map_toArray, List.map_cons, List.map_nil]); first | done | rfl | (simp only [List.length_drop, List.length_take]; rfl)) ?_; (with_reducible refine (strict_Reader_End.calls g1308 x1309000_2 x1309001_2 x1309002_2 x1309003_2 t1366 t1367 t1368 t1369 w _ ?side1 ?side2 A58.out).mono ?_); (case side1 => repeat (first | (with_reducible first | exact HI1308.out | apply IsS56.alloc | apply IsS56.drewN | apply IsS56.drew | apply IsS56.set_0 | apply IsS56.set_1 | apply IsS56.set_2 | apply IsS56.set_3 | apply IsS56.sete_2 | with_unfolding_all rfl) | exact HI1308.out)); (case side2 => repeat (first | (with_reducible first | exact HB.out | apply below_alloc | apply pw_below_drewN | apply below_drew1 | refine below_set ?_ (IsS56.ge HI1308.out)) | exact HB.out)); rintro e w71 ⟨rfl, hi, hb, hk⟩; refine ⟨_, rfl, ?_⟩; have n0_ := Aside0.mk (hb); have n1_ := Aside0.mk (hi); clear HB; clear HI1308; have HB := n0_; have HI1308 := n1_; clear n0_ n1_; (try clear hb); (try clear hb2); (try clear hk); (try clear hi); (try simp only [errW_none, errW_some])) | ((with_reducible refine gate_callee (f := 39) rfl ?_); refine goesL_ (some 150) rfl rfl Try.func39 (by kernel_rfl) rfl #[.pointer (some ⟨g1308, 0, none⟩)] rfl (by (try simp only [List.map_toArray, List.map_cons, List.map_nil]); first | done | rfl | (simp only [List.length_drop, List.length_take]; rfl)) ?_; (with_reducible refine (strict_Reader_Err.calls g1308 t1366 t1367 t1368 t1369 t1370 t1366 t1367 t1368 t1369 w _ ?side1 ?side2 A59.out).mono ?_); (case side1 => repeat (first | (with_reducible first | exact HI1308.out | apply IsS56.alloc | apply IsS56.drewN | apply IsS56.drew | apply IsS56.set_0 | apply IsS56.set_1 | apply IsS56.set_2 | apply IsS56.set_3 | apply IsS56.sete_2 | with_unfolding_all rfl) | exact HI1308.out)); (case side2 => repeat (first | (with_reducible first | exact HB.out | apply below_alloc | apply pw_below_drewN | apply below_drew1 | refine below_set ?_ (IsS56.ge HI1308.out)) | exact HB.out)); rintro e w72 ⟨rfl, hi, hb, hk⟩; refine ⟨_, rfl, ?_⟩; have n0_ := Aside0.mk (hb); have n1_ := Aside0.mk (hi); clear HB; clear HI1308; have HB := n0_; have HI1308 := n1_; clear n0_ n1_; (try clear hb); (try clear hb2); (try clear hk); (try clear hi); (try simp only [errW_none, errW_some]); have CA60 := fun W => strict_Why.calls t1370 t1375 t1376 W A60.out; try simp only [errW_none, errW_some] at CA60) | (go_at_call 38; (with_reducible refine (CA60 _).mono ?_); rintro e w73 ⟨rfl, hb⟩; have n0_ := Aside0.mk (IsS56.below (by repeat (first | (with_reducible first | exact HI1308.out | apply IsS56.alloc | apply IsS56.drewN | apply IsS56.drew | apply IsS56.set_0 | apply IsS56.set_1 | apply IsS56.set_2 | apply IsS56.set_3 | apply IsS56.sete_2 | with_unfolding_all rfl) | exact HI1308.out)) hb); have n1_ := Aside0.mk (below_step (by repeat (first | (with_reducible first | exact HB.out | apply below_alloc | apply pw_below_drewN | apply below_drew1 | refine below_set ?_ (IsS56.ge HI1308.out)) | exact HB.out)) hb); clear HI1308; clear HB; have HI1308 := n0_; have HB := n1_; clear n0_ n1_; (try clear hb); (try clear hb2); (try clear hk); (try clear hi)) | (go_at_call 35; (with_reducible refine (backhaullaw06_awake.calls  true _ A69.out).mono ?_); rintro e w74 ⟨rfl, hb⟩; have n0_ := Aside0.mk (IsS56.below (by repeat (first | (with_reducible first | exact HI1308.out | apply IsS56.alloc | apply IsS56.drewN | apply IsS56.drew | apply IsS56.set_0 | apply IsS56.set_1 | apply IsS56.set_2 | apply IsS56.set_3 | apply IsS56.sete_2 | with_unfolding_all rfl) | exact HI1308.out)) hb); have n1_ := Aside0.mk (below_step (by repeat (first | (with_reducible first | exact HB.out | apply below_alloc | apply pw_below_drewN | apply below_drew1 | refine below_set ?_ (IsS56.ge HI1308.out)) | exact HB.out)) hb); clear HI1308; clear HB; have HI1308 := n0_; have HB := n1_; clear n0_ n1_; (try clear hb); (try clear hb2); (try clear hk); (try clear hi)))
                  go_ret
                  exact ⟨by first | rfl | (simp [errW_none, errW_some] <;> rfl) | (simp [*, errW_none, errW_some] <;> rfl), by repeat (first | (with_reducible first | exact HB.out | apply below_alloc | apply pw_below_drewN | apply below_drew1 | refine below_set ?_ (IsS56.ge HI1308.out)) | exact HB.out)⟩
                · replace c70 := Bool.eq_false_iff.mpr c70
                  subst c70
                  have H1 : (some false) = some true := by first | (rw [if_neg (show ¬ (false = true) by decide)] at H; exact H) | rfl
                  clear H
                  have H := H1
                  clear H1
                  exact absurd H (by simp)
def backhaullaw06_StrictWhole.Pure : Prop := ∀ (a0 : ByteArray) (l1 : List (S51)), a0.size ≤ maxLen → (l1.length ≤ maxLen ∧ ∀ x ∈ l1, ((Lit.int .i64 x.f0).wf = true ∧ (Lit.int .i64 x.f1).wf = true ∧ (Lit.int .i64 x.f2).wf = true)) → ∃ k, backhaullaw06_StrictWhole.f k a0 l1 = some true
end Go.Proofs.Ytakkhomjpflkbaa.F
set_option linter.unusedVariables false
namespace Go.Proofs.Ytakkhomjpflkbaa.Q
open Go.RowKit Go.Proofs.YtakkhomjpflkbaaW.PrintWords Go.Proofs.YtakkhomjpflkbaaW.PrintLast Go.Proofs.YtakkhomjpflkbaaW.PrintMore
theorem Ev.ite {α : Type} {c : Prop} [Decidable c] {a b : Nat → Option α} {r : α} (h1 : c → Ev a r) (h2 : ¬ c → Ev b r) : Ev (fun k => if c then a k else b k) r := by
  by_cases h : c
  · simp only [if_pos h]; exact h1 h
  · simp only [if_neg h]; exact h2 h
theorem Ev.pos {α : Type} {c : Prop} [Decidable c] {a b : Nat → Option α} {r : α} (h : c) (h1 : Ev a r) : Ev (fun k => if c then a k else b k) r := by
  simp only [if_pos h]; exact h1
theorem Ev.neg {α : Type} {c : Prop} [Decidable c] {a b : Nat → Option α} {r : α} (h : ¬ c) (h1 : Ev b r) : Ev (fun k => if c then a k else b k) r := by
  simp only [if_neg h]; exact h1
theorem Ev.ok {α : Type} {a b : α} (h : a = b) : Ev (fun _ => some a) b := ⟨0, fun _ _ => by rw [h]⟩
theorem Ev.const {α : Type} {o : Option α} {r : α} (h : o = some r) : Ev (fun _ => o) r := ⟨0, fun _ _ => h⟩
theorem Ev.bindc {α β : Type} {o : Option α} {f : Nat → α → Option β} {a : α} {r : β} (h : o = some a) (k : Ev (fun n => f n a) r) : Ev (fun n => o.bind (f n)) r := by
  subst h
  exact k
theorem Ev.eq {α : Type} {g : Nat → Option α} {a b : α} (h : Ev g a) (e : a = b) : Ev g b := e ▸ h
theorem wrap_eq {x : Int} (h0 : -9223372036854775808 ≤ x) (h1 : x ≤ 9223372036854775807) : wrap64 x = x := by
  unfold wrap64; omega
theorem u64_eq {x : Int} (h0 : 0 ≤ x) (h1 : x < 18446744073709551616) : IntKind.u64.wrap x = x := by
  simp [IntKind.wrap, IntKind.signed, IntKind.bits]; omega
theorem rdOf_nat {α : Type} {d : α} {l : List α} {i : Nat} (h : i < l.length) : rdOf d l (i : Int) = l[i] := by
  unfold rdOf; simp [List.getD_eq_getElem?_getD, h]
theorem drop_cons {α : Type} {l : List α} {i : Nat} (h : i < l.length) : l.drop i = l[i] :: l.drop (i + 1) := List.drop_eq_getElem_cons h
end Go.Proofs.Ytakkhomjpflkbaa.Q
set_option linter.unusedVariables false
namespace Go.Proofs.Ytakkhomjpflkbaa.Q
open Go.RowKit Go.Proofs.YtakkhomjpflkbaaW.PrintWords Go.Proofs.YtakkhomjpflkbaaW.PrintLast Go.Proofs.YtakkhomjpflkbaaW.PrintMore
def beL : Nat → Nat → List UInt8
  | 0, _ => []
  | w + 1, n => beL w (n / 256) ++ [UInt8.ofNat n]
def beN (l : List UInt8) : Nat := l.foldl (fun a b => 256 * a + b.toNat) 0
theorem beL_length (w : Nat) : ∀ n, (beL w n).length = w := by
  induction w with
  | zero => intro n; rfl
  | succ w ih => intro n; simp [beL, ih]
theorem beN_append (a : List UInt8) (b : UInt8) : beN (a ++ [b]) = 256 * beN a + b.toNat := by
  simp [beN]
theorem toNat_ofNat (n : Nat) : (UInt8.ofNat n).toNat = n % 256 := by simp
theorem snoc_cases {α : Type} (l : List α) : l = [] ∨ ∃ a b, l = a ++ [b] := by
  rcases List.eq_nil_or_concat l with h | ⟨a, b, h⟩
  · exact .inl h
  · exact .inr ⟨a, b, by simpa using h⟩
theorem beL_beN (w : Nat) : ∀ l : List UInt8, l.length = w → beL w (beN l) = l := by
  induction w with
  | zero => intro l h; rw [List.eq_nil_of_length_eq_zero h]; rfl
  | succ w ih =>
    intro l h
    rcases snoc_cases l with rfl | ⟨a, b, rfl⟩
    · simp at h
    · have hb := b.toNat_lt
      rw [beL, beN_append, show (256 * beN a + b.toNat) / 256 = beN a by omega, ih a (by simpa using h)]
      congr 2
      apply UInt8.toNat_inj.1
      rw [toNat_ofNat]
      omega
theorem beN_lt (w : Nat) : ∀ l : List UInt8, l.length = w → beN l < 256 ^ w := by
  induction w with
  | zero => intro l h; rw [List.eq_nil_of_length_eq_zero h]; simp [beN]
  | succ w ih =>
    intro l h
    rcases snoc_cases l with rfl | ⟨a, b, rfl⟩
    · simp at h
    · have hb := b.toNat_lt
      have := ih a (by simpa using h)
      rw [beN_append, Nat.pow_succ]
      omega
def bytesB (l : List UInt8) : ByteArray := ⟨l.toArray⟩
theorem bytesB_data (l : List UInt8) : (bytesB l).data.toList = l := rfl
theorem bytesB_size (l : List UInt8) : (bytesB l).size = l.length := by simp [bytesB, ByteArray.size]
theorem ext_list {a b : ByteArray} (h : a.data.toList = b.data.toList) : a = b := by
  cases a; cases b; simpa [Array.toList_inj] using h
theorem data_append (a b : ByteArray) : (a ++ b).data.toList = a.data.toList ++ b.data.toList := by simp [ByteArray.data_append]
theorem data_extract (a : ByteArray) (i j : Nat) : (a.extract i j).data.toList = (a.data.toList.take j).drop i := by
  rw [ByteArray.data_extract, Array.toList_extract, List.extract_eq_take_drop, List.drop_take]
theorem size_data (a : ByteArray) : a.data.toList.length = a.size := by rw [Array.length_toList]; rfl
theorem bt_data (s : ByteArray) (i : Nat) (h : i < s.size) : bt s (i : Int) = ((s.data.toList[i]'(by rw [size_data]; exact h)).toNat : Int) := by
  unfold bt
  rw [dif_pos (by simpa using h)]
  simp [ByteArray.getElem_eq_getElem_data]
def wide (w : Int) : Prop := w = 1 ∨ w = 2 ∨ w = 4 ∨ w = 8
instance (w : Int) : Decidable (wide w) := by unfold wide; infer_instance
def putS (n w : Int) : ByteArray × Int := if wide w then (if 0 ≤ n ∧ n < 256 ^ w.toNat then (bytesB (beL w.toNat n.toNat), 0) else (⟨#[]⟩, 8)) else (⟨#[]⟩, 2)
def numAt (s : ByteArray) (at_ w : Nat) : Nat := beN ((s.data.toList.drop at_).take w)
def getS (s : ByteArray) (at_ w : Int) : Int × Int × Int :=
  if wide w ∧ 0 ≤ at_ ∧ at_ ≤ s.size then
    (if s.size - at_ < w then (0, 0, 4) else if (numAt s at_.toNat w.toNat : Int) > 9223372036854775807 then (0, 0, 8) else ((numAt s at_.toNat w.toNat : Int), at_ + w, 0))
  else (0, 0, 2)
def layS (t : ByteArray) : ByteArray × Int := if t.size > 65535 then (⟨#[]⟩, 3) else (bytesB (beL 2 t.size) ++ t, 0)
def takeS (s : ByteArray) (at_ most : Int) : ByteArray × Int × Int :=
  if most < 0 then (⟨#[]⟩, 0, 2) else
  if (getS s at_ 2).2.2 = 0 then
    (if (getS s at_ 2).1 > most then (⟨#[]⟩, 0, 3) else if (getS s at_ 2).1 > s.size - (getS s at_ 2).2.1 then (⟨#[]⟩, 0, 4) else
      (s.extract (getS s at_ 2).2.1.toNat ((getS s at_ 2).2.1 + (getS s at_ 2).1).toNat, (getS s at_ 2).2.1 + (getS s at_ 2).1, 0))
  else (⟨#[]⟩, 0, (getS s at_ 2).2.2)
def rowL (w : Int) : List Int → ByteArray × Int
  | [] => (⟨#[]⟩, 0)
  | x :: xs => if (putS x w).2 = 0 then (if (rowL w xs).2 = 0 then ((putS x w).1 ++ (rowL w xs).1, 0) else (⟨#[]⟩, (rowL w xs).2)) else (⟨#[]⟩, (putS x w).2)
def rowS (w : Int) (l : List Int) : ByteArray × Int :=
  if wide w then (if l.length > 1000 then (⟨#[]⟩, 3) else if (rowL w l).2 = 0 then (bytesB (beL 2 l.length) ++ (rowL w l).1, 0) else (⟨#[]⟩, (rowL w l).2)) else (⟨#[]⟩, 2)
def unrowL (s : ByteArray) (w : Int) : Nat → Int → List Int × Int × Int
  | 0, tt => ([], tt, 0)
  | n + 1, tt => if (getS s tt w).2.2 = 0 then
      (if (unrowL s w n (getS s tt w).2.1).2.2 = 0 then ((getS s tt w).1 :: (unrowL s w n (getS s tt w).2.1).1, (unrowL s w n (getS s tt w).2.1).2) else ([], 0, (unrowL s w n (getS s tt w).2.1).2.2))
    else ([], 0, (getS s tt w).2.2)
def unrowS (s : ByteArray) (at_ w top : Int) : List Int × Int × Int :=
  if ¬ wide w ∨ at_ < 0 ∨ at_ > s.size ∨ top < 0 then ([], 0, 2) else
  if (getS s at_ 2).2.2 = 0 then
    (if (getS s at_ 2).1 > top ∨ (getS s at_ 2).1 > 1000 then ([], 0, 3) else unrowL s w (getS s at_ 2).1.toNat (getS s at_ 2).2.1)
  else ([], 0, (getS s at_ 2).2.2)
theorem wide_nat {w : Int} (h : wide w) : 0 < w ∧ w ≤ 8 := by unfold wide at h; omega
theorem pow_cast {a w : Nat} (h : a < 256 ^ w) : (a : Int) < 256 ^ w := by
  have := Int.ofNat_lt.2 h
  rw [Int.natCast_pow] at this
  exact this
theorem getS_ok {s : ByteArray} {a w n tt : Int} (h : getS s a w = (n, tt, 0)) : wide w ∧ 0 ≤ a ∧ a + w ≤ s.size ∧ tt = a + w ∧ n = (numAt s a.toNat w.toNat : Int) ∧ n ≤ 9223372036854775807 ∧ 0 ≤ n := by
  unfold getS at h
  by_cases h1 : wide w ∧ 0 ≤ a ∧ a ≤ s.size
  · rw [if_pos h1] at h
    by_cases h2 : s.size - a < w
    · rw [if_pos h2] at h; simp at h
    · rw [if_neg h2] at h
      by_cases h3 : (numAt s a.toNat w.toNat : Int) > 9223372036854775807
      · rw [if_pos h3] at h; simp at h
      · rw [if_neg h3] at h
        simp only [Prod.mk.injEq] at h
        obtain ⟨rfl, rfl, _⟩ := h
        exact ⟨h1.1, h1.2.1, by omega, rfl, rfl, by omega, by omega⟩
  · rw [if_neg h1] at h; simp at h
theorem putS_ok {n w : Int} {b : ByteArray} (h : putS n w = (b, 0)) : wide w ∧ 0 ≤ n ∧ n < 256 ^ w.toNat ∧ b = bytesB (beL w.toNat n.toNat) := by
  unfold putS at h
  by_cases h1 : wide w
  · rw [if_pos h1] at h
    by_cases h2 : 0 ≤ n ∧ n < 256 ^ w.toNat
    · rw [if_pos h2] at h
      exact ⟨h1, h2.1, h2.2, (Prod.mk.inj h).1.symm⟩
    · rw [if_neg h2] at h; exact absurd (Prod.mk.inj h).2 (by decide)
  · rw [if_neg h1] at h; exact absurd (Prod.mk.inj h).2 (by decide)
theorem numAt_lt {s : ByteArray} {a w : Nat} (h : a + w ≤ s.size) : numAt s a w < 256 ^ w := by
  apply beN_lt
  rw [List.length_take, List.length_drop, size_data]; omega
theorem put_of_get {s : ByteArray} {a w n tt : Int} (h : getS s a w = (n, tt, 0)) : putS n w = (s.extract a.toNat tt.toNat, 0) := by
  obtain ⟨hw, ha, hs, rfl, rfl, hn, _⟩ := getS_ok h
  have hw' := wide_nat hw
  have hl := numAt_lt (s := s) (a := a.toNat) (w := w.toNat) (by omega)
  unfold putS
  rw [if_pos hw, if_pos ⟨by omega, pow_cast hl⟩]
  congr 1
  apply ext_list
  rw [bytesB_data, data_extract, Int.toNat_natCast, numAt, show (a + w).toNat = a.toNat + w.toNat by omega]
  rw [beL_beN]
  · rw [List.drop_take, Nat.add_sub_cancel_left]
  · rw [List.length_take, List.length_drop, size_data]; omega
theorem put2 {n : Nat} (h : n < 65536) : putS n 2 = (bytesB (beL 2 n), 0) := by
  unfold putS
  rw [if_pos (by decide), if_pos ⟨by omega, by show (n : Int) < 256 ^ 2; omega⟩]; rfl
theorem takeS_ok {s t : ByteArray} {a most tt : Int} (h : takeS s a most = (t, tt, 0)) : 0 ≤ most ∧ ∃ n, getS s a 2 = (n, a + 2, 0) ∧ n ≤ most ∧ a + 2 + n ≤ s.size ∧ t = s.extract (a + 2).toNat (a + 2 + n).toNat ∧ tt = a + 2 + n := by
  unfold takeS at h
  split at h
  · simp at h
  · split at h
    · split at h
      · simp at h
      · split at h
        · simp at h
        · rename_i h1 h2 h3 h4
          have hg : getS s a 2 = ((getS s a 2).1, (getS s a 2).2.1, 0) := by rw [← h2]
          obtain ⟨_, _, _, e, _⟩ := getS_ok hg
          simp only [Prod.mk.injEq] at h
          rw [e] at hg h4 h
          exact ⟨by omega, (getS s a 2).1, hg, by omega, by omega, h.1.symm, h.2.1.symm⟩
    · rename_i h1 h2
      simp only [Prod.mk.injEq] at h
      exact absurd h.2.2 h2
theorem lay_of_take {s t : ByteArray} {a most tt : Int} (h : takeS s a most = (t, tt, 0)) : layS t = (s.extract a.toNat tt.toNat, 0) ∧ a ≤ tt ∧ tt ≤ s.size ∧ 0 ≤ a := by
  obtain ⟨hm, n, hg, h1, h2, rfl, rfl⟩ := takeS_ok h
  obtain ⟨_, ha, hs, _, hn, _, h0⟩ := getS_ok hg
  have hp := put_of_get hg
  obtain ⟨_, _, hlt, hb⟩ := putS_ok hp
  have hlt' : n < 65536 := hlt
  refine ⟨?_, by omega, by omega, ha⟩
  have hsz : (s.extract (a + 2).toNat (a + 2 + n).toNat).size = n.toNat := by rw [ByteArray.size_extract]; omega
  unfold layS
  rw [hsz, if_neg (by omega)]
  congr 1
  have : bytesB (beL 2 n.toNat) = s.extract a.toNat (a + 2).toNat := hb.symm
  rw [this]
  apply ext_list
  rw [data_append, data_extract, data_extract, data_extract, List.drop_take, List.drop_take, List.drop_take]
  rw [show (a + 2).toNat - a.toNat = 2 by omega, show (a + 2 + n).toNat - (a + 2).toNat = n.toNat by omega, show (a + 2 + n).toNat - a.toNat = 2 + n.toNat by omega, show (a + 2).toNat = a.toNat + 2 by omega, List.take_add, List.drop_drop]
theorem extract_append {s : ByteArray} {i j k : Nat} (h1 : i ≤ j) (h2 : j ≤ k) : s.extract i j ++ s.extract j k = s.extract i k := by
  apply ext_list
  rw [data_append, data_extract, data_extract, data_extract, List.drop_take, List.drop_take, List.drop_take]
  rw [show k - i = (j - i) + (k - j) by omega, List.take_add, List.drop_drop, show i + (j - i) = j by omega]
theorem extract_self {s : ByteArray} {i : Nat} : s.extract i i = ⟨#[]⟩ := by
  apply ext_list
  rw [data_extract, List.drop_take, Nat.sub_self]; rfl
theorem rowL_mk {w n : Int} {l : List Int} {p q : ByteArray} (h1 : putS n w = (p, 0)) (h2 : rowL w l = (q, 0)) : rowL w (n :: l) = (p ++ q, 0) := by
  simp only [rowL, h1, h2, if_true]
theorem unrowL_cons {s : ByteArray} {w : Int} {n : Nat} {a tt : Int} {l : List Int} (h : unrowL s w (n + 1) a = (l, tt, 0)) : ∃ v t ls, getS s a w = (v, t, 0) ∧ unrowL s w n t = (ls, tt, 0) ∧ l = v :: ls := by
  simp only [unrowL] at h
  by_cases h1 : (getS s a w).2.2 = 0
  · rw [if_pos h1] at h
    by_cases h2 : (unrowL s w n (getS s a w).2.1).2.2 = 0
    · rw [if_pos h2] at h
      obtain ⟨e1, e2⟩ := Prod.mk.inj h
      refine ⟨(getS s a w).1, (getS s a w).2.1, _, by rw [← h1], ?_, e1.symm⟩
      exact Prod.ext rfl e2
    · rw [if_neg h2] at h
      exact absurd (Prod.mk.inj (Prod.mk.inj h).2).2 h2
  · rw [if_neg h1] at h
    exact absurd (Prod.mk.inj (Prod.mk.inj h).2).2 h1
theorem rowL_of_unrowL {s : ByteArray} {w : Int} : ∀ (n : Nat) (a tt : Int) (l : List Int), unrowL s w n a = (l, tt, 0) → 0 ≤ a → a ≤ s.size → rowL w l = (s.extract a.toNat tt.toNat, 0) ∧ a ≤ tt ∧ tt ≤ s.size ∧ l.length = n
  | 0, a, tt, l, h, h0, h1 => by
    simp only [unrowL, Prod.mk.injEq] at h
    obtain ⟨rfl, rfl, _⟩ := h
    exact ⟨by rw [extract_self]; rfl, Int.le_refl _, h1, rfl⟩
  | n + 1, a, tt, l, h, h0, h1 => by
    obtain ⟨v, t, ls, hg, hu, rfl⟩ := unrowL_cons h
    obtain ⟨hw, _, hs, rfl, _⟩ := getS_ok hg
    have hw' := wide_nat hw
    obtain ⟨ih, i1, i2, i3⟩ := rowL_of_unrowL n (a + w) tt ls hu (by omega) (by omega)
    refine ⟨?_, by omega, i2, by simp [i3]⟩
    rw [rowL_mk (put_of_get hg) ih, extract_append (by omega) (by omega)]
theorem unrowS_ok {s : ByteArray} {a w top tt : Int} {l : List Int} (h : unrowS s a w top = (l, tt, 0)) : wide w ∧ 0 ≤ top ∧ ∃ n, getS s a 2 = (n, a + 2, 0) ∧ n ≤ top ∧ n ≤ 1000 ∧ unrowL s w n.toNat (a + 2) = (l, tt, 0) := by
  unfold unrowS at h
  by_cases h1 : ¬ wide w ∨ a < 0 ∨ a > s.size ∨ top < 0
  · rw [if_pos h1] at h; exact absurd (Prod.mk.inj (Prod.mk.inj h).2).2 (by decide)
  · rw [if_neg h1] at h
    by_cases h2 : (getS s a 2).2.2 = 0
    · rw [if_pos h2] at h
      by_cases h3 : (getS s a 2).1 > top ∨ (getS s a 2).1 > 1000
      · rw [if_pos h3] at h; exact absurd (Prod.mk.inj (Prod.mk.inj h).2).2 (by decide)
      · rw [if_neg h3] at h
        have hg : getS s a 2 = ((getS s a 2).1, (getS s a 2).2.1, 0) := by rw [← h2]
        obtain ⟨_, _, _, e, _⟩ := getS_ok hg
        rw [e] at h hg
        exact ⟨Classical.byContradiction fun x => h1 (.inl x), by omega, (getS s a 2).1, hg, by omega, by omega, h⟩
    · rw [if_neg h2] at h; exact absurd (Prod.mk.inj (Prod.mk.inj h).2).2 h2
theorem row_of_unrow {s : ByteArray} {a w top tt : Int} {l : List Int} (h : unrowS s a w top = (l, tt, 0)) : rowS w l = (s.extract a.toNat tt.toNat, 0) ∧ a ≤ tt ∧ tt ≤ s.size ∧ 0 ≤ a := by
  obtain ⟨hw, _, n, hg, _, hn, hu⟩ := unrowS_ok h
  obtain ⟨_, ha, hs, _, _, _, h0⟩ := getS_ok hg
  obtain ⟨hr, h1, h2, hl⟩ := rowL_of_unrowL _ _ _ _ hu (by omega) (by omega)
  have hp := put_of_get hg
  have hb := (putS_ok hp).2.2.2
  refine ⟨?_, by omega, h2, ha⟩
  unfold rowS
  rw [if_pos hw, if_neg (by omega), hr]
  simp only [if_true]
  rw [hl, show bytesB (beL 2 n.toNat) = s.extract a.toNat (a + 2).toNat from hb.symm, extract_append (by omega) (by omega)]
end Go.Proofs.Ytakkhomjpflkbaa.Q
