-- printed by xprint (the session's own program) out of the translation
import Derived.Test.YtabapiofkipkoaaF
import Derived.Test.YtabapiofkipkoaaF18
import Derived.Test.YtabapiofkipkoaaF23
import Derived.Test.YtabapiofkipkoaaF24
import Derived.Test.YtabapiofkipkoaaF25
import Derived.Test.YtabapiofkipkoaaF26
import Derived.Test.YtabapiofkipkoaaF27
import Derived.Test.YtabapiofkipkoaaF28
import Derived.Test.YtabapiofkipkoaaF29
import Derived.Test.YtabapiofkipkoaaF30
import Derived.Test.YtabapiofkipkoaaF31
import Derived.Test.YtabapiofkipkoaaF32
namespace Go.Proofs.Ytabapiofkipkoaa.F
open Go.RowKit Go.Proofs.YtabapiofkipkoaaX Go.Proofs.YtabapiofkipkoaaW.PrintWords Go.Proofs.YtabapiofkipkoaaW.PrintLast Go.Proofs.YtabapiofkipkoaaW.PrintMore
attribute [local go_sem] max2_int min2_int max_two min_two max_three min_three max_four min_four   -- for this text's walks alone
set_option linter.unusedVariables false
set_option linter.unusedSimpArgs false

/-! ### backhaullaw13_RowsLists: function 4 -/
def backhaullaw13_RowsLists.j0 : Nat → List ByteArray → Int → ByteArray → Bool → Option (Bool)
  | 0, _, _, _, _ => none
  | k + 1, x0, x1, x2, x26 => if x26 = true then ((backhaullaw13_awake.f).bind fun t230 => (if t230 = true then (some true) else (some false))) else ((rows_With_string.f x0 x1 x2).bind fun bt231 => ((backhaulref13_With.f k x0 x1 x2).bind fun bt235 => ((rows_Set_string.f x0 x1 x2).bind fun bt239 => ((backhaulref13_Set.f x0 x1 x2).bind fun bt243 => ((rows_Without_string.f x0 x1).bind fun bt247 => ((backhaulref13_Without.f k x0 x1).bind fun bt251 => ((backhaulref01_SameTexts.f k bt231.1 bt235.1).bind fun t255 => (if t255 = true then (if bt231.2 = bt235.2 then ((backhaulref01_SameTexts.f k bt239.1 bt243.1).bind fun t256 => (if t256 = true then (if bt239.2 = bt243.2 then ((backhaulref01_SameTexts.f k bt247.1 bt251.1).bind fun t257 => (if t257 = true then (if bt247.2 = bt251.2 then ((rows_Last_string.f x0 x1).bind fun t258 => ((backhaulref13_Last.f k x0 x1).bind fun t261 => ((backhaulref01_SameTexts.f k t258 t261).bind fun t264 => (if t264 = true then ((backhaullaw13_awake.f).bind fun t265 => (if t265 = true then (some true) else (some false))) else (some false))))) else (some false)) else (some false))) else (some false)) else (some false))) else (some false)) else (some false)))))))))
def backhaullaw13_RowsLists.f (k : Nat) (l0 : List ByteArray) (a1 : Int) (a2 : ByteArray) : Option (Bool) := (backhaullaw13_few.f k l0).bind fun t229 => (if t229 = true then (backhaullaw13_RowsLists.j0 k l0 a1 a2 (decide ((a2.size : Int) > 200))) else (backhaullaw13_RowsLists.j0 k l0 a1 a2 true))
theorem backhaullaw13_RowsLists.mono_l : ∀ k, (∀ y0 y1 y2 y3, LeO (backhaullaw13_RowsLists.j0 k y0 y1 y2 y3) (backhaullaw13_RowsLists.j0 (k + 1) y0 y1 y2 y3))
  | 0 => fun _ _ _ _ r h => by simp [backhaullaw13_RowsLists.j0] at h
  | k + 1 => by
    have ih0 := backhaullaw13_RowsLists.mono_l k
    · intro y0 y1 y2 y3
      unfold backhaullaw13_RowsLists.j0
      repeat' first
      | (with_reducible exact ih0 _ _ _ _)
      | (with_reducible exact backhaullaw13_few.mono _ _)
      | (with_reducible exact backhaulref01_SameTexts.mono _ _ _)
      | (with_reducible exact backhaulref13_Last.mono _ _ _)
      | (with_reducible exact backhaulref13_With.mono _ _ _ _)
      | (with_reducible exact backhaulref13_Without.mono _ _ _)
      | (with_reducible exact LeO.refl _)
      | (with_reducible exact LeO.none _)
      | (with_reducible refine LeO.ite ?_ ?_)
      | (with_reducible refine LeO.bind ?_ (fun _ => ?_))
      | exact ih0 _ _ _ _
      | exact backhaullaw13_few.mono _ _
      | exact backhaulref01_SameTexts.mono _ _ _
      | exact backhaulref13_Last.mono _ _ _
      | exact backhaulref13_With.mono _ _ _ _
      | exact backhaulref13_Without.mono _ _ _
      | exact LeO.none _
      | refine LeO.ite ?_ ?_
      | refine LeO.bind ?_ (fun _ => ?_)
theorem backhaullaw13_RowsLists.mono : ∀ a0 a1 a2 k, LeO (backhaullaw13_RowsLists.f k a0 a1 a2) (backhaullaw13_RowsLists.f (k + 1) a0 a1 a2) := by
  intro a0 a1 a2 k
  have ih0 := backhaullaw13_RowsLists.mono_l k
  unfold backhaullaw13_RowsLists.f
  repeat' first
      | (with_reducible exact ih0 _ _ _ _)
      | (with_reducible exact backhaullaw13_few.mono _ _)
      | (with_reducible exact backhaulref01_SameTexts.mono _ _ _)
      | (with_reducible exact backhaulref13_Last.mono _ _ _)
      | (with_reducible exact backhaulref13_With.mono _ _ _ _)
      | (with_reducible exact backhaulref13_Without.mono _ _ _)
      | (with_reducible exact LeO.refl _)
      | (with_reducible exact LeO.none _)
      | (with_reducible refine LeO.ite ?_ ?_)
      | (with_reducible refine LeO.bind ?_ (fun _ => ?_))
      | exact ih0 _ _ _ _
      | exact backhaullaw13_few.mono _ _
      | exact backhaulref01_SameTexts.mono _ _ _
      | exact backhaulref13_Last.mono _ _ _
      | exact backhaulref13_With.mono _ _ _ _
      | exact backhaulref13_Without.mono _ _ _
      | exact LeO.none _
      | refine LeO.ite ?_ ?_
      | refine LeO.bind ?_ (fun _ => ?_)
set_option maxHeartbeats 8000000 in
set_option maxRecDepth 100000 in
theorem backhaullaw13_RowsLists.calls (k : Nat) (A0 : Option Addr) (c0 : Nat) (l0 : List ByteArray) (a1 : Int) (a2 : ByteArray) (w : World) (hr0 : Kd.C Kd.string w A0 l0.length l0) (hc0 : l0.length ≤ c0) (h : backhaullaw13_RowsLists.f k l0 a1 a2 = some true) :
    Calls Try.prog 4 #[.slice A0 l0.length c0, .int .i64 a1, .string a2] w fun e w' => e = .returned (.bool true) ∧ Below w.heap.size w w' := by
  have HR0 := Aside0.mk hr0
  have HC0 := Aside0.mk hc0
  clear hr0 hc0
  have HB := Aside0.mk (Below.refl w.heap.size w)
  have H : ((backhaullaw13_few.f k l0).bind fun t229 => (if t229 = true then (backhaullaw13_RowsLists.j0 k l0 a1 a2 (decide ((a2.size : Int) > 200))) else (backhaullaw13_RowsLists.j0 k l0 a1 a2 true))) = some true := h
  clear h
  have HC4 := Aside0.mk H
  clear H
  go_enter Try.func4, Try.ntmps4
  go_upto_region 1 with (fail)
  go_cut [26] (fun v26 wc => ∃ (kq : Nat) (x26_3 : Bool), v26 = .bool x26_3 ∧ Aside0 (backhaullaw13_RowsLists.j0 kq l0 a1 a2 x26_3 = some true) ∧ Aside0 (kq ≤ k) ∧ Aside0 (Below w.heap.size w wc))
  case first =>
    have H := HC4.out
    clear HC4
    replace H := Option.bind_eq_some_iff.mp H
    obtain ⟨t229, A50, H⟩ := H
    replace H : (if t229 = true then (backhaullaw13_RowsLists.j0 k l0 a1 a2 (decide ((a2.size : Int) > 200))) else (backhaullaw13_RowsLists.j0 k l0 a1 a2 true)) = some true := H
    have A5 := Aside0.mk A50
    clear A50
    by_cases c6 : t229 = true
    · subst c6
      have H1 : (backhaullaw13_RowsLists.j0 k l0 a1 a2 (decide ((a2.size : Int) > 200))) = some true := by first | (rw [if_pos rfl] at H; exact H) | rfl
      clear H
      have H := H1
      clear H1
      have H' := Aside0.mk H
      clear H
      go_wp2_with (first | ((with_reducible refine gate_callee (f := 23) rfl ?_); refine goesL_ (some 20) rfl rfl Try.func23 (by kernel_rfl) rfl #[.slice A0 l0.length c0] rfl (by (try simp only [List.map_toArray, List.map_cons, List.map_nil]); first | done | rfl | (simp only [List.length_drop, List.length_take]; rfl)) ?_; (with_reducible refine (backhaullaw13_few.calls k _ _ l0 true _ ?side1 ?side2 A5.out).mono ?_); (case side1 => repeat (first | exact (Kd.C_below HR0.out HB.out) | (with_reducible refine Kd.C_alloc ?_ _) | (with_reducible refine Kd.C_drewN ?_ _) | (with_reducible refine Kd.C_drew ?_))); (case side2 => exact HC0.out); rintro e w' ⟨rfl, ⟨nd, rfl⟩⟩; refine ⟨_, rfl, ?_⟩))
      go_meet
      case rel => exact ⟨_, (decide ((a2.size : Int) > 200)), (by first | rfl | (simp; done) | (simp [*]; done)), H', ⟨by first | omega | exact Nat.le_refl _⟩, ⟨by repeat (first | (with_reducible first | exact HB.out | apply below_alloc | apply pw_below_drewN | apply below_drew1) | exact HB.out)⟩⟩
    · replace c6 := Bool.eq_false_iff.mpr c6
      subst c6
      have H1 : (backhaullaw13_RowsLists.j0 k l0 a1 a2 true) = some true := by first | (rw [if_neg (show ¬ (false = true) by decide)] at H; exact H) | rfl
      clear H
      have H := H1
      clear H1
      have H' := Aside0.mk H
      clear H
      go_wp2_with (first | ((with_reducible refine gate_callee (f := 23) rfl ?_); refine goesL_ (some 20) rfl rfl Try.func23 (by kernel_rfl) rfl #[.slice A0 l0.length c0] rfl (by (try simp only [List.map_toArray, List.map_cons, List.map_nil]); first | done | rfl | (simp only [List.length_drop, List.length_take]; rfl)) ?_; (with_reducible refine (backhaullaw13_few.calls k _ _ l0 false _ ?side1 ?side2 A5.out).mono ?_); (case side1 => repeat (first | exact (Kd.C_below HR0.out HB.out) | (with_reducible refine Kd.C_alloc ?_ _) | (with_reducible refine Kd.C_drewN ?_ _) | (with_reducible refine Kd.C_drew ?_))); (case side2 => exact HC0.out); rintro e w' ⟨rfl, ⟨nd, rfl⟩⟩; refine ⟨_, rfl, ?_⟩))
      go_meet
      case rel => exact ⟨_, (true), (by first | rfl | (simp; done) | (simp [*]; done)), H', ⟨by first | omega | exact Nat.le_refl _⟩, ⟨by repeat (first | (with_reducible first | exact HB.out | apply below_alloc | apply pw_below_drewN | apply below_drew1) | exact HB.out)⟩⟩
  case rest =>
    clear HC4
    try clear c2
    try clear p2
    try clear c4
    try clear c6
    obtain ⟨kq, x26_3, rfl, HA, HJ3, HB⟩ := hcut
    cases kq with
    | zero => exact absurd HA.out (by simp [backhaullaw13_RowsLists.j0])
    | succ kj3 =>
      have H := HA.out
      clear HA
      simp only [backhaullaw13_RowsLists.j0] at H
      by_cases c7 : x26_3 = true
      · subst c7
        have H1 : ((backhaullaw13_awake.f).bind fun t230 => (if t230 = true then (some true) else (some false))) = some true := by first | (rw [if_pos rfl] at H; exact H) | rfl
        clear H
        have H := H1
        clear H1
        replace H := Option.bind_eq_some_iff.mp H
        obtain ⟨t230, A80, H⟩ := H
        replace H : (if t230 = true then (some true) else (some false)) = some true := H
        have A8 := Aside0.mk A80
        clear A80
        by_cases c9 : t230 = true
        · subst c9
          have H1 : (some true) = some true := by first | (rw [if_pos rfl] at H; exact H) | rfl
          clear H
          have H := H1
          clear H1
          clear H
          go_wp2_with (first | ((with_reducible refine gate_callee (f := 18) rfl ?_); refine goesL_ (some 27) rfl rfl Try.func18 (by kernel_rfl) rfl #[] rfl (by (try simp only [List.map_toArray, List.map_cons, List.map_nil]); first | done | rfl | (simp only [List.length_drop, List.length_take]; rfl)) ?_; (with_reducible refine (backhaullaw13_awake.calls  true _ A8.out).mono ?_); rintro e w10 ⟨rfl, hb⟩; refine ⟨_, rfl, ?_⟩; have n0_ := Aside0.mk (below_step (by repeat (first | (with_reducible first | exact HB.out | apply below_alloc | apply pw_below_drewN | apply below_drew1) | exact HB.out)) hb); clear HB; have HB := n0_; clear n0_; (try clear hb); (try clear hb2); (try clear hk); (try clear hi)))
          go_ret
          exact ⟨by first | rfl | (simp [errW_none, errW_some] <;> rfl) | (simp [*, errW_none, errW_some] <;> rfl), by repeat (first | (with_reducible first | exact HB.out | apply below_alloc | apply pw_below_drewN | apply below_drew1) | exact HB.out)⟩
        · replace c9 := Bool.eq_false_iff.mpr c9
          subst c9
          have H1 : (some false) = some true := by first | (rw [if_neg (show ¬ (false = true) by decide)] at H; exact H) | rfl
          clear H
          have H := H1
          clear H1
          exact absurd H (by simp)
      · replace c7 := Bool.eq_false_iff.mpr c7
        subst c7
        have H1 : ((rows_With_string.f l0 a1 a2).bind fun bt231 => ((backhaulref13_With.f kj3 l0 a1 a2).bind fun bt235 => ((rows_Set_string.f l0 a1 a2).bind fun bt239 => ((backhaulref13_Set.f l0 a1 a2).bind fun bt243 => ((rows_Without_string.f l0 a1).bind fun bt247 => ((backhaulref13_Without.f kj3 l0 a1).bind fun bt251 => ((backhaulref01_SameTexts.f kj3 bt231.1 bt235.1).bind fun t255 => (if t255 = true then (if bt231.2 = bt235.2 then ((backhaulref01_SameTexts.f kj3 bt239.1 bt243.1).bind fun t256 => (if t256 = true then (if bt239.2 = bt243.2 then ((backhaulref01_SameTexts.f kj3 bt247.1 bt251.1).bind fun t257 => (if t257 = true then (if bt247.2 = bt251.2 then ((rows_Last_string.f l0 a1).bind fun t258 => ((backhaulref13_Last.f kj3 l0 a1).bind fun t261 => ((backhaulref01_SameTexts.f kj3 t258 t261).bind fun t264 => (if t264 = true then ((backhaullaw13_awake.f).bind fun t265 => (if t265 = true then (some true) else (some false))) else (some false))))) else (some false)) else (some false))) else (some false)) else (some false))) else (some false)) else (some false))))))))) = some true := by first | (rw [if_neg (show ¬ (false = true) by decide)] at H; exact H) | rfl
        clear H
        have H := H1
        clear H1
        replace H := Option.bind_eq_some_iff.mp H
        obtain ⟨⟨t231, t232⟩, A110, H⟩ := H
        replace H : ((backhaulref13_With.f kj3 l0 a1 a2).bind fun bt235 => ((rows_Set_string.f l0 a1 a2).bind fun bt239 => ((backhaulref13_Set.f l0 a1 a2).bind fun bt243 => ((rows_Without_string.f l0 a1).bind fun bt247 => ((backhaulref13_Without.f kj3 l0 a1).bind fun bt251 => ((backhaulref01_SameTexts.f kj3 t231 bt235.1).bind fun t255 => (if t255 = true then (if t232 = bt235.2 then ((backhaulref01_SameTexts.f kj3 bt239.1 bt243.1).bind fun t256 => (if t256 = true then (if bt239.2 = bt243.2 then ((backhaulref01_SameTexts.f kj3 bt247.1 bt251.1).bind fun t257 => (if t257 = true then (if bt247.2 = bt251.2 then ((rows_Last_string.f l0 a1).bind fun t258 => ((backhaulref13_Last.f kj3 l0 a1).bind fun t261 => ((backhaulref01_SameTexts.f kj3 t258 t261).bind fun t264 => (if t264 = true then ((backhaullaw13_awake.f).bind fun t265 => (if t265 = true then (some true) else (some false))) else (some false))))) else (some false)) else (some false))) else (some false)) else (some false))) else (some false)) else (some false)))))))) = some true := H
        have A11 := Aside0.mk A110
        clear A110
        replace H := Option.bind_eq_some_iff.mp H
        obtain ⟨⟨t235, t236⟩, A120, H⟩ := H
        replace H : ((rows_Set_string.f l0 a1 a2).bind fun bt239 => ((backhaulref13_Set.f l0 a1 a2).bind fun bt243 => ((rows_Without_string.f l0 a1).bind fun bt247 => ((backhaulref13_Without.f kj3 l0 a1).bind fun bt251 => ((backhaulref01_SameTexts.f kj3 t231 t235).bind fun t255 => (if t255 = true then (if t232 = t236 then ((backhaulref01_SameTexts.f kj3 bt239.1 bt243.1).bind fun t256 => (if t256 = true then (if bt239.2 = bt243.2 then ((backhaulref01_SameTexts.f kj3 bt247.1 bt251.1).bind fun t257 => (if t257 = true then (if bt247.2 = bt251.2 then ((rows_Last_string.f l0 a1).bind fun t258 => ((backhaulref13_Last.f kj3 l0 a1).bind fun t261 => ((backhaulref01_SameTexts.f kj3 t258 t261).bind fun t264 => (if t264 = true then ((backhaullaw13_awake.f).bind fun t265 => (if t265 = true then (some true) else (some false))) else (some false))))) else (some false)) else (some false))) else (some false)) else (some false))) else (some false)) else (some false))))))) = some true := H
        have A12 := Aside0.mk A120
        clear A120
        replace H := Option.bind_eq_some_iff.mp H
        obtain ⟨⟨t239, t240⟩, A130, H⟩ := H
        replace H : ((backhaulref13_Set.f l0 a1 a2).bind fun bt243 => ((rows_Without_string.f l0 a1).bind fun bt247 => ((backhaulref13_Without.f kj3 l0 a1).bind fun bt251 => ((backhaulref01_SameTexts.f kj3 t231 t235).bind fun t255 => (if t255 = true then (if t232 = t236 then ((backhaulref01_SameTexts.f kj3 t239 bt243.1).bind fun t256 => (if t256 = true then (if t240 = bt243.2 then ((backhaulref01_SameTexts.f kj3 bt247.1 bt251.1).bind fun t257 => (if t257 = true then (if bt247.2 = bt251.2 then ((rows_Last_string.f l0 a1).bind fun t258 => ((backhaulref13_Last.f kj3 l0 a1).bind fun t261 => ((backhaulref01_SameTexts.f kj3 t258 t261).bind fun t264 => (if t264 = true then ((backhaullaw13_awake.f).bind fun t265 => (if t265 = true then (some true) else (some false))) else (some false))))) else (some false)) else (some false))) else (some false)) else (some false))) else (some false)) else (some false)))))) = some true := H
        have A13 := Aside0.mk A130
        clear A130
        replace H := Option.bind_eq_some_iff.mp H
        obtain ⟨⟨t243, t244⟩, A140, H⟩ := H
        replace H : ((rows_Without_string.f l0 a1).bind fun bt247 => ((backhaulref13_Without.f kj3 l0 a1).bind fun bt251 => ((backhaulref01_SameTexts.f kj3 t231 t235).bind fun t255 => (if t255 = true then (if t232 = t236 then ((backhaulref01_SameTexts.f kj3 t239 t243).bind fun t256 => (if t256 = true then (if t240 = t244 then ((backhaulref01_SameTexts.f kj3 bt247.1 bt251.1).bind fun t257 => (if t257 = true then (if bt247.2 = bt251.2 then ((rows_Last_string.f l0 a1).bind fun t258 => ((backhaulref13_Last.f kj3 l0 a1).bind fun t261 => ((backhaulref01_SameTexts.f kj3 t258 t261).bind fun t264 => (if t264 = true then ((backhaullaw13_awake.f).bind fun t265 => (if t265 = true then (some true) else (some false))) else (some false))))) else (some false)) else (some false))) else (some false)) else (some false))) else (some false)) else (some false))))) = some true := H
        have A14 := Aside0.mk A140
        clear A140
        replace H := Option.bind_eq_some_iff.mp H
        obtain ⟨⟨t247, t248⟩, A150, H⟩ := H
        replace H : ((backhaulref13_Without.f kj3 l0 a1).bind fun bt251 => ((backhaulref01_SameTexts.f kj3 t231 t235).bind fun t255 => (if t255 = true then (if t232 = t236 then ((backhaulref01_SameTexts.f kj3 t239 t243).bind fun t256 => (if t256 = true then (if t240 = t244 then ((backhaulref01_SameTexts.f kj3 t247 bt251.1).bind fun t257 => (if t257 = true then (if t248 = bt251.2 then ((rows_Last_string.f l0 a1).bind fun t258 => ((backhaulref13_Last.f kj3 l0 a1).bind fun t261 => ((backhaulref01_SameTexts.f kj3 t258 t261).bind fun t264 => (if t264 = true then ((backhaullaw13_awake.f).bind fun t265 => (if t265 = true then (some true) else (some false))) else (some false))))) else (some false)) else (some false))) else (some false)) else (some false))) else (some false)) else (some false)))) = some true := H
        have A15 := Aside0.mk A150
        clear A150
        replace H := Option.bind_eq_some_iff.mp H
        obtain ⟨⟨t251, t252⟩, A160, H⟩ := H
        replace H : ((backhaulref01_SameTexts.f kj3 t231 t235).bind fun t255 => (if t255 = true then (if t232 = t236 then ((backhaulref01_SameTexts.f kj3 t239 t243).bind fun t256 => (if t256 = true then (if t240 = t244 then ((backhaulref01_SameTexts.f kj3 t247 t251).bind fun t257 => (if t257 = true then (if t248 = t252 then ((rows_Last_string.f l0 a1).bind fun t258 => ((backhaulref13_Last.f kj3 l0 a1).bind fun t261 => ((backhaulref01_SameTexts.f kj3 t258 t261).bind fun t264 => (if t264 = true then ((backhaullaw13_awake.f).bind fun t265 => (if t265 = true then (some true) else (some false))) else (some false))))) else (some false)) else (some false))) else (some false)) else (some false))) else (some false)) else (some false))) = some true := H
        have A16 := Aside0.mk A160
        clear A160
        replace H := Option.bind_eq_some_iff.mp H
        obtain ⟨t255, A170, H⟩ := H
        replace H : (if t255 = true then (if t232 = t236 then ((backhaulref01_SameTexts.f kj3 t239 t243).bind fun t256 => (if t256 = true then (if t240 = t244 then ((backhaulref01_SameTexts.f kj3 t247 t251).bind fun t257 => (if t257 = true then (if t248 = t252 then ((rows_Last_string.f l0 a1).bind fun t258 => ((backhaulref13_Last.f kj3 l0 a1).bind fun t261 => ((backhaulref01_SameTexts.f kj3 t258 t261).bind fun t264 => (if t264 = true then ((backhaullaw13_awake.f).bind fun t265 => (if t265 = true then (some true) else (some false))) else (some false))))) else (some false)) else (some false))) else (some false)) else (some false))) else (some false)) else (some false)) = some true := H
        have A17 := Aside0.mk A170
        clear A170
        by_cases c18 : t255 = true
        · subst c18
          have H1 : (if t232 = t236 then ((backhaulref01_SameTexts.f kj3 t239 t243).bind fun t256 => (if t256 = true then (if t240 = t244 then ((backhaulref01_SameTexts.f kj3 t247 t251).bind fun t257 => (if t257 = true then (if t248 = t252 then ((rows_Last_string.f l0 a1).bind fun t258 => ((backhaulref13_Last.f kj3 l0 a1).bind fun t261 => ((backhaulref01_SameTexts.f kj3 t258 t261).bind fun t264 => (if t264 = true then ((backhaullaw13_awake.f).bind fun t265 => (if t265 = true then (some true) else (some false))) else (some false))))) else (some false)) else (some false))) else (some false)) else (some false))) else (some false)) = some true := by first | (rw [if_pos rfl] at H; exact H) | rfl
          clear H
          have H := H1
          clear H1
          by_cases c19 : t232 = t236
          · rw [if_pos c19] at H
            have c19b0 : (t232 == t236) = true := beq_iff_eq.mpr c19
            have c19b1 : (t232 != t236) = false := bne_eq_false_iff_eq.mpr c19
            clear c19
            replace H := Option.bind_eq_some_iff.mp H
            obtain ⟨t256, A200, H⟩ := H
            replace H : (if t256 = true then (if t240 = t244 then ((backhaulref01_SameTexts.f kj3 t247 t251).bind fun t257 => (if t257 = true then (if t248 = t252 then ((rows_Last_string.f l0 a1).bind fun t258 => ((backhaulref13_Last.f kj3 l0 a1).bind fun t261 => ((backhaulref01_SameTexts.f kj3 t258 t261).bind fun t264 => (if t264 = true then ((backhaullaw13_awake.f).bind fun t265 => (if t265 = true then (some true) else (some false))) else (some false))))) else (some false)) else (some false))) else (some false)) else (some false)) = some true := H
            have A20 := Aside0.mk A200
            clear A200
            by_cases c21 : t256 = true
            · subst c21
              have H1 : (if t240 = t244 then ((backhaulref01_SameTexts.f kj3 t247 t251).bind fun t257 => (if t257 = true then (if t248 = t252 then ((rows_Last_string.f l0 a1).bind fun t258 => ((backhaulref13_Last.f kj3 l0 a1).bind fun t261 => ((backhaulref01_SameTexts.f kj3 t258 t261).bind fun t264 => (if t264 = true then ((backhaullaw13_awake.f).bind fun t265 => (if t265 = true then (some true) else (some false))) else (some false))))) else (some false)) else (some false))) else (some false)) = some true := by first | (rw [if_pos rfl] at H; exact H) | rfl
              clear H
              have H := H1
              clear H1
              by_cases c22 : t240 = t244
              · rw [if_pos c22] at H
                have c22b0 : (t240 == t244) = true := beq_iff_eq.mpr c22
                have c22b1 : (t240 != t244) = false := bne_eq_false_iff_eq.mpr c22
                clear c22
                replace H := Option.bind_eq_some_iff.mp H
                obtain ⟨t257, A230, H⟩ := H
                replace H : (if t257 = true then (if t248 = t252 then ((rows_Last_string.f l0 a1).bind fun t258 => ((backhaulref13_Last.f kj3 l0 a1).bind fun t261 => ((backhaulref01_SameTexts.f kj3 t258 t261).bind fun t264 => (if t264 = true then ((backhaullaw13_awake.f).bind fun t265 => (if t265 = true then (some true) else (some false))) else (some false))))) else (some false)) else (some false)) = some true := H
                have A23 := Aside0.mk A230
                clear A230
                by_cases c24 : t257 = true
                · subst c24
                  have H1 : (if t248 = t252 then ((rows_Last_string.f l0 a1).bind fun t258 => ((backhaulref13_Last.f kj3 l0 a1).bind fun t261 => ((backhaulref01_SameTexts.f kj3 t258 t261).bind fun t264 => (if t264 = true then ((backhaullaw13_awake.f).bind fun t265 => (if t265 = true then (some true) else (some false))) else (some false))))) else (some false)) = some true := by first | (rw [if_pos rfl] at H; exact H) | rfl
                  clear H
                  have H := H1
                  clear H1
                  by_cases c25 : t248 = t252
                  · rw [if_pos c25] at H
                    have c25b0 : (t248 == t252) = true := beq_iff_eq.mpr c25
                    have c25b1 : (t248 != t252) = false := bne_eq_false_iff_eq.mpr c25
                    clear c25
                    replace H := Option.bind_eq_some_iff.mp H
                    obtain ⟨t258, A260, H⟩ := H
                    replace H : ((backhaulref13_Last.f kj3 l0 a1).bind fun t261 => ((backhaulref01_SameTexts.f kj3 t258 t261).bind fun t264 => (if t264 = true then ((backhaullaw13_awake.f).bind fun t265 => (if t265 = true then (some true) else (some false))) else (some false)))) = some true := H
                    have A26 := Aside0.mk A260
                    clear A260
                    replace H := Option.bind_eq_some_iff.mp H
                    obtain ⟨t261, A270, H⟩ := H
                    replace H : ((backhaulref01_SameTexts.f kj3 t258 t261).bind fun t264 => (if t264 = true then ((backhaullaw13_awake.f).bind fun t265 => (if t265 = true then (some true) else (some false))) else (some false))) = some true := H
                    have A27 := Aside0.mk A270
                    clear A270
                    replace H := Option.bind_eq_some_iff.mp H
                    obtain ⟨t264, A280, H⟩ := H
                    replace H : (if t264 = true then ((backhaullaw13_awake.f).bind fun t265 => (if t265 = true then (some true) else (some false))) else (some false)) = some true := H
                    have A28 := Aside0.mk A280
                    clear A280
                    by_cases c29 : t264 = true
                    · subst c29
                      have H1 : ((backhaullaw13_awake.f).bind fun t265 => (if t265 = true then (some true) else (some false))) = some true := by first | (rw [if_pos rfl] at H; exact H) | rfl
                      clear H
                      have H := H1
                      clear H1
                      replace H := Option.bind_eq_some_iff.mp H
                      obtain ⟨t265, A300, H⟩ := H
                      replace H : (if t265 = true then (some true) else (some false)) = some true := H
                      have A30 := Aside0.mk A300
                      clear A300
                      by_cases c31 : t265 = true
                      · subst c31
                        have H1 : (some true) = some true := by first | (rw [if_pos rfl] at H; exact H) | rfl
                        clear H
                        have H := H1
                        clear H1
                        clear H
                        go_wp2_with (first | ((with_reducible refine gate_callee (f := 24) rfl ?_); refine goesL_ (some 32) rfl rfl Try.func24 (by kernel_rfl) rfl #[.slice A0 l0.length c0, .int .i64 a1, .string a2] rfl (by (try simp only [List.map_toArray, List.map_cons, List.map_nil]); first | done | rfl | (simp only [List.length_drop, List.length_take]; rfl)) ?_; (with_reducible refine (rows_With_string.calls _ _ l0 a1 a2 t231 t232 _ ?side1 ?side2 A11.out).mono ?_); (case side1 => repeat (first | exact (Kd.C_below HR0.out HB.out) | (with_reducible refine Kd.C_alloc ?_ _) | (with_reducible refine Kd.C_drewN ?_ _) | (with_reducible refine Kd.C_drew ?_))); (case side2 => exact HC0.out); rintro e w32 ⟨v233, rfl, ho0, hb⟩; refine ⟨_, rfl, ?_⟩; have n0_ := Aside0.mk (Kd.R_lower ho0 (below_size (by repeat (first | (with_reducible first | exact HB.out | apply below_alloc | apply pw_below_drewN | apply below_drew1) | exact HB.out)))); have n1_ := Aside0.mk (below_step (by repeat (first | (with_reducible first | exact HB.out | apply below_alloc | apply pw_below_drewN | apply below_drew1) | exact HB.out)) hb); clear HB; have HO234 := n0_; have HB := n1_; clear n0_ n1_; (try clear hb); (try clear hb2); (try clear hk); (try clear hi); (try clear ho0)) | ((with_reducible refine gate_callee (f := 25) rfl ?_); refine goesL_ (some 39) rfl rfl Try.func25 (by kernel_rfl) rfl #[.slice A0 l0.length c0, .int .i64 a1, .string a2] rfl (by (try simp only [List.map_toArray, List.map_cons, List.map_nil]); first | done | rfl | (simp only [List.length_drop, List.length_take]; rfl)) ?_; (with_reducible refine (backhaulref13_With.calls kj3 _ _ l0 a1 a2 t235 t236 _ ?side1 ?side2 A12.out).mono ?_); (case side1 => repeat (first | exact (Kd.C_below HR0.out HB.out) | (with_reducible refine Kd.C_alloc ?_ _) | (with_reducible refine Kd.C_drewN ?_ _) | (with_reducible refine Kd.C_drew ?_))); (case side2 => exact HC0.out); rintro e w33 ⟨v237, rfl, ho0, hb⟩; refine ⟨_, rfl, ?_⟩; have n0_ := Aside0.mk (Kd.R_elder' (by (with_reducible repeat (first | apply Kd.R_alloc | apply Kd.R_drewN | apply Kd.R_drew)); exact HO234.out) (Kd.R_base ho0) hb); have n1_ := Aside0.mk (Kd.R_lower (Kd.R_new' ho0 (Kd.R_lt (by (with_reducible repeat (first | apply Kd.R_alloc | apply Kd.R_drewN | apply Kd.R_drew)); exact HO234.out))) (below_size (by repeat (first | (with_reducible first | exact HB.out | apply below_alloc | apply pw_below_drewN | apply below_drew1) | exact HB.out)))); have n2_ := Aside0.mk (below_step (by repeat (first | (with_reducible first | exact HB.out | apply below_alloc | apply pw_below_drewN | apply below_drew1) | exact HB.out)) hb); clear HO234; clear HB; have HO234 := n0_; have HO238 := n1_; have HB := n2_; clear n0_ n1_ n2_; (try clear hb); (try clear hb2); (try clear hk); (try clear hi); (try clear ho0)) | ((with_reducible refine gate_callee (f := 26) rfl ?_); refine goesL_ (some 46) rfl rfl Try.func26 (by kernel_rfl) rfl #[.slice A0 l0.length c0, .int .i64 a1, .string a2] rfl (by (try simp only [List.map_toArray, List.map_cons, List.map_nil]); first | done | rfl | (simp only [List.length_drop, List.length_take]; rfl)) ?_; (with_reducible refine (rows_Set_string.calls _ _ l0 a1 a2 t239 t240 _ ?side1 ?side2 A13.out).mono ?_); (case side1 => repeat (first | exact (Kd.C_below HR0.out HB.out) | (with_reducible refine Kd.C_alloc ?_ _) | (with_reducible refine Kd.C_drewN ?_ _) | (with_reducible refine Kd.C_drew ?_))); (case side2 => exact HC0.out); rintro e w34 ⟨v241, rfl, ho0, hb⟩; refine ⟨_, rfl, ?_⟩; have n0_ := Aside0.mk (Kd.R_elder' (by (with_reducible repeat (first | apply Kd.R_alloc | apply Kd.R_drewN | apply Kd.R_drew)); exact HO234.out) (Kd.R_base ho0) hb); have n1_ := Aside0.mk (Kd.R_elder' (by (with_reducible repeat (first | apply Kd.R_alloc | apply Kd.R_drewN | apply Kd.R_drew)); exact HO238.out) (Kd.R_base ho0) hb); have n2_ := Aside0.mk (Kd.R_lower (Kd.R_new' (Kd.R_new' ho0 (Kd.R_lt (by (with_reducible repeat (first | apply Kd.R_alloc | apply Kd.R_drewN | apply Kd.R_drew)); exact HO234.out))) (Kd.R_lt (by (with_reducible repeat (first | apply Kd.R_alloc | apply Kd.R_drewN | apply Kd.R_drew)); exact HO238.out))) (below_size (by repeat (first | (with_reducible first | exact HB.out | apply below_alloc | apply pw_below_drewN | apply below_drew1) | exact HB.out)))); have n3_ := Aside0.mk (below_step (by repeat (first | (with_reducible first | exact HB.out | apply below_alloc | apply pw_below_drewN | apply below_drew1) | exact HB.out)) hb); clear HO234; clear HO238; clear HB; have HO234 := n0_; have HO238 := n1_; have HO242 := n2_; have HB := n3_; clear n0_ n1_ n2_ n3_; (try clear hb); (try clear hb2); (try clear hk); (try clear hi); (try clear ho0)) | ((with_reducible refine gate_callee (f := 27) rfl ?_); refine goesL_ (some 53) rfl rfl Try.func27 (by kernel_rfl) rfl #[.slice A0 l0.length c0, .int .i64 a1, .string a2] rfl (by (try simp only [List.map_toArray, List.map_cons, List.map_nil]); first | done | rfl | (simp only [List.length_drop, List.length_take]; rfl)) ?_; (with_reducible refine (backhaulref13_Set.calls _ _ l0 a1 a2 t243 t244 _ ?side1 ?side2 A14.out).mono ?_); (case side1 => repeat (first | exact (Kd.C_below HR0.out HB.out) | (with_reducible refine Kd.C_alloc ?_ _) | (with_reducible refine Kd.C_drewN ?_ _) | (with_reducible refine Kd.C_drew ?_))); (case side2 => exact HC0.out); rintro e w35 ⟨v245, rfl, ho0, hb⟩; refine ⟨_, rfl, ?_⟩; have n0_ := Aside0.mk (Kd.R_elder' (by (with_reducible repeat (first | apply Kd.R_alloc | apply Kd.R_drewN | apply Kd.R_drew)); exact HO234.out) (Kd.R_base ho0) hb); have n1_ := Aside0.mk (Kd.R_elder' (by (with_reducible repeat (first | apply Kd.R_alloc | apply Kd.R_drewN | apply Kd.R_drew)); exact HO238.out) (Kd.R_base ho0) hb); have n2_ := Aside0.mk (Kd.R_elder' (by (with_reducible repeat (first | apply Kd.R_alloc | apply Kd.R_drewN | apply Kd.R_drew)); exact HO242.out) (Kd.R_base ho0) hb); have n3_ := Aside0.mk (Kd.R_lower (Kd.R_new' (Kd.R_new' (Kd.R_new' ho0 (Kd.R_lt (by (with_reducible repeat (first | apply Kd.R_alloc | apply Kd.R_drewN | apply Kd.R_drew)); exact HO234.out))) (Kd.R_lt (by (with_reducible repeat (first | apply Kd.R_alloc | apply Kd.R_drewN | apply Kd.R_drew)); exact HO238.out))) (Kd.R_lt (by (with_reducible repeat (first | apply Kd.R_alloc | apply Kd.R_drewN | apply Kd.R_drew)); exact HO242.out))) (below_size (by repeat (first | (with_reducible first | exact HB.out | apply below_alloc | apply pw_below_drewN | apply below_drew1) | exact HB.out)))); have n4_ := Aside0.mk (below_step (by repeat (first | (with_reducible first | exact HB.out | apply below_alloc | apply pw_below_drewN | apply below_drew1) | exact HB.out)) hb); clear HO234; clear HO238; clear HO242; clear HB; have HO234 := n0_; have HO238 := n1_; have HO242 := n2_; have HO246 := n3_; have HB := n4_; clear n0_ n1_ n2_ n3_ n4_; (try clear hb); (try clear hb2); (try clear hk); (try clear hi); (try clear ho0)) | ((with_reducible refine gate_callee (f := 28) rfl ?_); refine goesL_ (some 59) rfl rfl Try.func28 (by kernel_rfl) rfl #[.slice A0 l0.length c0, .int .i64 a1] rfl (by (try simp only [List.map_toArray, List.map_cons, List.map_nil]); first | done | rfl | (simp only [List.length_drop, List.length_take]; rfl)) ?_; (with_reducible refine (rows_Without_string.calls _ _ l0 a1 t247 t248 _ ?side1 ?side2 A15.out).mono ?_); (case side1 => repeat (first | exact (Kd.C_below HR0.out HB.out) | (with_reducible refine Kd.C_alloc ?_ _) | (with_reducible refine Kd.C_drewN ?_ _) | (with_reducible refine Kd.C_drew ?_))); (case side2 => exact HC0.out); rintro e w36 ⟨v249, rfl, ho0, hb⟩; refine ⟨_, rfl, ?_⟩; have n0_ := Aside0.mk (Kd.R_elder' (by (with_reducible repeat (first | apply Kd.R_alloc | apply Kd.R_drewN | apply Kd.R_drew)); exact HO234.out) (Kd.R_base ho0) hb); have n1_ := Aside0.mk (Kd.R_elder' (by (with_reducible repeat (first | apply Kd.R_alloc | apply Kd.R_drewN | apply Kd.R_drew)); exact HO238.out) (Kd.R_base ho0) hb); have n2_ := Aside0.mk (Kd.R_elder' (by (with_reducible repeat (first | apply Kd.R_alloc | apply Kd.R_drewN | apply Kd.R_drew)); exact HO242.out) (Kd.R_base ho0) hb); have n3_ := Aside0.mk (Kd.R_elder' (by (with_reducible repeat (first | apply Kd.R_alloc | apply Kd.R_drewN | apply Kd.R_drew)); exact HO246.out) (Kd.R_base ho0) hb); have n4_ := Aside0.mk (Kd.R_lower (Kd.R_new' (Kd.R_new' (Kd.R_new' (Kd.R_new' ho0 (Kd.R_lt (by (with_reducible repeat (first | apply Kd.R_alloc | apply Kd.R_drewN | apply Kd.R_drew)); exact HO234.out))) (Kd.R_lt (by (with_reducible repeat (first | apply Kd.R_alloc | apply Kd.R_drewN | apply Kd.R_drew)); exact HO238.out))) (Kd.R_lt (by (with_reducible repeat (first | apply Kd.R_alloc | apply Kd.R_drewN | apply Kd.R_drew)); exact HO242.out))) (Kd.R_lt (by (with_reducible repeat (first | apply Kd.R_alloc | apply Kd.R_drewN | apply Kd.R_drew)); exact HO246.out))) (below_size (by repeat (first | (with_reducible first | exact HB.out | apply below_alloc | apply pw_below_drewN | apply below_drew1) | exact HB.out)))); have n5_ := Aside0.mk (below_step (by repeat (first | (with_reducible first | exact HB.out | apply below_alloc | apply pw_below_drewN | apply below_drew1) | exact HB.out)) hb); clear HO234; clear HO238; clear HO242; clear HO246; clear HB; have HO234 := n0_; have HO238 := n1_; have HO242 := n2_; have HO246 := n3_; have HO250 := n4_; have HB := n5_; clear n0_ n1_ n2_ n3_ n4_ n5_; (try clear hb); (try clear hb2); (try clear hk); (try clear hi); (try clear ho0)) | ((with_reducible refine gate_callee (f := 29) rfl ?_); refine goesL_ (some 65) rfl rfl Try.func29 (by kernel_rfl) rfl #[.slice A0 l0.length c0, .int .i64 a1] rfl (by (try simp only [List.map_toArray, List.map_cons, List.map_nil]); first | done | rfl | (simp only [List.length_drop, List.length_take]; rfl)) ?_; (with_reducible refine (backhaulref13_Without.calls kj3 _ _ l0 a1 t251 t252 _ ?side1 ?side2 A16.out).mono ?_); (case side1 => repeat (first | exact (Kd.C_below HR0.out HB.out) | (with_reducible refine Kd.C_alloc ?_ _) | (with_reducible refine Kd.C_drewN ?_ _) | (with_reducible refine Kd.C_drew ?_))); (case side2 => exact HC0.out); rintro e w37 ⟨v253, rfl, ho0, hb⟩; refine ⟨_, rfl, ?_⟩; have n0_ := Aside0.mk (Kd.R_elder' (by (with_reducible repeat (first | apply Kd.R_alloc | apply Kd.R_drewN | apply Kd.R_drew)); exact HO234.out) (Kd.R_base ho0) hb); have n1_ := Aside0.mk (Kd.R_elder' (by (with_reducible repeat (first | apply Kd.R_alloc | apply Kd.R_drewN | apply Kd.R_drew)); exact HO238.out) (Kd.R_base ho0) hb); have n2_ := Aside0.mk (Kd.R_elder' (by (with_reducible repeat (first | apply Kd.R_alloc | apply Kd.R_drewN | apply Kd.R_drew)); exact HO242.out) (Kd.R_base ho0) hb); have n3_ := Aside0.mk (Kd.R_elder' (by (with_reducible repeat (first | apply Kd.R_alloc | apply Kd.R_drewN | apply Kd.R_drew)); exact HO246.out) (Kd.R_base ho0) hb); have n4_ := Aside0.mk (Kd.R_elder' (by (with_reducible repeat (first | apply Kd.R_alloc | apply Kd.R_drewN | apply Kd.R_drew)); exact HO250.out) (Kd.R_base ho0) hb); have n5_ := Aside0.mk (Kd.R_lower (Kd.R_new' (Kd.R_new' (Kd.R_new' (Kd.R_new' (Kd.R_new' ho0 (Kd.R_lt (by (with_reducible repeat (first | apply Kd.R_alloc | apply Kd.R_drewN | apply Kd.R_drew)); exact HO234.out))) (Kd.R_lt (by (with_reducible repeat (first | apply Kd.R_alloc | apply Kd.R_drewN | apply Kd.R_drew)); exact HO238.out))) (Kd.R_lt (by (with_reducible repeat (first | apply Kd.R_alloc | apply Kd.R_drewN | apply Kd.R_drew)); exact HO242.out))) (Kd.R_lt (by (with_reducible repeat (first | apply Kd.R_alloc | apply Kd.R_drewN | apply Kd.R_drew)); exact HO246.out))) (Kd.R_lt (by (with_reducible repeat (first | apply Kd.R_alloc | apply Kd.R_drewN | apply Kd.R_drew)); exact HO250.out))) (below_size (by repeat (first | (with_reducible first | exact HB.out | apply below_alloc | apply pw_below_drewN | apply below_drew1) | exact HB.out)))); have n6_ := Aside0.mk (below_step (by repeat (first | (with_reducible first | exact HB.out | apply below_alloc | apply pw_below_drewN | apply below_drew1) | exact HB.out)) hb); clear HO234; clear HO238; clear HO242; clear HO246; clear HO250; clear HB; have HO234 := n0_; have HO238 := n1_; have HO242 := n2_; have HO246 := n3_; have HO250 := n4_; have HO254 := n5_; have HB := n6_; clear n0_ n1_ n2_ n3_ n4_ n5_ n6_; (try clear hb); (try clear hb2); (try clear hk); (try clear hi); (try clear ho0); obtain ⟨Ao38, co38, eo38⟩ := Kd.R_slice HO234.out; subst eo38; obtain ⟨Ao39, co39, eo39⟩ := Kd.R_slice HO238.out; subst eo39) | ((with_reducible refine gate_callee (f := 30) rfl ?_); refine goesL_ (some 70) rfl rfl Try.func30 (by kernel_rfl) rfl #[.slice Ao38 t231.length co38, .slice Ao39 t235.length co39] rfl (by (try simp only [List.map_toArray, List.map_cons, List.map_nil]); first | done | rfl | (simp only [List.length_drop, List.length_take]; rfl)) ?_; (with_reducible refine (backhaulref01_SameTexts.calls kj3 _ _ t231 _ _ t235 true _ ?side1 ?side2 ?side3 ?side4 A17.out).mono ?_); (case side1 => repeat (first | exact (Kd.R_reads' HO234.out).2.2 | (with_reducible refine Kd.C_alloc ?_ _) | (with_reducible refine Kd.C_drewN ?_ _) | (with_reducible refine Kd.C_drew ?_))); (case side2 => exact (Kd.R_reads' HO234.out).2.1); (case side3 => repeat (first | exact (Kd.R_reads' HO238.out).2.2 | (with_reducible refine Kd.C_alloc ?_ _) | (with_reducible refine Kd.C_drewN ?_ _) | (with_reducible refine Kd.C_drew ?_))); (case side4 => exact (Kd.R_reads' HO238.out).2.1); rintro e w' ⟨rfl, ⟨nd, rfl⟩⟩; refine ⟨_, rfl, ?_⟩; obtain ⟨Ao40, co40, eo40⟩ := Kd.R_slice HO242.out; subst eo40; obtain ⟨Ao41, co41, eo41⟩ := Kd.R_slice HO246.out; subst eo41) | (go_at_call 30; (with_reducible refine (backhaulref01_SameTexts.calls kj3 _ _ t239 _ _ t243 true _ ?side1 ?side2 ?side3 ?side4 A20.out).mono ?_); (case side1 => repeat (first | exact (Kd.R_reads' HO242.out).2.2 | (with_reducible refine Kd.C_alloc ?_ _) | (with_reducible refine Kd.C_drewN ?_ _) | (with_reducible refine Kd.C_drew ?_))); (case side2 => exact (Kd.R_reads' HO242.out).2.1); (case side3 => repeat (first | exact (Kd.R_reads' HO246.out).2.2 | (with_reducible refine Kd.C_alloc ?_ _) | (with_reducible refine Kd.C_drewN ?_ _) | (with_reducible refine Kd.C_drew ?_))); (case side4 => exact (Kd.R_reads' HO246.out).2.1); rintro e w' ⟨rfl, ⟨nd, rfl⟩⟩; obtain ⟨Ao42, co42, eo42⟩ := Kd.R_slice HO250.out; subst eo42; obtain ⟨Ao43, co43, eo43⟩ := Kd.R_slice HO254.out; subst eo43) | (go_at_call 30; (with_reducible refine (backhaulref01_SameTexts.calls kj3 _ _ t247 _ _ t251 true _ ?side1 ?side2 ?side3 ?side4 A23.out).mono ?_); (case side1 => repeat (first | exact (Kd.R_reads' HO250.out).2.2 | (with_reducible refine Kd.C_alloc ?_ _) | (with_reducible refine Kd.C_drewN ?_ _) | (with_reducible refine Kd.C_drew ?_))); (case side2 => exact (Kd.R_reads' HO250.out).2.1); (case side3 => repeat (first | exact (Kd.R_reads' HO254.out).2.2 | (with_reducible refine Kd.C_alloc ?_ _) | (with_reducible refine Kd.C_drewN ?_ _) | (with_reducible refine Kd.C_drew ?_))); (case side4 => exact (Kd.R_reads' HO254.out).2.1); rintro e w' ⟨rfl, ⟨nd, rfl⟩⟩) | (go_at_call 31; (with_reducible refine (rows_Last_string.calls _ _ l0 a1 t258 _ ?side1 ?side2 A26.out).mono ?_); (case side1 => repeat (first | exact (Kd.C_below HR0.out (by repeat (first | (with_reducible first | exact HB.out | apply below_alloc | apply pw_below_drewN | apply below_drew1) | exact HB.out))) | (with_reducible refine Kd.C_alloc ?_ _) | (with_reducible refine Kd.C_drewN ?_ _) | (with_reducible refine Kd.C_drew ?_))); (case side2 => exact HC0.out); rintro e w44 ⟨v259, rfl, ho0, hb⟩; have n0_ := Aside0.mk (Kd.R_elder' (by (with_reducible repeat (first | apply Kd.R_alloc | apply Kd.R_drewN | apply Kd.R_drew)); exact HO234.out) (Kd.R_base ho0) hb); have n1_ := Aside0.mk (Kd.R_elder' (by (with_reducible repeat (first | apply Kd.R_alloc | apply Kd.R_drewN | apply Kd.R_drew)); exact HO238.out) (Kd.R_base ho0) hb); have n2_ := Aside0.mk (Kd.R_elder' (by (with_reducible repeat (first | apply Kd.R_alloc | apply Kd.R_drewN | apply Kd.R_drew)); exact HO242.out) (Kd.R_base ho0) hb); have n3_ := Aside0.mk (Kd.R_elder' (by (with_reducible repeat (first | apply Kd.R_alloc | apply Kd.R_drewN | apply Kd.R_drew)); exact HO246.out) (Kd.R_base ho0) hb); have n4_ := Aside0.mk (Kd.R_elder' (by (with_reducible repeat (first | apply Kd.R_alloc | apply Kd.R_drewN | apply Kd.R_drew)); exact HO250.out) (Kd.R_base ho0) hb); have n5_ := Aside0.mk (Kd.R_elder' (by (with_reducible repeat (first | apply Kd.R_alloc | apply Kd.R_drewN | apply Kd.R_drew)); exact HO254.out) (Kd.R_base ho0) hb); have n6_ := Aside0.mk (Kd.R_lower (Kd.R_new' (Kd.R_new' (Kd.R_new' (Kd.R_new' (Kd.R_new' (Kd.R_new' ho0 (Kd.R_lt (by (with_reducible repeat (first | apply Kd.R_alloc | apply Kd.R_drewN | apply Kd.R_drew)); exact HO234.out))) (Kd.R_lt (by (with_reducible repeat (first | apply Kd.R_alloc | apply Kd.R_drewN | apply Kd.R_drew)); exact HO238.out))) (Kd.R_lt (by (with_reducible repeat (first | apply Kd.R_alloc | apply Kd.R_drewN | apply Kd.R_drew)); exact HO242.out))) (Kd.R_lt (by (with_reducible repeat (first | apply Kd.R_alloc | apply Kd.R_drewN | apply Kd.R_drew)); exact HO246.out))) (Kd.R_lt (by (with_reducible repeat (first | apply Kd.R_alloc | apply Kd.R_drewN | apply Kd.R_drew)); exact HO250.out))) (Kd.R_lt (by (with_reducible repeat (first | apply Kd.R_alloc | apply Kd.R_drewN | apply Kd.R_drew)); exact HO254.out))) (below_size (by repeat (first | (with_reducible first | exact HB.out | apply below_alloc | apply pw_below_drewN | apply below_drew1) | exact HB.out)))); have n7_ := Aside0.mk (below_step (by repeat (first | (with_reducible first | exact HB.out | apply below_alloc | apply pw_below_drewN | apply below_drew1) | exact HB.out)) hb); clear HO234; clear HO238; clear HO242; clear HO246; clear HO250; clear HO254; clear HB; have HO234 := n0_; have HO238 := n1_; have HO242 := n2_; have HO246 := n3_; have HO250 := n4_; have HO254 := n5_; have HO260 := n6_; have HB := n7_; clear n0_ n1_ n2_ n3_ n4_ n5_ n6_ n7_; (try clear hb); (try clear hb2); (try clear hk); (try clear hi); (try clear ho0)) | (go_at_call 32; (with_reducible refine (backhaulref13_Last.calls kj3 _ _ l0 a1 t261 _ ?side1 ?side2 A27.out).mono ?_); (case side1 => repeat (first | exact (Kd.C_below HR0.out HB.out) | (with_reducible refine Kd.C_alloc ?_ _) | (with_reducible refine Kd.C_drewN ?_ _) | (with_reducible refine Kd.C_drew ?_))); (case side2 => exact HC0.out); rintro e w45 ⟨v262, rfl, ho0, hb⟩; have n0_ := Aside0.mk (Kd.R_elder' (by (with_reducible repeat (first | apply Kd.R_alloc | apply Kd.R_drewN | apply Kd.R_drew)); exact HO234.out) (Kd.R_base ho0) hb); have n1_ := Aside0.mk (Kd.R_elder' (by (with_reducible repeat (first | apply Kd.R_alloc | apply Kd.R_drewN | apply Kd.R_drew)); exact HO238.out) (Kd.R_base ho0) hb); have n2_ := Aside0.mk (Kd.R_elder' (by (with_reducible repeat (first | apply Kd.R_alloc | apply Kd.R_drewN | apply Kd.R_drew)); exact HO242.out) (Kd.R_base ho0) hb); have n3_ := Aside0.mk (Kd.R_elder' (by (with_reducible repeat (first | apply Kd.R_alloc | apply Kd.R_drewN | apply Kd.R_drew)); exact HO246.out) (Kd.R_base ho0) hb); have n4_ := Aside0.mk (Kd.R_elder' (by (with_reducible repeat (first | apply Kd.R_alloc | apply Kd.R_drewN | apply Kd.R_drew)); exact HO250.out) (Kd.R_base ho0) hb); have n5_ := Aside0.mk (Kd.R_elder' (by (with_reducible repeat (first | apply Kd.R_alloc | apply Kd.R_drewN | apply Kd.R_drew)); exact HO254.out) (Kd.R_base ho0) hb); have n6_ := Aside0.mk (Kd.R_elder' (by (with_reducible repeat (first | apply Kd.R_alloc | apply Kd.R_drewN | apply Kd.R_drew)); exact HO260.out) (Kd.R_base ho0) hb); have n7_ := Aside0.mk (Kd.R_lower (Kd.R_new' (Kd.R_new' (Kd.R_new' (Kd.R_new' (Kd.R_new' (Kd.R_new' (Kd.R_new' ho0 (Kd.R_lt (by (with_reducible repeat (first | apply Kd.R_alloc | apply Kd.R_drewN | apply Kd.R_drew)); exact HO234.out))) (Kd.R_lt (by (with_reducible repeat (first | apply Kd.R_alloc | apply Kd.R_drewN | apply Kd.R_drew)); exact HO238.out))) (Kd.R_lt (by (with_reducible repeat (first | apply Kd.R_alloc | apply Kd.R_drewN | apply Kd.R_drew)); exact HO242.out))) (Kd.R_lt (by (with_reducible repeat (first | apply Kd.R_alloc | apply Kd.R_drewN | apply Kd.R_drew)); exact HO246.out))) (Kd.R_lt (by (with_reducible repeat (first | apply Kd.R_alloc | apply Kd.R_drewN | apply Kd.R_drew)); exact HO250.out))) (Kd.R_lt (by (with_reducible repeat (first | apply Kd.R_alloc | apply Kd.R_drewN | apply Kd.R_drew)); exact HO254.out))) (Kd.R_lt (by (with_reducible repeat (first | apply Kd.R_alloc | apply Kd.R_drewN | apply Kd.R_drew)); exact HO260.out))) (below_size (by repeat (first | (with_reducible first | exact HB.out | apply below_alloc | apply pw_below_drewN | apply below_drew1) | exact HB.out)))); have n8_ := Aside0.mk (below_step (by repeat (first | (with_reducible first | exact HB.out | apply below_alloc | apply pw_below_drewN | apply below_drew1) | exact HB.out)) hb); clear HO234; clear HO238; clear HO242; clear HO246; clear HO250; clear HO254; clear HO260; clear HB; have HO234 := n0_; have HO238 := n1_; have HO242 := n2_; have HO246 := n3_; have HO250 := n4_; have HO254 := n5_; have HO260 := n6_; have HO263 := n7_; have HB := n8_; clear n0_ n1_ n2_ n3_ n4_ n5_ n6_ n7_ n8_; (try clear hb); (try clear hb2); (try clear hk); (try clear hi); (try clear ho0); obtain ⟨Ao46, co46, eo46⟩ := Kd.R_slice HO260.out; subst eo46; obtain ⟨Ao47, co47, eo47⟩ := Kd.R_slice HO263.out; subst eo47) | (go_at_call 30; (with_reducible refine (backhaulref01_SameTexts.calls kj3 _ _ t258 _ _ t261 true _ ?side1 ?side2 ?side3 ?side4 A28.out).mono ?_); (case side1 => repeat (first | exact (Kd.R_reads' HO260.out).2.2 | (with_reducible refine Kd.C_alloc ?_ _) | (with_reducible refine Kd.C_drewN ?_ _) | (with_reducible refine Kd.C_drew ?_))); (case side2 => exact (Kd.R_reads' HO260.out).2.1); (case side3 => repeat (first | exact (Kd.R_reads' HO263.out).2.2 | (with_reducible refine Kd.C_alloc ?_ _) | (with_reducible refine Kd.C_drewN ?_ _) | (with_reducible refine Kd.C_drew ?_))); (case side4 => exact (Kd.R_reads' HO263.out).2.1); rintro e w' ⟨rfl, ⟨nd, rfl⟩⟩) | (go_at_call 18; (with_reducible refine (backhaullaw13_awake.calls  true _ A30.out).mono ?_); rintro e w48 ⟨rfl, hb⟩; have n0_ := Aside0.mk (Kd.R_below (by (with_reducible repeat (first | apply Kd.R_alloc | apply Kd.R_drewN | apply Kd.R_drew)); exact HO234.out) hb); have n1_ := Aside0.mk (Kd.R_below (by (with_reducible repeat (first | apply Kd.R_alloc | apply Kd.R_drewN | apply Kd.R_drew)); exact HO238.out) hb); have n2_ := Aside0.mk (Kd.R_below (by (with_reducible repeat (first | apply Kd.R_alloc | apply Kd.R_drewN | apply Kd.R_drew)); exact HO242.out) hb); have n3_ := Aside0.mk (Kd.R_below (by (with_reducible repeat (first | apply Kd.R_alloc | apply Kd.R_drewN | apply Kd.R_drew)); exact HO246.out) hb); have n4_ := Aside0.mk (Kd.R_below (by (with_reducible repeat (first | apply Kd.R_alloc | apply Kd.R_drewN | apply Kd.R_drew)); exact HO250.out) hb); have n5_ := Aside0.mk (Kd.R_below (by (with_reducible repeat (first | apply Kd.R_alloc | apply Kd.R_drewN | apply Kd.R_drew)); exact HO254.out) hb); have n6_ := Aside0.mk (Kd.R_below (by (with_reducible repeat (first | apply Kd.R_alloc | apply Kd.R_drewN | apply Kd.R_drew)); exact HO260.out) hb); have n7_ := Aside0.mk (Kd.R_below (by (with_reducible repeat (first | apply Kd.R_alloc | apply Kd.R_drewN | apply Kd.R_drew)); exact HO263.out) hb); have n8_ := Aside0.mk (below_step (by repeat (first | (with_reducible first | exact HB.out | apply below_alloc | apply pw_below_drewN | apply below_drew1) | exact HB.out)) hb); clear HO234; clear HO238; clear HO242; clear HO246; clear HO250; clear HO254; clear HO260; clear HO263; clear HB; have HO234 := n0_; have HO238 := n1_; have HO242 := n2_; have HO246 := n3_; have HO250 := n4_; have HO254 := n5_; have HO260 := n6_; have HO263 := n7_; have HB := n8_; clear n0_ n1_ n2_ n3_ n4_ n5_ n6_ n7_ n8_; (try clear hb); (try clear hb2); (try clear hk); (try clear hi)))
                        go_ret
                        exact ⟨by first | rfl | (simp [errW_none, errW_some] <;> rfl) | (simp [*, errW_none, errW_some] <;> rfl), by repeat (first | (with_reducible first | exact HB.out | apply below_alloc | apply pw_below_drewN | apply below_drew1) | exact HB.out)⟩
                      · replace c31 := Bool.eq_false_iff.mpr c31
                        subst c31
                        have H1 : (some false) = some true := by first | (rw [if_neg (show ¬ (false = true) by decide)] at H; exact H) | rfl
                        clear H
                        have H := H1
                        clear H1
                        exact absurd H (by simp)
                    · replace c29 := Bool.eq_false_iff.mpr c29
                      subst c29
                      have H1 : (some false) = some true := by first | (rw [if_neg (show ¬ (false = true) by decide)] at H; exact H) | rfl
                      clear H
                      have H := H1
                      clear H1
                      exact absurd H (by simp)
                  · rw [if_neg c25] at H
                    have c25b0 : (t248 == t252) = false := beq_eq_false_iff_ne.mpr c25
                    have c25b1 : (t248 != t252) = true := bne_iff_ne.mpr c25
                    exact absurd H (by simp)
                · replace c24 := Bool.eq_false_iff.mpr c24
                  subst c24
                  have H1 : (some false) = some true := by first | (rw [if_neg (show ¬ (false = true) by decide)] at H; exact H) | rfl
                  clear H
                  have H := H1
                  clear H1
                  exact absurd H (by simp)
              · rw [if_neg c22] at H
                have c22b0 : (t240 == t244) = false := beq_eq_false_iff_ne.mpr c22
                have c22b1 : (t240 != t244) = true := bne_iff_ne.mpr c22
                exact absurd H (by simp)
            · replace c21 := Bool.eq_false_iff.mpr c21
              subst c21
              have H1 : (some false) = some true := by first | (rw [if_neg (show ¬ (false = true) by decide)] at H; exact H) | rfl
              clear H
              have H := H1
              clear H1
              exact absurd H (by simp)
          · rw [if_neg c19] at H
            have c19b0 : (t232 == t236) = false := beq_eq_false_iff_ne.mpr c19
            have c19b1 : (t232 != t236) = true := bne_iff_ne.mpr c19
            exact absurd H (by simp)
        · replace c18 := Bool.eq_false_iff.mpr c18
          subst c18
          have H1 : (some false) = some true := by first | (rw [if_neg (show ¬ (false = true) by decide)] at H; exact H) | rfl
          clear H
          have H := H1
          clear H1
          exact absurd H (by simp)

/-- THE ONE PURE STATEMENT of backhaullaw13_RowsLists. -/
def backhaullaw13_RowsLists.Pure : Prop := ∀ (l0 : List ByteArray) (a1 : Int) (a2 : ByteArray), (l0.length ≤ maxLen ∧ ∀ x ∈ l0, x.size ≤ maxLen) → (Lit.int .i64 a1).wf = true → a2.size ≤ maxLen → ∃ k, backhaullaw13_RowsLists.f k l0 a1 a2 = some true

end Go.Proofs.Ytabapiofkipkoaa.F
