-- printed by xprint (the session's own program) out of the translation
import Derived.Test.YtabapiofkipkoaaF
import Derived.Test.YtabapiofkipkoaaF18
import Derived.Test.YtabapiofkipkoaaF23
import Derived.Test.YtabapiofkipkoaaF24
import Derived.Test.YtabapiofkipkoaaF26
import Derived.Test.YtabapiofkipkoaaF28
import Derived.Test.YtabapiofkipkoaaF30
import Derived.Test.YtabapiofkipkoaaF31
namespace Go.Proofs.Ytabapiofkipkoaa.F
open Go.RowKit Go.Proofs.YtabapiofkipkoaaX Go.Proofs.YtabapiofkipkoaaW.PrintWords Go.Proofs.YtabapiofkipkoaaW.PrintLast Go.Proofs.YtabapiofkipkoaaW.PrintMore
attribute [local go_sem] max2_int min2_int max_two min_two max_three min_three max_four min_four   -- for this text's walks alone
attribute [local go_sem high] str_geq str_leq str_gtr
set_option linter.unusedVariables false
set_option linter.unusedSimpArgs false

/-! ### backhaullaw13_RowsTurn: function 5 -/
mutual
def backhaullaw13_RowsTurn.j0 : Nat → List ByteArray → Int → ByteArray → Bool → Option (Bool)
  | 0, _, _, _, _ => none
  | k + 1, x0, x1, x2, x22 => if x22 = true then ((backhaullaw13_awake.f).bind fun t267 => (if t267 = true then (some true) else (some false))) else ((some (([] : List ByteArray) : List ByteArray)).bind fun y268 => (if y268.length + x0.length < 8796093022208 then ((some (y268 ++ x0 : List ByteArray)).bind fun y271 => ((rows_With_string.f x0 x1 x2).bind fun bt274 => (if bt274.2 = 0 then ((rows_Without_string.f bt274.1 x1).bind fun bt278 => (if (bt274.1.length : Int) = (wrap64 ((x0.length : Int) + 1)) then (if 0 ≤ x1 then (if x1 < (bt274.1.length : Int) then (if (rdOf ByteArray.empty bt274.1 x1).toList = x2.toList then (if bt278.2 = 0 then ((backhaulref01_SameTexts.f k bt278.1 x0).bind fun t283 => (if t283 = true then (backhaullaw13_RowsTurn.j1 k x0 x1 x2 y271) else (some false))) else (some false)) else (some false)) else (none)) else (none)) else (some false))) else (backhaullaw13_RowsTurn.j1 k x0 x1 x2 y271)))) else (none)))
def backhaullaw13_RowsTurn.j1 : Nat → List ByteArray → Int → ByteArray → List ByteArray → Option (Bool)
  | 0, _, _, _, _ => none
  | k + 1, x0, x1, x2, x7 => (rows_Set_string.f x0 x1 x2).bind fun bt284 => (if bt284.2 = 0 then (if 0 ≤ x1 then (if x1 < (x7.length : Int) then ((rows_Set_string.f bt284.1 x1 (rdOf ByteArray.empty x7 x1)).bind fun bt289 => (if (bt284.1.length : Int) = (x0.length : Int) then (if x1 < (bt284.1.length : Int) then (if (rdOf ByteArray.empty bt284.1 x1).toList = x2.toList then (if bt289.2 = 0 then ((backhaulref01_SameTexts.f k bt289.1 x7).bind fun t294 => (if t294 = true then (backhaullaw13_RowsTurn.j2 k x0 x1 x7) else (some false))) else (some false)) else (some false)) else (none)) else (some false))) else (none)) else (none)) else (backhaullaw13_RowsTurn.j2 k x0 x1 x7))
def backhaullaw13_RowsTurn.j2 : Nat → List ByteArray → Int → List ByteArray → Option (Bool)
  | 0, _, _, _ => none
  | k + 1, x0, x1, x7 => (rows_Last_string.f x0 x1).bind fun t295 => ((backhaulref01_SameTexts.f k x0 x7).bind fun t298 => (if t298 = true then (if (t295.length : Int) ≤ (x0.length : Int) then (if 0 ≤ (wrap64 ((x0.length : Int) - (t295.length : Int))) then (if (wrap64 ((x0.length : Int) - (t295.length : Int))) ≤ (x0.length : Int) then ((backhaulref01_SameTexts.f k t295 (x0.drop ((wrap64 ((x0.length : Int) - (t295.length : Int))) : Int).toNat)).bind fun t300 => (if t300 = true then ((backhaullaw13_awake.f).bind fun t301 => (if t301 = true then (some true) else (some false))) else (some false))) else (none)) else (none)) else (some false)) else (some false)))
end
def backhaullaw13_RowsTurn.f (k : Nat) (l0 : List ByteArray) (a1 : Int) (a2 : ByteArray) : Option (Bool) := (backhaullaw13_few.f k l0).bind fun t266 => (if t266 = true then (backhaullaw13_RowsTurn.j0 k l0 a1 a2 (decide ((a2.size : Int) > 200))) else (backhaullaw13_RowsTurn.j0 k l0 a1 a2 true))
theorem backhaullaw13_RowsTurn.mono_l : ∀ k, (∀ y0 y1 y2 y3, LeO (backhaullaw13_RowsTurn.j0 k y0 y1 y2 y3) (backhaullaw13_RowsTurn.j0 (k + 1) y0 y1 y2 y3)) ∧ (∀ y0 y1 y2 y3, LeO (backhaullaw13_RowsTurn.j1 k y0 y1 y2 y3) (backhaullaw13_RowsTurn.j1 (k + 1) y0 y1 y2 y3)) ∧ (∀ y0 y1 y2, LeO (backhaullaw13_RowsTurn.j2 k y0 y1 y2) (backhaullaw13_RowsTurn.j2 (k + 1) y0 y1 y2))
  | 0 => ⟨fun _ _ _ _ r h => by simp [backhaullaw13_RowsTurn.j0] at h, fun _ _ _ _ r h => by simp [backhaullaw13_RowsTurn.j1] at h, fun _ _ _ r h => by simp [backhaullaw13_RowsTurn.j2] at h⟩
  | k + 1 => by
    obtain ⟨ih0, ih1, ih2⟩ := backhaullaw13_RowsTurn.mono_l k
    refine ⟨?_, ?_, ?_⟩
    · intro y0 y1 y2 y3
      unfold backhaullaw13_RowsTurn.j0
      repeat' first
      | (with_reducible exact ih0 _ _ _ _)
      | (with_reducible exact ih1 _ _ _ _)
      | (with_reducible exact ih2 _ _ _)
      | (with_reducible exact backhaullaw13_few.mono _ _)
      | (with_reducible exact backhaulref01_SameTexts.mono _ _ _)
      | (with_reducible exact LeO.refl _)
      | (with_reducible exact LeO.none _)
      | (with_reducible refine LeO.ite ?_ ?_)
      | (with_reducible refine LeO.bind ?_ (fun _ => ?_))
      | exact ih0 _ _ _ _
      | exact ih1 _ _ _ _
      | exact ih2 _ _ _
      | exact backhaullaw13_few.mono _ _
      | exact backhaulref01_SameTexts.mono _ _ _
      | exact LeO.none _
      | refine LeO.ite ?_ ?_
      | refine LeO.bind ?_ (fun _ => ?_)
    · intro y0 y1 y2 y3
      unfold backhaullaw13_RowsTurn.j1
      repeat' first
      | (with_reducible exact ih0 _ _ _ _)
      | (with_reducible exact ih1 _ _ _ _)
      | (with_reducible exact ih2 _ _ _)
      | (with_reducible exact backhaullaw13_few.mono _ _)
      | (with_reducible exact backhaulref01_SameTexts.mono _ _ _)
      | (with_reducible exact LeO.refl _)
      | (with_reducible exact LeO.none _)
      | (with_reducible refine LeO.ite ?_ ?_)
      | (with_reducible refine LeO.bind ?_ (fun _ => ?_))
      | exact ih0 _ _ _ _
      | exact ih1 _ _ _ _
      | exact ih2 _ _ _
      | exact backhaullaw13_few.mono _ _
      | exact backhaulref01_SameTexts.mono _ _ _
      | exact LeO.none _
      | refine LeO.ite ?_ ?_
      | refine LeO.bind ?_ (fun _ => ?_)
    · intro y0 y1 y2
      unfold backhaullaw13_RowsTurn.j2
      repeat' first
      | (with_reducible exact ih0 _ _ _ _)
      | (with_reducible exact ih1 _ _ _ _)
      | (with_reducible exact ih2 _ _ _)
      | (with_reducible exact backhaullaw13_few.mono _ _)
      | (with_reducible exact backhaulref01_SameTexts.mono _ _ _)
      | (with_reducible exact LeO.refl _)
      | (with_reducible exact LeO.none _)
      | (with_reducible refine LeO.ite ?_ ?_)
      | (with_reducible refine LeO.bind ?_ (fun _ => ?_))
      | exact ih0 _ _ _ _
      | exact ih1 _ _ _ _
      | exact ih2 _ _ _
      | exact backhaullaw13_few.mono _ _
      | exact backhaulref01_SameTexts.mono _ _ _
      | exact LeO.none _
      | refine LeO.ite ?_ ?_
      | refine LeO.bind ?_ (fun _ => ?_)
theorem backhaullaw13_RowsTurn.mono : ∀ a0 a1 a2 k, LeO (backhaullaw13_RowsTurn.f k a0 a1 a2) (backhaullaw13_RowsTurn.f (k + 1) a0 a1 a2) := by
  intro a0 a1 a2 k
  obtain ⟨ih0, ih1, ih2⟩ := backhaullaw13_RowsTurn.mono_l k
  unfold backhaullaw13_RowsTurn.f
  repeat' first
      | (with_reducible exact ih0 _ _ _ _)
      | (with_reducible exact ih1 _ _ _ _)
      | (with_reducible exact ih2 _ _ _)
      | (with_reducible exact backhaullaw13_few.mono _ _)
      | (with_reducible exact backhaulref01_SameTexts.mono _ _ _)
      | (with_reducible exact LeO.refl _)
      | (with_reducible exact LeO.none _)
      | (with_reducible refine LeO.ite ?_ ?_)
      | (with_reducible refine LeO.bind ?_ (fun _ => ?_))
      | exact ih0 _ _ _ _
      | exact ih1 _ _ _ _
      | exact ih2 _ _ _
      | exact backhaullaw13_few.mono _ _
      | exact backhaulref01_SameTexts.mono _ _ _
      | exact LeO.none _
      | refine LeO.ite ?_ ?_
      | refine LeO.bind ?_ (fun _ => ?_)
set_option maxHeartbeats 8000000 in
set_option maxRecDepth 100000 in
theorem backhaullaw13_RowsTurn.calls (k : Nat) (A0 : Option Addr) (c0 : Nat) (l0 : List ByteArray) (a1 : Int) (a2 : ByteArray) (w : World) (hr0 : Kd.C Kd.string w A0 l0.length l0) (hc0 : l0.length ≤ c0) (h : backhaullaw13_RowsTurn.f k l0 a1 a2 = some true) :
    Calls Try.prog 5 #[.slice A0 l0.length c0, .int .i64 a1, .string a2] w fun e w' => e = .returned (.bool true) ∧ Below w.heap.size w w' := by
  have HR0 := Aside0.mk hr0
  have HC0 := Aside0.mk hc0
  clear hr0 hc0
  have HB := Aside0.mk (Below.refl w.heap.size w)
  have H : ((backhaullaw13_few.f k l0).bind fun t266 => (if t266 = true then (backhaullaw13_RowsTurn.j0 k l0 a1 a2 (decide ((a2.size : Int) > 200))) else (backhaullaw13_RowsTurn.j0 k l0 a1 a2 true))) = some true := h
  clear h
  have HC4 := Aside0.mk H
  clear H
  go_enter Try.func5, Try.ntmps5
  go_upto_region 1 with (fail)
  go_cut [22] (fun v22 wc => ∃ (kq : Nat) (x22_3 : Bool), v22 = .bool x22_3 ∧ Aside0 (backhaullaw13_RowsTurn.j0 kq l0 a1 a2 x22_3 = some true) ∧ Aside0 (kq ≤ k) ∧ Aside0 (Below w.heap.size w wc))
  case first =>
    have H := HC4.out
    clear HC4
    replace H := Option.bind_eq_some_iff.mp H
    obtain ⟨t266, A50, H⟩ := H
    replace H : (if t266 = true then (backhaullaw13_RowsTurn.j0 k l0 a1 a2 (decide ((a2.size : Int) > 200))) else (backhaullaw13_RowsTurn.j0 k l0 a1 a2 true)) = some true := H
    have A5 := Aside0.mk A50
    clear A50
    by_cases c6 : t266 = true
    · subst c6
      have H1 : (backhaullaw13_RowsTurn.j0 k l0 a1 a2 (decide ((a2.size : Int) > 200))) = some true := by first | (rw [if_pos rfl] at H; exact H) | rfl
      clear H
      have H := H1
      clear H1
      have H' := Aside0.mk H
      clear H
      go_wp2_with (first | ((with_reducible refine gate_callee (f := 23) rfl ?_); refine goesL_ (some 16) rfl rfl Try.func23 (by kernel_rfl) rfl #[.slice A0 l0.length c0] rfl (by (try simp only [List.map_toArray, List.map_cons, List.map_nil]); first | done | rfl | (simp only [List.length_drop, List.length_take]; rfl)) ?_; (with_reducible refine (backhaullaw13_few.calls k _ _ l0 true _ ?side1 ?side2 A5.out).mono ?_); (case side1 => repeat (first | exact (Kd.C_below HR0.out HB.out) | (with_reducible refine Kd.C_alloc ?_ _) | (with_reducible refine Kd.C_drewN ?_ _) | (with_reducible refine Kd.C_drew ?_))); (case side2 => exact HC0.out); rintro e w' ⟨rfl, ⟨nd, rfl⟩⟩; refine ⟨_, rfl, ?_⟩))
      go_meet
      case rel => exact ⟨_, (decide ((a2.size : Int) > 200)), (by first | rfl | (simp; done) | (simp [*]; done)), H', ⟨by first | omega | exact Nat.le_refl _⟩, ⟨by repeat (first | (with_reducible first | exact HB.out | apply below_alloc | apply pw_below_drewN | apply below_drew1) | exact HB.out)⟩⟩
    · replace c6 := Bool.eq_false_iff.mpr c6
      subst c6
      have H1 : (backhaullaw13_RowsTurn.j0 k l0 a1 a2 true) = some true := by first | (rw [if_neg (show ¬ (false = true) by decide)] at H; exact H) | rfl
      clear H
      have H := H1
      clear H1
      have H' := Aside0.mk H
      clear H
      go_wp2_with (first | ((with_reducible refine gate_callee (f := 23) rfl ?_); refine goesL_ (some 16) rfl rfl Try.func23 (by kernel_rfl) rfl #[.slice A0 l0.length c0] rfl (by (try simp only [List.map_toArray, List.map_cons, List.map_nil]); first | done | rfl | (simp only [List.length_drop, List.length_take]; rfl)) ?_; (with_reducible refine (backhaullaw13_few.calls k _ _ l0 false _ ?side1 ?side2 A5.out).mono ?_); (case side1 => repeat (first | exact (Kd.C_below HR0.out HB.out) | (with_reducible refine Kd.C_alloc ?_ _) | (with_reducible refine Kd.C_drewN ?_ _) | (with_reducible refine Kd.C_drew ?_))); (case side2 => exact HC0.out); rintro e w' ⟨rfl, ⟨nd, rfl⟩⟩; refine ⟨_, rfl, ?_⟩))
      go_meet
      case rel => exact ⟨_, (true), (by first | rfl | (simp; done) | (simp [*]; done)), H', ⟨by first | omega | exact Nat.le_refl _⟩, ⟨by repeat (first | (with_reducible first | exact HB.out | apply below_alloc | apply pw_below_drewN | apply below_drew1) | exact HB.out)⟩⟩
  case rest =>
    clear HC4
    try clear c2
    try clear p2
    try clear c5
    try clear c6
    obtain ⟨kq, x22_3, rfl, HA, HJ3, HB⟩ := hcut
    cases kq with
    | zero => exact absurd HA.out (by simp [backhaullaw13_RowsTurn.j0])
    | succ kj3 =>
      have H := HA.out
      clear HA
      simp only [backhaullaw13_RowsTurn.j0] at H
      by_cases c7 : x22_3 = true
      · subst c7
        have H1 : ((backhaullaw13_awake.f).bind fun t267 => (if t267 = true then (some true) else (some false))) = some true := by first | (rw [if_pos rfl] at H; exact H) | rfl
        clear H
        have H := H1
        clear H1
        replace H := Option.bind_eq_some_iff.mp H
        obtain ⟨t267, A80, H⟩ := H
        replace H : (if t267 = true then (some true) else (some false)) = some true := H
        have A8 := Aside0.mk A80
        clear A80
        by_cases c9 : t267 = true
        · subst c9
          have H1 : (some true) = some true := by first | (rw [if_pos rfl] at H; exact H) | rfl
          clear H
          have H := H1
          clear H1
          clear H
          go_wp2_with (first | ((with_reducible refine gate_callee (f := 18) rfl ?_); refine goesL_ (some 23) rfl rfl Try.func18 (by kernel_rfl) rfl #[] rfl (by (try simp only [List.map_toArray, List.map_cons, List.map_nil]); first | done | rfl | (simp only [List.length_drop, List.length_take]; rfl)) ?_; (with_reducible refine (backhaullaw13_awake.calls  true _ A8.out).mono ?_); rintro e w10 ⟨rfl, hb⟩; refine ⟨_, rfl, ?_⟩; have n0_ := Aside0.mk (below_step (by repeat (first | (with_reducible first | exact HB.out | apply below_alloc | apply pw_below_drewN | apply below_drew1) | exact HB.out)) hb); clear HB; have HB := n0_; clear n0_; (try clear hb); (try clear hb2); (try clear hk); (try clear hi)))
          go_ret
          exact ⟨by first | rfl | (simp [errW_none, errW_some] <;> rfl) | (simp [*, errW_none, errW_some] <;> rfl), by repeat (first | (with_reducible first | exact HB.out | apply below_alloc | apply pw_below_drewN | apply below_drew1) | exact HB.out)⟩
        · replace c9 := Bool.eq_false_iff.mpr c9
          subst c9
          have H1 : (some false) = some true := by first | (rw [if_neg (show ¬ (false = true) by decide)] at H; exact H) | rfl
          clear H
          have H := H1
          clear H1
          exact absurd H (by simp)
      · replace c7 := Bool.eq_false_iff.mpr c7
        subst c7
        have H1 : ((some (([] : List ByteArray) : List ByteArray)).bind fun y268 => (if y268.length + l0.length < 8796093022208 then ((some (y268 ++ l0 : List ByteArray)).bind fun y271 => ((rows_With_string.f l0 a1 a2).bind fun bt274 => (if bt274.2 = 0 then ((rows_Without_string.f bt274.1 a1).bind fun bt278 => (if (bt274.1.length : Int) = (wrap64 ((l0.length : Int) + 1)) then (if 0 ≤ a1 then (if a1 < (bt274.1.length : Int) then (if (rdOf ByteArray.empty bt274.1 a1).toList = a2.toList then (if bt278.2 = 0 then ((backhaulref01_SameTexts.f kj3 bt278.1 l0).bind fun t283 => (if t283 = true then (backhaullaw13_RowsTurn.j1 kj3 l0 a1 a2 y271) else (some false))) else (some false)) else (some false)) else (none)) else (none)) else (some false))) else (backhaullaw13_RowsTurn.j1 kj3 l0 a1 a2 y271)))) else (none))) = some true := by first | (rw [if_neg (show ¬ (false = true) by decide)] at H; exact H) | rfl
        clear H
        have H := H1
        clear H1
        obtain ⟨y268, hy268⟩ : ∃ y_ : List ByteArray, y_ = (([] : List ByteArray)) := ⟨_, rfl⟩
        replace H : (if y268.length + l0.length < 8796093022208 then ((some (y268 ++ l0 : List ByteArray)).bind fun y271 => ((rows_With_string.f l0 a1 a2).bind fun bt274 => (if bt274.2 = 0 then ((rows_Without_string.f bt274.1 a1).bind fun bt278 => (if (bt274.1.length : Int) = (wrap64 ((l0.length : Int) + 1)) then (if 0 ≤ a1 then (if a1 < (bt274.1.length : Int) then (if (rdOf ByteArray.empty bt274.1 a1).toList = a2.toList then (if bt278.2 = 0 then ((backhaulref01_SameTexts.f kj3 bt278.1 l0).bind fun t283 => (if t283 = true then (backhaullaw13_RowsTurn.j1 kj3 l0 a1 a2 y271) else (some false))) else (some false)) else (some false)) else (none)) else (none)) else (some false))) else (backhaullaw13_RowsTurn.j1 kj3 l0 a1 a2 y271)))) else (none)) = some true := by first | (rw [hy268]; with_reducible exact H) | (have H2_ := (Option.bind_some _ _).symm.trans H; rw [hy268]; with_reducible exact H2_) | (have H2_ := (Option.bind_some _ _).symm.trans H; with_reducible exact H2_) | with_reducible exact H | (rw [hy268]; exact H) | exact H
        have Ny268 := Aside0.mk hy268
        clear hy268
        by_cases c11 : y268.length + l0.length < 8796093022208
        · rw [if_pos c11] at H
          have LMc11 := Aside0.mk c11
          clear c11
          obtain ⟨y271, hy271⟩ : ∃ y_ : List ByteArray, y_ = (y268 ++ l0) := ⟨_, rfl⟩
          replace H : ((rows_With_string.f l0 a1 a2).bind fun bt274 => (if bt274.2 = 0 then ((rows_Without_string.f bt274.1 a1).bind fun bt278 => (if (bt274.1.length : Int) = (wrap64 ((l0.length : Int) + 1)) then (if 0 ≤ a1 then (if a1 < (bt274.1.length : Int) then (if (rdOf ByteArray.empty bt274.1 a1).toList = a2.toList then (if bt278.2 = 0 then ((backhaulref01_SameTexts.f kj3 bt278.1 l0).bind fun t283 => (if t283 = true then (backhaullaw13_RowsTurn.j1 kj3 l0 a1 a2 y271) else (some false))) else (some false)) else (some false)) else (none)) else (none)) else (some false))) else (backhaullaw13_RowsTurn.j1 kj3 l0 a1 a2 y271))) = some true := by first | (rw [hy271]; with_reducible exact H) | (have H2_ := (Option.bind_some _ _).symm.trans H; rw [hy271]; with_reducible exact H2_) | (have H2_ := (Option.bind_some _ _).symm.trans H; with_reducible exact H2_) | with_reducible exact H | (rw [hy271]; exact H) | exact H
          have Ny271 := Aside0.mk hy271
          clear hy271
          replace H := Option.bind_eq_some_iff.mp H
          obtain ⟨⟨t274, t275⟩, A120, H⟩ := H
          replace H : (if t275 = 0 then ((rows_Without_string.f t274 a1).bind fun bt278 => (if (t274.length : Int) = (wrap64 ((l0.length : Int) + 1)) then (if 0 ≤ a1 then (if a1 < (t274.length : Int) then (if (rdOf ByteArray.empty t274 a1).toList = a2.toList then (if bt278.2 = 0 then ((backhaulref01_SameTexts.f kj3 bt278.1 l0).bind fun t283 => (if t283 = true then (backhaullaw13_RowsTurn.j1 kj3 l0 a1 a2 y271) else (some false))) else (some false)) else (some false)) else (none)) else (none)) else (some false))) else (backhaullaw13_RowsTurn.j1 kj3 l0 a1 a2 y271)) = some true := H
          have A12 := Aside0.mk A120
          clear A120
          have HC13 := Aside0.mk H
          clear H
          go_upto_if 35 with (first | ((with_reducible refine gate_dst (N := 24) rfl ?_); (try (refine gate_guard (by rfl) ?_; dsimp only)); refine Kd.R_lit Kd.string _ 9 ?hg (N := 24) ?hd (xs := ([] : List ByteArray)) (inner := []) (ok := fun _ => True) (okp := fun _ => True) ?hr ?hp (fun _ hk => hk) trivial (Below.refl _ _) (Nat.le_refl _) (by simp) ?_; (case hd => rfl); (case hg => rfl); (case hr => first | (go_simp; done) | (go_simp; rfl)); (case hp => exact (Reps.none _ _)); intro v269 w14 ho15 hb hg_ hnew_; clear hg_ hnew_; (first | rw [← Ny268.out] at ho15 | (simp only [Int.reduceToNat] at ho15; rw [← Ny268.out] at ho15)); have n0_ := Aside0.mk (Kd.R_lower ho15 (below_size (by repeat (first | (with_reducible first | exact HB.out | apply below_alloc | apply pw_below_drewN | apply below_drew1) | exact HB.out)))); have n1_ := Aside0.mk (below_step (by repeat (first | (with_reducible first | exact HB.out | apply below_alloc | apply pw_below_drewN | apply below_drew1) | exact HB.out)) hb); clear HB; have HO270 := n0_; have HB := n1_; clear n0_ n1_; clear hb ho15) | ((with_reducible refine gate_builtin (b := .append) (xs := #[.tmp 24, .tmp 25]) rfl ?_); (try (refine gate_guard (by rfl) ?_; dsimp only)); at_builtin; refine Kd.R_append_rows Kd.string (w0 := w) w.heap.size rfl (.tmp 24) (.tmp 25) 30 9 (.string ⟨#[]⟩) 16 rfl Try.underlying30 info9 rfl (by decide) (by omega) v269 y268 l0 _ _ _ (fun _ => True) (fun _ => False) rfl rfl ?aO ?aR (fun _ _ h => h) (fun _ h => h.elim) ?aF ?aB ?aS ?aL ?_; (case aR => repeat (first | exact (Kd.C_below HR0.out HB.out) | (with_reducible refine Kd.C_alloc ?_ _) | (with_reducible refine Kd.C_drewN ?_ _) | (with_reducible refine Kd.C_drew ?_))); (case aB => exact (by repeat (first | (with_reducible first | exact HB.out | apply below_alloc | apply pw_below_drewN | apply below_drew1) | exact HB.out))); (case aF => exact (fun _ _ => trivial)); (case aO => exact (by (with_reducible repeat (first | apply Kd.R_alloc | apply Kd.R_drewN | apply Kd.R_drew)); exact HO270.out)); (case aS => exact (below_size (by repeat (first | (with_reducible first | exact HB.out | apply below_alloc | apply pw_below_drewN | apply below_drew1) | exact HB.out)))); (case aL => have := LMc11.out; omega); intro v272 w16 ho hb hg hat; rw [← Ny271.out] at ho; have n0_ := Aside0.mk (hb); have n1_ := Aside0.mk (ho); clear HB; clear HO270; have HB := n0_; have HO273 := n1_; clear n0_ n1_; clear ho hb hg hat) | ((with_reducible refine gate_callee (f := 24) rfl ?_); refine goesL_ (some 31) rfl rfl Try.func24 (by kernel_rfl) rfl #[.slice A0 l0.length c0, .int .i64 a1, .string a2] rfl (by (try simp only [List.map_toArray, List.map_cons, List.map_nil]); first | done | rfl | (simp only [List.length_drop, List.length_take]; rfl)) ?_; (with_reducible refine (rows_With_string.calls _ _ l0 a1 a2 t274 t275 _ ?side1 ?side2 A12.out).mono ?_); (case side1 => repeat (first | exact (Kd.C_below HR0.out HB.out) | (with_reducible refine Kd.C_alloc ?_ _) | (with_reducible refine Kd.C_drewN ?_ _) | (with_reducible refine Kd.C_drew ?_))); (case side2 => exact HC0.out); rintro e w17 ⟨v276, rfl, ho0, hb⟩; refine ⟨_, rfl, ?_⟩; have n0_ := Aside0.mk (Kd.R_elder' (by (with_reducible repeat (first | apply Kd.R_alloc | apply Kd.R_drewN | apply Kd.R_drew)); exact HO273.out) (Kd.R_base ho0) hb); have n1_ := Aside0.mk (Kd.R_lower (Kd.R_new' ho0 (Kd.R_lt (by (with_reducible repeat (first | apply Kd.R_alloc | apply Kd.R_drewN | apply Kd.R_drew)); exact HO273.out))) (below_size (by repeat (first | (with_reducible first | exact HB.out | apply below_alloc | apply pw_below_drewN | apply below_drew1) | exact HB.out)))); have n2_ := Aside0.mk (below_step (by repeat (first | (with_reducible first | exact HB.out | apply below_alloc | apply pw_below_drewN | apply below_drew1) | exact HB.out)) hb); clear HO273; clear HB; have HO273 := n0_; have HO277 := n1_; have HB := n2_; clear n0_ n1_ n2_; (try clear hb); (try clear hb2); (try clear hk); (try clear hi); (try clear ho0)))
          (try simp only [Act.put, List.setIfInBounds_toArray, List.set_cons_zero, List.set_cons_succ])
          go_cut [] (fun wc => ∃ (kq : Nat), Aside0 (backhaullaw13_RowsTurn.j1 kq l0 a1 a2 y271 = some true) ∧ Aside0 (kq ≤ kj3) ∧ Aside0 (Kd.R Kd.string 9 wc w.heap.size (fun _ => True) v272 y271) ∧ Aside0 (Below w.heap.size w wc))
          case first =>
            have H := HC13.out
            clear HC13
            by_cases c18 : t275 = 0
            · rw [if_pos c18] at H
              have c18b0 : (t275 == 0) = true := beq_iff_eq.mpr c18
              have c18b1 : (t275 != 0) = false := bne_eq_false_iff_eq.mpr c18
              clear c18
              (first | rw [c18b0] | (simp only [i64_w, i32_w]; rw [c18b0]) | skip)
              replace H := Option.bind_eq_some_iff.mp H
              obtain ⟨⟨t278, t279⟩, A190, H⟩ := H
              replace H : (if (t274.length : Int) = (wrap64 ((l0.length : Int) + 1)) then (if 0 ≤ a1 then (if a1 < (t274.length : Int) then (if (rdOf ByteArray.empty t274 a1).toList = a2.toList then (if t279 = 0 then ((backhaulref01_SameTexts.f kj3 t278 l0).bind fun t283 => (if t283 = true then (backhaullaw13_RowsTurn.j1 kj3 l0 a1 a2 y271) else (some false))) else (some false)) else (some false)) else (none)) else (none)) else (some false)) = some true := H
              have A19 := Aside0.mk A190
              clear A190
              by_cases c20 : (t274.length : Int) = (wrap64 ((l0.length : Int) + 1))
              · rw [if_pos c20] at H
                have c20b0 : ((t274.length : Int) == (wrap64 ((l0.length : Int) + 1))) = true := beq_iff_eq.mpr c20
                have c20b1 : ((t274.length : Int) != (wrap64 ((l0.length : Int) + 1))) = false := bne_eq_false_iff_eq.mpr c20
                clear c20
                by_cases c21 : 0 ≤ a1
                · rw [if_pos c21] at H
                  have c21b0 : decide (0 ≤ a1) = true := decide_eq_true c21
                  clear c21
                  by_cases c22 : a1 < (t274.length : Int)
                  · rw [if_pos c22] at H
                    have c22b0 : decide (a1 < (t274.length : Int)) = true := decide_eq_true c22
                    clear c22
                    by_cases c23 : (rdOf ByteArray.empty t274 a1).toList = a2.toList
                    · rw [if_pos c23] at H
                      have c23b0 : ((rdOf ByteArray.empty t274 a1).toList == a2.toList) = true := beq_iff_eq.mpr c23
                      have c23b1 : ((rdOf ByteArray.empty t274 a1).toList != a2.toList) = false := bne_eq_false_iff_eq.mpr c23
                      clear c23
                      by_cases c24 : t279 = 0
                      · rw [if_pos c24] at H
                        have c24b0 : (t279 == 0) = true := beq_iff_eq.mpr c24
                        have c24b1 : (t279 != 0) = false := bne_eq_false_iff_eq.mpr c24
                        clear c24
                        replace H := Option.bind_eq_some_iff.mp H
                        obtain ⟨t283, A250, H⟩ := H
                        replace H : (if t283 = true then (backhaullaw13_RowsTurn.j1 kj3 l0 a1 a2 y271) else (some false)) = some true := H
                        have A25 := Aside0.mk A250
                        clear A250
                        by_cases c26 : t283 = true
                        · subst c26
                          have H1 : (backhaullaw13_RowsTurn.j1 kj3 l0 a1 a2 y271) = some true := by first | (rw [if_pos rfl] at H; exact H) | rfl
                          clear H
                          have H := H1
                          clear H1
                          have H' := Aside0.mk H
                          clear H
                          obtain ⟨Ao27, co27, eo27⟩ := Kd.R_slice HO277.out
                          subst eo27
                          go_wp2_with (first | ((with_reducible refine gate_callee (f := 28) rfl ?_); refine goesL_ (some 39) rfl rfl Try.func28 (by kernel_rfl) rfl #[.slice Ao27 t274.length co27, .int .i64 a1] rfl (by (try simp only [List.map_toArray, List.map_cons, List.map_nil]); first | done | rfl | (simp only [List.length_drop, List.length_take]; rfl)) ?_; (with_reducible refine (rows_Without_string.calls _ _ t274 a1 t278 t279 _ ?side1 ?side2 A19.out).mono ?_); (case side1 => repeat (first | exact (Kd.R_reads' HO277.out).2.2 | (with_reducible refine Kd.C_alloc ?_ _) | (with_reducible refine Kd.C_drewN ?_ _) | (with_reducible refine Kd.C_drew ?_))); (case side2 => exact (Kd.R_reads' HO277.out).2.1); rintro e w28 ⟨v280, rfl, ho0, hb⟩; refine ⟨_, rfl, ?_⟩; have n0_ := Aside0.mk (Kd.R_elder' (by (with_reducible repeat (first | apply Kd.R_alloc | apply Kd.R_drewN | apply Kd.R_drew)); exact HO273.out) (Kd.R_base ho0) hb); have n1_ := Aside0.mk (Kd.R_elder' (by (with_reducible repeat (first | apply Kd.R_alloc | apply Kd.R_drewN | apply Kd.R_drew)); exact HO277.out) (Kd.R_base ho0) hb); have n2_ := Aside0.mk (Kd.R_lower (Kd.R_new' (Kd.R_new' ho0 (Kd.R_lt (by (with_reducible repeat (first | apply Kd.R_alloc | apply Kd.R_drewN | apply Kd.R_drew)); exact HO273.out))) (Kd.R_lt (by (with_reducible repeat (first | apply Kd.R_alloc | apply Kd.R_drewN | apply Kd.R_drew)); exact HO277.out))) (below_size (by repeat (first | (with_reducible first | exact HB.out | apply below_alloc | apply pw_below_drewN | apply below_drew1) | exact HB.out)))); have n3_ := Aside0.mk (below_step (by repeat (first | (with_reducible first | exact HB.out | apply below_alloc | apply pw_below_drewN | apply below_drew1) | exact HB.out)) hb); clear HO273; clear HO277; clear HB; have HO273 := n0_; have HO277 := n1_; have HO281 := n2_; have HB := n3_; clear n0_ n1_ n2_ n3_; (try clear hb); (try clear hb2); (try clear hk); (try clear hi); (try clear ho0); have p282 : 0 ≤ (a1 : Int) := of_decide_eq_true (by first | (with_reducible assumption) | assumption); have q282 : a1 < (t274.length : Int) := of_decide_eq_true (by first | (with_reducible assumption) | assumption); obtain ⟨ad282, e282, hx282_0⟩ := Kd.at_string (Kd.R_reads' HO277.out).2.2 a1 p282 q282; cases e282; replace p282 := eq_true p282; replace q282 := eq_true q282; obtain ⟨Ao29, co29, eo29⟩ := Kd.R_slice HO281.out; subst eo29) | (go_at_call 30; (with_reducible refine (backhaulref01_SameTexts.calls kj3 _ _ t278 _ _ l0 true _ ?side1 ?side2 ?side3 ?side4 A25.out).mono ?_); (case side1 => repeat (first | exact (Kd.R_reads' HO281.out).2.2 | (with_reducible refine Kd.C_alloc ?_ _) | (with_reducible refine Kd.C_drewN ?_ _) | (with_reducible refine Kd.C_drew ?_))); (case side2 => exact (Kd.R_reads' HO281.out).2.1); (case side3 => repeat (first | exact (Kd.C_below HR0.out HB.out) | (with_reducible refine Kd.C_alloc ?_ _) | (with_reducible refine Kd.C_drewN ?_ _) | (with_reducible refine Kd.C_drew ?_))); (case side4 => exact HC0.out); rintro e w' ⟨rfl, ⟨nd, rfl⟩⟩))
                          go_meet
                          case rel => exact ⟨_, H', ⟨by have := HJ3.out; first | omega | exact Nat.le_refl _⟩, ⟨by (with_reducible repeat (first | apply Kd.R_alloc | apply Kd.R_drewN | apply Kd.R_drew)); exact Kd.R_mono HO273.out (fun _ hk => trivial)⟩, ⟨by repeat (first | (with_reducible first | exact HB.out | apply below_alloc | apply pw_below_drewN | apply below_drew1) | exact HB.out)⟩⟩
                        · replace c26 := Bool.eq_false_iff.mpr c26
                          subst c26
                          have H1 : (some false) = some true := by first | (rw [if_neg (show ¬ (false = true) by decide)] at H; exact H) | rfl
                          clear H
                          have H := H1
                          clear H1
                          exact absurd H (by simp)
                      · rw [if_neg c24] at H
                        have c24b0 : (t279 == 0) = false := beq_eq_false_iff_ne.mpr c24
                        have c24b1 : (t279 != 0) = true := bne_iff_ne.mpr c24
                        exact absurd H (by simp)
                    · rw [if_neg c23] at H
                      have c23b0 : ((rdOf ByteArray.empty t274 a1).toList == a2.toList) = false := beq_eq_false_iff_ne.mpr c23
                      have c23b1 : ((rdOf ByteArray.empty t274 a1).toList != a2.toList) = true := bne_iff_ne.mpr c23
                      exact absurd H (by simp)
                  · rw [if_neg c22] at H
                    exact absurd H (by simp)
                · rw [if_neg c21] at H
                  exact absurd H (by simp)
              · rw [if_neg c20] at H
                have c20b0 : ((t274.length : Int) == (wrap64 ((l0.length : Int) + 1))) = false := beq_eq_false_iff_ne.mpr c20
                have c20b1 : ((t274.length : Int) != (wrap64 ((l0.length : Int) + 1))) = true := bne_iff_ne.mpr c20
                exact absurd H (by simp)
            · rw [if_neg c18] at H
              have c18b0 : (t275 == 0) = false := beq_eq_false_iff_ne.mpr c18
              have c18b1 : (t275 != 0) = true := bne_iff_ne.mpr c18
              (first | rw [c18b0] | (simp only [i64_w, i32_w]; rw [c18b0]) | skip)
              have H' := Aside0.mk H
              clear H
              go_wp2
              go_meet
              case rel => exact ⟨_, H', ⟨by have := HJ3.out; first | omega | exact Nat.le_refl _⟩, ⟨by (with_reducible repeat (first | apply Kd.R_alloc | apply Kd.R_drewN | apply Kd.R_drew)); exact Kd.R_mono HO273.out (fun _ hk => trivial)⟩, ⟨by repeat (first | (with_reducible first | exact HB.out | apply below_alloc | apply pw_below_drewN | apply below_drew1) | exact HB.out)⟩⟩
          case rest =>
            clear HC13
            try clear c1
            try clear c2
            try clear p2
            try clear q2
            try clear hx2
            try clear c5
            try clear c6
            try clear p6
            try clear c7
            try clear c9
            try clear c11
            try clear c18
            try clear c18b0
            try clear c18b1
            try clear c20
            try clear c20b0
            try clear c20b1
            try clear c21
            try clear c21b0
            try clear c22
            try clear c22b0
            try clear c23
            try clear c23b0
            try clear c23b1
            try clear c24
            try clear c24b0
            try clear c24b1
            try clear c26
            try clear c28
            try clear p28
            try clear q28
            try clear hx28
            try clear hx282_0
            try clear p2
            try clear p282
            try clear q282
            obtain ⟨kq, HA, HJ12, HO_7, HB⟩ := hcut
            cases kq with
            | zero => exact absurd HA.out (by simp [backhaullaw13_RowsTurn.j1])
            | succ kj12 =>
              have H := HA.out
              clear HA
              simp only [backhaullaw13_RowsTurn.j1] at H
              replace H := Option.bind_eq_some_iff.mp H
              obtain ⟨⟨t284, t285⟩, A300, H⟩ := H
              replace H : (if t285 = 0 then (if 0 ≤ a1 then (if a1 < (y271.length : Int) then ((rows_Set_string.f t284 a1 (rdOf ByteArray.empty y271 a1)).bind fun bt289 => (if (t284.length : Int) = (l0.length : Int) then (if a1 < (t284.length : Int) then (if (rdOf ByteArray.empty t284 a1).toList = a2.toList then (if bt289.2 = 0 then ((backhaulref01_SameTexts.f kj12 bt289.1 y271).bind fun t294 => (if t294 = true then (backhaullaw13_RowsTurn.j2 kj12 l0 a1 y271) else (some false))) else (some false)) else (some false)) else (none)) else (some false))) else (none)) else (none)) else (backhaullaw13_RowsTurn.j2 kj12 l0 a1 y271)) = some true := H
              have A30 := Aside0.mk A300
              clear A300
              have HC31 := Aside0.mk H
              clear H
              go_upto_if 74 with (first | ((with_reducible refine gate_callee (f := 26) rfl ?_); refine goesL_ (some 70) rfl rfl Try.func26 (by kernel_rfl) rfl #[.slice A0 l0.length c0, .int .i64 a1, .string a2] rfl (by (try simp only [List.map_toArray, List.map_cons, List.map_nil]); first | done | rfl | (simp only [List.length_drop, List.length_take]; rfl)) ?_; (with_reducible refine (rows_Set_string.calls _ _ l0 a1 a2 t284 t285 _ ?side1 ?side2 A30.out).mono ?_); (case side1 => repeat (first | exact (Kd.C_below HR0.out HB.out) | (with_reducible refine Kd.C_alloc ?_ _) | (with_reducible refine Kd.C_drewN ?_ _) | (with_reducible refine Kd.C_drew ?_))); (case side2 => exact HC0.out); rintro e w32 ⟨v286, rfl, ho0, hb⟩; refine ⟨_, rfl, ?_⟩; have n0_ := Aside0.mk (Kd.R_elder' (by (with_reducible repeat (first | apply Kd.R_alloc | apply Kd.R_drewN | apply Kd.R_drew)); exact HO_7.out) (Kd.R_base ho0) hb); have n1_ := Aside0.mk (Kd.R_lower (Kd.R_new' ho0 (Kd.R_lt (by (with_reducible repeat (first | apply Kd.R_alloc | apply Kd.R_drewN | apply Kd.R_drew)); exact HO_7.out))) (below_size (by repeat (first | (with_reducible first | exact HB.out | apply below_alloc | apply pw_below_drewN | apply below_drew1) | exact HB.out)))); have n2_ := Aside0.mk (below_step (by repeat (first | (with_reducible first | exact HB.out | apply below_alloc | apply pw_below_drewN | apply below_drew1) | exact HB.out)) hb); clear HO_7; clear HB; have HO_7 := n0_; have HO287 := n1_; have HB := n2_; clear n0_ n1_ n2_; (try clear hb); (try clear hb2); (try clear hk); (try clear hi); (try clear ho0)))
              (try simp only [Act.put, List.setIfInBounds_toArray, List.set_cons_zero, List.set_cons_succ])
              go_cut [] (fun wc => ∃ (kq : Nat), Aside0 (backhaullaw13_RowsTurn.j2 kq l0 a1 y271 = some true) ∧ Aside0 (kq ≤ kj12) ∧ Aside0 (Kd.R Kd.string 9 wc w.heap.size (fun _ => True) v272 y271) ∧ Aside0 (Below w.heap.size w wc))
              case first =>
                have H := HC31.out
                clear HC31
                by_cases c33 : t285 = 0
                · rw [if_pos c33] at H
                  have c33b0 : (t285 == 0) = true := beq_iff_eq.mpr c33
                  have c33b1 : (t285 != 0) = false := bne_eq_false_iff_eq.mpr c33
                  clear c33
                  (first | rw [c33b0] | (simp only [i64_w, i32_w]; rw [c33b0]) | skip)
                  by_cases c34 : 0 ≤ a1
                  · rw [if_pos c34] at H
                    have c34b0 : decide (0 ≤ a1) = true := decide_eq_true c34
                    clear c34
                    by_cases c35 : a1 < (y271.length : Int)
                    · rw [if_pos c35] at H
                      have c35b0 : decide (a1 < (y271.length : Int)) = true := decide_eq_true c35
                      clear c35
                      replace H := Option.bind_eq_some_iff.mp H
                      obtain ⟨⟨t289, t290⟩, A360, H⟩ := H
                      replace H : (if (t284.length : Int) = (l0.length : Int) then (if a1 < (t284.length : Int) then (if (rdOf ByteArray.empty t284 a1).toList = a2.toList then (if t290 = 0 then ((backhaulref01_SameTexts.f kj12 t289 y271).bind fun t294 => (if t294 = true then (backhaullaw13_RowsTurn.j2 kj12 l0 a1 y271) else (some false))) else (some false)) else (some false)) else (none)) else (some false)) = some true := H
                      have A36 := Aside0.mk A360
                      clear A360
                      by_cases c37 : (t284.length : Int) = (l0.length : Int)
                      · rw [if_pos c37] at H
                        have c37b0 : ((t284.length : Int) == (l0.length : Int)) = true := beq_iff_eq.mpr c37
                        have c37b1 : ((t284.length : Int) != (l0.length : Int)) = false := bne_eq_false_iff_eq.mpr c37
                        have c37b2 : (t284.length == l0.length) = true := by first | simpa using c37 | (simp at c37 ⊢; omega)
                        clear c37
                        by_cases c38 : a1 < (t284.length : Int)
                        · rw [if_pos c38] at H
                          have c38b0 : decide (a1 < (t284.length : Int)) = true := decide_eq_true c38
                          clear c38
                          by_cases c39 : (rdOf ByteArray.empty t284 a1).toList = a2.toList
                          · rw [if_pos c39] at H
                            have c39b0 : ((rdOf ByteArray.empty t284 a1).toList == a2.toList) = true := beq_iff_eq.mpr c39
                            have c39b1 : ((rdOf ByteArray.empty t284 a1).toList != a2.toList) = false := bne_eq_false_iff_eq.mpr c39
                            clear c39
                            by_cases c40 : t290 = 0
                            · rw [if_pos c40] at H
                              have c40b0 : (t290 == 0) = true := beq_iff_eq.mpr c40
                              have c40b1 : (t290 != 0) = false := bne_eq_false_iff_eq.mpr c40
                              clear c40
                              replace H := Option.bind_eq_some_iff.mp H
                              obtain ⟨t294, A410, H⟩ := H
                              replace H : (if t294 = true then (backhaullaw13_RowsTurn.j2 kj12 l0 a1 y271) else (some false)) = some true := H
                              have A41 := Aside0.mk A410
                              clear A410
                              by_cases c42 : t294 = true
                              · subst c42
                                have H1 : (backhaullaw13_RowsTurn.j2 kj12 l0 a1 y271) = some true := by first | (rw [if_pos rfl] at H; exact H) | rfl
                                clear H
                                have H := H1
                                clear H1
                                have H' := Aside0.mk H
                                clear H
                                obtain ⟨Ao43, co43, eo43⟩ := Kd.R_slice HO_7.out
                                subst eo43
                                have p288 : 0 ≤ (a1 : Int) := of_decide_eq_true (by first | (with_reducible assumption) | assumption)
                                have q288 : a1 < (y271.length : Int) := of_decide_eq_true (by first | (with_reducible assumption) | assumption)
                                obtain ⟨ad288, e288, hx288_0⟩ := Kd.at_string (Kd.R_reads' HO_7.out).2.2 a1 p288 q288
                                cases e288
                                replace p288 := eq_true p288
                                replace q288 := eq_true q288
                                obtain ⟨Ao44, co44, eo44⟩ := Kd.R_slice HO287.out
                                subst eo44
                                go_wp2_with (first | ((with_reducible refine gate_callee (f := 26) rfl ?_); refine goesL_ (some 82) rfl rfl Try.func26 (by kernel_rfl) rfl #[.slice Ao44 t284.length co44, .int .i64 a1, .string (rdOf ByteArray.empty y271 a1)] rfl (by (try simp only [List.map_toArray, List.map_cons, List.map_nil]); first | done | rfl | (simp only [List.length_drop, List.length_take]; rfl)) ?_; (with_reducible refine (rows_Set_string.calls _ _ t284 a1 (rdOf ByteArray.empty y271 a1) t289 t290 _ ?side1 ?side2 A36.out).mono ?_); (case side1 => repeat (first | exact (Kd.R_reads' HO287.out).2.2 | (with_reducible refine Kd.C_alloc ?_ _) | (with_reducible refine Kd.C_drewN ?_ _) | (with_reducible refine Kd.C_drew ?_))); (case side2 => exact (Kd.R_reads' HO287.out).2.1); rintro e w45 ⟨v291, rfl, ho0, hb⟩; refine ⟨_, rfl, ?_⟩; have n0_ := Aside0.mk (Kd.R_elder' (by (with_reducible repeat (first | apply Kd.R_alloc | apply Kd.R_drewN | apply Kd.R_drew)); exact HO_7.out) (Kd.R_base ho0) hb); have n1_ := Aside0.mk (Kd.R_elder' (by (with_reducible repeat (first | apply Kd.R_alloc | apply Kd.R_drewN | apply Kd.R_drew)); exact HO287.out) (Kd.R_base ho0) hb); have n2_ := Aside0.mk (Kd.R_lower (Kd.R_new' (Kd.R_new' ho0 (Kd.R_lt (by (with_reducible repeat (first | apply Kd.R_alloc | apply Kd.R_drewN | apply Kd.R_drew)); exact HO_7.out))) (Kd.R_lt (by (with_reducible repeat (first | apply Kd.R_alloc | apply Kd.R_drewN | apply Kd.R_drew)); exact HO287.out))) (below_size (by repeat (first | (with_reducible first | exact HB.out | apply below_alloc | apply pw_below_drewN | apply below_drew1) | exact HB.out)))); have n3_ := Aside0.mk (below_step (by repeat (first | (with_reducible first | exact HB.out | apply below_alloc | apply pw_below_drewN | apply below_drew1) | exact HB.out)) hb); clear HO_7; clear HO287; clear HB; have HO_7 := n0_; have HO287 := n1_; have HO292 := n2_; have HB := n3_; clear n0_ n1_ n2_ n3_; (try clear hb); (try clear hb2); (try clear hk); (try clear hi); (try clear ho0); have p293 : 0 ≤ (a1 : Int) := of_decide_eq_true (by first | (with_reducible assumption) | assumption); have q293 : a1 < (t284.length : Int) := of_decide_eq_true (by first | (with_reducible assumption) | assumption); obtain ⟨ad293, e293, hx293_0⟩ := Kd.at_string (Kd.R_reads' HO287.out).2.2 a1 p293 q293; cases e293; replace p293 := eq_true p293; replace q293 := eq_true q293; obtain ⟨Ao46, co46, eo46⟩ := Kd.R_slice HO292.out; subst eo46) | (go_at_call 30; (with_reducible refine (backhaulref01_SameTexts.calls kj12 _ _ t289 _ _ y271 true _ ?side1 ?side2 ?side3 ?side4 A41.out).mono ?_); (case side1 => repeat (first | exact (Kd.R_reads' HO292.out).2.2 | (with_reducible refine Kd.C_alloc ?_ _) | (with_reducible refine Kd.C_drewN ?_ _) | (with_reducible refine Kd.C_drew ?_))); (case side2 => exact (Kd.R_reads' HO292.out).2.1); (case side3 => repeat (first | exact (Kd.R_reads' HO_7.out).2.2 | (with_reducible refine Kd.C_alloc ?_ _) | (with_reducible refine Kd.C_drewN ?_ _) | (with_reducible refine Kd.C_drew ?_))); (case side4 => exact (Kd.R_reads' HO_7.out).2.1); rintro e w' ⟨rfl, ⟨nd, rfl⟩⟩))
                                go_meet
                                case rel => exact ⟨_, H', ⟨by have := HJ3.out; have := HJ12.out; first | omega | exact Nat.le_refl _⟩, ⟨by (with_reducible repeat (first | apply Kd.R_alloc | apply Kd.R_drewN | apply Kd.R_drew)); exact Kd.R_mono HO_7.out (fun _ hk => trivial)⟩, ⟨by repeat (first | (with_reducible first | exact HB.out | apply below_alloc | apply pw_below_drewN | apply below_drew1) | exact HB.out)⟩⟩
                              · replace c42 := Bool.eq_false_iff.mpr c42
                                subst c42
                                have H1 : (some false) = some true := by first | (rw [if_neg (show ¬ (false = true) by decide)] at H; exact H) | rfl
                                clear H
                                have H := H1
                                clear H1
                                exact absurd H (by simp)
                            · rw [if_neg c40] at H
                              have c40b0 : (t290 == 0) = false := beq_eq_false_iff_ne.mpr c40
                              have c40b1 : (t290 != 0) = true := bne_iff_ne.mpr c40
                              exact absurd H (by simp)
                          · rw [if_neg c39] at H
                            have c39b0 : ((rdOf ByteArray.empty t284 a1).toList == a2.toList) = false := beq_eq_false_iff_ne.mpr c39
                            have c39b1 : ((rdOf ByteArray.empty t284 a1).toList != a2.toList) = true := bne_iff_ne.mpr c39
                            exact absurd H (by simp)
                        · rw [if_neg c38] at H
                          exact absurd H (by simp)
                      · rw [if_neg c37] at H
                        have c37b0 : ((t284.length : Int) == (l0.length : Int)) = false := beq_eq_false_iff_ne.mpr c37
                        have c37b1 : ((t284.length : Int) != (l0.length : Int)) = true := bne_iff_ne.mpr c37
                        have c37b2 : (t284.length == l0.length) = false := by first | simpa using c37 | (simp at c37 ⊢; omega)
                        exact absurd H (by simp)
                    · rw [if_neg c35] at H
                      exact absurd H (by simp)
                  · rw [if_neg c34] at H
                    exact absurd H (by simp)
                · rw [if_neg c33] at H
                  have c33b0 : (t285 == 0) = false := beq_eq_false_iff_ne.mpr c33
                  have c33b1 : (t285 != 0) = true := bne_iff_ne.mpr c33
                  (first | rw [c33b0] | (simp only [i64_w, i32_w]; rw [c33b0]) | skip)
                  have H' := Aside0.mk H
                  clear H
                  go_wp2
                  go_meet
                  case rel => exact ⟨_, H', ⟨by have := HJ3.out; have := HJ12.out; first | omega | exact Nat.le_refl _⟩, ⟨by (with_reducible repeat (first | apply Kd.R_alloc | apply Kd.R_drewN | apply Kd.R_drew)); exact Kd.R_mono HO_7.out (fun _ hk => trivial)⟩, ⟨by repeat (first | (with_reducible first | exact HB.out | apply below_alloc | apply pw_below_drewN | apply below_drew1) | exact HB.out)⟩⟩
              case rest =>
                clear HC31
                try clear c1
                try clear c2
                try clear p2
                try clear q2
                try clear hx2
                try clear c3
                try clear c4
                try clear c5
                try clear c6
                try clear p6
                try clear c7
                try clear c9
                try clear c11
                try clear c18
                try clear c18b0
                try clear c18b1
                try clear c20
                try clear c20b0
                try clear c20b1
                try clear c21
                try clear c21b0
                try clear c22
                try clear c22b0
                try clear c23
                try clear c23b0
                try clear c23b1
                try clear c24
                try clear c24b0
                try clear c24b1
                try clear c26
                try clear c28
                try clear p28
                try clear q28
                try clear hx28
                try clear p29
                try clear q29
                try clear hx29
                try clear c33
                try clear c33b0
                try clear c33b1
                try clear c34
                try clear c34b0
                try clear c35
                try clear c35b0
                try clear c37
                try clear c37b0
                try clear c37b1
                try clear c37b2
                try clear c38
                try clear c38b0
                try clear c39
                try clear c39b0
                try clear c39b1
                try clear c40
                try clear c40b0
                try clear c40b1
                try clear c42
                try clear hx282_0
                try clear hx288_0
                try clear hx293_0
                try clear p2
                try clear p28
                try clear p282
                try clear p288
                try clear p293
                try clear p6
                try clear q2
                try clear q28
                try clear q282
                try clear q288
                try clear q293
                obtain ⟨kq, HA, HJ30, HO_7, HB⟩ := hcut
                cases kq with
                | zero => exact absurd HA.out (by simp [backhaullaw13_RowsTurn.j2])
                | succ kj30 =>
                  have H := HA.out
                  clear HA
                  simp only [backhaullaw13_RowsTurn.j2] at H
                  replace H := Option.bind_eq_some_iff.mp H
                  obtain ⟨t295, A470, H⟩ := H
                  replace H : ((backhaulref01_SameTexts.f kj30 l0 y271).bind fun t298 => (if t298 = true then (if (t295.length : Int) ≤ (l0.length : Int) then (if 0 ≤ (wrap64 ((l0.length : Int) - (t295.length : Int))) then (if (wrap64 ((l0.length : Int) - (t295.length : Int))) ≤ (l0.length : Int) then ((backhaulref01_SameTexts.f kj30 t295 (l0.drop ((wrap64 ((l0.length : Int) - (t295.length : Int))) : Int).toNat)).bind fun t300 => (if t300 = true then ((backhaullaw13_awake.f).bind fun t301 => (if t301 = true then (some true) else (some false))) else (some false))) else (none)) else (none)) else (some false)) else (some false))) = some true := H
                  have A47 := Aside0.mk A470
                  clear A470
                  replace H := Option.bind_eq_some_iff.mp H
                  obtain ⟨t298, A480, H⟩ := H
                  replace H : (if t298 = true then (if (t295.length : Int) ≤ (l0.length : Int) then (if 0 ≤ (wrap64 ((l0.length : Int) - (t295.length : Int))) then (if (wrap64 ((l0.length : Int) - (t295.length : Int))) ≤ (l0.length : Int) then ((backhaulref01_SameTexts.f kj30 t295 (l0.drop ((wrap64 ((l0.length : Int) - (t295.length : Int))) : Int).toNat)).bind fun t300 => (if t300 = true then ((backhaullaw13_awake.f).bind fun t301 => (if t301 = true then (some true) else (some false))) else (some false))) else (none)) else (none)) else (some false)) else (some false)) = some true := H
                  have A48 := Aside0.mk A480
                  clear A480
                  by_cases c49 : t298 = true
                  · subst c49
                    have H1 : (if (t295.length : Int) ≤ (l0.length : Int) then (if 0 ≤ (wrap64 ((l0.length : Int) - (t295.length : Int))) then (if (wrap64 ((l0.length : Int) - (t295.length : Int))) ≤ (l0.length : Int) then ((backhaulref01_SameTexts.f kj30 t295 (l0.drop ((wrap64 ((l0.length : Int) - (t295.length : Int))) : Int).toNat)).bind fun t300 => (if t300 = true then ((backhaullaw13_awake.f).bind fun t301 => (if t301 = true then (some true) else (some false))) else (some false))) else (none)) else (none)) else (some false)) = some true := by first | (rw [if_pos rfl] at H; exact H) | rfl
                    clear H
                    have H := H1
                    clear H1
                    by_cases c50 : (t295.length : Int) ≤ (l0.length : Int)
                    · rw [if_pos c50] at H
                      have c50b0 : decide ((t295.length : Int) ≤ (l0.length : Int)) = true := decide_eq_true c50
                      have c50b1 : decide (t295.length ≤ l0.length) = true := decide_eq_true (Int.ofNat_le.mp c50)
                      clear c50
                      obtain ⟨ji51, hji51⟩ : ∃ j_ : Int, (wrap64 ((l0.length : Int) - (t295.length : Int))) = j_ := ⟨_, rfl⟩
                      replace H : (if 0 ≤ (ji51) then (if (ji51) ≤ (l0.length : Int) then ((backhaulref01_SameTexts.f kj30 t295 (l0.drop ((ji51) : Int).toNat)).bind fun t300 => (if t300 = true then ((backhaullaw13_awake.f).bind fun t301 => (if t301 = true then (some true) else (some false))) else (some false))) else (none)) else (none)) = some true := by first | (rw [hji51] at H; exact H) | (simp only [hji51] at H ⊢; exact H)
                      (try rw [hji51] at A47)
                      (try rw [hji51] at A48)
                      have hji51w : (IntKind.i64.wrap ((l0.length : Int) - (t295.length : Int))) = ji51 := (i64_w _).trans hji51
                      by_cases c52 : 0 ≤ (ji51)
                      · rw [if_pos c52] at H
                        have c52b0 := eq_true c52
                        have c52b1 : decide (0 ≤ (ji51)) = true := decide_eq_true c52
                        clear c52
                        by_cases c53 : (ji51) ≤ (l0.length : Int)
                        · rw [if_pos c53] at H
                          have c53b0 := eq_true c53
                          have c53b1 : decide ((ji51) ≤ (l0.length : Int)) = true := decide_eq_true c53
                          clear c53
                          replace H := Option.bind_eq_some_iff.mp H
                          obtain ⟨t300, A540, H⟩ := H
                          replace H : (if t300 = true then ((backhaullaw13_awake.f).bind fun t301 => (if t301 = true then (some true) else (some false))) else (some false)) = some true := H
                          have A54 := Aside0.mk A540
                          clear A540
                          by_cases c55 : t300 = true
                          · subst c55
                            have H1 : ((backhaullaw13_awake.f).bind fun t301 => (if t301 = true then (some true) else (some false))) = some true := by first | (rw [if_pos rfl] at H; exact H) | rfl
                            clear H
                            have H := H1
                            clear H1
                            replace H := Option.bind_eq_some_iff.mp H
                            obtain ⟨t301, A560, H⟩ := H
                            replace H : (if t301 = true then (some true) else (some false)) = some true := H
                            have A56 := Aside0.mk A560
                            clear A560
                            by_cases c57 : t301 = true
                            · subst c57
                              have H1 : (some true) = some true := by first | (rw [if_pos rfl] at H; exact H) | rfl
                              clear H
                              have H := H1
                              clear H1
                              clear H
                              go_wp2_with (first | ((with_reducible refine gate_callee (f := 31) rfl ?_); refine goesL_ (some 110) rfl rfl Try.func31 (by kernel_rfl) rfl #[.slice A0 l0.length c0, .int .i64 a1] rfl (by (try simp only [List.map_toArray, List.map_cons, List.map_nil]); first | done | rfl | (simp only [List.length_drop, List.length_take]; rfl)) ?_; (with_reducible refine (rows_Last_string.calls _ _ l0 a1 t295 _ ?side1 ?side2 A47.out).mono ?_); (case side1 => repeat (first | exact (Kd.C_below HR0.out HB.out) | (with_reducible refine Kd.C_alloc ?_ _) | (with_reducible refine Kd.C_drewN ?_ _) | (with_reducible refine Kd.C_drew ?_))); (case side2 => exact HC0.out); rintro e w58 ⟨v296, rfl, ho0, hb⟩; refine ⟨_, rfl, ?_⟩; have n0_ := Aside0.mk (Kd.R_elder' (by (with_reducible repeat (first | apply Kd.R_alloc | apply Kd.R_drewN | apply Kd.R_drew)); exact HO_7.out) (Kd.R_base ho0) hb); have n1_ := Aside0.mk (Kd.R_lower (Kd.R_new' ho0 (Kd.R_lt (by (with_reducible repeat (first | apply Kd.R_alloc | apply Kd.R_drewN | apply Kd.R_drew)); exact HO_7.out))) (below_size (by repeat (first | (with_reducible first | exact HB.out | apply below_alloc | apply pw_below_drewN | apply below_drew1) | exact HB.out)))); have n2_ := Aside0.mk (below_step (by repeat (first | (with_reducible first | exact HB.out | apply below_alloc | apply pw_below_drewN | apply below_drew1) | exact HB.out)) hb); clear HO_7; clear HB; have HO_7 := n0_; have HO297 := n1_; have HB := n2_; clear n0_ n1_ n2_; (try clear hb); (try clear hb2); (try clear hk); (try clear hi); (try clear ho0); obtain ⟨Ao59, co59, eo59⟩ := Kd.R_slice HO_7.out; subst eo59) | ((with_reducible refine gate_callee (f := 30) rfl ?_); refine goesL_ (some 113) rfl rfl Try.func30 (by kernel_rfl) rfl #[.slice A0 l0.length c0, .slice Ao59 y271.length co59] rfl (by (try simp only [List.map_toArray, List.map_cons, List.map_nil]); first | done | rfl | (simp only [List.length_drop, List.length_take]; rfl)) ?_; (with_reducible refine (backhaulref01_SameTexts.calls kj30 _ _ l0 _ _ y271 true _ ?side1 ?side2 ?side3 ?side4 A48.out).mono ?_); (case side1 => repeat (first | exact (Kd.C_below HR0.out HB.out) | (with_reducible refine Kd.C_alloc ?_ _) | (with_reducible refine Kd.C_drewN ?_ _) | (with_reducible refine Kd.C_drew ?_))); (case side2 => exact HC0.out); (case side3 => repeat (first | exact (Kd.R_reads' HO_7.out).2.2 | (with_reducible refine Kd.C_alloc ?_ _) | (with_reducible refine Kd.C_drewN ?_ _) | (with_reducible refine Kd.C_drew ?_))); (case side4 => exact (Kd.R_reads' HO_7.out).2.1); rintro e w' ⟨rfl, ⟨nd, rfl⟩⟩; refine ⟨_, rfl, ?_⟩; obtain ⟨Ao60, co60, eo60⟩ := Kd.R_slice HO297.out; subst eo60; obtain ⟨i061, hi061, _, hsz61, _⟩ := info_parts info9; obtain ⟨A61, hcut61, hA61, hC61⟩ := print_drop_of (P := Try.prog) Value.string (⟨#[]⟩ : ByteArray) 30 9 .i64 Try.underlying30 hi061 hsz61 A0 c0 l0 (ji51) (of_decide_eq_true (by first | (with_reducible assumption) | assumption)) (of_decide_eq_true (by first | (with_reducible assumption) | assumption)) HC0.out; have HR299 := Aside0.mk (Kd.C_of_reads (h1 := fun _ => rfl) (hA61 _ (Kd.reads_of_C HR0.out))); have HC299 := Aside0.mk hC61; clear hA61 hC61 hi061 hsz61) | (go_at_call 30; refine calls_of_args (args' := #[.slice Ao60 t295.length co60, .slice A61 (l0.drop ((ji51) : Int).toNat).length (c0 - (ji51).toNat)]) (by first | rfl | (simp only [List.length_drop, List.length_take]; done) | (simp only [List.length_drop, List.length_take]; rfl)) ?_; (with_reducible refine (backhaulref01_SameTexts.calls kj30 _ _ t295 _ _ (l0.drop ((ji51) : Int).toNat) true _ ?side1 ?side2 ?side3 ?side4 A54.out).mono ?_); (case side1 => repeat (first | exact (Kd.R_reads' HO297.out).2.2 | (with_reducible refine Kd.C_alloc ?_ _) | (with_reducible refine Kd.C_drewN ?_ _) | (with_reducible refine Kd.C_drew ?_))); (case side2 => exact (Kd.R_reads' HO297.out).2.1); (case side3 => repeat (first | exact (Kd.C_below HR299.out (by repeat (first | (with_reducible first | exact HB.out | apply below_alloc | apply pw_below_drewN | apply below_drew1) | exact HB.out))) | (with_reducible refine Kd.C_alloc ?_ _) | (with_reducible refine Kd.C_drewN ?_ _) | (with_reducible refine Kd.C_drew ?_))); (case side4 => exact HC299.out); rintro e w' ⟨rfl, ⟨nd, rfl⟩⟩) | (go_at_call 18; (with_reducible refine (backhaullaw13_awake.calls  true _ A56.out).mono ?_); rintro e w62 ⟨rfl, hb⟩; have n0_ := Aside0.mk (Kd.R_below (by (with_reducible repeat (first | apply Kd.R_alloc | apply Kd.R_drewN | apply Kd.R_drew)); exact HO_7.out) hb); have n1_ := Aside0.mk (Kd.R_below (by (with_reducible repeat (first | apply Kd.R_alloc | apply Kd.R_drewN | apply Kd.R_drew)); exact HO297.out) hb); have n2_ := Aside0.mk (below_step (by repeat (first | (with_reducible first | exact HB.out | apply below_alloc | apply pw_below_drewN | apply below_drew1) | exact HB.out)) hb); clear HO_7; clear HO297; clear HB; have HO_7 := n0_; have HO297 := n1_; have HB := n2_; clear n0_ n1_ n2_; (try clear hb); (try clear hb2); (try clear hk); (try clear hi)))
                              go_ret
                              exact ⟨by first | rfl | (simp [errW_none, errW_some] <;> rfl) | (simp only [← hji51]; first | rfl | (simp [errW_none, errW_some] <;> rfl)) | (simp [*, errW_none, errW_some] <;> rfl), by repeat (first | (with_reducible first | exact HB.out | apply below_alloc | apply pw_below_drewN | apply below_drew1) | exact HB.out)⟩
                            · replace c57 := Bool.eq_false_iff.mpr c57
                              subst c57
                              have H1 : (some false) = some true := by first | (rw [if_neg (show ¬ (false = true) by decide)] at H; exact H) | rfl
                              clear H
                              have H := H1
                              clear H1
                              exact absurd H (by simp)
                          · replace c55 := Bool.eq_false_iff.mpr c55
                            subst c55
                            have H1 : (some false) = some true := by first | (rw [if_neg (show ¬ (false = true) by decide)] at H; exact H) | rfl
                            clear H
                            have H := H1
                            clear H1
                            exact absurd H (by simp)
                        · rw [if_neg c53] at H
                          exact absurd H (by simp)
                      · rw [if_neg c52] at H
                        exact absurd H (by simp)
                    · rw [if_neg c50] at H
                      have c50b0 : decide ((t295.length : Int) ≤ (l0.length : Int)) = false := decide_eq_false c50
                      have c50b1 : decide (t295.length ≤ l0.length) = false := decide_eq_false (fun h => c50 (Int.ofNat_le.mpr h))
                      clear c50
                      exact absurd H (by simp)
                  · replace c49 := Bool.eq_false_iff.mpr c49
                    subst c49
                    have H1 : (some false) = some true := by first | (rw [if_neg (show ¬ (false = true) by decide)] at H; exact H) | rfl
                    clear H
                    have H := H1
                    clear H1
                    exact absurd H (by simp)
        · rw [if_neg c11] at H
          exact absurd H (by simp)

/-- THE ONE PURE STATEMENT of backhaullaw13_RowsTurn. -/
def backhaullaw13_RowsTurn.Pure : Prop := ∀ (l0 : List ByteArray) (a1 : Int) (a2 : ByteArray), (l0.length ≤ maxLen ∧ ∀ x ∈ l0, x.size ≤ maxLen) → (Lit.int .i64 a1).wf = true → a2.size ≤ maxLen → ∃ k, backhaullaw13_RowsTurn.f k l0 a1 a2 = some true

end Go.Proofs.Ytabapiofkipkoaa.F
