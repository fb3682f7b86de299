-- printed by xprint (the session's own program) out of the translation
import Derived.Test.YtabapiofkipkoaaF
import Derived.Test.YtabapiofkipkoaaF34
import Derived.Test.YtabapiofkipkoaaF35
namespace Go.Proofs.Ytabapiofkipkoaa.F
open Go.RowKit Go.Proofs.YtabapiofkipkoaaX Go.Proofs.YtabapiofkipkoaaW.PrintWords Go.Proofs.YtabapiofkipkoaaW.PrintLast Go.Proofs.YtabapiofkipkoaaW.PrintMore
attribute [local go_sem] max2_int min2_int max_two min_two max_three min_three max_four min_four   -- for this text's walks alone
set_option linter.unusedVariables false
set_option linter.unusedSimpArgs false

/-! ### backhaullaw05_OctetOrder: function 12 -/
def backhaullaw05_OctetOrder.l0 : Nat → Int → Int → Int → Option (Bool)
  | 0, _, _, _ => none
  | k + 1, x0, x1, x5 => if x5 ≤ 8 then ((octet_Put.f k x0 x5).bind fun bt559 => ((octet_Put.f k x1 x5).bind fun bt561 => (if bt559.2 = 0 then (if bt561.2 = 0 then (if ((Op.bytesLess bt559.1.toList bt561.1.toList) != (decide (x0 < x1))) = true then (some false) else (backhaullaw05_OctetOrder.l0 k x0 x1 (wrap64 (x5 + x5)))) else (backhaullaw05_OctetOrder.l0 k x0 x1 (wrap64 (x5 + x5)))) else (backhaullaw05_OctetOrder.l0 k x0 x1 (wrap64 (x5 + x5)))))) else ((backhaullaw05_awake.f).bind fun t558 => (if t558 = true then (some true) else (some false)))
def backhaullaw05_OctetOrder.f (k : Nat) (a0 : Int) (a1 : Int) : Option (Bool) := backhaullaw05_OctetOrder.l0 k a0 a1 1
theorem backhaullaw05_OctetOrder.mono_l : ∀ k, (∀ y0 y1 y2, LeO (backhaullaw05_OctetOrder.l0 k y0 y1 y2) (backhaullaw05_OctetOrder.l0 (k + 1) y0 y1 y2))
  | 0 => fun _ _ _ r h => by simp [backhaullaw05_OctetOrder.l0] at h
  | k + 1 => by
    have ih0 := backhaullaw05_OctetOrder.mono_l k
    · intro y0 y1 y2
      unfold backhaullaw05_OctetOrder.l0
      repeat' first
      | (with_reducible exact ih0 _ _ _)
      | (with_reducible exact octet_Put.mono _ _ _)
      | (with_reducible exact LeO.refl _)
      | (with_reducible exact LeO.none _)
      | (with_reducible refine LeO.ite ?_ ?_)
      | (with_reducible refine LeO.bind ?_ (fun _ => ?_))
      | exact ih0 _ _ _
      | exact octet_Put.mono _ _ _
      | exact LeO.none _
      | refine LeO.ite ?_ ?_
      | refine LeO.bind ?_ (fun _ => ?_)
theorem backhaullaw05_OctetOrder.mono : ∀ a0 a1 k, LeO (backhaullaw05_OctetOrder.f k a0 a1) (backhaullaw05_OctetOrder.f (k + 1) a0 a1) := by
  intro a0 a1 k
  have ih0 := backhaullaw05_OctetOrder.mono_l k
  unfold backhaullaw05_OctetOrder.f
  repeat' first
      | (with_reducible exact ih0 _ _ _)
      | (with_reducible exact octet_Put.mono _ _ _)
      | (with_reducible exact LeO.refl _)
      | (with_reducible exact LeO.none _)
      | (with_reducible refine LeO.ite ?_ ?_)
      | (with_reducible refine LeO.bind ?_ (fun _ => ?_))
      | exact ih0 _ _ _
      | exact octet_Put.mono _ _ _
      | exact LeO.none _
      | refine LeO.ite ?_ ?_
      | refine LeO.bind ?_ (fun _ => ?_)
set_option maxHeartbeats 8000000 in
set_option maxRecDepth 100000 in
theorem backhaullaw05_OctetOrder.calls (k : Nat) (a0 : Int) (a1 : Int) (w : World) (h : backhaullaw05_OctetOrder.f k a0 a1 = some true) :
    Calls Try.prog 12 #[.int .i64 a0, .int .i64 a1] w fun e w' => e = .returned (.bool true) ∧ Below w.heap.size w w' := by
  have HB := Aside0.mk (Below.refl w.heap.size w)
  have H : (backhaullaw05_OctetOrder.l0 k a0 a1 1) = some true := h
  clear h
  have H' := Aside0.mk H
  clear H
  go_enter Try.func12, Try.ntmps12
  go_wp2
  go_loopg [5] k (fun kq v5 w' => ∃ (x5_1 : Int), v5 = .int .i64 x5_1 ∧ Aside0 (backhaullaw05_OctetOrder.l0 kq a0 a1 x5_1 = some true) ∧ Aside0 (kq ≤ k) ∧ Aside0 (Below w.heap.size w w'))
  case atStart => exact ⟨(1), (by first | rfl | (simp; done) | (simp [*]; done)), H', ⟨Nat.le_refl _⟩, ⟨by repeat (first | (with_reducible first | exact HB.out | apply below_alloc | apply pw_below_drewN | apply below_drew1) | exact HB.out)⟩⟩
  case round =>
    clear H'
    try clear c1
    try clear p2
    obtain ⟨x5_1, rfl, HA, HK1, HB⟩ := hrel
    cases gk with
    | zero => exact absurd HA.out (by simp [backhaullaw05_OctetOrder.l0])
    | succ k1 =>
      have H := HA.out
      clear HA
      simp only [backhaullaw05_OctetOrder.l0] at H
      by_cases c3 : x5_1 ≤ 8
      · rw [if_pos c3] at H
        have c3b0 : decide (x5_1 ≤ 8) = true := decide_eq_true c3
        clear c3
        replace H := Option.bind_eq_some_iff.mp H
        obtain ⟨⟨t559, t560⟩, A40, H⟩ := H
        replace H : ((octet_Put.f k1 a1 x5_1).bind fun bt561 => (if t560 = 0 then (if bt561.2 = 0 then (if ((Op.bytesLess t559.toList bt561.1.toList) != (decide (a0 < a1))) = true then (some false) else (backhaullaw05_OctetOrder.l0 k1 a0 a1 (wrap64 (x5_1 + x5_1)))) else (backhaullaw05_OctetOrder.l0 k1 a0 a1 (wrap64 (x5_1 + x5_1)))) else (backhaullaw05_OctetOrder.l0 k1 a0 a1 (wrap64 (x5_1 + x5_1))))) = some true := H
        have A4 := Aside0.mk A40
        clear A40
        replace H := Option.bind_eq_some_iff.mp H
        obtain ⟨⟨t561, t562⟩, A50, H⟩ := H
        replace H : (if t560 = 0 then (if t562 = 0 then (if ((Op.bytesLess t559.toList t561.toList) != (decide (a0 < a1))) = true then (some false) else (backhaullaw05_OctetOrder.l0 k1 a0 a1 (wrap64 (x5_1 + x5_1)))) else (backhaullaw05_OctetOrder.l0 k1 a0 a1 (wrap64 (x5_1 + x5_1)))) else (backhaullaw05_OctetOrder.l0 k1 a0 a1 (wrap64 (x5_1 + x5_1)))) = some true := H
        have A5 := Aside0.mk A50
        clear A50
        by_cases c6 : t560 = 0
        · rw [if_pos c6] at H
          have c6b0 : (t560 == 0) = true := beq_iff_eq.mpr c6
          have c6b1 : (t560 != 0) = false := bne_eq_false_iff_eq.mpr c6
          clear c6
          by_cases c7 : t562 = 0
          · rw [if_pos c7] at H
            have c7b0 : (t562 == 0) = true := beq_iff_eq.mpr c7
            have c7b1 : (t562 != 0) = false := bne_eq_false_iff_eq.mpr c7
            clear c7
            by_cases c8 : ((Op.bytesLess t559.toList t561.toList) != (decide (a0 < a1))) = true
            · rw [if_pos c8] at H
              have c8b0 : ((Op.bytesLess t559.toList t561.toList) != (decide (a0 < a1))) = true := c8
              (try (have c8b1 : decide ((Op.bytesLess t559.toList t561.toList) = (decide (a0 < a1))) = false := by simpa using c8))
              (try (have c8b2 : ((Op.bytesLess t559.toList t561.toList) == (decide (a0 < a1))) = false := by simpa using c8))
              (try (have c8b3 : ¬ ((Op.bytesLess t559.toList t561.toList) = (decide (a0 < a1))) := by simpa using c8))
              clear c8
              exact absurd H (by simp)
            · rw [if_neg c8] at H
              have c8b0 : ((Op.bytesLess t559.toList t561.toList) != (decide (a0 < a1))) = false := by simpa using c8
              (try (have c8b1 : decide ((Op.bytesLess t559.toList t561.toList) = (decide (a0 < a1))) = true := by simpa using c8))
              (try (have c8b2 : ((Op.bytesLess t559.toList t561.toList) == (decide (a0 < a1))) = true := by simpa using c8))
              clear c8
              have H' := Aside0.mk H
              clear H
              go_wp2_with (first | ((with_reducible refine gate_callee (f := 35) rfl ?_); refine goesL_ (some 18) rfl rfl Try.func35 (by kernel_rfl) rfl #[.int .i64 a0, .int .i64 x5_1] rfl (by (try simp only [List.map_toArray, List.map_cons, List.map_nil]); first | done | rfl | (simp only [List.length_drop, List.length_take]; rfl)) ?_; (with_reducible refine (octet_Put.calls k1 a0 x5_1 t559 t560 _ A4.out).mono ?_); rintro e w9 ⟨rfl, hb⟩; refine ⟨_, rfl, ?_⟩; have n0_ := Aside0.mk (below_step (by repeat (first | (with_reducible first | exact HB.out | apply below_alloc | apply pw_below_drewN | apply below_drew1) | exact HB.out)) hb); clear HB; have HB := n0_; clear n0_; (try clear hb); (try clear hb2); (try clear hk); (try clear hi)) | ((with_reducible refine gate_callee (f := 35) rfl ?_); refine goesL_ (some 24) rfl rfl Try.func35 (by kernel_rfl) rfl #[.int .i64 a1, .int .i64 x5_1] rfl (by (try simp only [List.map_toArray, List.map_cons, List.map_nil]); first | done | rfl | (simp only [List.length_drop, List.length_take]; rfl)) ?_; (with_reducible refine (octet_Put.calls k1 a1 x5_1 t561 t562 _ A5.out).mono ?_); rintro e w10 ⟨rfl, hb⟩; refine ⟨_, rfl, ?_⟩; have n0_ := Aside0.mk (below_step (by repeat (first | (with_reducible first | exact HB.out | apply below_alloc | apply pw_below_drewN | apply below_drew1) | exact HB.out)) hb); clear HB; have HB := n0_; clear n0_; (try clear hb); (try clear hb2); (try clear hk); (try clear hi)))
              go_roundg k1
              case measure => have := HK1.out; omega
              case rel => exact ⟨(wrap64 (x5_1 + x5_1)), (by first | rfl | (simp; done) | (simp [*]; done)), H', ⟨by have := HK1.out; omega⟩, ⟨by repeat (first | (with_reducible first | exact HB.out | apply below_alloc | apply pw_below_drewN | apply below_drew1) | exact HB.out)⟩⟩
          · rw [if_neg c7] at H
            have c7b0 : (t562 == 0) = false := beq_eq_false_iff_ne.mpr c7
            have c7b1 : (t562 != 0) = true := bne_iff_ne.mpr c7
            have H' := Aside0.mk H
            clear H
            go_wp2_with (first | ((with_reducible refine gate_callee (f := 35) rfl ?_); refine goesL_ (some 18) rfl rfl Try.func35 (by kernel_rfl) rfl #[.int .i64 a0, .int .i64 x5_1] rfl (by (try simp only [List.map_toArray, List.map_cons, List.map_nil]); first | done | rfl | (simp only [List.length_drop, List.length_take]; rfl)) ?_; (with_reducible refine (octet_Put.calls k1 a0 x5_1 t559 t560 _ A4.out).mono ?_); rintro e w11 ⟨rfl, hb⟩; refine ⟨_, rfl, ?_⟩; have n0_ := Aside0.mk (below_step (by repeat (first | (with_reducible first | exact HB.out | apply below_alloc | apply pw_below_drewN | apply below_drew1) | exact HB.out)) hb); clear HB; have HB := n0_; clear n0_; (try clear hb); (try clear hb2); (try clear hk); (try clear hi)) | ((with_reducible refine gate_callee (f := 35) rfl ?_); refine goesL_ (some 24) rfl rfl Try.func35 (by kernel_rfl) rfl #[.int .i64 a1, .int .i64 x5_1] rfl (by (try simp only [List.map_toArray, List.map_cons, List.map_nil]); first | done | rfl | (simp only [List.length_drop, List.length_take]; rfl)) ?_; (with_reducible refine (octet_Put.calls k1 a1 x5_1 t561 t562 _ A5.out).mono ?_); rintro e w12 ⟨rfl, hb⟩; refine ⟨_, rfl, ?_⟩; have n0_ := Aside0.mk (below_step (by repeat (first | (with_reducible first | exact HB.out | apply below_alloc | apply pw_below_drewN | apply below_drew1) | exact HB.out)) hb); clear HB; have HB := n0_; clear n0_; (try clear hb); (try clear hb2); (try clear hk); (try clear hi)))
            go_roundg k1
            case measure => have := HK1.out; omega
            case rel => exact ⟨(wrap64 (x5_1 + x5_1)), (by first | rfl | (simp; done) | (simp [*]; done)), H', ⟨by have := HK1.out; omega⟩, ⟨by repeat (first | (with_reducible first | exact HB.out | apply below_alloc | apply pw_below_drewN | apply below_drew1) | exact HB.out)⟩⟩
        · rw [if_neg c6] at H
          have c6b0 : (t560 == 0) = false := beq_eq_false_iff_ne.mpr c6
          have c6b1 : (t560 != 0) = true := bne_iff_ne.mpr c6
          have H' := Aside0.mk H
          clear H
          go_wp2_with (first | ((with_reducible refine gate_callee (f := 35) rfl ?_); refine goesL_ (some 18) rfl rfl Try.func35 (by kernel_rfl) rfl #[.int .i64 a0, .int .i64 x5_1] rfl (by (try simp only [List.map_toArray, List.map_cons, List.map_nil]); first | done | rfl | (simp only [List.length_drop, List.length_take]; rfl)) ?_; (with_reducible refine (octet_Put.calls k1 a0 x5_1 t559 t560 _ A4.out).mono ?_); rintro e w13 ⟨rfl, hb⟩; refine ⟨_, rfl, ?_⟩; have n0_ := Aside0.mk (below_step (by repeat (first | (with_reducible first | exact HB.out | apply below_alloc | apply pw_below_drewN | apply below_drew1) | exact HB.out)) hb); clear HB; have HB := n0_; clear n0_; (try clear hb); (try clear hb2); (try clear hk); (try clear hi)) | ((with_reducible refine gate_callee (f := 35) rfl ?_); refine goesL_ (some 24) rfl rfl Try.func35 (by kernel_rfl) rfl #[.int .i64 a1, .int .i64 x5_1] rfl (by (try simp only [List.map_toArray, List.map_cons, List.map_nil]); first | done | rfl | (simp only [List.length_drop, List.length_take]; rfl)) ?_; (with_reducible refine (octet_Put.calls k1 a1 x5_1 t561 t562 _ A5.out).mono ?_); rintro e w14 ⟨rfl, hb⟩; refine ⟨_, rfl, ?_⟩; have n0_ := Aside0.mk (below_step (by repeat (first | (with_reducible first | exact HB.out | apply below_alloc | apply pw_below_drewN | apply below_drew1) | exact HB.out)) hb); clear HB; have HB := n0_; clear n0_; (try clear hb); (try clear hb2); (try clear hk); (try clear hi)))
          go_roundg k1
          case measure => have := HK1.out; omega
          case rel => exact ⟨(wrap64 (x5_1 + x5_1)), (by first | rfl | (simp; done) | (simp [*]; done)), H', ⟨by have := HK1.out; omega⟩, ⟨by repeat (first | (with_reducible first | exact HB.out | apply below_alloc | apply pw_below_drewN | apply below_drew1) | exact HB.out)⟩⟩
      · rw [if_neg c3] at H
        have c3b0 : decide (x5_1 ≤ 8) = false := decide_eq_false c3
        clear c3
        replace H := Option.bind_eq_some_iff.mp H
        obtain ⟨t558, A150, H⟩ := H
        replace H : (if t558 = true then (some true) else (some false)) = some true := H
        have A15 := Aside0.mk A150
        clear A150
        by_cases c16 : t558 = true
        · subst c16
          have H1 : (some true) = some true := by first | (rw [if_pos rfl] at H; exact H) | rfl
          clear H
          have H := H1
          clear H1
          clear H
          go_wp2_with (first | ((with_reducible refine gate_callee (f := 34) rfl ?_); refine goesL_ (some 42) rfl rfl Try.func34 (by kernel_rfl) rfl #[] rfl (by (try simp only [List.map_toArray, List.map_cons, List.map_nil]); first | done | rfl | (simp only [List.length_drop, List.length_take]; rfl)) ?_; (with_reducible refine (backhaullaw05_awake.calls  true _ A15.out).mono ?_); rintro e w17 ⟨rfl, hb⟩; refine ⟨_, rfl, ?_⟩; have n0_ := Aside0.mk (below_step (by repeat (first | (with_reducible first | exact HB.out | apply below_alloc | apply pw_below_drewN | apply below_drew1) | exact HB.out)) hb); clear HB; have HB := n0_; clear n0_; (try clear hb); (try clear hb2); (try clear hk); (try clear hi)))
          go_ret
          exact ⟨by first | rfl | (simp [errW_none, errW_some] <;> rfl) | (simp [*, errW_none, errW_some] <;> rfl), by repeat (first | (with_reducible first | exact HB.out | apply below_alloc | apply pw_below_drewN | apply below_drew1) | exact HB.out)⟩
        · replace c16 := Bool.eq_false_iff.mpr c16
          subst c16
          have H1 : (some false) = some true := by first | (rw [if_neg (show ¬ (false = true) by decide)] at H; exact H) | rfl
          clear H
          have H := H1
          clear H1
          exact absurd H (by simp)

/-- THE ONE PURE STATEMENT of backhaullaw05_OctetOrder. -/
def backhaullaw05_OctetOrder.Pure : Prop := ∀ (a0 : Int) (a1 : Int), (Lit.int .i64 a0).wf = true → (Lit.int .i64 a1).wf = true → ∃ k, backhaullaw05_OctetOrder.f k a0 a1 = some true

end Go.Proofs.Ytabapiofkipkoaa.F
