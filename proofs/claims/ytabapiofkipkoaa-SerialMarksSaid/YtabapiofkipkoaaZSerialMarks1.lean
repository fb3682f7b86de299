-- merged by merge.py (the session's own program)
import Derived.Test.YtabapiofkipkoaaZSerialMarks0
namespace Go.Proofs.Ytabapiofkipkoaa.F
open Go.RowKit Go.Proofs.YtabapiofkipkoaaX Go.Proofs.YtabapiofkipkoaaW.PrintWords Go.Proofs.YtabapiofkipkoaaW.PrintLast Go.Proofs.YtabapiofkipkoaaW.PrintMore
attribute [local go_sem] max2_int min2_int max_two min_two max_three min_three max_four min_four   -- for this text's walks alone
attribute [local go_sem high] str_geq str_leq str_gtr
set_option linter.unusedVariables false
set_option linter.unusedSimpArgs false

/-! ### backhaullaw01_SerialMarks: function 17 -/
mutual
def backhaullaw01_SerialMarks.j0 : Nat → ByteArray → Int → Int → Int → Int → Bool → Option (Bool)
  | 0, _, _, _, _, _, _ => none
  | k + 1, x0, x1, x2, x7, x8, x35 => if x35 = true then (if x8 = 0 then ((serial_Value.f k x7).bind fun t665 => (if t665 ≥ 0 then ((backhaullaw01_awake.f).bind fun t666 => (if t666 = true then (some true) else (some false))) else (some false))) else (if x7 = 0 then ((backhaullaw01_awake.f).bind fun t667 => (if t667 = true then (some true) else (some false))) else (some false))) else ((serial_Class.f k (wrap32 (x2))).bind fun t668 => (if t668 = 3 then (backhaullaw01_SerialMarks.j1 k x0 x1 x2 x7 false) else (if 0 ≤ x1 then (if x1 < (x0.size : Int) then (backhaullaw01_SerialMarks.j1 k x0 x1 x2 x7 (x2 != (bt x0 x1))) else (none)) else (none))))
def backhaullaw01_SerialMarks.j1 : Nat → ByteArray → Int → Int → Int → Bool → Option (Bool)
  | 0, _, _, _, _, _ => none
  | k + 1, x0, x1, x2, x7, x64 => if x64 = true then (if 0 ≤ x1 then (if x1 ≤ (x0.size : Int) then ((some (([x2] : List Int) : List Int)).bind fun y669 => (if (x0.extract 0 (x1 : Int).toNat).size + (strOfNums y669).size ≤ 9223372036854775807 then (if 0 ≤ (wrap64 (x1 + 1)) then (if (wrap64 (x1 + 1)) ≤ (x0.size : Int) then (if ((x0.extract 0 (x1 : Int).toNat) ++ (strOfNums y669)).size + (x0.extract ((wrap64 (x1 + 1)) : Int).toNat x0.size).size ≤ 9223372036854775807 then ((serial_Mark.f (((x0.extract 0 (x1 : Int).toNat) ++ (strOfNums y669)) ++ (x0.extract ((wrap64 (x1 + 1)) : Int).toNat x0.size))).bind fun bt672 => (if bt672.2 = 0 then (if bt672.1 = x7 then (some false) else (backhaullaw01_SerialMarks.j2 k x0 x1 x7)) else (backhaullaw01_SerialMarks.j2 k x0 x1 x7))) else (none)) else (none)) else (none)) else (none))) else (none)) else (none)) else (backhaullaw01_SerialMarks.j2 k x0 x1 x7)
def backhaullaw01_SerialMarks.j2 : Nat → ByteArray → Int → Int → Option (Bool)
  | 0, _, _, _ => none
  | k + 1, x0, x1, x7 => if (wrap64 (x1 + 1)) < (x0.size : Int) then (if 0 ≤ (wrap64 (x1 + 1)) then (if (bt x0 (wrap64 (x1 + 1))) = 45 then (backhaullaw01_SerialMarks.j3 k x0 x1 x7 false) else (if 0 ≤ x1 then (if x1 < (x0.size : Int) then (backhaullaw01_SerialMarks.j3 k x0 x1 x7 ((bt x0 x1) != (bt x0 (wrap64 (x1 + 1))))) else (none)) else (none))) else (none)) else (backhaullaw01_SerialMarks.j3 k x0 x1 x7 false)
def backhaullaw01_SerialMarks.j3 : Nat → ByteArray → Int → Int → Bool → Option (Bool)
  | 0, _, _, _, _ => none
  | k + 1, x0, x1, x7, x109 => if x109 = true then (if 0 ≤ x1 then (if x1 ≤ (x0.size : Int) then (if 0 ≤ (wrap64 (x1 + 1)) then (if (wrap64 (x1 + 1)) < (x0.size : Int) then (if x1 < (x0.size : Int) then ((some (([bt x0 (wrap64 (x1 + 1)), bt x0 x1] : List Int) : List Int)).bind fun y674 => (if (x0.extract 0 (x1 : Int).toNat).size + (strOfNums y674).size ≤ 9223372036854775807 then (if 0 ≤ (wrap64 (x1 + 2)) then (if (wrap64 (x1 + 2)) ≤ (x0.size : Int) then (if ((x0.extract 0 (x1 : Int).toNat) ++ (strOfNums y674)).size + (x0.extract ((wrap64 (x1 + 2)) : Int).toNat x0.size).size ≤ 9223372036854775807 then ((serial_Mark.f (((x0.extract 0 (x1 : Int).toNat) ++ (strOfNums y674)) ++ (x0.extract ((wrap64 (x1 + 2)) : Int).toNat x0.size))).bind fun bt677 => (if bt677.2 = 0 then (if bt677.1 = x7 then (some false) else ((backhaullaw01_awake.f).bind fun t679 => (if t679 = true then (some true) else (some false)))) else (some false))) else (none)) else (none)) else (none)) else (none))) else (none)) else (none)) else (none)) else (none)) else (none)) else ((backhaullaw01_awake.f).bind fun t680 => (if t680 = true then (some true) else (some false)))
end
def backhaullaw01_SerialMarks.f (k : Nat) (a0 : ByteArray) (a1 : Int) (a2 : Int) : Option (Bool) := (serial_Mark.f a0).bind fun bt663 => (if bt663.2 = 0 then (if a1 < 0 then (backhaullaw01_SerialMarks.j0 k a0 a1 a2 bt663.1 bt663.2 true) else (if a1 ≥ (a0.size : Int) then (backhaullaw01_SerialMarks.j0 k a0 a1 a2 bt663.1 bt663.2 true) else (if 0 ≤ a1 then (if a1 < (a0.size : Int) then (backhaullaw01_SerialMarks.j0 k a0 a1 a2 bt663.1 bt663.2 ((bt a0 a1) == 45)) else (none)) else (none)))) else (backhaullaw01_SerialMarks.j0 k a0 a1 a2 bt663.1 bt663.2 true))
theorem backhaullaw01_SerialMarks.mono_l : ∀ k, (∀ y0 y1 y2 y3 y4 y5, LeO (backhaullaw01_SerialMarks.j0 k y0 y1 y2 y3 y4 y5) (backhaullaw01_SerialMarks.j0 (k + 1) y0 y1 y2 y3 y4 y5)) ∧ (∀ y0 y1 y2 y3 y4, LeO (backhaullaw01_SerialMarks.j1 k y0 y1 y2 y3 y4) (backhaullaw01_SerialMarks.j1 (k + 1) y0 y1 y2 y3 y4)) ∧ (∀ y0 y1 y2, LeO (backhaullaw01_SerialMarks.j2 k y0 y1 y2) (backhaullaw01_SerialMarks.j2 (k + 1) y0 y1 y2)) ∧ (∀ y0 y1 y2 y3, LeO (backhaullaw01_SerialMarks.j3 k y0 y1 y2 y3) (backhaullaw01_SerialMarks.j3 (k + 1) y0 y1 y2 y3))
  | 0 => ⟨fun _ _ _ _ _ _ r h => by simp [backhaullaw01_SerialMarks.j0] at h, fun _ _ _ _ _ r h => by simp [backhaullaw01_SerialMarks.j1] at h, fun _ _ _ r h => by simp [backhaullaw01_SerialMarks.j2] at h, fun _ _ _ _ r h => by simp [backhaullaw01_SerialMarks.j3] at h⟩
  | k + 1 => by
    obtain ⟨ih0, ih1, ih2, ih3⟩ := backhaullaw01_SerialMarks.mono_l k
    refine ⟨?_, ?_, ?_, ?_⟩
    · intro y0 y1 y2 y3 y4 y5
      unfold backhaullaw01_SerialMarks.j0
      repeat' first
      | (with_reducible exact ih0 _ _ _ _ _ _)
      | (with_reducible exact ih1 _ _ _ _ _)
      | (with_reducible exact ih2 _ _ _)
      | (with_reducible exact ih3 _ _ _ _)
      | (with_reducible exact serial_Class.mono _ _)
      | (with_reducible exact serial_Value.mono _ _)
      | (with_reducible exact LeO.refl _)
      | (with_reducible exact LeO.none _)
      | (with_reducible refine LeO.ite ?_ ?_)
      | (with_reducible refine LeO.bind ?_ (fun _ => ?_))
      | exact ih0 _ _ _ _ _ _
      | exact ih1 _ _ _ _ _
      | exact ih2 _ _ _
      | exact ih3 _ _ _ _
      | exact serial_Class.mono _ _
      | exact serial_Value.mono _ _
      | exact LeO.none _
      | refine LeO.ite ?_ ?_
      | refine LeO.bind ?_ (fun _ => ?_)
    · intro y0 y1 y2 y3 y4
      unfold backhaullaw01_SerialMarks.j1
      repeat' first
      | (with_reducible exact ih0 _ _ _ _ _ _)
      | (with_reducible exact ih1 _ _ _ _ _)
      | (with_reducible exact ih2 _ _ _)
      | (with_reducible exact ih3 _ _ _ _)
      | (with_reducible exact serial_Class.mono _ _)
      | (with_reducible exact serial_Value.mono _ _)
      | (with_reducible exact LeO.refl _)
      | (with_reducible exact LeO.none _)
      | (with_reducible refine LeO.ite ?_ ?_)
      | (with_reducible refine LeO.bind ?_ (fun _ => ?_))
      | exact ih0 _ _ _ _ _ _
      | exact ih1 _ _ _ _ _
      | exact ih2 _ _ _
      | exact ih3 _ _ _ _
      | exact serial_Class.mono _ _
      | exact serial_Value.mono _ _
      | exact LeO.none _
      | refine LeO.ite ?_ ?_
      | refine LeO.bind ?_ (fun _ => ?_)
    · intro y0 y1 y2
      unfold backhaullaw01_SerialMarks.j2
      repeat' first
      | (with_reducible exact ih0 _ _ _ _ _ _)
      | (with_reducible exact ih1 _ _ _ _ _)
      | (with_reducible exact ih2 _ _ _)
      | (with_reducible exact ih3 _ _ _ _)
      | (with_reducible exact serial_Class.mono _ _)
      | (with_reducible exact serial_Value.mono _ _)
      | (with_reducible exact LeO.refl _)
      | (with_reducible exact LeO.none _)
      | (with_reducible refine LeO.ite ?_ ?_)
      | (with_reducible refine LeO.bind ?_ (fun _ => ?_))
      | exact ih0 _ _ _ _ _ _
      | exact ih1 _ _ _ _ _
      | exact ih2 _ _ _
      | exact ih3 _ _ _ _
      | exact serial_Class.mono _ _
      | exact serial_Value.mono _ _
      | exact LeO.none _
      | refine LeO.ite ?_ ?_
      | refine LeO.bind ?_ (fun _ => ?_)
    · intro y0 y1 y2 y3
      unfold backhaullaw01_SerialMarks.j3
      repeat' first
      | (with_reducible exact ih0 _ _ _ _ _ _)
      | (with_reducible exact ih1 _ _ _ _ _)
      | (with_reducible exact ih2 _ _ _)
      | (with_reducible exact ih3 _ _ _ _)
      | (with_reducible exact serial_Class.mono _ _)
      | (with_reducible exact serial_Value.mono _ _)
      | (with_reducible exact LeO.refl _)
      | (with_reducible exact LeO.none _)
      | (with_reducible refine LeO.ite ?_ ?_)
      | (with_reducible refine LeO.bind ?_ (fun _ => ?_))
      | exact ih0 _ _ _ _ _ _
      | exact ih1 _ _ _ _ _
      | exact ih2 _ _ _
      | exact ih3 _ _ _ _
      | exact serial_Class.mono _ _
      | exact serial_Value.mono _ _
      | exact LeO.none _
      | refine LeO.ite ?_ ?_
      | refine LeO.bind ?_ (fun _ => ?_)
theorem backhaullaw01_SerialMarks.mono : ∀ a0 a1 a2 k, LeO (backhaullaw01_SerialMarks.f k a0 a1 a2) (backhaullaw01_SerialMarks.f (k + 1) a0 a1 a2) := by
  intro a0 a1 a2 k
  obtain ⟨ih0, ih1, ih2, ih3⟩ := backhaullaw01_SerialMarks.mono_l k
  unfold backhaullaw01_SerialMarks.f
  repeat' first
      | (with_reducible exact ih0 _ _ _ _ _ _)
      | (with_reducible exact ih1 _ _ _ _ _)
      | (with_reducible exact ih2 _ _ _)
      | (with_reducible exact ih3 _ _ _ _)
      | (with_reducible exact serial_Class.mono _ _)
      | (with_reducible exact serial_Value.mono _ _)
      | (with_reducible exact LeO.refl _)
      | (with_reducible exact LeO.none _)
      | (with_reducible refine LeO.ite ?_ ?_)
      | (with_reducible refine LeO.bind ?_ (fun _ => ?_))
      | exact ih0 _ _ _ _ _ _
      | exact ih1 _ _ _ _ _
      | exact ih2 _ _ _
      | exact ih3 _ _ _ _
      | exact serial_Class.mono _ _
      | exact serial_Value.mono _ _
      | exact LeO.none _
      | refine LeO.ite ?_ ?_
      | refine LeO.bind ?_ (fun _ => ?_)
def backhaullaw01_SerialMarks.T5 : Bool × List (List Nat × List Nat) := (true, [([], []), ([], []), ([0, 1], [0, 1]), ([], []), ([3], [3]), ([4], [4]), ([2, 5], [2, 5]), ([], []), ([], []), ([8], [8]), ([7, 9], [7, 9]), ([6, 10], [6, 10]), ([11], [11]), ([12], [12]), ([13], [13]), ([13], [13]), ([14, 12, 0, 1, 2, 3, 4, 5, 6, 7, 8, 9, 10, 11, 12, 13, 14], [14]), ([15, 16, 0, 1, 2, 3, 4, 5, 6, 7, 8, 9, 10, 11, 12, 13, 14, 15, 16], [15])])
def backhaullaw01_SerialMarks.B5 : List Nat := [0, 0, 3, 0, 8, 24, 63, 0, 0, 256, 896, 2047, 4095, 8191, 16383, 16383, 32767, 131071]
theorem backhaullaw01_SerialMarks.tab5 : rtab .any (opsOf Try.f17 5) = backhaullaw01_SerialMarks.T5 := by kernel_rfl
theorem backhaullaw01_SerialMarks.bits5 : waitsOk backhaullaw01_SerialMarks.T5.2 backhaullaw01_SerialMarks.B5 = true := by kernel_rfl
def backhaullaw01_SerialMarks.T8 : Bool × List (List Nat × List Nat) := (true, [([], []), ([0], [0]), ([], []), ([2], [2]), ([1, 3], [1, 3]), ([4], [4]), ([5], [5]), ([5], [5]), ([7, 5], [5, 7]), ([6, 8, 5], [5, 6, 8]), ([9, 5], [5, 9]), ([5, 10], [5, 10]), ([11, 5], [11]), ([12], [12]), ([12], [12]), ([13, 14, 12], [12, 13, 14]), ([12], [12]), ([12], [12]), ([17, 12], [12, 17]), ([16, 18, 12], [12, 16, 18]), ([15, 19, 12], [12, 15, 19]), ([12, 20], [12, 20])])
def backhaullaw01_SerialMarks.B8 : List Nat := [0, 1, 0, 4, 15, 31, 63, 63, 191, 511, 1023, 2047, 4095, 8191, 8191, 32767, 8191, 8191, 139263, 466943, 1048575, 2097151]
theorem backhaullaw01_SerialMarks.tab8 : rtab .any (opsOf Try.f17 8) = backhaullaw01_SerialMarks.T8 := by kernel_rfl
theorem backhaullaw01_SerialMarks.bits8 : waitsOk backhaullaw01_SerialMarks.T8.2 backhaullaw01_SerialMarks.B8 = true := by kernel_rfl
def backhaullaw01_SerialMarks.T9 : Bool × List (List Nat × List Nat) := (true, [([], []), ([], []), ([0, 1], [0, 1]), ([], []), ([], []), ([4], [4]), ([3, 5], [3, 5]), ([], []), ([], []), ([7, 8], [7, 8]), ([6, 9], [6, 9]), ([10], [10]), ([2, 11], [2, 11]), ([], []), ([], []), ([14], [14]), ([13, 15], [13, 15]), ([12, 16], [12, 16]), ([17], [17]), ([18], [18]), ([19], [19]), ([19], [19]), ([20, 18, 0, 1, 2, 3, 4, 5, 6, 7, 8, 9, 10, 11, 12, 13, 14, 15, 16, 17, 18, 19, 20], [20]), ([21, 22, 0, 1, 2, 3, 4, 5, 6, 7, 8, 9, 10, 11, 12, 13, 14, 15, 16, 17, 18, 19, 20, 21, 22], [21])])
def backhaullaw01_SerialMarks.B9 : List Nat := [0, 0, 3, 0, 0, 16, 56, 0, 0, 384, 1016, 2040, 4095, 0, 0, 16384, 57344, 131071, 262143, 524287, 1048575, 1048575, 2097151, 8388607]
theorem backhaullaw01_SerialMarks.tab9 : rtab .any (opsOf Try.f17 9) = backhaullaw01_SerialMarks.T9 := by kernel_rfl
theorem backhaullaw01_SerialMarks.bits9 : waitsOk backhaullaw01_SerialMarks.T9.2 backhaullaw01_SerialMarks.B9 = true := by kernel_rfl
set_option maxHeartbeats 8000000 in
set_option maxRecDepth 100000 in
theorem backhaullaw01_SerialMarks.calls (k : Nat) (a0 : ByteArray) (a1 : Int) (a2 : Int) (w : World) (h : backhaullaw01_SerialMarks.f k a0 a1 a2 = some true) :
    Calls Try.prog 17 #[.string a0, .int .i64 a1, .int .u8 a2] w fun e w' => e = .returned (.bool true) ∧ Below w.heap.size w w' := by
  have HB := Aside0.mk (Below.refl w.heap.size w)
  have H : ((serial_Mark.f a0).bind fun bt663 => (if bt663.2 = 0 then (if a1 < 0 then (backhaullaw01_SerialMarks.j0 k a0 a1 a2 bt663.1 bt663.2 true) else (if a1 ≥ (a0.size : Int) then (backhaullaw01_SerialMarks.j0 k a0 a1 a2 bt663.1 bt663.2 true) else (if 0 ≤ a1 then (if a1 < (a0.size : Int) then (backhaullaw01_SerialMarks.j0 k a0 a1 a2 bt663.1 bt663.2 ((bt a0 a1) == 45)) else (none)) else (none)))) else (backhaullaw01_SerialMarks.j0 k a0 a1 a2 bt663.1 bt663.2 true))) = some true := h
  clear h
  replace H := Option.bind_eq_some_iff.mp H
  obtain ⟨⟨t663, t664⟩, A40, H⟩ := H
  replace H : (if t664 = 0 then (if a1 < 0 then (backhaullaw01_SerialMarks.j0 k a0 a1 a2 t663 t664 true) else (if a1 ≥ (a0.size : Int) then (backhaullaw01_SerialMarks.j0 k a0 a1 a2 t663 t664 true) else (if 0 ≤ a1 then (if a1 < (a0.size : Int) then (backhaullaw01_SerialMarks.j0 k a0 a1 a2 t663 t664 ((bt a0 a1) == 45)) else (none)) else (none)))) else (backhaullaw01_SerialMarks.j0 k a0 a1 a2 t663 t664 true)) = some true := H
  have A4 := Aside0.mk A40
  clear A40
  have HC5 := Aside0.mk H
  clear H
  go_enter Try.func17, Try.ntmps17
  go_upto_region 2 with (first | ((with_reducible refine gate_callee (f := 56) rfl ?_); refine goesL_ (some 15) rfl rfl Try.func56 (by kernel_rfl) rfl #[.string a0] rfl (by (try simp only [List.map_toArray, List.map_cons, List.map_nil]); first | done | rfl | (simp only [List.length_drop, List.length_take]; rfl)) ?_; (with_reducible refine (serial_Mark.calls a0 t663 t664 _ A4.out).mono ?_); rintro e w6 ⟨rfl, hb⟩; refine ⟨_, rfl, ?_⟩; have n0_ := Aside0.mk (below_step (by repeat (first | (with_reducible first | exact HB.out | apply below_alloc | apply pw_below_drewN | apply below_drew1) | exact HB.out)) hb); clear HB; have HB := n0_; clear n0_; (try clear hb); (try clear hb2); (try clear hk); (try clear hi)))
  (try simp only [Act.put, List.setIfInBounds_toArray, List.set_cons_zero, List.set_cons_succ])
  go_cut [35] (fun v35 wc => ∃ (kq : Nat) (x35_4 : Bool), v35 = .bool x35_4 ∧ Aside0 (backhaullaw01_SerialMarks.j0 kq a0 a1 a2 t663 t664 x35_4 = some true) ∧ Aside0 (kq ≤ k) ∧ Aside0 (Below w.heap.size w wc))
  case first =>
    have H := HC5.out
    clear HC5
    by_cases c7 : t664 = 0
    · rw [if_pos c7] at H
      have c7b0 : (t664 == 0) = true := beq_iff_eq.mpr c7
      have c7b1 : (t664 != 0) = false := bne_eq_false_iff_eq.mpr c7
      clear c7
      (first | rw [c7b0] | (simp only [i64_w, i32_w]; rw [c7b0]) | skip)
      by_cases c8 : a1 < 0
      · rw [if_pos c8] at H
        have c8b0 : decide (a1 < 0) = true := decide_eq_true c8
        clear c8
        have H' := Aside0.mk H
        clear H
        go_wp2
        go_meet
        case rel => exact ⟨_, (true), (by first | rfl | (simp; done) | (simp [*]; done)), H', ⟨by first | omega | exact Nat.le_refl _⟩, ⟨by repeat (first | (with_reducible first | exact HB.out | apply below_alloc | apply pw_below_drewN | apply below_drew1) | exact HB.out)⟩⟩
      · rw [if_neg c8] at H
        have c8b0 : decide (a1 < 0) = false := decide_eq_false c8
        clear c8
        by_cases c9 : a1 ≥ (a0.size : Int)
        · rw [if_pos c9] at H
          have c9b0 : decide ((a0.size : Int) ≤ a1) = true := decide_eq_true c9
          clear c9
          have H' := Aside0.mk H
          clear H
          go_wp2
          go_meet
          case rel => exact ⟨_, (true), (by first | rfl | (simp; done) | (simp [*]; done)), H', ⟨by first | omega | exact Nat.le_refl _⟩, ⟨by repeat (first | (with_reducible first | exact HB.out | apply below_alloc | apply pw_below_drewN | apply below_drew1) | exact HB.out)⟩⟩
        · rw [if_neg c9] at H
          have c9b0 : decide ((a0.size : Int) ≤ a1) = false := decide_eq_false c9
          clear c9
          by_cases c10 : 0 ≤ a1
          · rw [if_pos c10] at H
            have c10b0 : decide (0 ≤ a1) = true := decide_eq_true c10
            clear c10
            by_cases c11 : a1 < (a0.size : Int)
            · rw [if_pos c11] at H
              have c11b0 : decide (a1 < (a0.size : Int)) = true := decide_eq_true c11
              clear c11
              have H' := Aside0.mk H
              clear H
              have p12 : 0 ≤ (a1 : Int) := of_decide_eq_true (by first | (with_reducible assumption) | assumption)
              have q12 : a1 < (a0.size : Int) := of_decide_eq_true (by first | (with_reducible assumption) | assumption)
              have hx12 := bt_at a0 a1
              replace p12 := eq_true p12
              replace q12 := eq_true q12
              go_wp2
              go_meet
              case rel => exact ⟨_, (((bt a0 a1) == 45)), (by first | rfl | (simp; done) | (simp [*]; done)), H', ⟨by first | omega | exact Nat.le_refl _⟩, ⟨by repeat (first | (with_reducible first | exact HB.out | apply below_alloc | apply pw_below_drewN | apply below_drew1) | exact HB.out)⟩⟩
            · rw [if_neg c11] at H
              exact absurd H (by simp)
          · rw [if_neg c10] at H
            exact absurd H (by simp)
    · rw [if_neg c7] at H
      have c7b0 : (t664 == 0) = false := beq_eq_false_iff_ne.mpr c7
      have c7b1 : (t664 != 0) = true := bne_iff_ne.mpr c7
      (first | rw [c7b0] | (simp only [i64_w, i32_w]; rw [c7b0]) | skip)
      have H' := Aside0.mk H
      clear H
      go_wp2
      go_meet
      case rel => exact ⟨_, (true), (by first | rfl | (simp; done) | (simp [*]; done)), H', ⟨by first | omega | exact Nat.le_refl _⟩, ⟨by repeat (first | (with_reducible first | exact HB.out | apply below_alloc | apply pw_below_drewN | apply below_drew1) | exact HB.out)⟩⟩
  case rest =>
    clear HC5
    try clear c1
    try clear p1
    try clear q1
    try clear hx1
    try clear p2
    try clear c5
    try clear c7
    try clear c7b0
    try clear c7b1
    try clear c8
    try clear c8b0
    try clear c9
    try clear c9b0
    try clear c10
    try clear c10b0
    try clear c11
    try clear c11b0
    try clear p12
    try clear q12
    try clear hx12
    try clear p12
    try clear q12
    obtain ⟨kq, x35_4, rfl, HA, HJ4, HB⟩ := hcut
    cases kq with
    | zero => exact absurd HA.out (by simp [backhaullaw01_SerialMarks.j0])
    | succ kj4 =>
      have H := HA.out
      clear HA
      simp only [backhaullaw01_SerialMarks.j0] at H
      by_cases c13 : x35_4 = true
      · subst c13
        have H1 : (if t664 = 0 then ((serial_Value.f kj4 t663).bind fun t665 => (if t665 ≥ 0 then ((backhaullaw01_awake.f).bind fun t666 => (if t666 = true then (some true) else (some false))) else (some false))) else (if t663 = 0 then ((backhaullaw01_awake.f).bind fun t667 => (if t667 = true then (some true) else (some false))) else (some false))) = some true := by first | (rw [if_pos rfl] at H; exact H) | rfl
        clear H
        have H := H1
        clear H1
        by_cases c14 : t664 = 0
        · rw [if_pos c14] at H
          have c14b0 : (t664 == 0) = true := beq_iff_eq.mpr c14
          have c14b1 : (t664 != 0) = false := bne_eq_false_iff_eq.mpr c14
          clear c14
          replace H := Option.bind_eq_some_iff.mp H
          obtain ⟨t665, A150, H⟩ := H
          replace H : (if t665 ≥ 0 then ((backhaullaw01_awake.f).bind fun t666 => (if t666 = true then (some true) else (some false))) else (some false)) = some true := H
          have A15 := Aside0.mk A150
          clear A150
          by_cases c16 : t665 ≥ 0
          · rw [if_pos c16] at H
            have c16b0 : decide (0 ≤ t665) = true := decide_eq_true c16
            clear c16
            replace H := Option.bind_eq_some_iff.mp H
            obtain ⟨t666, A170, H⟩ := H
            replace H : (if t666 = true then (some true) else (some false)) = some true := H
            have A17 := Aside0.mk A170
            clear A170
            by_cases c18 : t666 = true
            · subst c18
              have H1 : (some true) = some true := by first | (rw [if_pos rfl] at H; exact H) | rfl
              clear H
              have H := H1
              clear H1
              clear H
              go_wp2_with (first | (go_at_call 51; (with_reducible refine (serial_Value.calls kj4 t663 t665 _ A15.out).mono ?_); rintro e w' ⟨rfl, ⟨nd, rfl⟩⟩) | (go_at_call 53; (with_reducible refine (backhaullaw01_awake.calls  true _ A17.out).mono ?_); rintro e w19 ⟨rfl, hb⟩; have n0_ := Aside0.mk (below_step (by repeat (first | (with_reducible first | exact HB.out | apply below_alloc | apply pw_below_drewN | apply below_drew1) | exact HB.out)) hb); clear HB; have HB := n0_; clear n0_; (try clear hb); (try clear hb2); (try clear hk); (try clear hi)))
              go_ret
              exact ⟨by first | rfl | (simp [errW_none, errW_some] <;> rfl) | (simp [*, errW_none, errW_some] <;> rfl), by repeat (first | (with_reducible first | exact HB.out | apply below_alloc | apply pw_below_drewN | apply below_drew1) | exact HB.out)⟩
            · replace c18 := Bool.eq_false_iff.mpr c18
              subst c18
              have H1 : (some false) = some true := by first | (rw [if_neg (show ¬ (false = true) by decide)] at H; exact H) | rfl
              clear H
              have H := H1
              clear H1
              exact absurd H (by simp)
          · rw [if_neg c16] at H
            have c16b0 : decide (0 ≤ t665) = false := decide_eq_false c16
            clear c16
            exact absurd H (by simp)
        · rw [if_neg c14] at H
          have c14b0 : (t664 == 0) = false := beq_eq_false_iff_ne.mpr c14
          have c14b1 : (t664 != 0) = true := bne_iff_ne.mpr c14
          by_cases c20 : t663 = 0
          · rw [if_pos c20] at H
            have c20b0 : (t663 == 0) = true := beq_iff_eq.mpr c20
            have c20b1 : (t663 != 0) = false := bne_eq_false_iff_eq.mpr c20
            clear c20
            replace H := Option.bind_eq_some_iff.mp H
            obtain ⟨t667, A210, H⟩ := H
            replace H : (if t667 = true then (some true) else (some false)) = some true := H
            have A21 := Aside0.mk A210
            clear A210
            by_cases c22 : t667 = true
            · subst c22
              have H1 : (some true) = some true := by first | (rw [if_pos rfl] at H; exact H) | rfl
              clear H
              have H := H1
              clear H1
              clear H
              go_wp2_with (first | (go_at_call 53; (with_reducible refine (backhaullaw01_awake.calls  true _ A21.out).mono ?_); rintro e w23 ⟨rfl, hb⟩; have n0_ := Aside0.mk (below_step (by repeat (first | (with_reducible first | exact HB.out | apply below_alloc | apply pw_below_drewN | apply below_drew1) | exact HB.out)) hb); clear HB; have HB := n0_; clear n0_; (try clear hb); (try clear hb2); (try clear hk); (try clear hi)))
              go_ret
              exact ⟨by first | rfl | (simp [errW_none, errW_some] <;> rfl) | (simp [*, errW_none, errW_some] <;> rfl), by repeat (first | (with_reducible first | exact HB.out | apply below_alloc | apply pw_below_drewN | apply below_drew1) | exact HB.out)⟩
            · replace c22 := Bool.eq_false_iff.mpr c22
              subst c22
              have H1 : (some false) = some true := by first | (rw [if_neg (show ¬ (false = true) by decide)] at H; exact H) | rfl
              clear H
              have H := H1
              clear H1
              exact absurd H (by simp)
          · rw [if_neg c20] at H
            have c20b0 : (t663 == 0) = false := beq_eq_false_iff_ne.mpr c20
            have c20b1 : (t663 != 0) = true := bne_iff_ne.mpr c20
            exact absurd H (by simp)
      · replace c13 := Bool.eq_false_iff.mpr c13
        subst c13
        have H1 : ((serial_Class.f kj4 (wrap32 (a2))).bind fun t668 => (if t668 = 3 then (backhaullaw01_SerialMarks.j1 kj4 a0 a1 a2 t663 false) else (if 0 ≤ a1 then (if a1 < (a0.size : Int) then (backhaullaw01_SerialMarks.j1 kj4 a0 a1 a2 t663 (a2 != (bt a0 a1))) else (none)) else (none)))) = some true := by first | (rw [if_neg (show ¬ (false = true) by decide)] at H; exact H) | rfl
        clear H
        have H := H1
        clear H1
        have HC24 := Aside0.mk H
        clear H
        go_upto_region 4 with (fail)
        go_cut [64] (fun v64 wc => ∃ (kq : Nat) (x64_23 : Bool), v64 = .bool x64_23 ∧ Aside0 (backhaullaw01_SerialMarks.j1 kq a0 a1 a2 t663 x64_23 = some true) ∧ Aside0 (kq ≤ kj4) ∧ Aside0 (Below w.heap.size w wc))
        case first =>
          have H := HC24.out
          clear HC24
          replace H := Option.bind_eq_some_iff.mp H
          obtain ⟨t668, A250, H⟩ := H
          replace H : (if t668 = 3 then (backhaullaw01_SerialMarks.j1 kj4 a0 a1 a2 t663 false) else (if 0 ≤ a1 then (if a1 < (a0.size : Int) then (backhaullaw01_SerialMarks.j1 kj4 a0 a1 a2 t663 (a2 != (bt a0 a1))) else (none)) else (none))) = some true := H
          have A25 := Aside0.mk A250
          clear A250
          by_cases c26 : t668 = 3
          · rw [if_pos c26] at H
            have c26b0 : (t668 == 3) = true := beq_iff_eq.mpr c26
            have c26b1 : (t668 != 3) = false := bne_eq_false_iff_eq.mpr c26
            clear c26
            (first | rw [c26b0] | (simp only [i64_w, i32_w]; rw [c26b0]) | skip)
            have H' := Aside0.mk H
            clear H
            go_wp2_with (first | ((with_reducible refine gate_callee (f := 49) rfl ?_); refine goesL_ (some 56) rfl rfl Try.func49 (by kernel_rfl) rfl #[.int .i32 (wrap32 (a2))] rfl (by (try simp only [List.map_toArray, List.map_cons, List.map_nil]); first | done | rfl | (simp only [List.length_drop, List.length_take]; rfl)) ?_; (with_reducible refine (serial_Class.calls kj4 (wrap32 (a2)) t668 _ A25.out).mono ?_); rintro e w' ⟨rfl, ⟨nd, rfl⟩⟩; refine ⟨_, rfl, ?_⟩))
            go_meet
            case rel => exact ⟨_, (false), (by first | rfl | (simp; done) | (simp [*]; done)), H', ⟨by have := HJ4.out; first | omega | exact Nat.le_refl _⟩, ⟨by repeat (first | (with_reducible first | exact HB.out | apply below_alloc | apply pw_below_drewN | apply below_drew1) | exact HB.out)⟩⟩
          · rw [if_neg c26] at H
            have c26b0 : (t668 == 3) = false := beq_eq_false_iff_ne.mpr c26
            have c26b1 : (t668 != 3) = true := bne_iff_ne.mpr c26
            (first | rw [c26b0] | (simp only [i64_w, i32_w]; rw [c26b0]) | skip)
            by_cases c27 : 0 ≤ a1
            · rw [if_pos c27] at H
              have c27b0 : decide (0 ≤ a1) = true := decide_eq_true c27
              clear c27
              by_cases c28 : a1 < (a0.size : Int)
              · rw [if_pos c28] at H
                have c28b0 : decide (a1 < (a0.size : Int)) = true := decide_eq_true c28
                clear c28
                have H' := Aside0.mk H
                clear H
                go_wp2_with (first | ((with_reducible refine gate_callee (f := 49) rfl ?_); refine goesL_ (some 56) rfl rfl Try.func49 (by kernel_rfl) rfl #[.int .i32 (wrap32 (a2))] rfl (by (try simp only [List.map_toArray, List.map_cons, List.map_nil]); first | done | rfl | (simp only [List.length_drop, List.length_take]; rfl)) ?_; (with_reducible refine (serial_Class.calls kj4 (wrap32 (a2)) t668 _ A25.out).mono ?_); rintro e w' ⟨rfl, ⟨nd, rfl⟩⟩; refine ⟨_, rfl, ?_⟩; have p29 : 0 ≤ (a1 : Int) := of_decide_eq_true (by first | (with_reducible assumption) | assumption); have q29 : a1 < (a0.size : Int) := of_decide_eq_true (by first | (with_reducible assumption) | assumption); have hx29 := bt_at a0 a1; replace p29 := eq_true p29; replace q29 := eq_true q29))
                go_meet
                case rel => exact ⟨_, ((a2 != (bt a0 a1))), (by first | rfl | (simp; done) | (simp [*]; done)), H', ⟨by have := HJ4.out; first | omega | exact Nat.le_refl _⟩, ⟨by repeat (first | (with_reducible first | exact HB.out | apply below_alloc | apply pw_below_drewN | apply below_drew1) | exact HB.out)⟩⟩
              · rw [if_neg c28] at H
                exact absurd H (by simp)
            · rw [if_neg c27] at H
              exact absurd H (by simp)
        case rest =>
          clear HC24
          try clear c1
          try clear p1
          try clear q1
          try clear hx1
          try clear c2
          try clear p2
          try clear q2
          try clear hx2
          try clear p3
          try clear c4
          try clear c5
          try clear c7
          try clear c7b0
          try clear c7b1
          try clear c8
          try clear c8b0
          try clear c9
          try clear c9b0
          try clear c10
          try clear c10b0
          try clear c11
          try clear c11b0
          try clear p12
          try clear q12
          try clear hx12
          try clear c13
          try clear c14
          try clear c14b0
          try clear c14b1
          try clear c16
          try clear c16b0
          try clear c17
          try clear c18
          try clear c20
          try clear c20b0
          try clear c20b1
          try clear c22
          try clear c26
          try clear c26b0
          try clear c26b1
          try clear c27
          try clear c27b0
          try clear c28
          try clear c28b0
          try clear p29
          try clear q29
          try clear hx29
          try clear p1
          try clear p12
          try clear p2
          try clear p29
          try clear q1
          try clear q12
          try clear q29
          obtain ⟨kq, x64_23, rfl, HA, HJ23, HB⟩ := hcut
          cases kq with
          | zero => exact absurd HA.out (by simp [backhaullaw01_SerialMarks.j1])
          | succ kj23 =>
            have H := HA.out
            clear HA
            simp only [backhaullaw01_SerialMarks.j1] at H
            have HC30 := Aside0.mk H
            clear H
            go_upto_if 64 with (fail)
            go_cut [] (fun wc => ∃ (kq : Nat), Aside0 (backhaullaw01_SerialMarks.j2 kq a0 a1 t663 = some true) ∧ Aside0 (kq ≤ kj23) ∧ Aside0 (Below w.heap.size w wc))
            case first =>
              have H := HC30.out
              clear HC30
              by_cases c31 : x64_23 = true
              · subst c31
                have H1 : (if 0 ≤ a1 then (if a1 ≤ (a0.size : Int) then ((some (([a2] : List Int) : List Int)).bind fun y669 => (if (a0.extract 0 (a1 : Int).toNat).size + (strOfNums y669).size ≤ 9223372036854775807 then (if 0 ≤ (wrap64 (a1 + 1)) then (if (wrap64 (a1 + 1)) ≤ (a0.size : Int) then (if ((a0.extract 0 (a1 : Int).toNat) ++ (strOfNums y669)).size + (a0.extract ((wrap64 (a1 + 1)) : Int).toNat a0.size).size ≤ 9223372036854775807 then ((serial_Mark.f (((a0.extract 0 (a1 : Int).toNat) ++ (strOfNums y669)) ++ (a0.extract ((wrap64 (a1 + 1)) : Int).toNat a0.size))).bind fun bt672 => (if bt672.2 = 0 then (if bt672.1 = t663 then (some false) else (backhaullaw01_SerialMarks.j2 kj23 a0 a1 t663)) else (backhaullaw01_SerialMarks.j2 kj23 a0 a1 t663))) else (none)) else (none)) else (none)) else (none))) else (none)) else (none)) = some true := by first | (rw [if_pos rfl] at H; exact H) | rfl
                clear H
                have H := H1
                clear H1
                by_cases c32 : 0 ≤ a1
                · rw [if_pos c32] at H
                  have c32b0 := eq_true c32
                  have c32b1 : decide (0 ≤ a1) = true := decide_eq_true c32
                  clear c32
                  by_cases c33 : a1 ≤ (a0.size : Int)
                  · rw [if_pos c33] at H
                    have c33b0 := eq_true c33
                    have c33b1 : decide (a1 ≤ (a0.size : Int)) = true := decide_eq_true c33
                    clear c33
                    obtain ⟨y669, hy669⟩ : ∃ y_ : List Int, y_ = (([a2] : List Int)) := ⟨_, rfl⟩
                    replace H : (if (a0.extract 0 (a1 : Int).toNat).size + (strOfNums y669).size ≤ 9223372036854775807 then (if 0 ≤ (wrap64 (a1 + 1)) then (if (wrap64 (a1 + 1)) ≤ (a0.size : Int) then (if ((a0.extract 0 (a1 : Int).toNat) ++ (strOfNums y669)).size + (a0.extract ((wrap64 (a1 + 1)) : Int).toNat a0.size).size ≤ 9223372036854775807 then ((serial_Mark.f (((a0.extract 0 (a1 : Int).toNat) ++ (strOfNums y669)) ++ (a0.extract ((wrap64 (a1 + 1)) : Int).toNat a0.size))).bind fun bt672 => (if bt672.2 = 0 then (if bt672.1 = t663 then (some false) else (backhaullaw01_SerialMarks.j2 kj23 a0 a1 t663)) else (backhaullaw01_SerialMarks.j2 kj23 a0 a1 t663))) else (none)) else (none)) else (none)) else (none)) = some true := by first | (rw [hy669]; with_reducible exact H) | (have H2_ := (Option.bind_some _ _).symm.trans H; rw [hy669]; with_reducible exact H2_) | (have H2_ := (Option.bind_some _ _).symm.trans H; with_reducible exact H2_) | with_reducible exact H | (rw [hy669]; exact H) | exact H
                    have Ny669 := Aside0.mk hy669
                    clear hy669
                    by_cases c34 : (a0.extract 0 (a1 : Int).toNat).size + (strOfNums y669).size ≤ 9223372036854775807
                    · rw [if_pos c34] at H
                      have c34b0 := eq_true c34
                      have c34b1 : decide ((a0.extract 0 (a1 : Int).toNat).size + (strOfNums y669).size ≤ 9223372036854775807) = true := decide_eq_true c34
                      try have c34s0 : a1.toNat + (strOfNums y669).size ≤ 9223372036854775807 := by have h_ := c34; simp only [ByteArray.size_append, ByteArray.size_extract] at h_; have q0_ : a1 ≤ (a0.size : Int) := of_eq_true c33b0; omega
                      try have c34s1 : decide (a1.toNat + (strOfNums y669).size ≤ 9223372036854775807) = true := decide_eq_true c34s0
                      try have c34s2 : (9223372036854775807 < a1.toNat + (strOfNums y669).size) = False := eq_false (Nat.not_lt.2 c34s0)
                      try replace c34s0 := eq_true c34s0
                      try have c34b2 : (9223372036854775807 < (a0.extract 0 (a1 : Int).toNat).size + (strOfNums y669).size) = False := eq_false (Nat.not_lt.2 c34)
                      obtain ⟨ji35, hji35⟩ : ∃ j_ : Int, (wrap64 (a1 + 1)) = j_ := ⟨_, rfl⟩
                      replace H : (if 0 ≤ (ji35) then (if (ji35) ≤ (a0.size : Int) then (if ((a0.extract 0 (a1 : Int).toNat) ++ (strOfNums y669)).size + (a0.extract ((ji35) : Int).toNat a0.size).size ≤ 9223372036854775807 then ((serial_Mark.f (((a0.extract 0 (a1 : Int).toNat) ++ (strOfNums y669)) ++ (a0.extract ((ji35) : Int).toNat a0.size))).bind fun bt672 => (if bt672.2 = 0 then (if bt672.1 = t663 then (some false) else (backhaullaw01_SerialMarks.j2 kj23 a0 a1 t663)) else (backhaullaw01_SerialMarks.j2 kj23 a0 a1 t663))) else (none)) else (none)) else (none)) = some true := by first | (rw [hji35] at H; exact H) | (simp only [hji35] at H ⊢; exact H)
                      have hji35w : (IntKind.i64.wrap (a1 + 1)) = ji35 := (i64_w _).trans hji35
                      by_cases c36 : 0 ≤ (ji35)
                      · rw [if_pos c36] at H
                        have c36b0 := eq_true c36
                        have c36b1 : decide (0 ≤ (ji35)) = true := decide_eq_true c36
                        clear c36
                        by_cases c37 : (ji35) ≤ (a0.size : Int)
                        · rw [if_pos c37] at H
                          have c37b0 := eq_true c37
                          have c37b1 : decide ((ji35) ≤ (a0.size : Int)) = true := decide_eq_true c37
                          clear c37
                          by_cases c38 : ((a0.extract 0 (a1 : Int).toNat) ++ (strOfNums y669)).size + (a0.extract ((ji35) : Int).toNat a0.size).size ≤ 9223372036854775807
                          · rw [if_pos c38] at H
                            have c38b0 := eq_true c38
                            have c38b1 : decide (((a0.extract 0 (a1 : Int).toNat) ++ (strOfNums y669)).size + (a0.extract ((ji35) : Int).toNat a0.size).size ≤ 9223372036854775807) = true := decide_eq_true c38
                            try have c38s0 : a1.toNat + (strOfNums y669).size + (a0.size - ji35.toNat) ≤ 9223372036854775807 := by have h_ := c38; simp only [ByteArray.size_append, ByteArray.size_extract] at h_; have q0_ : a1 ≤ (a0.size : Int) := of_eq_true c33b0; omega
                            try have c38s1 : decide (a1.toNat + (strOfNums y669).size + (a0.size - ji35.toNat) ≤ 9223372036854775807) = true := decide_eq_true c38s0
                            try have c38s2 : (9223372036854775807 < a1.toNat + (strOfNums y669).size + (a0.size - ji35.toNat)) = False := eq_false (Nat.not_lt.2 c38s0)
                            try replace c38s0 := eq_true c38s0
                            try have c38b2 : (9223372036854775807 < ((a0.extract 0 (a1 : Int).toNat) ++ (strOfNums y669)).size + (a0.extract ((ji35) : Int).toNat a0.size).size) = False := eq_false (Nat.not_lt.2 c38)
                            replace H := Option.bind_eq_some_iff.mp H
                            obtain ⟨⟨t672, t673⟩, A390, H⟩ := H
                            replace H : (if t673 = 0 then (if t672 = t663 then (some false) else (backhaullaw01_SerialMarks.j2 kj23 a0 a1 t663)) else (backhaullaw01_SerialMarks.j2 kj23 a0 a1 t663)) = some true := H
                            have A39 := Aside0.mk A390
                            clear A390
                            by_cases c40 : t673 = 0
                            · rw [if_pos c40] at H
                              have c40b0 : (t673 == 0) = true := beq_iff_eq.mpr c40
                              have c40b1 : (t673 != 0) = false := bne_eq_false_iff_eq.mpr c40
                              clear c40
                              (first | rw [c40b0] | (simp only [i64_w, i32_w]; rw [c40b0]) | skip)
                              by_cases c41 : t672 = t663
                              · rw [if_pos c41] at H
                                have c41b0 : (t672 == t663) = true := beq_iff_eq.mpr c41
                                have c41b1 : (t672 != t663) = false := bne_eq_false_iff_eq.mpr c41
                                clear c41
                                exact absurd H (by simp)
                              · rw [if_neg c41] at H
                                have c41b0 : (t672 == t663) = false := beq_eq_false_iff_ne.mpr c41
                                have c41b1 : (t672 != t663) = true := bne_iff_ne.mpr c41
                                have H' := Aside0.mk H
                                clear H
                                try go_wp2
                                have n0_ := Aside0.mk (below_drew1 HB.out)
                                clear HB
                                have HB := n0_
                                clear n0_
                                refine start_ (n := 18) (S := fun w' => True) (ds := []) #[false, false, false, false, false, false, false, false, false, false, false, false, false, false, false, false, false, false] (by kernel_rfl) rfl rfl trivial (fun hHeld => ?_); refine with_tabW backhaullaw01_SerialMarks.tab5 backhaullaw01_SerialMarks.bits5 (fun HT_ HW_ => ?_)
                                generalize wc.drew = w42 at HB hHeld ⊢
                                refine pure_ (i := 0) (N := some 66) (v := ?_) (a' := ?_) #[true, false, false, false, false, false, false, false, false, false, false, false, false, false, false, false, false, false] rfl rfl (any_of HT_.out (by kernel_rfl)) (fun _ _ _ h => h) (Or.inl ⟨by rfl, ?_⟩) ?_ ?_
                                rotate_left
                                · intro w'
                                  go_simp
                                  with_reducible rfl
                                rotate_left
                                · simp only [Act.put, List.setIfInBounds_toArray, List.set_cons_zero, List.set_cons_succ, i64_w, i32_w]
                                  rfl
                                refine pure_ (i := 1) (N := some 67) (v := ?_) (a' := ?_) #[true, true, false, false, false, false, false, false, false, false, false, false, false, false, false, false, false, false] rfl rfl (any_of HT_.out (by kernel_rfl)) (fun _ _ _ h => h) (Or.inl ⟨by rfl, ?_⟩) ?_ ?_
                                rotate_left
                                · intro w'
                                  go_simp
                                  with_reducible rfl
                                rotate_left
                                · simp only [Act.put, List.setIfInBounds_toArray, List.set_cons_zero, List.set_cons_succ, i64_w, i32_w]
                                  rfl
                                refine pure_ (i := 2) (N := some 68) (v := ?_) (a' := ?_) #[true, true, true, false, false, false, false, false, false, false, false, false, false, false, false, false, false, false] rfl rfl (any_of HT_.out (by kernel_rfl)) (fun _ _ _ h => h) (Or.inl ⟨by rfl, ?_⟩) ?_ ?_
                                rotate_left
                                · intro w'
                                  go_simp
                                  with_reducible rfl
                                rotate_left
                                · simp only [Act.put, List.setIfInBounds_toArray, List.set_cons_zero, List.set_cons_succ, i64_w, i32_w]
                                  rfl
                                refine pure_ (i := 3) (N := some 69) (v := ?_) (a' := ?_) #[true, true, true, true, false, false, false, false, false, false, false, false, false, false, false, false, false, false] rfl rfl (any_of HT_.out (by kernel_rfl)) (fun _ _ _ h => h) (Or.inl ⟨by rfl, ?_⟩) ?_ ?_
                                rotate_left
                                · intro w'
                                  go_simp
                                  with_reducible rfl
                                rotate_left
                                · simp only [Act.put, List.setIfInBounds_toArray, List.set_cons_zero, List.set_cons_succ, i64_w, i32_w]
                                  rfl
                                refine pure_ (i := 7) (N := some 73) (v := ?_) (a' := ?_) #[true, true, true, true, false, false, false, true, false, false, false, false, false, false, false, false, false, false] rfl rfl (any_of HT_.out (by kernel_rfl)) (fun _ _ _ h => h) (Or.inl ⟨by rfl, ?_⟩) ?_ ?_
                                rotate_left
                                · intro w'
                                  go_simp
                                  with_reducible rfl
                                rotate_left
                                · simp only [Act.put, List.setIfInBounds_toArray, List.set_cons_zero, List.set_cons_succ, i64_w, i32_w]
                                  rfl
                                refine pure_ (i := 8) (N := some 74) (v := ?_) (a' := ?_) #[true, true, true, true, false, false, false, true, true, false, false, false, false, false, false, false, false, false] rfl rfl (any_of HT_.out (by kernel_rfl)) (fun _ _ _ h => h) (Or.inl ⟨by rfl, ?_⟩) ?_ ?_
                                rotate_left
                                · intro w'
                                  go_simp
                                  with_reducible rfl
                                rotate_left
                                · simp only [Act.put, List.setIfInBounds_toArray, List.set_cons_zero, List.set_cons_succ, i64_w, i32_w]
                                  rfl
                                refine pure_ (i := 9) (N := some 75) (v := ?_) (a' := ?_) #[true, true, true, true, false, false, false, true, true, true, false, false, false, false, false, false, false, false] rfl rfl (any_of HT_.out (by kernel_rfl)) (fun _ _ _ h => h) (Or.inl ⟨by rfl, ?_⟩) ?_ ?_
                                rotate_left
                                · intro w'
                                  go_simp
                                  with_reducible rfl
                                rotate_left
                                · simp only [Act.put, List.setIfInBounds_toArray, List.set_cons_zero, List.set_cons_succ, i64_w, i32_w]
                                  rfl
                                refine pure_ (i := 10) (N := some 76) (v := ?_) (a' := ?_) #[true, true, true, true, false, false, false, true, true, true, true, false, false, false, false, false, false, false] rfl rfl (any_of HT_.out (by kernel_rfl)) (fun _ _ _ h => h) (Or.inl ⟨by rfl, ?_⟩) ?_ ?_
                                rotate_left
                                · intro w'
                                  go_simp
                                  with_reducible rfl
                                rotate_left
                                · simp only [Act.put, List.setIfInBounds_toArray, List.set_cons_zero, List.set_cons_succ, i64_w, i32_w]
                                  rfl
                                refine one_ (i := 4) (N := some 70) #[true, true, true, true, true, false, false, true, true, true, true, false, false, false, false, false, false, false] rfl rfl (one_of HT_.out (by kernel_rfl)) (by decide) (fun K hK => ?_)
                                refine Kd.R_lit_step (Kd.int .u8) _ 5 ?hg (N := 70) ?hd (xs := ([a2] : List Int)) (inner := [.int .u8 a2]) (ok := fun _ => True) (okp := fun _ => True) ?hr ?hp (fun _ hk => hk) trivial (Below.refl _ _) (Nat.le_refl _) (by simp) ?_; (case hd => rfl); (case hg => rfl); (case hr => first | (go_simp; done) | (go_simp; rfl)); (case hp => exact (Reps.one (show Kd.M (Kd.int .u8) _ _ _ a2 [.int .u8 a2] from rfl) (Reps.none _ _)))
                                intro v670 w43 ho44 hb hg_ hnew_
                                clear hg_ hnew_
                                (first | rw [← Ny669.out] at ho44 | (simp only [Int.reduceToNat] at ho44; rw [← Ny669.out] at ho44))
                                have n0_ := Aside0.mk (Kd.R_lower ho44 (below_size (by repeat (first | (with_reducible first | exact HB.out | apply below_alloc | apply pw_below_drewN | apply below_drew1) | exact HB.out))))
                                have n1_ := Aside0.mk (below_step (by repeat (first | (with_reducible first | exact HB.out | apply below_alloc | apply pw_below_drewN | apply below_drew1) | exact HB.out)) hb)
                                clear HB
                                have HO671 := n0_
                                have HB := n1_
                                clear n0_ n1_
                                clear hb ho44
                                refine hK.out _ _ trivial (fun hHeld => ?_)
                                clear hK K
                                refine norm_ (a' := ?_) ?_ ?_
                                rotate_left
                                · show Act.put _ (some 70) _ = _
                                  simp only [Act.put, List.setIfInBounds_toArray, List.set_cons_zero, List.set_cons_succ, i64_w, i32_w]
                                  rfl
                                refine one_ (i := 5) (N := some 71) #[true, true, true, true, true, true, false, true, true, true, true, false, false, false, false, false, false, false] rfl rfl (one_of HT_.out (by kernel_rfl)) (by decide) (fun K hK => ?_)
                                have hcv45 := own_string (P := Try.prog) Try.underlying92 Try.underlying5 Try.underlying9 (Kd.own_of_R HO671.out)
                                refine value_ (w1 := ?_) (v := ?_) (by rfl) rfl ?_ ?_
                                rotate_left 2
                                · go_simp
                                  constructor
                                  · rfl
                                  · rfl
                                clear hcv45
                                refine hK.out _ _ trivial (fun hHeld => ?_)
                                clear hK K
                                refine norm_ (a' := ?_) ?_ ?_
                                rotate_left
                                · show Act.put _ (some 71) _ = _
                                  simp only [Act.put, List.setIfInBounds_toArray, List.set_cons_zero, List.set_cons_succ, i64_w, i32_w]
                                  rfl
                                refine pure_ (i := 6) (N := some 72) (v := ?_) (a' := ?_) #[true, true, true, true, true, true, true, true, true, true, true, false, false, false, false, false, false, false] rfl rfl (any_of HT_.out (by kernel_rfl)) (fun _ _ _ h => h) (Or.inl ⟨by rfl, ?_⟩) ?_ ?_
                                rotate_left
                                · intro w'
                                  go_simp
                                  with_reducible rfl
                                rotate_left
                                · simp only [Act.put, List.setIfInBounds_toArray, List.set_cons_zero, List.set_cons_succ, i64_w, i32_w]
                                  rfl
                                refine pure_ (i := 11) (N := some 77) (v := ?_) (a' := ?_) #[true, true, true, true, true, true, true, true, true, true, true, true, false, false, false, false, false, false] rfl rfl (any_of HT_.out (by kernel_rfl)) (fun _ _ _ h => h) (Or.inl ⟨by rfl, ?_⟩) ?_ ?_
                                rotate_left
                                · intro w'
                                  go_simp
                                  with_reducible rfl
                                rotate_left
                                · simp only [Act.put, List.setIfInBounds_toArray, List.set_cons_zero, List.set_cons_succ, i64_w, i32_w]
                                  rfl
                                refine one_ (i := 12) (N := some 78) #[true, true, true, true, true, true, true, true, true, true, true, true, true, false, false, false, false, false] rfl rfl (one_of HT_.out (by kernel_rfl)) (by decide) (fun K hK => ?_)
                                refine goes_ Try.func56 (by kernel_rfl) rfl #[.string (((a0.extract 0 (a1 : Int).toNat) ++ (strOfNums y669)) ++ (a0.extract ((ji35) : Int).toNat a0.size))] (by rfl) rfl rfl (by (try simp only [List.map_toArray, List.map_cons, List.map_nil]); first | done | (simp only [hji35]; rfl) | rfl | (simp only [List.length_drop, List.length_take]; rfl)) ?_
                                with_reducible refine (serial_Mark.calls (((a0.extract 0 (a1 : Int).toNat) ++ (strOfNums y669)) ++ (a0.extract ((ji35) : Int).toNat a0.size)) t672 t673 _ A39.out).mono ?_
                                rintro e w46 ⟨rfl, hb⟩
                                refine ⟨_, rfl, ?_⟩
                                have n0_ := Aside0.mk (Kd.R_below (by (with_reducible repeat (first | apply Kd.R_alloc | apply Kd.R_drewN | apply Kd.R_drew)); exact HO671.out) hb)
                                have n1_ := Aside0.mk (below_step (by repeat (first | (with_reducible first | exact HB.out | apply below_alloc | apply pw_below_drewN | apply below_drew1) | exact HB.out)) hb)
                                clear HO671
                                clear HB
                                have HO671 := n0_
                                have HB := n1_
                                clear n0_ n1_
                                (try clear hb)
                                (try clear hb2)
                                (try clear hk)
                                (try clear hi)
                                refine hK.out _ _ trivial (fun hHeld => ?_)
                                clear hK K
                                refine norm_ (a' := ?_) ?_ ?_
                                rotate_left
                                · show Act.put _ (some 78) _ = _
                                  simp only [Act.put, List.setIfInBounds_toArray, List.set_cons_zero, List.set_cons_succ, i64_w, i32_w]
                                  rfl
                                refine pure_ (i := 13) (N := some 65) (v := ?_) (a' := ?_) #[true, true, true, true, true, true, true, true, true, true, true, true, true, true, false, false, false, false] rfl rfl (any_of HT_.out (by kernel_rfl)) (fun _ _ _ h => h) (Or.inl ⟨by rfl, ?_⟩) ?_ ?_
                                rotate_left
                                · intro w'
                                  go_simp
                                  with_reducible rfl
                                rotate_left
                                · simp only [Act.put, List.setIfInBounds_toArray, List.set_cons_zero, List.set_cons_succ, i64_w, i32_w]
                                  rfl
                                refine pure_ (i := 14) (N := some 79) (v := ?_) (a' := ?_) #[true, true, true, true, true, true, true, true, true, true, true, true, true, true, true, false, false, false] rfl rfl (any_of HT_.out (by kernel_rfl)) (fun _ _ _ h => h) (Or.inl ⟨by rfl, ?_⟩) ?_ ?_
                                rotate_left
                                · intro w'
                                  go_simp
                                  with_reducible rfl
                                rotate_left
                                · simp only [Act.put, List.setIfInBounds_toArray, List.set_cons_zero, List.set_cons_succ, i64_w, i32_w]
                                  rfl
                                refine pure_ (i := 15) (N := some 80) (v := ?_) (a' := ?_) #[true, true, true, true, true, true, true, true, true, true, true, true, true, true, true, true, false, false] rfl rfl (any_of HT_.out (by kernel_rfl)) (fun _ _ _ h => h) (Or.inl ⟨by rfl, ?_⟩) ?_ ?_
                                rotate_left
                                · intro w'
                                  go_simp
                                  with_reducible rfl
                                rotate_left
                                · simp only [Act.put, List.setIfInBounds_toArray, List.set_cons_zero, List.set_cons_succ, i64_w, i32_w]
                                  rfl
                                refine pure_ (i := 16) (N := some 9) (v := ?_) (a' := ?_) #[true, true, true, true, true, true, true, true, true, true, true, true, true, true, true, true, true, false] rfl rfl (any_of HT_.out (by kernel_rfl)) (fun _ _ _ h => h) (Or.inl ⟨by rfl, ?_⟩) ?_ ?_
                                rotate_left
                                · intro w'
                                  go_simp
                                  with_reducible rfl
                                rotate_left
                                · simp only [Act.put, List.setIfInBounds_toArray, List.set_cons_zero, List.set_cons_succ, i64_w, i32_w]
                                  rfl
                                refine pure_ (i := 17) (N := some 10) (v := ?_) (a' := ?_) #[true, true, true, true, true, true, true, true, true, true, true, true, true, true, true, true, true, true] rfl rfl (any_of HT_.out (by kernel_rfl)) (fun _ _ _ h => h) (Or.inl ⟨by rfl, ?_⟩) ?_ ?_
                                rotate_left
                                · intro w'
                                  go_simp
                                  with_reducible rfl
                                rotate_left
                                · simp only [Act.put, List.setIfInBounds_toArray, List.set_cons_zero, List.set_cons_succ, i64_w, i32_w]
                                  rfl
                                refine done_ (done_of HT_.out (by kernel_rfl)) ?_
                                try go_wp2
                                go_meet
                                case rel => exact ⟨_, H', ⟨by have := HJ4.out; have := HJ23.out; first | omega | exact Nat.le_refl _⟩, ⟨by repeat (first | (with_reducible first | exact HB.out | apply below_alloc | apply pw_below_drewN | apply below_drew1) | exact HB.out)⟩⟩
                            · rw [if_neg c40] at H
                              have c40b0 : (t673 == 0) = false := beq_eq_false_iff_ne.mpr c40
                              have c40b1 : (t673 != 0) = true := bne_iff_ne.mpr c40
                              (first | rw [c40b0] | (simp only [i64_w, i32_w]; rw [c40b0]) | skip)
                              have H' := Aside0.mk H
                              clear H
                              try go_wp2
                              have n0_ := Aside0.mk (below_drew1 HB.out)
                              clear HB
                              have HB := n0_
                              clear n0_
                              refine start_ (n := 18) (S := fun w' => True) (ds := []) #[false, false, false, false, false, false, false, false, false, false, false, false, false, false, false, false, false, false] (by kernel_rfl) rfl rfl trivial (fun hHeld => ?_); refine with_tabW backhaullaw01_SerialMarks.tab5 backhaullaw01_SerialMarks.bits5 (fun HT_ HW_ => ?_)
                              generalize wc.drew = w47 at HB hHeld ⊢
                              refine pure_ (i := 0) (N := some 66) (v := ?_) (a' := ?_) #[true, false, false, false, false, false, false, false, false, false, false, false, false, false, false, false, false, false] rfl rfl (any_of HT_.out (by kernel_rfl)) (fun _ _ _ h => h) (Or.inl ⟨by rfl, ?_⟩) ?_ ?_
                              rotate_left
                              · intro w'
                                go_simp
                                with_reducible rfl
                              rotate_left
                              · simp only [Act.put, List.setIfInBounds_toArray, List.set_cons_zero, List.set_cons_succ, i64_w, i32_w]
                                rfl
                              refine pure_ (i := 1) (N := some 67) (v := ?_) (a' := ?_) #[true, true, false, false, false, false, false, false, false, false, false, false, false, false, false, false, false, false] rfl rfl (any_of HT_.out (by kernel_rfl)) (fun _ _ _ h => h) (Or.inl ⟨by rfl, ?_⟩) ?_ ?_
                              rotate_left
                              · intro w'
                                go_simp
                                with_reducible rfl
                              rotate_left
                              · simp only [Act.put, List.setIfInBounds_toArray, List.set_cons_zero, List.set_cons_succ, i64_w, i32_w]
                                rfl
                              refine pure_ (i := 2) (N := some 68) (v := ?_) (a' := ?_) #[true, true, true, false, false, false, false, false, false, false, false, false, false, false, false, false, false, false] rfl rfl (any_of HT_.out (by kernel_rfl)) (fun _ _ _ h => h) (Or.inl ⟨by rfl, ?_⟩) ?_ ?_
                              rotate_left
                              · intro w'
                                go_simp
                                with_reducible rfl
                              rotate_left
                              · simp only [Act.put, List.setIfInBounds_toArray, List.set_cons_zero, List.set_cons_succ, i64_w, i32_w]
                                rfl
                              refine pure_ (i := 3) (N := some 69) (v := ?_) (a' := ?_) #[true, true, true, true, false, false, false, false, false, false, false, false, false, false, false, false, false, false] rfl rfl (any_of HT_.out (by kernel_rfl)) (fun _ _ _ h => h) (Or.inl ⟨by rfl, ?_⟩) ?_ ?_
                              rotate_left
                              · intro w'
                                go_simp
                                with_reducible rfl
                              rotate_left
                              · simp only [Act.put, List.setIfInBounds_toArray, List.set_cons_zero, List.set_cons_succ, i64_w, i32_w]
                                rfl
                              refine pure_ (i := 7) (N := some 73) (v := ?_) (a' := ?_) #[true, true, true, true, false, false, false, true, false, false, false, false, false, false, false, false, false, false] rfl rfl (any_of HT_.out (by kernel_rfl)) (fun _ _ _ h => h) (Or.inl ⟨by rfl, ?_⟩) ?_ ?_
                              rotate_left
                              · intro w'
                                go_simp
                                with_reducible rfl
                              rotate_left
                              · simp only [Act.put, List.setIfInBounds_toArray, List.set_cons_zero, List.set_cons_succ, i64_w, i32_w]
                                rfl
                              refine pure_ (i := 8) (N := some 74) (v := ?_) (a' := ?_) #[true, true, true, true, false, false, false, true, true, false, false, false, false, false, false, false, false, false] rfl rfl (any_of HT_.out (by kernel_rfl)) (fun _ _ _ h => h) (Or.inl ⟨by rfl, ?_⟩) ?_ ?_
                              rotate_left
                              · intro w'
                                go_simp
                                with_reducible rfl
                              rotate_left
                              · simp only [Act.put, List.setIfInBounds_toArray, List.set_cons_zero, List.set_cons_succ, i64_w, i32_w]
                                rfl
                              refine pure_ (i := 9) (N := some 75) (v := ?_) (a' := ?_) #[true, true, true, true, false, false, false, true, true, true, false, false, false, false, false, false, false, false] rfl rfl (any_of HT_.out (by kernel_rfl)) (fun _ _ _ h => h) (Or.inl ⟨by rfl, ?_⟩) ?_ ?_
                              rotate_left
                              · intro w'
                                go_simp
                                with_reducible rfl
                              rotate_left
                              · simp only [Act.put, List.setIfInBounds_toArray, List.set_cons_zero, List.set_cons_succ, i64_w, i32_w]
                                rfl
                              refine pure_ (i := 10) (N := some 76) (v := ?_) (a' := ?_) #[true, true, true, true, false, false, false, true, true, true, true, false, false, false, false, false, false, false] rfl rfl (any_of HT_.out (by kernel_rfl)) (fun _ _ _ h => h) (Or.inl ⟨by rfl, ?_⟩) ?_ ?_
                              rotate_left
                              · intro w'
                                go_simp
                                with_reducible rfl
                              rotate_left
                              · simp only [Act.put, List.setIfInBounds_toArray, List.set_cons_zero, List.set_cons_succ, i64_w, i32_w]
                                rfl
                              refine one_ (i := 4) (N := some 70) #[true, true, true, true, true, false, false, true, true, true, true, false, false, false, false, false, false, false] rfl rfl (one_of HT_.out (by kernel_rfl)) (by decide) (fun K hK => ?_)
                              refine Kd.R_lit_step (Kd.int .u8) _ 5 ?hg (N := 70) ?hd (xs := ([a2] : List Int)) (inner := [.int .u8 a2]) (ok := fun _ => True) (okp := fun _ => True) ?hr ?hp (fun _ hk => hk) trivial (Below.refl _ _) (Nat.le_refl _) (by simp) ?_; (case hd => rfl); (case hg => rfl); (case hr => first | (go_simp; done) | (go_simp; rfl)); (case hp => exact (Reps.one (show Kd.M (Kd.int .u8) _ _ _ a2 [.int .u8 a2] from rfl) (Reps.none _ _)))
                              intro v670 w48 ho49 hb hg_ hnew_
                              clear hg_ hnew_
                              (first | rw [← Ny669.out] at ho49 | (simp only [Int.reduceToNat] at ho49; rw [← Ny669.out] at ho49))
                              have n0_ := Aside0.mk (Kd.R_lower ho49 (below_size (by repeat (first | (with_reducible first | exact HB.out | apply below_alloc | apply pw_below_drewN | apply below_drew1) | exact HB.out))))
                              have n1_ := Aside0.mk (below_step (by repeat (first | (with_reducible first | exact HB.out | apply below_alloc | apply pw_below_drewN | apply below_drew1) | exact HB.out)) hb)
                              clear HB
                              have HO671 := n0_
                              have HB := n1_
                              clear n0_ n1_
                              clear hb ho49
                              refine hK.out _ _ trivial (fun hHeld => ?_)
                              clear hK K
                              refine norm_ (a' := ?_) ?_ ?_
                              rotate_left
                              · show Act.put _ (some 70) _ = _
                                simp only [Act.put, List.setIfInBounds_toArray, List.set_cons_zero, List.set_cons_succ, i64_w, i32_w]
                                rfl
                              refine one_ (i := 5) (N := some 71) #[true, true, true, true, true, true, false, true, true, true, true, false, false, false, false, false, false, false] rfl rfl (one_of HT_.out (by kernel_rfl)) (by decide) (fun K hK => ?_)
                              have hcv50 := own_string (P := Try.prog) Try.underlying92 Try.underlying5 Try.underlying9 (Kd.own_of_R HO671.out)
                              refine value_ (w1 := ?_) (v := ?_) (by rfl) rfl ?_ ?_
                              rotate_left 2
                              · go_simp
                                constructor
                                · rfl
                                · rfl
                              clear hcv50
                              refine hK.out _ _ trivial (fun hHeld => ?_)
                              clear hK K
                              refine norm_ (a' := ?_) ?_ ?_
                              rotate_left
                              · show Act.put _ (some 71) _ = _
                                simp only [Act.put, List.setIfInBounds_toArray, List.set_cons_zero, List.set_cons_succ, i64_w, i32_w]
                                rfl
                              refine pure_ (i := 6) (N := some 72) (v := ?_) (a' := ?_) #[true, true, true, true, true, true, true, true, true, true, true, false, false, false, false, false, false, false] rfl rfl (any_of HT_.out (by kernel_rfl)) (fun _ _ _ h => h) (Or.inl ⟨by rfl, ?_⟩) ?_ ?_
                              rotate_left
                              · intro w'
                                go_simp
                                with_reducible rfl
                              rotate_left
                              · simp only [Act.put, List.setIfInBounds_toArray, List.set_cons_zero, List.set_cons_succ, i64_w, i32_w]
                                rfl
                              refine pure_ (i := 11) (N := some 77) (v := ?_) (a' := ?_) #[true, true, true, true, true, true, true, true, true, true, true, true, false, false, false, false, false, false] rfl rfl (any_of HT_.out (by kernel_rfl)) (fun _ _ _ h => h) (Or.inl ⟨by rfl, ?_⟩) ?_ ?_
                              rotate_left
                              · intro w'
                                go_simp
                                with_reducible rfl
                              rotate_left
                              · simp only [Act.put, List.setIfInBounds_toArray, List.set_cons_zero, List.set_cons_succ, i64_w, i32_w]
                                rfl
                              refine one_ (i := 12) (N := some 78) #[true, true, true, true, true, true, true, true, true, true, true, true, true, false, false, false, false, false] rfl rfl (one_of HT_.out (by kernel_rfl)) (by decide) (fun K hK => ?_)
                              refine goes_ Try.func56 (by kernel_rfl) rfl #[.string (((a0.extract 0 (a1 : Int).toNat) ++ (strOfNums y669)) ++ (a0.extract ((ji35) : Int).toNat a0.size))] (by rfl) rfl rfl (by (try simp only [List.map_toArray, List.map_cons, List.map_nil]); first | done | (simp only [hji35]; rfl) | rfl | (simp only [List.length_drop, List.length_take]; rfl)) ?_
                              with_reducible refine (serial_Mark.calls (((a0.extract 0 (a1 : Int).toNat) ++ (strOfNums y669)) ++ (a0.extract ((ji35) : Int).toNat a0.size)) t672 t673 _ A39.out).mono ?_
                              rintro e w51 ⟨rfl, hb⟩
                              refine ⟨_, rfl, ?_⟩
                              have n0_ := Aside0.mk (Kd.R_below (by (with_reducible repeat (first | apply Kd.R_alloc | apply Kd.R_drewN | apply Kd.R_drew)); exact HO671.out) hb)
                              have n1_ := Aside0.mk (below_step (by repeat (first | (with_reducible first | exact HB.out | apply below_alloc | apply pw_below_drewN | apply below_drew1) | exact HB.out)) hb)
                              clear HO671
                              clear HB
                              have HO671 := n0_
                              have HB := n1_
                              clear n0_ n1_
                              (try clear hb)
                              (try clear hb2)
                              (try clear hk)
                              (try clear hi)
                              refine hK.out _ _ trivial (fun hHeld => ?_)
                              clear hK K
                              refine norm_ (a' := ?_) ?_ ?_
                              rotate_left
                              · show Act.put _ (some 78) _ = _
                                simp only [Act.put, List.setIfInBounds_toArray, List.set_cons_zero, List.set_cons_succ, i64_w, i32_w]
                                rfl
                              refine pure_ (i := 13) (N := some 65) (v := ?_) (a' := ?_) #[true, true, true, true, true, true, true, true, true, true, true, true, true, true, false, false, false, false] rfl rfl (any_of HT_.out (by kernel_rfl)) (fun _ _ _ h => h) (Or.inl ⟨by rfl, ?_⟩) ?_ ?_
                              rotate_left
                              · intro w'
                                go_simp
                                with_reducible rfl
                              rotate_left
                              · simp only [Act.put, List.setIfInBounds_toArray, List.set_cons_zero, List.set_cons_succ, i64_w, i32_w]
                                rfl
                              refine pure_ (i := 14) (N := some 79) (v := ?_) (a' := ?_) #[true, true, true, true, true, true, true, true, true, true, true, true, true, true, true, false, false, false] rfl rfl (any_of HT_.out (by kernel_rfl)) (fun _ _ _ h => h) (Or.inl ⟨by rfl, ?_⟩) ?_ ?_
                              rotate_left
                              · intro w'
                                go_simp
                                with_reducible rfl
                              rotate_left
                              · simp only [Act.put, List.setIfInBounds_toArray, List.set_cons_zero, List.set_cons_succ, i64_w, i32_w]
                                rfl
                              refine pure_ (i := 15) (N := some 80) (v := ?_) (a' := ?_) #[true, true, true, true, true, true, true, true, true, true, true, true, true, true, true, true, false, false] rfl rfl (any_of HT_.out (by kernel_rfl)) (fun _ _ _ h => h) (Or.inl ⟨by rfl, ?_⟩) ?_ ?_
                              rotate_left
                              · intro w'
                                go_simp
                                with_reducible rfl
                              rotate_left
                              · simp only [Act.put, List.setIfInBounds_toArray, List.set_cons_zero, List.set_cons_succ, i64_w, i32_w]
                                rfl
                              refine pure_ (i := 16) (N := some 9) (v := ?_) (a' := ?_) #[true, true, true, true, true, true, true, true, true, true, true, true, true, true, true, true, true, false] rfl rfl (any_of HT_.out (by kernel_rfl)) (fun _ _ _ h => h) (Or.inl ⟨by rfl, ?_⟩) ?_ ?_
                              rotate_left
                              · intro w'
                                go_simp
                                with_reducible rfl
                              rotate_left
                              · simp only [Act.put, List.setIfInBounds_toArray, List.set_cons_zero, List.set_cons_succ, i64_w, i32_w]
                                rfl
                              refine pure_ (i := 17) (N := some 10) (v := ?_) (a' := ?_) #[true, true, true, true, true, true, true, true, true, true, true, true, true, true, true, true, true, true] rfl rfl (any_of HT_.out (by kernel_rfl)) (fun _ _ _ h => h) (Or.inl ⟨by rfl, ?_⟩) ?_ ?_
                              rotate_left
                              · intro w'
                                go_simp
                                with_reducible rfl
                              rotate_left
                              · simp only [Act.put, List.setIfInBounds_toArray, List.set_cons_zero, List.set_cons_succ, i64_w, i32_w]
                                rfl
                              refine done_ (done_of HT_.out (by kernel_rfl)) ?_
                              try go_wp2
                              go_meet
                              case rel => exact ⟨_, H', ⟨by have := HJ4.out; have := HJ23.out; first | omega | exact Nat.le_refl _⟩, ⟨by repeat (first | (with_reducible first | exact HB.out | apply below_alloc | apply pw_below_drewN | apply below_drew1) | exact HB.out)⟩⟩
                          · rw [if_neg c38] at H
                            exact absurd H (by simp)
                        · rw [if_neg c37] at H
                          exact absurd H (by simp)
                      · rw [if_neg c36] at H
                        exact absurd H (by simp)
                    · rw [if_neg c34] at H
                      exact absurd H (by simp)
                  · rw [if_neg c33] at H
                    exact absurd H (by simp)
                · rw [if_neg c32] at H
                  exact absurd H (by simp)
              · replace c31 := Bool.eq_false_iff.mpr c31
                subst c31
                have H1 : (backhaullaw01_SerialMarks.j2 kj23 a0 a1 t663) = some true := by first | (rw [if_neg (show ¬ (false = true) by decide)] at H; exact H) | rfl
                clear H
                have H := H1
                clear H1
                have H' := Aside0.mk H
                clear H
                go_wp2
                go_meet
                case rel => exact ⟨_, H', ⟨by have := HJ4.out; have := HJ23.out; first | omega | exact Nat.le_refl _⟩, ⟨by repeat (first | (with_reducible first | exact HB.out | apply below_alloc | apply pw_below_drewN | apply below_drew1) | exact HB.out)⟩⟩
            case rest =>
              clear HC30
              try clear c1
              try clear p1
              try clear q1
              try clear hx1
              try clear c2
              try clear p2
              try clear q2
              try clear hx2
              try clear c3
              try clear p3
              try clear c4
              try clear hcv4
              try clear c5
              try clear hcv5
              try clear p6
              try clear c7
              try clear c7b0
              try clear c7b1
              try clear c8
              try clear c8b0
              try clear c9
              try clear c9b0
              try clear c10
              try clear c10b0
              try clear c11
              try clear c11b0
              try clear p12
              try clear q12
              try clear hx12
              try clear c13
              try clear c14
              try clear c14b0
              try clear c14b1
              try clear c16
              try clear c16b0
              try clear c17
              try clear c18
              try clear c20
              try clear c20b0
              try clear c20b1
              try clear c22
              try clear c26
              try clear c26b0
              try clear c26b1
              try clear c27
              try clear c27b0
              try clear c28
              try clear c28b0
              try clear p29
              try clear q29
              try clear hx29
              try clear c31
              try clear c32
              try clear c32b0
              try clear c32b1
              try clear p32
              try clear c33
              try clear c33b0
              try clear c33b1
              try clear c34
              try clear c34b0
              try clear c34b1
              try clear c34b2
              try clear c36
              try clear c36b0
              try clear c36b1
              try clear c37
              try clear c37b0
              try clear c37b1
              try clear c38
              try clear c38b0
              try clear c38b1
              try clear c38b2
              try clear c40
              try clear c40b0
              try clear c40b1
              try clear c41
              try clear c41b0
              try clear c41b1
              try clear hcv45
              try clear c49
              try clear hcv50
              try clear p1
              try clear p12
              try clear p2
              try clear p29
              try clear p3
              try clear q1
              try clear q12
              try clear q2
              try clear q29
              obtain ⟨kq, HA, HJ29, HB⟩ := hcut
              cases kq with
              | zero => exact absurd HA.out (by simp [backhaullaw01_SerialMarks.j2])
              | succ kj29 =>
                have H := HA.out
                clear HA
                simp only [backhaullaw01_SerialMarks.j2] at H
                have HC52 := Aside0.mk H
                clear H
                go_upto_region 8 with (fail)
                go_cut [109] (fun v109 wc => ∃ (kq : Nat) (x109_51 : Bool), v109 = .bool x109_51 ∧ Aside0 (backhaullaw01_SerialMarks.j3 kq a0 a1 t663 x109_51 = some true) ∧ Aside0 (kq ≤ kj29) ∧ Aside0 (Below w.heap.size w wc))
                case first =>
                  have H := HC52.out
                  clear HC52
                  by_cases c53 : (wrap64 (a1 + 1)) < (a0.size : Int)
                  · rw [if_pos c53] at H
                    have c53b0 : decide ((wrap64 (a1 + 1)) < (a0.size : Int)) = true := decide_eq_true c53
                    clear c53
                    (first | rw [c53b0] | (simp only [i64_w, i32_w]; rw [c53b0]) | skip)
                    obtain ⟨ji54, hji54⟩ : ∃ j_ : Int, (wrap64 (a1 + 1)) = j_ := ⟨_, rfl⟩
                    replace H : (if 0 ≤ (ji54) then (if (bt a0 (ji54)) = 45 then (backhaullaw01_SerialMarks.j3 kj29 a0 a1 t663 false) else (if 0 ≤ a1 then (if a1 < (a0.size : Int) then (backhaullaw01_SerialMarks.j3 kj29 a0 a1 t663 ((bt a0 a1) != (bt a0 (ji54)))) else (none)) else (none))) else (none)) = some true := by first | (rw [hji54] at H; exact H) | (simp only [hji54] at H ⊢; exact H)
                    (try rw [hji54] at c53b0)
                    have hji54w : (IntKind.i64.wrap (a1 + 1)) = ji54 := (i64_w _).trans hji54
                    by_cases c55 : 0 ≤ (ji54)
                    · rw [if_pos c55] at H
                      have c55b0 : decide (0 ≤ (ji54)) = true := decide_eq_true c55
                      clear c55
                      by_cases c57 : (bt a0 (ji54)) = 45
                      · rw [if_pos c57] at H
                        have c57b0 : ((bt a0 (ji54)) == 45) = true := beq_iff_eq.mpr c57
                        have c57b1 : ((bt a0 (ji54)) != 45) = false := bne_eq_false_iff_eq.mpr c57
                        clear c57
                        have H' := Aside0.mk H
                        clear H
                        try go_wp2
                        have n0_ := Aside0.mk (below_drew1 HB.out)
                        clear HB
                        have HB := n0_
                        clear n0_
                        have p56 : 0 ≤ ((ji54) : Int) := of_decide_eq_true (by first | (with_reducible assumption) | assumption)
                        have q56 : (ji54) < (a0.size : Int) := of_decide_eq_true (by first | (with_reducible assumption) | assumption)
                        have hx56 := bt_at a0 (ji54)
                        replace p56 := eq_true p56
                        replace q56 := eq_true q56
                        refine start_ (n := 22) (S := fun w' => True) (ds := []) #[false, false, false, false, false, false, false, false, false, false, false, false, false, false, false, false, false, false, false, false, false, false] (by kernel_rfl) rfl rfl trivial (fun hHeld => ?_); refine with_tabW backhaullaw01_SerialMarks.tab8 backhaullaw01_SerialMarks.bits8 (fun HT_ HW_ => ?_)
                        generalize wc.drew = w58 at HB hHeld ⊢
                        refine pure_ (i := 0) (N := some 88) (v := ?_) (a' := ?_) #[true, false, false, false, false, false, false, false, false, false, false, false, false, false, false, false, false, false, false, false, false, false] rfl rfl (any_of HT_.out (by kernel_rfl)) (fun _ _ _ h => h) (Or.inl ⟨by rfl, ?_⟩) ?_ ?_
                        rotate_left
                        · intro w'
                          go_simp
                          with_reducible rfl
                        rotate_left
                        · simp only [Act.put, List.setIfInBounds_toArray, List.set_cons_zero, List.set_cons_succ, i64_w, i32_w]
                          rfl
                        refine pure_ (i := 1) (N := some 89) (v := ?_) (a' := ?_) #[true, true, false, false, false, false, false, false, false, false, false, false, false, false, false, false, false, false, false, false, false, false] rfl rfl (any_of HT_.out (by kernel_rfl)) (fun _ _ _ h => h) (Or.inl ⟨by rfl, ?_⟩) ?_ ?_
                        rotate_left
                        · intro w'
                          go_simp
                          with_reducible rfl
                        rotate_left
                        · simp only [Act.put, List.setIfInBounds_toArray, List.set_cons_zero, List.set_cons_succ, i64_w, i32_w]
                          rfl
                        refine pure_ (i := 2) (N := some 90) (v := ?_) (a' := ?_) #[true, true, true, false, false, false, false, false, false, false, false, false, false, false, false, false, false, false, false, false, false, false] rfl rfl (any_of HT_.out (by kernel_rfl)) (fun _ _ _ h => h) (Or.inl ⟨by rfl, ?_⟩) ?_ ?_
                        rotate_left
                        · intro w'
                          go_simp
                          with_reducible rfl
                        rotate_left
                        · simp only [Act.put, List.setIfInBounds_toArray, List.set_cons_zero, List.set_cons_succ, i64_w, i32_w]
                          rfl
                        refine pure_ (i := 3) (N := some 91) (v := ?_) (a' := ?_) #[true, true, true, true, false, false, false, false, false, false, false, false, false, false, false, false, false, false, false, false, false, false] rfl rfl (any_of HT_.out (by kernel_rfl)) (fun _ _ _ h => h) (Or.inl ⟨by rfl, ?_⟩) ?_ ?_
                        rotate_left
                        · intro w'
                          go_simp
                          with_reducible rfl
                        rotate_left
                        · simp only [Act.put, List.setIfInBounds_toArray, List.set_cons_zero, List.set_cons_succ, i64_w, i32_w]
                          rfl
                        refine pure_ (i := 4) (N := some 92) (v := ?_) (a' := ?_) #[true, true, true, true, true, false, false, false, false, false, false, false, false, false, false, false, false, false, false, false, false, false] rfl rfl (any_of HT_.out (by kernel_rfl)) (fun _ _ _ h => h) (Or.inl ⟨by rfl, ?_⟩) ?_ ?_
                        rotate_left
                        · intro w'
                          go_simp
                          with_reducible rfl
                        rotate_left
                        · simp only [Act.put, List.setIfInBounds_toArray, List.set_cons_zero, List.set_cons_succ, i64_w, i32_w]
                          rfl
                        refine pure_ (i := 5) (N := some 93) (v := ?_) (a' := ?_) #[true, true, true, true, true, true, false, false, false, false, false, false, false, false, false, false, false, false, false, false, false, false] rfl rfl (any_of HT_.out (by kernel_rfl)) (fun _ _ _ h => h) (Or.inl ⟨by rfl, ?_⟩) ?_ ?_
                        rotate_left
                        · intro w'
                          go_simp
                          with_reducible rfl
                        rotate_left
                        · simp only [Act.put, List.setIfInBounds_toArray, List.set_cons_zero, List.set_cons_succ, i64_w, i32_w]
                          rfl
                        refine pure_ (i := 6) (N := some 94) (v := ?_) (a' := ?_) #[true, true, true, true, true, true, true, false, false, false, false, false, false, false, false, false, false, false, false, false, false, false] rfl rfl (any_of HT_.out (by kernel_rfl)) (fun _ _ _ h => h) (Or.inl ⟨by rfl, ?_⟩) ?_ ?_
                        rotate_left
                        · intro w'
                          go_simp
                          with_reducible rfl
                        rotate_left
                        · simp only [Act.put, List.setIfInBounds_toArray, List.set_cons_zero, List.set_cons_succ, i64_w, i32_w]
                          rfl
                        refine pure_ (i := 7) (N := some 95) (v := ?_) (a' := ?_) #[true, true, true, true, true, true, true, true, false, false, false, false, false, false, false, false, false, false, false, false, false, false] rfl rfl (any_of HT_.out (by kernel_rfl)) (fun _ _ _ h => h) (Or.inl ⟨by rfl, ?_⟩) ?_ ?_
                        rotate_left
                        · intro w'
                          go_simp
                          with_reducible rfl
                        rotate_left
                        · simp only [Act.put, List.setIfInBounds_toArray, List.set_cons_zero, List.set_cons_succ, i64_w, i32_w]
                          rfl
                        refine pure_ (i := 8) (N := some 96) (v := ?_) (a' := ?_) #[true, true, true, true, true, true, true, true, true, false, false, false, false, false, false, false, false, false, false, false, false, false] rfl rfl (any_of HT_.out (by kernel_rfl)) (fun _ _ _ h => h) (Or.inl ⟨by rfl, ?_⟩) ?_ ?_
                        rotate_left
                        · intro w'
                          go_simp
                          with_reducible rfl
                        rotate_left
                        · simp only [Act.put, List.setIfInBounds_toArray, List.set_cons_zero, List.set_cons_succ, i64_w, i32_w]
                          rfl
                        refine take_ (i := 9) (N := some 97) (v := ?_) (a' := ?_) #[true, true, true, true, true, true, true, true, true, true, false, false, false, false, false, false, false, false, false, false, false, false] rfl rfl (take_ofW HT_.out HW_.out (by kernel_rfl)) (fun _ _ _ h => h) (Or.inl ⟨by rfl, ?_⟩) hHeld ?_ ?_
                        rotate_left
                        · intro w' _
                          go_simp
                          with_reducible rfl
                        rotate_left
                        · simp only [Act.put, List.setIfInBounds_toArray, List.set_cons_zero, List.set_cons_succ, i64_w, i32_w]
                          rfl
                        refine pure_ (i := 10) (N := some 98) (v := ?_) (a' := ?_) #[true, true, true, true, true, true, true, true, true, true, true, false, false, false, false, false, false, false, false, false, false, false] rfl rfl (any_of HT_.out (by kernel_rfl)) (fun _ _ _ h => h) (Or.inl ⟨by rfl, ?_⟩) ?_ ?_
                        rotate_left
                        · intro w'
                          go_simp
                          with_reducible rfl
                        rotate_left
                        · simp only [Act.put, List.setIfInBounds_toArray, List.set_cons_zero, List.set_cons_succ, i64_w, i32_w]
                          rfl
                        refine pure_ (i := 11) (N := some 99) (v := ?_) (a' := ?_) #[true, true, true, true, true, true, true, true, true, true, true, true, false, false, false, false, false, false, false, false, false, false] rfl rfl (any_of HT_.out (by kernel_rfl)) (fun _ _ _ h => h) (Or.inl ⟨by rfl, ?_⟩) ?_ ?_
                        rotate_left
                        · intro w'
                          go_simp
                          with_reducible rfl
                        rotate_left
                        · simp only [Act.put, List.setIfInBounds_toArray, List.set_cons_zero, List.set_cons_succ, i64_w, i32_w]
                          rfl
                        refine pure_ (i := 12) (N := some 100) (v := ?_) (a' := ?_) #[true, true, true, true, true, true, true, true, true, true, true, true, true, false, false, false, false, false, false, false, false, false] rfl rfl (any_of HT_.out (by kernel_rfl)) (fun _ _ _ h => h) (Or.inl ⟨by rfl, ?_⟩) ?_ ?_
                        rotate_left
                        · intro w'
                          go_simp
                          with_reducible rfl
                        rotate_left
                        · simp only [Act.put, List.setIfInBounds_toArray, List.set_cons_zero, List.set_cons_succ, i64_w, i32_w]
                          rfl
                        refine pure_ (i := 13) (N := some 101) (v := undef) (a' := ?_) #[true, true, true, true, true, true, true, true, true, true, true, true, true, true, false, false, false, false, false, false, false, false] rfl rfl (any_of HT_.out (by kernel_rfl)) (fun _ _ _ h => h) (Or.inr ⟨by rfl, rfl⟩) ?_ ?_
                        rotate_left
                        · simp only [Act.put, List.setIfInBounds_toArray, List.set_cons_zero, List.set_cons_succ, i64_w, i32_w]
                          rfl
                        refine pure_ (i := 14) (N := some 102) (v := undef) (a' := ?_) #[true, true, true, true, true, true, true, true, true, true, true, true, true, true, true, false, false, false, false, false, false, false] rfl rfl (any_of HT_.out (by kernel_rfl)) (fun _ _ _ h => h) (Or.inr ⟨by rfl, rfl⟩) ?_ ?_
                        rotate_left
                        · simp only [Act.put, List.setIfInBounds_toArray, List.set_cons_zero, List.set_cons_succ, i64_w, i32_w]
                          rfl
                        refine pure_ (i := 15) (N := some 103) (v := undef) (a' := ?_) #[true, true, true, true, true, true, true, true, true, true, true, true, true, true, true, true, false, false, false, false, false, false] rfl rfl (any_of HT_.out (by kernel_rfl)) (fun _ _ _ h => h) (Or.inr ⟨by rfl, rfl⟩) ?_ ?_
                        rotate_left
                        · simp only [Act.put, List.setIfInBounds_toArray, List.set_cons_zero, List.set_cons_succ, i64_w, i32_w]
                          rfl
                        refine pure_ (i := 16) (N := some 104) (v := undef) (a' := ?_) #[true, true, true, true, true, true, true, true, true, true, true, true, true, true, true, true, true, false, false, false, false, false] rfl rfl (any_of HT_.out (by kernel_rfl)) (fun _ _ _ h => h) (Or.inr ⟨by rfl, rfl⟩) ?_ ?_
                        rotate_left
                        · simp only [Act.put, List.setIfInBounds_toArray, List.set_cons_zero, List.set_cons_succ, i64_w, i32_w]
                          rfl
                        refine pure_ (i := 17) (N := some 105) (v := undef) (a' := ?_) #[true, true, true, true, true, true, true, true, true, true, true, true, true, true, true, true, true, true, false, false, false, false] rfl rfl (any_of HT_.out (by kernel_rfl)) (fun _ _ _ h => h) (Or.inr ⟨by rfl, rfl⟩) ?_ ?_
                        rotate_left
                        · simp only [Act.put, List.setIfInBounds_toArray, List.set_cons_zero, List.set_cons_succ, i64_w, i32_w]
                          rfl
                        refine pure_ (i := 18) (N := some 106) (v := undef) (a' := ?_) #[true, true, true, true, true, true, true, true, true, true, true, true, true, true, true, true, true, true, true, false, false, false] rfl rfl (any_of HT_.out (by kernel_rfl)) (fun _ _ _ h => h) (Or.inr ⟨by rfl, rfl⟩) ?_ ?_
                        rotate_left
                        · simp only [Act.put, List.setIfInBounds_toArray, List.set_cons_zero, List.set_cons_succ, i64_w, i32_w]
                          rfl
                        refine pure_ (i := 19) (N := some 107) (v := undef) (a' := ?_) #[true, true, true, true, true, true, true, true, true, true, true, true, true, true, true, true, true, true, true, true, false, false] rfl rfl (any_of HT_.out (by kernel_rfl)) (fun _ _ _ h => h) (Or.inr ⟨by rfl, rfl⟩) ?_ ?_
                        rotate_left
                        · simp only [Act.put, List.setIfInBounds_toArray, List.set_cons_zero, List.set_cons_succ, i64_w, i32_w]
                          rfl
                        refine pure_ (i := 20) (N := some 108) (v := undef) (a' := ?_) #[true, true, true, true, true, true, true, true, true, true, true, true, true, true, true, true, true, true, true, true, true, false] rfl rfl (any_of HT_.out (by kernel_rfl)) (fun _ _ _ h => h) (Or.inr ⟨by rfl, rfl⟩) ?_ ?_
                        rotate_left
                        · simp only [Act.put, List.setIfInBounds_toArray, List.set_cons_zero, List.set_cons_succ, i64_w, i32_w]
                          rfl
                        refine pure_ (i := 21) (N := some 109) (v := ?_) (a' := ?_) #[true, true, true, true, true, true, true, true, true, true, true, true, true, true, true, true, true, true, true, true, true, true] rfl rfl (any_of HT_.out (by kernel_rfl)) (fun _ _ _ h => h) (Or.inl ⟨by rfl, ?_⟩) ?_ ?_
                        rotate_left
                        · intro w'
                          go_simp
                          with_reducible rfl
                        rotate_left
                        · simp only [Act.put, List.setIfInBounds_toArray, List.set_cons_zero, List.set_cons_succ, i64_w, i32_w]
                          rfl
                        refine done_ (done_of HT_.out (by kernel_rfl)) ?_
                        try go_wp2
                        go_meet
                        case rel => exact ⟨_, (false), (by first | rfl | (simp; done) | (simp [*]; done)), H', ⟨by have := HJ4.out; have := HJ23.out; have := HJ29.out; first | omega | exact Nat.le_refl _⟩, ⟨by repeat (first | (with_reducible first | exact HB.out | apply below_alloc | apply pw_below_drewN | apply below_drew1) | exact HB.out)⟩⟩
                      · rw [if_neg c57] at H
                        have c57b0 : ((bt a0 (ji54)) == 45) = false := beq_eq_false_iff_ne.mpr c57
                        have c57b1 : ((bt a0 (ji54)) != 45) = true := bne_iff_ne.mpr c57
                        by_cases c59 : 0 ≤ a1
                        · rw [if_pos c59] at H
                          have c59b0 : decide (0 ≤ a1) = true := decide_eq_true c59
                          clear c59
                          by_cases c60 : a1 < (a0.size : Int)
                          · rw [if_pos c60] at H
                            have c60b0 : decide (a1 < (a0.size : Int)) = true := decide_eq_true c60
                            clear c60
                            have H' := Aside0.mk H
                            clear H
                            try go_wp2
                            have n0_ := Aside0.mk (below_drew1 HB.out)
                            clear HB
                            have HB := n0_
                            clear n0_
                            have p56 : 0 ≤ ((ji54) : Int) := of_decide_eq_true (by first | (with_reducible assumption) | assumption)
                            have q56 : (ji54) < (a0.size : Int) := of_decide_eq_true (by first | (with_reducible assumption) | assumption)
                            have hx56 := bt_at a0 (ji54)
                            replace p56 := eq_true p56
                            replace q56 := eq_true q56
                            have p61 : 0 ≤ (a1 : Int) := of_decide_eq_true (by first | (with_reducible assumption) | assumption)
                            have q61 : a1 < (a0.size : Int) := of_decide_eq_true (by first | (with_reducible assumption) | assumption)
                            have hx61 := bt_at a0 a1
                            replace p61 := eq_true p61
                            replace q61 := eq_true q61
                            have p62 : 0 ≤ ((ji54) : Int) := of_decide_eq_true (by first | (with_reducible assumption) | assumption)
                            have q62 : (ji54) < (a0.size : Int) := of_decide_eq_true (by first | (with_reducible assumption) | assumption)
                            have hx62 := bt_at a0 (ji54)
                            replace p62 := eq_true p62
                            replace q62 := eq_true q62
                            refine start_ (n := 22) (S := fun w' => True) (ds := []) #[false, false, false, false, false, false, false, false, false, false, false, false, false, false, false, false, false, false, false, false, false, false] (by kernel_rfl) rfl rfl trivial (fun hHeld => ?_); refine with_tabW backhaullaw01_SerialMarks.tab8 backhaullaw01_SerialMarks.bits8 (fun HT_ HW_ => ?_)
                            generalize wc.drew = w63 at HB hHeld ⊢
                            refine pure_ (i := 0) (N := some 88) (v := ?_) (a' := ?_) #[true, false, false, false, false, false, false, false, false, false, false, false, false, false, false, false, false, false, false, false, false, false] rfl rfl (any_of HT_.out (by kernel_rfl)) (fun _ _ _ h => h) (Or.inl ⟨by rfl, ?_⟩) ?_ ?_
                            rotate_left
                            · intro w'
                              go_simp
                              with_reducible rfl
                            rotate_left
                            · simp only [Act.put, List.setIfInBounds_toArray, List.set_cons_zero, List.set_cons_succ, i64_w, i32_w]
                              rfl
                            refine pure_ (i := 1) (N := some 89) (v := ?_) (a' := ?_) #[true, true, false, false, false, false, false, false, false, false, false, false, false, false, false, false, false, false, false, false, false, false] rfl rfl (any_of HT_.out (by kernel_rfl)) (fun _ _ _ h => h) (Or.inl ⟨by rfl, ?_⟩) ?_ ?_
                            rotate_left
                            · intro w'
                              go_simp
                              with_reducible rfl
                            rotate_left
                            · simp only [Act.put, List.setIfInBounds_toArray, List.set_cons_zero, List.set_cons_succ, i64_w, i32_w]
                              rfl
                            refine pure_ (i := 2) (N := some 90) (v := ?_) (a' := ?_) #[true, true, true, false, false, false, false, false, false, false, false, false, false, false, false, false, false, false, false, false, false, false] rfl rfl (any_of HT_.out (by kernel_rfl)) (fun _ _ _ h => h) (Or.inl ⟨by rfl, ?_⟩) ?_ ?_
                            rotate_left
                            · intro w'
                              go_simp
                              with_reducible rfl
                            rotate_left
                            · simp only [Act.put, List.setIfInBounds_toArray, List.set_cons_zero, List.set_cons_succ, i64_w, i32_w]
                              rfl
                            refine pure_ (i := 3) (N := some 91) (v := ?_) (a' := ?_) #[true, true, true, true, false, false, false, false, false, false, false, false, false, false, false, false, false, false, false, false, false, false] rfl rfl (any_of HT_.out (by kernel_rfl)) (fun _ _ _ h => h) (Or.inl ⟨by rfl, ?_⟩) ?_ ?_
                            rotate_left
                            · intro w'
                              go_simp
                              with_reducible rfl
                            rotate_left
                            · simp only [Act.put, List.setIfInBounds_toArray, List.set_cons_zero, List.set_cons_succ, i64_w, i32_w]
                              rfl
                            refine pure_ (i := 4) (N := some 92) (v := ?_) (a' := ?_) #[true, true, true, true, true, false, false, false, false, false, false, false, false, false, false, false, false, false, false, false, false, false] rfl rfl (any_of HT_.out (by kernel_rfl)) (fun _ _ _ h => h) (Or.inl ⟨by rfl, ?_⟩) ?_ ?_
                            rotate_left
                            · intro w'
                              go_simp
                              with_reducible rfl
                            rotate_left
                            · simp only [Act.put, List.setIfInBounds_toArray, List.set_cons_zero, List.set_cons_succ, i64_w, i32_w]
                              rfl
                            refine pure_ (i := 5) (N := some 93) (v := ?_) (a' := ?_) #[true, true, true, true, true, true, false, false, false, false, false, false, false, false, false, false, false, false, false, false, false, false] rfl rfl (any_of HT_.out (by kernel_rfl)) (fun _ _ _ h => h) (Or.inl ⟨by rfl, ?_⟩) ?_ ?_
                            rotate_left
                            · intro w'
                              go_simp
                              with_reducible rfl
                            rotate_left
                            · simp only [Act.put, List.setIfInBounds_toArray, List.set_cons_zero, List.set_cons_succ, i64_w, i32_w]
                              rfl
                            refine pure_ (i := 6) (N := some 94) (v := ?_) (a' := ?_) #[true, true, true, true, true, true, true, false, false, false, false, false, false, false, false, false, false, false, false, false, false, false] rfl rfl (any_of HT_.out (by kernel_rfl)) (fun _ _ _ h => h) (Or.inl ⟨by rfl, ?_⟩) ?_ ?_
                            rotate_left
                            · intro w'
                              go_simp
                              with_reducible rfl
                            rotate_left
                            · simp only [Act.put, List.setIfInBounds_toArray, List.set_cons_zero, List.set_cons_succ, i64_w, i32_w]
                              rfl
                            refine pure_ (i := 7) (N := some 95) (v := ?_) (a' := ?_) #[true, true, true, true, true, true, true, true, false, false, false, false, false, false, false, false, false, false, false, false, false, false] rfl rfl (any_of HT_.out (by kernel_rfl)) (fun _ _ _ h => h) (Or.inl ⟨by rfl, ?_⟩) ?_ ?_
                            rotate_left
                            · intro w'
                              go_simp
                              with_reducible rfl
                            rotate_left
                            · simp only [Act.put, List.setIfInBounds_toArray, List.set_cons_zero, List.set_cons_succ, i64_w, i32_w]
                              rfl
                            refine pure_ (i := 8) (N := some 96) (v := ?_) (a' := ?_) #[true, true, true, true, true, true, true, true, true, false, false, false, false, false, false, false, false, false, false, false, false, false] rfl rfl (any_of HT_.out (by kernel_rfl)) (fun _ _ _ h => h) (Or.inl ⟨by rfl, ?_⟩) ?_ ?_
                            rotate_left
                            · intro w'
                              go_simp
                              with_reducible rfl
                            rotate_left
                            · simp only [Act.put, List.setIfInBounds_toArray, List.set_cons_zero, List.set_cons_succ, i64_w, i32_w]
                              rfl
                            refine take_ (i := 9) (N := some 97) (v := ?_) (a' := ?_) #[true, true, true, true, true, true, true, true, true, true, false, false, false, false, false, false, false, false, false, false, false, false] rfl rfl (take_ofW HT_.out HW_.out (by kernel_rfl)) (fun _ _ _ h => h) (Or.inl ⟨by rfl, ?_⟩) hHeld ?_ ?_
                            rotate_left
                            · intro w' _
                              go_simp
                              with_reducible rfl
                            rotate_left
                            · simp only [Act.put, List.setIfInBounds_toArray, List.set_cons_zero, List.set_cons_succ, i64_w, i32_w]
                              rfl
                            refine pure_ (i := 10) (N := some 98) (v := ?_) (a' := ?_) #[true, true, true, true, true, true, true, true, true, true, true, false, false, false, false, false, false, false, false, false, false, false] rfl rfl (any_of HT_.out (by kernel_rfl)) (fun _ _ _ h => h) (Or.inl ⟨by rfl, ?_⟩) ?_ ?_
                            rotate_left
                            · intro w'
                              go_simp
                              with_reducible rfl
                            rotate_left
                            · simp only [Act.put, List.setIfInBounds_toArray, List.set_cons_zero, List.set_cons_succ, i64_w, i32_w]
                              rfl
                            refine pure_ (i := 11) (N := some 99) (v := ?_) (a' := ?_) #[true, true, true, true, true, true, true, true, true, true, true, true, false, false, false, false, false, false, false, false, false, false] rfl rfl (any_of HT_.out (by kernel_rfl)) (fun _ _ _ h => h) (Or.inl ⟨by rfl, ?_⟩) ?_ ?_
                            rotate_left
                            · intro w'
                              go_simp
                              with_reducible rfl
                            rotate_left
                            · simp only [Act.put, List.setIfInBounds_toArray, List.set_cons_zero, List.set_cons_succ, i64_w, i32_w]
                              rfl
                            refine pure_ (i := 12) (N := some 100) (v := ?_) (a' := ?_) #[true, true, true, true, true, true, true, true, true, true, true, true, true, false, false, false, false, false, false, false, false, false] rfl rfl (any_of HT_.out (by kernel_rfl)) (fun _ _ _ h => h) (Or.inl ⟨by rfl, ?_⟩) ?_ ?_
                            rotate_left
                            · intro w'
                              go_simp
                              with_reducible rfl
                            rotate_left
                            · simp only [Act.put, List.setIfInBounds_toArray, List.set_cons_zero, List.set_cons_succ, i64_w, i32_w]
                              rfl
                            refine pure_ (i := 13) (N := some 101) (v := ?_) (a' := ?_) #[true, true, true, true, true, true, true, true, true, true, true, true, true, true, false, false, false, false, false, false, false, false] rfl rfl (any_of HT_.out (by kernel_rfl)) (fun _ _ _ h => h) (Or.inl ⟨by rfl, ?_⟩) ?_ ?_
                            rotate_left
                            · intro w'
                              go_simp
                              with_reducible rfl
                            rotate_left
                            · simp only [Act.put, List.setIfInBounds_toArray, List.set_cons_zero, List.set_cons_succ, i64_w, i32_w]
                              rfl
                            refine pure_ (i := 14) (N := some 102) (v := ?_) (a' := ?_) #[true, true, true, true, true, true, true, true, true, true, true, true, true, true, true, false, false, false, false, false, false, false] rfl rfl (any_of HT_.out (by kernel_rfl)) (fun _ _ _ h => h) (Or.inl ⟨by rfl, ?_⟩) ?_ ?_
                            rotate_left
                            · intro w'
                              go_simp
                              with_reducible rfl
                            rotate_left
                            · simp only [Act.put, List.setIfInBounds_toArray, List.set_cons_zero, List.set_cons_succ, i64_w, i32_w]
                              rfl
                            refine pure_ (i := 16) (N := some 104) (v := ?_) (a' := ?_) #[true, true, true, true, true, true, true, true, true, true, true, true, true, true, true, false, true, false, false, false, false, false] rfl rfl (any_of HT_.out (by kernel_rfl)) (fun _ _ _ h => h) (Or.inl ⟨by rfl, ?_⟩) ?_ ?_
                            rotate_left
                            · intro w'
                              go_simp
                              with_reducible rfl
                            rotate_left
                            · simp only [Act.put, List.setIfInBounds_toArray, List.set_cons_zero, List.set_cons_succ, i64_w, i32_w]
                              rfl
                            refine pure_ (i := 17) (N := some 105) (v := ?_) (a' := ?_) #[true, true, true, true, true, true, true, true, true, true, true, true, true, true, true, false, true, true, false, false, false, false] rfl rfl (any_of HT_.out (by kernel_rfl)) (fun _ _ _ h => h) (Or.inl ⟨by rfl, ?_⟩) ?_ ?_
                            rotate_left
                            · intro w'
                              go_simp
                              with_reducible rfl
                            rotate_left
                            · simp only [Act.put, List.setIfInBounds_toArray, List.set_cons_zero, List.set_cons_succ, i64_w, i32_w]
                              rfl
                            refine pure_ (i := 18) (N := some 106) (v := ?_) (a' := ?_) #[true, true, true, true, true, true, true, true, true, true, true, true, true, true, true, false, true, true, true, false, false, false] rfl rfl (any_of HT_.out (by kernel_rfl)) (fun _ _ _ h => h) (Or.inl ⟨by rfl, ?_⟩) ?_ ?_
                            rotate_left
                            · intro w'
                              go_simp
                              with_reducible rfl
                            rotate_left
                            · simp only [Act.put, List.setIfInBounds_toArray, List.set_cons_zero, List.set_cons_succ, i64_w, i32_w]
                              rfl
                            refine take_ (i := 15) (N := some 103) (v := ?_) (a' := ?_) #[true, true, true, true, true, true, true, true, true, true, true, true, true, true, true, true, true, true, true, false, false, false] rfl rfl (take_ofW HT_.out HW_.out (by kernel_rfl)) (fun _ _ _ h => h) (Or.inl ⟨by rfl, ?_⟩) hHeld ?_ ?_
                            rotate_left
                            · intro w' _
                              go_simp
                              with_reducible rfl
                            rotate_left
                            · simp only [Act.put, List.setIfInBounds_toArray, List.set_cons_zero, List.set_cons_succ, i64_w, i32_w]
                              rfl
                            refine take_ (i := 19) (N := some 107) (v := ?_) (a' := ?_) #[true, true, true, true, true, true, true, true, true, true, true, true, true, true, true, true, true, true, true, true, false, false] rfl rfl (take_ofW HT_.out HW_.out (by kernel_rfl)) (fun _ _ _ h => h) (Or.inl ⟨by rfl, ?_⟩) hHeld ?_ ?_
                            rotate_left
                            · intro w' _
                              go_simp
                              with_reducible rfl
                            rotate_left
                            · simp only [Act.put, List.setIfInBounds_toArray, List.set_cons_zero, List.set_cons_succ, i64_w, i32_w]
                              rfl
                            refine pure_ (i := 20) (N := some 108) (v := ?_) (a' := ?_) #[true, true, true, true, true, true, true, true, true, true, true, true, true, true, true, true, true, true, true, true, true, false] rfl rfl (any_of HT_.out (by kernel_rfl)) (fun _ _ _ h => h) (Or.inl ⟨by rfl, ?_⟩) ?_ ?_
                            rotate_left
                            · intro w'
                              go_simp
                              with_reducible rfl
                            rotate_left
                            · simp only [Act.put, List.setIfInBounds_toArray, List.set_cons_zero, List.set_cons_succ, i64_w, i32_w]
                              rfl
                            refine pure_ (i := 21) (N := some 109) (v := ?_) (a' := ?_) #[true, true, true, true, true, true, true, true, true, true, true, true, true, true, true, true, true, true, true, true, true, true] rfl rfl (any_of HT_.out (by kernel_rfl)) (fun _ _ _ h => h) (Or.inl ⟨by rfl, ?_⟩) ?_ ?_
                            rotate_left
                            · intro w'
                              go_simp
                              with_reducible rfl
                            rotate_left
                            · simp only [Act.put, List.setIfInBounds_toArray, List.set_cons_zero, List.set_cons_succ, i64_w, i32_w]
                              rfl
                            refine done_ (done_of HT_.out (by kernel_rfl)) ?_
                            try go_wp2
                            go_meet
                            case rel => exact ⟨_, (((bt a0 a1) != (bt a0 (ji54)))), (by first | rfl | (simp; done) | (simp only [← hji54] <;> (first | rfl | simp)) | (simp [*]; done)), H', ⟨by have := HJ4.out; have := HJ23.out; have := HJ29.out; first | omega | exact Nat.le_refl _⟩, ⟨by repeat (first | (with_reducible first | exact HB.out | apply below_alloc | apply pw_below_drewN | apply below_drew1) | exact HB.out)⟩⟩
                          · rw [if_neg c60] at H
                            exact absurd H (by simp)
                        · rw [if_neg c59] at H
                          exact absurd H (by simp)
                    · rw [if_neg c55] at H
                      exact absurd H (by simp)
                  · rw [if_neg c53] at H
                    have c53b0 : decide ((wrap64 (a1 + 1)) < (a0.size : Int)) = false := decide_eq_false c53
                    clear c53
                    (first | rw [c53b0] | (simp only [i64_w, i32_w]; rw [c53b0]) | skip)
                    have H' := Aside0.mk H
                    clear H
                    try go_wp2
                    have n0_ := Aside0.mk (below_drew1 HB.out)
                    clear HB
                    have HB := n0_
                    clear n0_
                    refine start_ (n := 22) (S := fun w' => True) (ds := []) #[false, false, false, false, false, false, false, false, false, false, false, false, false, false, false, false, false, false, false, false, false, false] (by kernel_rfl) rfl rfl trivial (fun hHeld => ?_); refine with_tabW backhaullaw01_SerialMarks.tab8 backhaullaw01_SerialMarks.bits8 (fun HT_ HW_ => ?_)
                    generalize wc.drew = w64 at HB hHeld ⊢
                    refine pure_ (i := 0) (N := some 88) (v := ?_) (a' := ?_) #[true, false, false, false, false, false, false, false, false, false, false, false, false, false, false, false, false, false, false, false, false, false] rfl rfl (any_of HT_.out (by kernel_rfl)) (fun _ _ _ h => h) (Or.inl ⟨by rfl, ?_⟩) ?_ ?_
                    rotate_left
                    · intro w'
                      go_simp
                      with_reducible rfl
                    rotate_left
                    · simp only [Act.put, List.setIfInBounds_toArray, List.set_cons_zero, List.set_cons_succ, i64_w, i32_w]
                      rfl
                    refine pure_ (i := 1) (N := some 89) (v := ?_) (a' := ?_) #[true, true, false, false, false, false, false, false, false, false, false, false, false, false, false, false, false, false, false, false, false, false] rfl rfl (any_of HT_.out (by kernel_rfl)) (fun _ _ _ h => h) (Or.inl ⟨by rfl, ?_⟩) ?_ ?_
                    rotate_left
                    · intro w'
                      go_simp
                      with_reducible rfl
                    rotate_left
                    · simp only [Act.put, List.setIfInBounds_toArray, List.set_cons_zero, List.set_cons_succ, i64_w, i32_w]
                      rfl
                    refine pure_ (i := 2) (N := some 90) (v := ?_) (a' := ?_) #[true, true, true, false, false, false, false, false, false, false, false, false, false, false, false, false, false, false, false, false, false, false] rfl rfl (any_of HT_.out (by kernel_rfl)) (fun _ _ _ h => h) (Or.inl ⟨by rfl, ?_⟩) ?_ ?_
                    rotate_left
                    · intro w'
                      go_simp
                      with_reducible rfl
                    rotate_left
                    · simp only [Act.put, List.setIfInBounds_toArray, List.set_cons_zero, List.set_cons_succ, i64_w, i32_w]
                      rfl
                    refine pure_ (i := 3) (N := some 91) (v := ?_) (a' := ?_) #[true, true, true, true, false, false, false, false, false, false, false, false, false, false, false, false, false, false, false, false, false, false] rfl rfl (any_of HT_.out (by kernel_rfl)) (fun _ _ _ h => h) (Or.inl ⟨by rfl, ?_⟩) ?_ ?_
                    rotate_left
                    · intro w'
                      go_simp
                      with_reducible rfl
                    rotate_left
                    · simp only [Act.put, List.setIfInBounds_toArray, List.set_cons_zero, List.set_cons_succ, i64_w, i32_w]
                      rfl
                    refine pure_ (i := 4) (N := some 92) (v := ?_) (a' := ?_) #[true, true, true, true, true, false, false, false, false, false, false, false, false, false, false, false, false, false, false, false, false, false] rfl rfl (any_of HT_.out (by kernel_rfl)) (fun _ _ _ h => h) (Or.inl ⟨by rfl, ?_⟩) ?_ ?_
                    rotate_left
                    · intro w'
                      go_simp
                      with_reducible rfl
                    rotate_left
                    · simp only [Act.put, List.setIfInBounds_toArray, List.set_cons_zero, List.set_cons_succ, i64_w, i32_w]
                      rfl
                    refine pure_ (i := 5) (N := some 93) (v := ?_) (a' := ?_) #[true, true, true, true, true, true, false, false, false, false, false, false, false, false, false, false, false, false, false, false, false, false] rfl rfl (any_of HT_.out (by kernel_rfl)) (fun _ _ _ h => h) (Or.inl ⟨by rfl, ?_⟩) ?_ ?_
                    rotate_left
                    · intro w'
                      go_simp
                      with_reducible rfl
                    rotate_left
                    · simp only [Act.put, List.setIfInBounds_toArray, List.set_cons_zero, List.set_cons_succ, i64_w, i32_w]
                      rfl
                    refine pure_ (i := 6) (N := some 94) (v := undef) (a' := ?_) #[true, true, true, true, true, true, true, false, false, false, false, false, false, false, false, false, false, false, false, false, false, false] rfl rfl (any_of HT_.out (by kernel_rfl)) (fun _ _ _ h => h) (Or.inr ⟨by rfl, rfl⟩) ?_ ?_
                    rotate_left
                    · simp only [Act.put, List.setIfInBounds_toArray, List.set_cons_zero, List.set_cons_succ, i64_w, i32_w]
                      rfl
                    refine pure_ (i := 7) (N := some 95) (v := undef) (a' := ?_) #[true, true, true, true, true, true, true, true, false, false, false, false, false, false, false, false, false, false, false, false, false, false] rfl rfl (any_of HT_.out (by kernel_rfl)) (fun _ _ _ h => h) (Or.inr ⟨by rfl, rfl⟩) ?_ ?_
                    rotate_left
                    · simp only [Act.put, List.setIfInBounds_toArray, List.set_cons_zero, List.set_cons_succ, i64_w, i32_w]
                      rfl
                    refine pure_ (i := 8) (N := some 96) (v := undef) (a' := ?_) #[true, true, true, true, true, true, true, true, true, false, false, false, false, false, false, false, false, false, false, false, false, false] rfl rfl (any_of HT_.out (by kernel_rfl)) (fun _ _ _ h => h) (Or.inr ⟨by rfl, rfl⟩) ?_ ?_
                    rotate_left
                    · simp only [Act.put, List.setIfInBounds_toArray, List.set_cons_zero, List.set_cons_succ, i64_w, i32_w]
                      rfl
                    refine pure_ (i := 9) (N := some 97) (v := undef) (a' := ?_) #[true, true, true, true, true, true, true, true, true, true, false, false, false, false, false, false, false, false, false, false, false, false] rfl rfl (any_of HT_.out (by kernel_rfl)) (fun _ _ _ h => h) (Or.inr ⟨by rfl, rfl⟩) ?_ ?_
                    rotate_left
                    · simp only [Act.put, List.setIfInBounds_toArray, List.set_cons_zero, List.set_cons_succ, i64_w, i32_w]
                      rfl
                    refine pure_ (i := 10) (N := some 98) (v := undef) (a' := ?_) #[true, true, true, true, true, true, true, true, true, true, true, false, false, false, false, false, false, false, false, false, false, false] rfl rfl (any_of HT_.out (by kernel_rfl)) (fun _ _ _ h => h) (Or.inr ⟨by rfl, rfl⟩) ?_ ?_
                    rotate_left
                    · simp only [Act.put, List.setIfInBounds_toArray, List.set_cons_zero, List.set_cons_succ, i64_w, i32_w]
                      rfl
                    refine pure_ (i := 11) (N := some 99) (v := ?_) (a' := ?_) #[true, true, true, true, true, true, true, true, true, true, true, true, false, false, false, false, false, false, false, false, false, false] rfl rfl (any_of HT_.out (by kernel_rfl)) (fun _ _ _ h => h) (Or.inl ⟨by rfl, ?_⟩) ?_ ?_
                    rotate_left
                    · intro w'
                      go_simp
                      with_reducible rfl
                    rotate_left
                    · simp only [Act.put, List.setIfInBounds_toArray, List.set_cons_zero, List.set_cons_succ, i64_w, i32_w]
                      rfl
                    refine pure_ (i := 12) (N := some 100) (v := ?_) (a' := ?_) #[true, true, true, true, true, true, true, true, true, true, true, true, true, false, false, false, false, false, false, false, false, false] rfl rfl (any_of HT_.out (by kernel_rfl)) (fun _ _ _ h => h) (Or.inl ⟨by rfl, ?_⟩) ?_ ?_
                    rotate_left
                    · intro w'
                      go_simp
                      with_reducible rfl
                    rotate_left
                    · simp only [Act.put, List.setIfInBounds_toArray, List.set_cons_zero, List.set_cons_succ, i64_w, i32_w]
                      rfl
                    refine pure_ (i := 13) (N := some 101) (v := undef) (a' := ?_) #[true, true, true, true, true, true, true, true, true, true, true, true, true, true, false, false, false, false, false, false, false, false] rfl rfl (any_of HT_.out (by kernel_rfl)) (fun _ _ _ h => h) (Or.inr ⟨by rfl, rfl⟩) ?_ ?_
                    rotate_left
                    · simp only [Act.put, List.setIfInBounds_toArray, List.set_cons_zero, List.set_cons_succ, i64_w, i32_w]
                      rfl
                    refine pure_ (i := 14) (N := some 102) (v := undef) (a' := ?_) #[true, true, true, true, true, true, true, true, true, true, true, true, true, true, true, false, false, false, false, false, false, false] rfl rfl (any_of HT_.out (by kernel_rfl)) (fun _ _ _ h => h) (Or.inr ⟨by rfl, rfl⟩) ?_ ?_
                    rotate_left
                    · simp only [Act.put, List.setIfInBounds_toArray, List.set_cons_zero, List.set_cons_succ, i64_w, i32_w]
                      rfl
                    refine pure_ (i := 15) (N := some 103) (v := undef) (a' := ?_) #[true, true, true, true, true, true, true, true, true, true, true, true, true, true, true, true, false, false, false, false, false, false] rfl rfl (any_of HT_.out (by kernel_rfl)) (fun _ _ _ h => h) (Or.inr ⟨by rfl, rfl⟩) ?_ ?_
                    rotate_left
                    · simp only [Act.put, List.setIfInBounds_toArray, List.set_cons_zero, List.set_cons_succ, i64_w, i32_w]
                      rfl
                    refine pure_ (i := 16) (N := some 104) (v := undef) (a' := ?_) #[true, true, true, true, true, true, true, true, true, true, true, true, true, true, true, true, true, false, false, false, false, false] rfl rfl (any_of HT_.out (by kernel_rfl)) (fun _ _ _ h => h) (Or.inr ⟨by rfl, rfl⟩) ?_ ?_
                    rotate_left
                    · simp only [Act.put, List.setIfInBounds_toArray, List.set_cons_zero, List.set_cons_succ, i64_w, i32_w]
                      rfl
                    refine pure_ (i := 17) (N := some 105) (v := undef) (a' := ?_) #[true, true, true, true, true, true, true, true, true, true, true, true, true, true, true, true, true, true, false, false, false, false] rfl rfl (any_of HT_.out (by kernel_rfl)) (fun _ _ _ h => h) (Or.inr ⟨by rfl, rfl⟩) ?_ ?_
                    rotate_left
                    · simp only [Act.put, List.setIfInBounds_toArray, List.set_cons_zero, List.set_cons_succ, i64_w, i32_w]
                      rfl
                    refine pure_ (i := 18) (N := some 106) (v := undef) (a' := ?_) #[true, true, true, true, true, true, true, true, true, true, true, true, true, true, true, true, true, true, true, false, false, false] rfl rfl (any_of HT_.out (by kernel_rfl)) (fun _ _ _ h => h) (Or.inr ⟨by rfl, rfl⟩) ?_ ?_
                    rotate_left
                    · simp only [Act.put, List.setIfInBounds_toArray, List.set_cons_zero, List.set_cons_succ, i64_w, i32_w]
                      rfl
                    refine pure_ (i := 19) (N := some 107) (v := undef) (a' := ?_) #[true, true, true, true, true, true, true, true, true, true, true, true, true, true, true, true, true, true, true, true, false, false] rfl rfl (any_of HT_.out (by kernel_rfl)) (fun _ _ _ h => h) (Or.inr ⟨by rfl, rfl⟩) ?_ ?_
                    rotate_left
                    · simp only [Act.put, List.setIfInBounds_toArray, List.set_cons_zero, List.set_cons_succ, i64_w, i32_w]
                      rfl
                    refine pure_ (i := 20) (N := some 108) (v := undef) (a' := ?_) #[true, true, true, true, true, true, true, true, true, true, true, true, true, true, true, true, true, true, true, true, true, false] rfl rfl (any_of HT_.out (by kernel_rfl)) (fun _ _ _ h => h) (Or.inr ⟨by rfl, rfl⟩) ?_ ?_
                    rotate_left
                    · simp only [Act.put, List.setIfInBounds_toArray, List.set_cons_zero, List.set_cons_succ, i64_w, i32_w]
                      rfl
                    refine pure_ (i := 21) (N := some 109) (v := ?_) (a' := ?_) #[true, true, true, true, true, true, true, true, true, true, true, true, true, true, true, true, true, true, true, true, true, true] rfl rfl (any_of HT_.out (by kernel_rfl)) (fun _ _ _ h => h) (Or.inl ⟨by rfl, ?_⟩) ?_ ?_
                    rotate_left
                    · intro w'
                      go_simp
                      with_reducible rfl
                    rotate_left
                    · simp only [Act.put, List.setIfInBounds_toArray, List.set_cons_zero, List.set_cons_succ, i64_w, i32_w]
                      rfl
                    refine done_ (done_of HT_.out (by kernel_rfl)) ?_
                    try go_wp2
                    go_meet
                    case rel => exact ⟨_, (false), (by first | rfl | (simp; done) | (simp [*]; done)), H', ⟨by have := HJ4.out; have := HJ23.out; have := HJ29.out; first | omega | exact Nat.le_refl _⟩, ⟨by repeat (first | (with_reducible first | exact HB.out | apply below_alloc | apply pw_below_drewN | apply below_drew1) | exact HB.out)⟩⟩
                case rest =>
                  clear HC52
                  try clear p1
                  try clear q1
                  try clear p2
                  try clear q2
                  try clear hx2
                  try clear c3
                  try clear p3
                  try clear c4
                  try clear hcv4
                  try clear c5
                  try clear p5
                  try clear q5
                  try clear hx5
                  try clear hcv5
                  try clear c6
                  try clear p6
                  try clear q6
                  try clear hx6
                  try clear p12
                  try clear q12
                  try clear p29
                  try clear q29
                  try clear hx29
                  try clear c31
                  try clear c32
                  try clear c32b0
                  try clear c32b1
                  try clear p32
                  try clear c33
                  try clear c33b0
                  try clear c33b1
                  try clear c34
                  try clear c34b0
                  try clear c34b1
                  try clear c34b2
                  try clear c36
                  try clear c36b0
                  try clear c36b1
                  try clear c37
                  try clear c37b0
                  try clear c37b1
                  try clear c38
                  try clear c38b0
                  try clear c38b1
                  try clear c38b2
                  try clear c40
                  try clear c40b0
                  try clear c40b1
                  try clear c41
                  try clear c41b0
                  try clear c41b1
                  try clear hcv45
                  try clear c49
                  try clear hcv50
                  try clear c53
                  try clear c53b0
                  try clear c55
                  try clear c55b0
                  try clear p56
                  try clear q56
                  try clear hx56
                  try clear c57
                  try clear c57b0
                  try clear c57b1
                  try clear c59
                  try clear c59b0
                  try clear c60
                  try clear c60b0
                  try clear p61
                  try clear q61
                  try clear hx61
                  try clear p62
                  try clear q62
                  try clear hx62
                  try clear p64
                  try clear p1
                  try clear p12
                  try clear p2
                  try clear p29
                  try clear p3
                  try clear p32
                  try clear p56
                  try clear p61
                  try clear p62
                  try clear q1
                  try clear q12
                  try clear q2
                  try clear q29
                  try clear q56
                  try clear q61
                  try clear q62
                  obtain ⟨kq, x109_51, rfl, HA, HJ51, HB⟩ := hcut
                  cases kq with
                  | zero => exact absurd HA.out (by simp [backhaullaw01_SerialMarks.j3])
                  | succ kj51 =>
                    have H := HA.out
                    clear HA
                    simp only [backhaullaw01_SerialMarks.j3] at H
                    by_cases c65 : x109_51 = true
                    · subst c65
                      have H1 : (if 0 ≤ a1 then (if a1 ≤ (a0.size : Int) then (if 0 ≤ (wrap64 (a1 + 1)) then (if (wrap64 (a1 + 1)) < (a0.size : Int) then (if a1 < (a0.size : Int) then ((some (([bt a0 (wrap64 (a1 + 1)), bt a0 a1] : List Int) : List Int)).bind fun y674 => (if (a0.extract 0 (a1 : Int).toNat).size + (strOfNums y674).size ≤ 9223372036854775807 then (if 0 ≤ (wrap64 (a1 + 2)) then (if (wrap64 (a1 + 2)) ≤ (a0.size : Int) then (if ((a0.extract 0 (a1 : Int).toNat) ++ (strOfNums y674)).size + (a0.extract ((wrap64 (a1 + 2)) : Int).toNat a0.size).size ≤ 9223372036854775807 then ((serial_Mark.f (((a0.extract 0 (a1 : Int).toNat) ++ (strOfNums y674)) ++ (a0.extract ((wrap64 (a1 + 2)) : Int).toNat a0.size))).bind fun bt677 => (if bt677.2 = 0 then (if bt677.1 = t663 then (some false) else ((backhaullaw01_awake.f).bind fun t679 => (if t679 = true then (some true) else (some false)))) else (some false))) else (none)) else (none)) else (none)) else (none))) else (none)) else (none)) else (none)) else (none)) else (none)) = some true := by first | (rw [if_pos rfl] at H; exact H) | rfl
                      clear H
                      have H := H1
                      clear H1
                      by_cases c66 : 0 ≤ a1
                      · rw [if_pos c66] at H
                        have c66b0 := eq_true c66
                        have c66b1 : decide (0 ≤ a1) = true := decide_eq_true c66
                        clear c66
                        by_cases c67 : a1 ≤ (a0.size : Int)
                        · rw [if_pos c67] at H
                          have c67b0 := eq_true c67
                          have c67b1 : decide (a1 ≤ (a0.size : Int)) = true := decide_eq_true c67
                          clear c67
                          obtain ⟨ji68, hji68⟩ : ∃ j_ : Int, (wrap64 (a1 + 1)) = j_ := ⟨_, rfl⟩
                          replace H : (if 0 ≤ (ji68) then (if (ji68) < (a0.size : Int) then (if a1 < (a0.size : Int) then ((some (([bt a0 (ji68), bt a0 a1] : List Int) : List Int)).bind fun y674 => (if (a0.extract 0 (a1 : Int).toNat).size + (strOfNums y674).size ≤ 9223372036854775807 then (if 0 ≤ (wrap64 (a1 + 2)) then (if (wrap64 (a1 + 2)) ≤ (a0.size : Int) then (if ((a0.extract 0 (a1 : Int).toNat) ++ (strOfNums y674)).size + (a0.extract ((wrap64 (a1 + 2)) : Int).toNat a0.size).size ≤ 9223372036854775807 then ((serial_Mark.f (((a0.extract 0 (a1 : Int).toNat) ++ (strOfNums y674)) ++ (a0.extract ((wrap64 (a1 + 2)) : Int).toNat a0.size))).bind fun bt677 => (if bt677.2 = 0 then (if bt677.1 = t663 then (some false) else ((backhaullaw01_awake.f).bind fun t679 => (if t679 = true then (some true) else (some false)))) else (some false))) else (none)) else (none)) else (none)) else (none))) else (none)) else (none)) else (none)) = some true := by first | (rw [hji68] at H; exact H) | (simp only [hji68] at H ⊢; exact H)
                          have hji68w : (IntKind.i64.wrap (a1 + 1)) = ji68 := (i64_w _).trans hji68
                          by_cases c69 : 0 ≤ (ji68)
                          · rw [if_pos c69] at H
                            have c69b0 : decide (0 ≤ (ji68)) = true := decide_eq_true c69
                            clear c69
                            by_cases c70 : (ji68) < (a0.size : Int)
                            · rw [if_pos c70] at H
                              have c70b0 : decide ((ji68) < (a0.size : Int)) = true := decide_eq_true c70
                              clear c70
                              by_cases c72 : a1 < (a0.size : Int)
                              · rw [if_pos c72] at H
                                have c72b0 : decide (a1 < (a0.size : Int)) = true := decide_eq_true c72
                                clear c72
                                obtain ⟨y674, hy674⟩ : ∃ y_ : List Int, y_ = (([bt a0 (ji68), bt a0 a1] : List Int)) := ⟨_, rfl⟩
                                replace H : (if (a0.extract 0 (a1 : Int).toNat).size + (strOfNums y674).size ≤ 9223372036854775807 then (if 0 ≤ (wrap64 (a1 + 2)) then (if (wrap64 (a1 + 2)) ≤ (a0.size : Int) then (if ((a0.extract 0 (a1 : Int).toNat) ++ (strOfNums y674)).size + (a0.extract ((wrap64 (a1 + 2)) : Int).toNat a0.size).size ≤ 9223372036854775807 then ((serial_Mark.f (((a0.extract 0 (a1 : Int).toNat) ++ (strOfNums y674)) ++ (a0.extract ((wrap64 (a1 + 2)) : Int).toNat a0.size))).bind fun bt677 => (if bt677.2 = 0 then (if bt677.1 = t663 then (some false) else ((backhaullaw01_awake.f).bind fun t679 => (if t679 = true then (some true) else (some false)))) else (some false))) else (none)) else (none)) else (none)) else (none)) = some true := by first | (rw [hy674]; with_reducible exact H) | (have H2_ := (Option.bind_some _ _).symm.trans H; rw [hy674]; with_reducible exact H2_) | (have H2_ := (Option.bind_some _ _).symm.trans H; with_reducible exact H2_) | with_reducible exact H | (rw [hy674]; exact H) | exact H
                                have Ny674 := Aside0.mk hy674
                                clear hy674
                                by_cases c74 : (a0.extract 0 (a1 : Int).toNat).size + (strOfNums y674).size ≤ 9223372036854775807
                                · rw [if_pos c74] at H
                                  have c74b0 := eq_true c74
                                  have c74b1 : decide ((a0.extract 0 (a1 : Int).toNat).size + (strOfNums y674).size ≤ 9223372036854775807) = true := decide_eq_true c74
                                  try have c74s0 : a1.toNat + (strOfNums y674).size ≤ 9223372036854775807 := by have h_ := c74; simp only [ByteArray.size_append, ByteArray.size_extract] at h_; have q0_ : a1 ≤ (a0.size : Int) := of_eq_true c67b0; omega
                                  try have c74s1 : decide (a1.toNat + (strOfNums y674).size ≤ 9223372036854775807) = true := decide_eq_true c74s0
                                  try have c74s2 : (9223372036854775807 < a1.toNat + (strOfNums y674).size) = False := eq_false (Nat.not_lt.2 c74s0)
                                  try replace c74s0 := eq_true c74s0
                                  try have c74b2 : (9223372036854775807 < (a0.extract 0 (a1 : Int).toNat).size + (strOfNums y674).size) = False := eq_false (Nat.not_lt.2 c74)
                                  obtain ⟨ji75, hji75⟩ : ∃ j_ : Int, (wrap64 (a1 + 2)) = j_ := ⟨_, rfl⟩
                                  replace H : (if 0 ≤ (ji75) then (if (ji75) ≤ (a0.size : Int) then (if ((a0.extract 0 (a1 : Int).toNat) ++ (strOfNums y674)).size + (a0.extract ((ji75) : Int).toNat a0.size).size ≤ 9223372036854775807 then ((serial_Mark.f (((a0.extract 0 (a1 : Int).toNat) ++ (strOfNums y674)) ++ (a0.extract ((ji75) : Int).toNat a0.size))).bind fun bt677 => (if bt677.2 = 0 then (if bt677.1 = t663 then (some false) else ((backhaullaw01_awake.f).bind fun t679 => (if t679 = true then (some true) else (some false)))) else (some false))) else (none)) else (none)) else (none)) = some true := by first | (rw [hji75] at H; exact H) | (simp only [hji75] at H ⊢; exact H)
                                  have hji75w : (IntKind.i64.wrap (a1 + 2)) = ji75 := (i64_w _).trans hji75
                                  by_cases c76 : 0 ≤ (ji75)
                                  · rw [if_pos c76] at H
                                    have c76b0 := eq_true c76
                                    have c76b1 : decide (0 ≤ (ji75)) = true := decide_eq_true c76
                                    clear c76
                                    by_cases c77 : (ji75) ≤ (a0.size : Int)
                                    · rw [if_pos c77] at H
                                      have c77b0 := eq_true c77
                                      have c77b1 : decide ((ji75) ≤ (a0.size : Int)) = true := decide_eq_true c77
                                      clear c77
                                      by_cases c78 : ((a0.extract 0 (a1 : Int).toNat) ++ (strOfNums y674)).size + (a0.extract ((ji75) : Int).toNat a0.size).size ≤ 9223372036854775807
                                      · rw [if_pos c78] at H
                                        have c78b0 := eq_true c78
                                        have c78b1 : decide (((a0.extract 0 (a1 : Int).toNat) ++ (strOfNums y674)).size + (a0.extract ((ji75) : Int).toNat a0.size).size ≤ 9223372036854775807) = true := decide_eq_true c78
                                        try have c78s0 : a1.toNat + (strOfNums y674).size + (a0.size - ji75.toNat) ≤ 9223372036854775807 := by have h_ := c78; simp only [ByteArray.size_append, ByteArray.size_extract] at h_; have q0_ : a1 ≤ (a0.size : Int) := of_eq_true c67b0; omega
                                        try have c78s1 : decide (a1.toNat + (strOfNums y674).size + (a0.size - ji75.toNat) ≤ 9223372036854775807) = true := decide_eq_true c78s0
                                        try have c78s2 : (9223372036854775807 < a1.toNat + (strOfNums y674).size + (a0.size - ji75.toNat)) = False := eq_false (Nat.not_lt.2 c78s0)
                                        try replace c78s0 := eq_true c78s0
                                        try have c78b2 : (9223372036854775807 < ((a0.extract 0 (a1 : Int).toNat) ++ (strOfNums y674)).size + (a0.extract ((ji75) : Int).toNat a0.size).size) = False := eq_false (Nat.not_lt.2 c78)
                                        replace H := Option.bind_eq_some_iff.mp H
                                        obtain ⟨⟨t677, t678⟩, A790, H⟩ := H
                                        replace H : (if t678 = 0 then (if t677 = t663 then (some false) else ((backhaullaw01_awake.f).bind fun t679 => (if t679 = true then (some true) else (some false)))) else (some false)) = some true := H
                                        have A79 := Aside0.mk A790
                                        clear A790
                                        by_cases c80 : t678 = 0
                                        · rw [if_pos c80] at H
                                          have c80b0 : (t678 == 0) = true := beq_iff_eq.mpr c80
                                          have c80b1 : (t678 != 0) = false := bne_eq_false_iff_eq.mpr c80
                                          clear c80
                                          by_cases c81 : t677 = t663
                                          · rw [if_pos c81] at H
                                            have c81b0 : (t677 == t663) = true := beq_iff_eq.mpr c81
                                            have c81b1 : (t677 != t663) = false := bne_eq_false_iff_eq.mpr c81
                                            clear c81
                                            exact absurd H (by simp)
                                          · rw [if_neg c81] at H
                                            have c81b0 : (t677 == t663) = false := beq_eq_false_iff_ne.mpr c81
                                            have c81b1 : (t677 != t663) = true := bne_iff_ne.mpr c81
                                            replace H := Option.bind_eq_some_iff.mp H
                                            obtain ⟨t679, A820, H⟩ := H
                                            replace H : (if t679 = true then (some true) else (some false)) = some true := H
                                            have A82 := Aside0.mk A820
                                            clear A820
                                            by_cases c83 : t679 = true
                                            · subst c83
                                              have H1 : (some true) = some true := by first | (rw [if_pos rfl] at H; exact H) | rfl
                                              clear H
                                              have H := H1
                                              clear H1
                                              clear H
                                              try go_wp2
                                              have n0_ := Aside0.mk (below_drew1 HB.out)
                                              clear HB
                                              have HB := n0_
                                              clear n0_
                                              have p71 : 0 ≤ ((ji68) : Int) := of_decide_eq_true (by first | (with_reducible assumption) | assumption)
                                              have q71 : (ji68) < (a0.size : Int) := of_decide_eq_true (by first | (with_reducible assumption) | assumption)
                                              have hx71 := bt_at a0 (ji68)
                                              replace p71 := eq_true p71
                                              replace q71 := eq_true q71
                                              have p73 : 0 ≤ (a1 : Int) := of_decide_eq_true (by first | (with_reducible assumption) | assumption)
                                              have q73 : a1 < (a0.size : Int) := of_decide_eq_true (by first | (with_reducible assumption) | assumption)
                                              have hx73 := bt_at a0 a1
                                              replace p73 := eq_true p73
                                              replace q73 := eq_true q73
                                              refine start_ (n := 24) (S := fun w' => True) (ds := []) #[false, false, false, false, false, false, false, false, false, false, false, false, false, false, false, false, false, false, false, false, false, false, false, false] (by kernel_rfl) rfl rfl trivial (fun hHeld => ?_); refine with_tabW backhaullaw01_SerialMarks.tab9 backhaullaw01_SerialMarks.bits9 (fun HT_ HW_ => ?_)
                                              generalize wc.drew = w84 at HB hHeld ⊢
                                              refine pure_ (i := 0) (N := some 111) (v := ?_) (a' := ?_) #[true, false, false, false, false, false, false, false, false, false, false, false, false, false, false, false, false, false, false, false, false, false, false, false] rfl rfl (any_of HT_.out (by kernel_rfl)) (fun _ _ _ h => h) (Or.inl ⟨by rfl, ?_⟩) ?_ ?_
                                              rotate_left
                                              · intro w'
                                                go_simp
                                                with_reducible rfl
                                              rotate_left
                                              · simp only [Act.put, List.setIfInBounds_toArray, List.set_cons_zero, List.set_cons_succ, i64_w, i32_w]
                                                rfl
                                              refine pure_ (i := 1) (N := some 112) (v := ?_) (a' := ?_) #[true, true, false, false, false, false, false, false, false, false, false, false, false, false, false, false, false, false, false, false, false, false, false, false] rfl rfl (any_of HT_.out (by kernel_rfl)) (fun _ _ _ h => h) (Or.inl ⟨by rfl, ?_⟩) ?_ ?_
                                              rotate_left
                                              · intro w'
                                                go_simp
                                                with_reducible rfl
                                              rotate_left
                                              · simp only [Act.put, List.setIfInBounds_toArray, List.set_cons_zero, List.set_cons_succ, i64_w, i32_w]
                                                rfl
                                              refine pure_ (i := 2) (N := some 113) (v := ?_) (a' := ?_) #[true, true, true, false, false, false, false, false, false, false, false, false, false, false, false, false, false, false, false, false, false, false, false, false] rfl rfl (any_of HT_.out (by kernel_rfl)) (fun _ _ _ h => h) (Or.inl ⟨by rfl, ?_⟩) ?_ ?_
                                              rotate_left
                                              · intro w'
                                                go_simp
                                                with_reducible rfl
                                              rotate_left
                                              · simp only [Act.put, List.setIfInBounds_toArray, List.set_cons_zero, List.set_cons_succ, i64_w, i32_w]
                                                rfl
                                              refine pure_ (i := 3) (N := some 114) (v := ?_) (a' := ?_) #[true, true, true, true, false, false, false, false, false, false, false, false, false, false, false, false, false, false, false, false, false, false, false, false] rfl rfl (any_of HT_.out (by kernel_rfl)) (fun _ _ _ h => h) (Or.inl ⟨by rfl, ?_⟩) ?_ ?_
                                              rotate_left
                                              · intro w'
                                                go_simp
                                                with_reducible rfl
                                              rotate_left
                                              · simp only [Act.put, List.setIfInBounds_toArray, List.set_cons_zero, List.set_cons_succ, i64_w, i32_w]
                                                rfl
                                              refine pure_ (i := 4) (N := some 115) (v := ?_) (a' := ?_) #[true, true, true, true, true, false, false, false, false, false, false, false, false, false, false, false, false, false, false, false, false, false, false, false] rfl rfl (any_of HT_.out (by kernel_rfl)) (fun _ _ _ h => h) (Or.inl ⟨by rfl, ?_⟩) ?_ ?_
                                              rotate_left
                                              · intro w'
                                                go_simp
                                                with_reducible rfl
                                              rotate_left
                                              · simp only [Act.put, List.setIfInBounds_toArray, List.set_cons_zero, List.set_cons_succ, i64_w, i32_w]
                                                rfl
                                              refine pure_ (i := 5) (N := some 116) (v := ?_) (a' := ?_) #[true, true, true, true, true, true, false, false, false, false, false, false, false, false, false, false, false, false, false, false, false, false, false, false] rfl rfl (any_of HT_.out (by kernel_rfl)) (fun _ _ _ h => h) (Or.inl ⟨by rfl, ?_⟩) ?_ ?_
                                              rotate_left
                                              · intro w'
                                                go_simp
                                                with_reducible rfl
                                              rotate_left
                                              · simp only [Act.put, List.setIfInBounds_toArray, List.set_cons_zero, List.set_cons_succ, i64_w, i32_w]
                                                rfl
                                              refine pure_ (i := 7) (N := some 118) (v := ?_) (a' := ?_) #[true, true, true, true, true, true, false, true, false, false, false, false, false, false, false, false, false, false, false, false, false, false, false, false] rfl rfl (any_of HT_.out (by kernel_rfl)) (fun _ _ _ h => h) (Or.inl ⟨by rfl, ?_⟩) ?_ ?_
                                              rotate_left
                                              · intro w'
                                                go_simp
                                                with_reducible rfl
                                              rotate_left
                                              · simp only [Act.put, List.setIfInBounds_toArray, List.set_cons_zero, List.set_cons_succ, i64_w, i32_w]
                                                rfl
                                              refine pure_ (i := 8) (N := some 119) (v := ?_) (a' := ?_) #[true, true, true, true, true, true, false, true, true, false, false, false, false, false, false, false, false, false, false, false, false, false, false, false] rfl rfl (any_of HT_.out (by kernel_rfl)) (fun _ _ _ h => h) (Or.inl ⟨by rfl, ?_⟩) ?_ ?_
                                              rotate_left
                                              · intro w'
                                                go_simp
                                                with_reducible rfl
                                              rotate_left
                                              · simp only [Act.put, List.setIfInBounds_toArray, List.set_cons_zero, List.set_cons_succ, i64_w, i32_w]
                                                rfl
                                              refine pure_ (i := 13) (N := some 124) (v := ?_) (a' := ?_) #[true, true, true, true, true, true, false, true, true, false, false, false, false, true, false, false, false, false, false, false, false, false, false, false] rfl rfl (any_of HT_.out (by kernel_rfl)) (fun _ _ _ h => h) (Or.inl ⟨by rfl, ?_⟩) ?_ ?_
                                              rotate_left
                                              · intro w'
                                                go_simp
                                                with_reducible rfl
                                              rotate_left
                                              · simp only [Act.put, List.setIfInBounds_toArray, List.set_cons_zero, List.set_cons_succ, i64_w, i32_w]
                                                rfl
                                              refine pure_ (i := 14) (N := some 125) (v := ?_) (a' := ?_) #[true, true, true, true, true, true, false, true, true, false, false, false, false, true, true, false, false, false, false, false, false, false, false, false] rfl rfl (any_of HT_.out (by kernel_rfl)) (fun _ _ _ h => h) (Or.inl ⟨by rfl, ?_⟩) ?_ ?_
                                              rotate_left
                                              · intro w'
                                                go_simp
                                                with_reducible rfl
                                              rotate_left
                                              · simp only [Act.put, List.setIfInBounds_toArray, List.set_cons_zero, List.set_cons_succ, i64_w, i32_w]
                                                rfl
                                              refine pure_ (i := 15) (N := some 126) (v := ?_) (a' := ?_) #[true, true, true, true, true, true, false, true, true, false, false, false, false, true, true, true, false, false, false, false, false, false, false, false] rfl rfl (any_of HT_.out (by kernel_rfl)) (fun _ _ _ h => h) (Or.inl ⟨by rfl, ?_⟩) ?_ ?_
                                              rotate_left
                                              · intro w'
                                                go_simp
                                                with_reducible rfl
                                              rotate_left
                                              · simp only [Act.put, List.setIfInBounds_toArray, List.set_cons_zero, List.set_cons_succ, i64_w, i32_w]
                                                rfl
                                              refine pure_ (i := 16) (N := some 127) (v := ?_) (a' := ?_) #[true, true, true, true, true, true, false, true, true, false, false, false, false, true, true, true, true, false, false, false, false, false, false, false] rfl rfl (any_of HT_.out (by kernel_rfl)) (fun _ _ _ h => h) (Or.inl ⟨by rfl, ?_⟩) ?_ ?_
                                              rotate_left
                                              · intro w'
                                                go_simp
                                                with_reducible rfl
                                              rotate_left
                                              · simp only [Act.put, List.setIfInBounds_toArray, List.set_cons_zero, List.set_cons_succ, i64_w, i32_w]
                                                rfl
                                              refine take_ (i := 6) (N := some 117) (v := ?_) (a' := ?_) #[true, true, true, true, true, true, true, true, true, false, false, false, false, true, true, true, true, false, false, false, false, false, false, false] rfl rfl (take_ofW HT_.out HW_.out (by kernel_rfl)) (fun _ _ _ h => h) (Or.inl ⟨by rfl, ?_⟩) hHeld ?_ ?_
                                              rotate_left
                                              · intro w' _
                                                go_simp
                                                with_reducible rfl
                                              rotate_left
                                              · simp only [Act.put, List.setIfInBounds_toArray, List.set_cons_zero, List.set_cons_succ, i64_w, i32_w]
                                                rfl
                                              refine take_ (i := 9) (N := some 120) (v := ?_) (a' := ?_) #[true, true, true, true, true, true, true, true, true, true, false, false, false, true, true, true, true, false, false, false, false, false, false, false] rfl rfl (take_ofW HT_.out HW_.out (by kernel_rfl)) (fun _ _ _ h => h) (Or.inl ⟨by rfl, ?_⟩) hHeld ?_ ?_
                                              rotate_left
                                              · intro w' _
                                                go_simp
                                                with_reducible rfl
                                              rotate_left
                                              · simp only [Act.put, List.setIfInBounds_toArray, List.set_cons_zero, List.set_cons_succ, i64_w, i32_w]
                                                rfl
                                              refine one_ (i := 10) (N := some 121) #[true, true, true, true, true, true, true, true, true, true, true, false, false, true, true, true, true, false, false, false, false, false, false, false] rfl rfl (one_of HT_.out (by kernel_rfl)) (by decide) (fun K hK => ?_)
                                              refine Kd.R_lit_step (Kd.int .u8) _ 5 ?hg (N := 121) ?hd (xs := ([bt a0 (ji68), bt a0 a1] : List Int)) (inner := [.int .u8 (bt a0 (ji68)), .int .u8 (bt a0 a1)]) (ok := fun _ => True) (okp := fun _ => True) ?hr ?hp (fun _ hk => hk) trivial (Below.refl _ _) (Nat.le_refl _) (by simp) ?_; (case hd => rfl); (case hg => rfl); (case hr => first | (go_simp; done) | (go_simp; rfl)); (case hp => exact (Reps.one (show Kd.M (Kd.int .u8) _ _ _ (bt a0 (ji68)) [.int .u8 (bt a0 (ji68))] from rfl) (Reps.one (show Kd.M (Kd.int .u8) _ _ _ (bt a0 a1) [.int .u8 (bt a0 a1)] from rfl) (Reps.none _ _))))
                                              intro v675 w85 ho86 hb hg_ hnew_
                                              clear hg_ hnew_
                                              (first | rw [← Ny674.out] at ho86 | (simp only [Int.reduceToNat] at ho86; rw [← Ny674.out] at ho86))
                                              have n0_ := Aside0.mk (Kd.R_lower ho86 (below_size (by repeat (first | (with_reducible first | exact HB.out | apply below_alloc | apply pw_below_drewN | apply below_drew1) | exact HB.out))))
                                              have n1_ := Aside0.mk (below_step (by repeat (first | (with_reducible first | exact HB.out | apply below_alloc | apply pw_below_drewN | apply below_drew1) | exact HB.out)) hb)
                                              clear HB
                                              have HO676 := n0_
                                              have HB := n1_
                                              clear n0_ n1_
                                              clear hb ho86
                                              refine hK.out _ _ trivial (fun hHeld => ?_)
                                              clear hK K
                                              refine norm_ (a' := ?_) ?_ ?_
                                              rotate_left
                                              · show Act.put _ (some 121) _ = _
                                                simp only [Act.put, List.setIfInBounds_toArray, List.set_cons_zero, List.set_cons_succ, i64_w, i32_w]
                                                rfl
                                              refine one_ (i := 11) (N := some 122) #[true, true, true, true, true, true, true, true, true, true, true, true, false, true, true, true, true, false, false, false, false, false, false, false] rfl rfl (one_of HT_.out (by kernel_rfl)) (by decide) (fun K hK => ?_)
                                              have hcv87 := own_string (P := Try.prog) Try.underlying92 Try.underlying5 Try.underlying9 (Kd.own_of_R HO676.out)
                                              refine value_ (w1 := ?_) (v := ?_) (by rfl) rfl ?_ ?_
                                              rotate_left 2
                                              · go_simp
                                                constructor
                                                · rfl
                                                · rfl
                                              clear hcv87
                                              refine hK.out _ _ trivial (fun hHeld => ?_)
                                              clear hK K
                                              refine norm_ (a' := ?_) ?_ ?_
                                              rotate_left
                                              · show Act.put _ (some 122) _ = _
                                                simp only [Act.put, List.setIfInBounds_toArray, List.set_cons_zero, List.set_cons_succ, i64_w, i32_w]
                                                rfl
                                              refine pure_ (i := 12) (N := some 123) (v := ?_) (a' := ?_) #[true, true, true, true, true, true, true, true, true, true, true, true, true, true, true, true, true, false, false, false, false, false, false, false] rfl rfl (any_of HT_.out (by kernel_rfl)) (fun _ _ _ h => h) (Or.inl ⟨by rfl, ?_⟩) ?_ ?_
                                              rotate_left
                                              · intro w'
                                                go_simp
                                                with_reducible rfl
                                              rotate_left
                                              · simp only [Act.put, List.setIfInBounds_toArray, List.set_cons_zero, List.set_cons_succ, i64_w, i32_w]
                                                rfl
                                              refine pure_ (i := 17) (N := some 128) (v := ?_) (a' := ?_) #[true, true, true, true, true, true, true, true, true, true, true, true, true, true, true, true, true, true, false, false, false, false, false, false] rfl rfl (any_of HT_.out (by kernel_rfl)) (fun _ _ _ h => h) (Or.inl ⟨by rfl, ?_⟩) ?_ ?_
                                              rotate_left
                                              · intro w'
                                                go_simp
                                                with_reducible rfl
                                              rotate_left
                                              · simp only [Act.put, List.setIfInBounds_toArray, List.set_cons_zero, List.set_cons_succ, i64_w, i32_w]
                                                rfl
                                              refine one_ (i := 18) (N := some 129) #[true, true, true, true, true, true, true, true, true, true, true, true, true, true, true, true, true, true, true, false, false, false, false, false] rfl rfl (one_of HT_.out (by kernel_rfl)) (by decide) (fun K hK => ?_)
                                              refine goes_ Try.func56 (by kernel_rfl) rfl #[.string (((a0.extract 0 (a1 : Int).toNat) ++ (strOfNums y674)) ++ (a0.extract ((ji75) : Int).toNat a0.size))] (by rfl) rfl rfl (by (try simp only [List.map_toArray, List.map_cons, List.map_nil]); first | done | (simp only [hji75]; rfl) | rfl | (simp only [List.length_drop, List.length_take]; rfl)) ?_
                                              with_reducible refine (serial_Mark.calls (((a0.extract 0 (a1 : Int).toNat) ++ (strOfNums y674)) ++ (a0.extract ((ji75) : Int).toNat a0.size)) t677 t678 _ A79.out).mono ?_
                                              rintro e w88 ⟨rfl, hb⟩
                                              refine ⟨_, rfl, ?_⟩
                                              have n0_ := Aside0.mk (Kd.R_below (by (with_reducible repeat (first | apply Kd.R_alloc | apply Kd.R_drewN | apply Kd.R_drew)); exact HO676.out) hb)
                                              have n1_ := Aside0.mk (below_step (by repeat (first | (with_reducible first | exact HB.out | apply below_alloc | apply pw_below_drewN | apply below_drew1) | exact HB.out)) hb)
                                              clear HO676
                                              clear HB
                                              have HO676 := n0_
                                              have HB := n1_
                                              clear n0_ n1_
                                              (try clear hb)
                                              (try clear hb2)
                                              (try clear hk)
                                              (try clear hi)
                                              refine hK.out _ _ trivial (fun hHeld => ?_)
                                              clear hK K
                                              refine norm_ (a' := ?_) ?_ ?_
                                              rotate_left
                                              · show Act.put _ (some 129) _ = _
                                                simp only [Act.put, List.setIfInBounds_toArray, List.set_cons_zero, List.set_cons_succ, i64_w, i32_w]
                                                rfl
                                              refine pure_ (i := 19) (N := some 110) (v := ?_) (a' := ?_) #[true, true, true, true, true, true, true, true, true, true, true, true, true, true, true, true, true, true, true, true, false, false, false, false] rfl rfl (any_of HT_.out (by kernel_rfl)) (fun _ _ _ h => h) (Or.inl ⟨by rfl, ?_⟩) ?_ ?_
                                              rotate_left
                                              · intro w'
                                                go_simp
                                                with_reducible rfl
                                              rotate_left
                                              · simp only [Act.put, List.setIfInBounds_toArray, List.set_cons_zero, List.set_cons_succ, i64_w, i32_w]
                                                rfl
                                              refine pure_ (i := 20) (N := some 130) (v := ?_) (a' := ?_) #[true, true, true, true, true, true, true, true, true, true, true, true, true, true, true, true, true, true, true, true, true, false, false, false] rfl rfl (any_of HT_.out (by kernel_rfl)) (fun _ _ _ h => h) (Or.inl ⟨by rfl, ?_⟩) ?_ ?_
                                              rotate_left
                                              · intro w'
                                                go_simp
                                                with_reducible rfl
                                              rotate_left
                                              · simp only [Act.put, List.setIfInBounds_toArray, List.set_cons_zero, List.set_cons_succ, i64_w, i32_w]
                                                rfl
                                              refine pure_ (i := 21) (N := some 131) (v := ?_) (a' := ?_) #[true, true, true, true, true, true, true, true, true, true, true, true, true, true, true, true, true, true, true, true, true, true, false, false] rfl rfl (any_of HT_.out (by kernel_rfl)) (fun _ _ _ h => h) (Or.inl ⟨by rfl, ?_⟩) ?_ ?_
                                              rotate_left
                                              · intro w'
                                                go_simp
                                                with_reducible rfl
                                              rotate_left
                                              · simp only [Act.put, List.setIfInBounds_toArray, List.set_cons_zero, List.set_cons_succ, i64_w, i32_w]
                                                rfl
                                              refine pure_ (i := 22) (N := some 11) (v := ?_) (a' := ?_) #[true, true, true, true, true, true, true, true, true, true, true, true, true, true, true, true, true, true, true, true, true, true, true, false] rfl rfl (any_of HT_.out (by kernel_rfl)) (fun _ _ _ h => h) (Or.inl ⟨by rfl, ?_⟩) ?_ ?_
                                              rotate_left
                                              · intro w'
                                                go_simp
                                                with_reducible rfl
                                              rotate_left
                                              · simp only [Act.put, List.setIfInBounds_toArray, List.set_cons_zero, List.set_cons_succ, i64_w, i32_w]
                                                rfl
                                              refine pure_ (i := 23) (N := some 12) (v := ?_) (a' := ?_) #[true, true, true, true, true, true, true, true, true, true, true, true, true, true, true, true, true, true, true, true, true, true, true, true] rfl rfl (any_of HT_.out (by kernel_rfl)) (fun _ _ _ h => h) (Or.inl ⟨by rfl, ?_⟩) ?_ ?_
                                              rotate_left
                                              · intro w'
                                                go_simp
                                                with_reducible rfl
                                              rotate_left
                                              · simp only [Act.put, List.setIfInBounds_toArray, List.set_cons_zero, List.set_cons_succ, i64_w, i32_w]
                                                rfl
                                              refine done_ (done_of HT_.out (by kernel_rfl)) ?_
                                              try go_wp2_with (first | ((with_reducible refine gate_callee (f := 53) rfl ?_); refine goesL_ (some 139) rfl rfl Try.func53 (by kernel_rfl) rfl #[] rfl (by (try simp only [List.map_toArray, List.map_cons, List.map_nil]); first | done | rfl | (simp only [List.length_drop, List.length_take]; rfl)) ?_; (with_reducible refine (backhaullaw01_awake.calls  true _ A82.out).mono ?_); rintro e w89 ⟨rfl, hb⟩; refine ⟨_, rfl, ?_⟩; have n0_ := Aside0.mk (Kd.R_below (by (with_reducible repeat (first | apply Kd.R_alloc | apply Kd.R_drewN | apply Kd.R_drew)); exact HO676.out) hb); have n1_ := Aside0.mk (below_step (by repeat (first | (with_reducible first | exact HB.out | apply below_alloc | apply pw_below_drewN | apply below_drew1) | exact HB.out)) hb); clear HO676; clear HB; have HO676 := n0_; have HB := n1_; clear n0_ n1_; (try clear hb); (try clear hb2); (try clear hk); (try clear hi)))
                                              go_ret
                                              exact ⟨by first | rfl | (simp [errW_none, errW_some] <;> rfl) | (simp only [← hji68, ← hji75]; first | rfl | (simp [errW_none, errW_some] <;> rfl)) | (simp [*, errW_none, errW_some] <;> rfl), by repeat (first | (with_reducible first | exact HB.out | apply below_alloc | apply pw_below_drewN | apply below_drew1) | exact HB.out)⟩
                                            · replace c83 := Bool.eq_false_iff.mpr c83
                                              subst c83
                                              have H1 : (some false) = some true := by first | (rw [if_neg (show ¬ (false = true) by decide)] at H; exact H) | rfl
                                              clear H
                                              have H := H1
                                              clear H1
                                              exact absurd H (by simp)
                                        · rw [if_neg c80] at H
                                          have c80b0 : (t678 == 0) = false := beq_eq_false_iff_ne.mpr c80
                                          have c80b1 : (t678 != 0) = true := bne_iff_ne.mpr c80
                                          exact absurd H (by simp)
                                      · rw [if_neg c78] at H
                                        exact absurd H (by simp)
                                    · rw [if_neg c77] at H
                                      exact absurd H (by simp)
                                  · rw [if_neg c76] at H
                                    exact absurd H (by simp)
                                · rw [if_neg c74] at H
                                  exact absurd H (by simp)
                              · rw [if_neg c72] at H
                                exact absurd H (by simp)
                            · rw [if_neg c70] at H
                              exact absurd H (by simp)
                          · rw [if_neg c69] at H
                            exact absurd H (by simp)
                        · rw [if_neg c67] at H
                          exact absurd H (by simp)
                      · rw [if_neg c66] at H
                        exact absurd H (by simp)
                    · replace c65 := Bool.eq_false_iff.mpr c65
                      subst c65
                      have H1 : ((backhaullaw01_awake.f).bind fun t680 => (if t680 = true then (some true) else (some false))) = some true := by first | (rw [if_neg (show ¬ (false = true) by decide)] at H; exact H) | rfl
                      clear H
                      have H := H1
                      clear H1
                      replace H := Option.bind_eq_some_iff.mp H
                      obtain ⟨t680, A900, H⟩ := H
                      replace H : (if t680 = true then (some true) else (some false)) = some true := H
                      have A90 := Aside0.mk A900
                      clear A900
                      by_cases c91 : t680 = true
                      · subst c91
                        have H1 : (some true) = some true := by first | (rw [if_pos rfl] at H; exact H) | rfl
                        clear H
                        have H := H1
                        clear H1
                        clear H
                        go_wp2_with (first | ((with_reducible refine gate_callee (f := 53) rfl ?_); refine goesL_ (some 139) rfl rfl Try.func53 (by kernel_rfl) rfl #[] rfl (by (try simp only [List.map_toArray, List.map_cons, List.map_nil]); first | done | rfl | (simp only [List.length_drop, List.length_take]; rfl)) ?_; (with_reducible refine (backhaullaw01_awake.calls  true _ A90.out).mono ?_); rintro e w92 ⟨rfl, hb⟩; refine ⟨_, rfl, ?_⟩; have n0_ := Aside0.mk (below_step (by repeat (first | (with_reducible first | exact HB.out | apply below_alloc | apply pw_below_drewN | apply below_drew1) | exact HB.out)) hb); clear HB; have HB := n0_; clear n0_; (try clear hb); (try clear hb2); (try clear hk); (try clear hi)))
                        go_ret
                        exact ⟨by first | rfl | (simp [errW_none, errW_some] <;> rfl) | (simp [*, errW_none, errW_some] <;> rfl), by repeat (first | (with_reducible first | exact HB.out | apply below_alloc | apply pw_below_drewN | apply below_drew1) | exact HB.out)⟩
                      · replace c91 := Bool.eq_false_iff.mpr c91
                        subst c91
                        have H1 : (some false) = some true := by first | (rw [if_neg (show ¬ (false = true) by decide)] at H; exact H) | rfl
                        clear H
                        have H := H1
                        clear H1
                        exact absurd H (by simp)

/-- THE ONE PURE STATEMENT of backhaullaw01_SerialMarks. -/
def backhaullaw01_SerialMarks.Pure : Prop := ∀ (a0 : ByteArray) (a1 : Int) (a2 : Int), a0.size ≤ 140737488351232 → (Lit.int .i64 a1).wf = true → (Lit.int .u8 a2).wf = true → ∃ k, backhaullaw01_SerialMarks.f k a0 a1 a2 = some true

end Go.Proofs.Ytabapiofkipkoaa.F

/- Plain lemmas on 'from some number of rounds on'; no condition. -/
set_option linter.unusedVariables false
namespace Go.Proofs.Ytabapiofkipkoaa.Q
open Go.RowKit Go.Proofs.YtabapiofkipkoaaW.PrintWords Go.Proofs.YtabapiofkipkoaaW.PrintLast Go.Proofs.YtabapiofkipkoaaW.PrintMore

theorem Ev.ite {α : Type} {c : Prop} [Decidable c] {a b : Nat → Option α} {r : α} (h1 : c → Ev a r) (h2 : ¬ c → Ev b r) : Ev (fun k => if c then a k else b k) r := by
  by_cases h : c
  · simp only [if_pos h]; exact h1 h
  · simp only [if_neg h]; exact h2 h
theorem Ev.pos {α : Type} {c : Prop} [Decidable c] {a b : Nat → Option α} {r : α} (h : c) (h1 : Ev a r) : Ev (fun k => if c then a k else b k) r := by
  simp only [if_pos h]; exact h1
theorem Ev.neg {α : Type} {c : Prop} [Decidable c] {a b : Nat → Option α} {r : α} (h : ¬ c) (h1 : Ev b r) : Ev (fun k => if c then a k else b k) r := by
  simp only [if_neg h]; exact h1
theorem Ev.ok {α : Type} {a b : α} (h : a = b) : Ev (fun _ => some a) b := ⟨0, fun _ _ => by rw [h]⟩
theorem Ev.const {α : Type} {o : Option α} {r : α} (h : o = some r) : Ev (fun _ => o) r := ⟨0, fun _ _ => h⟩
theorem Ev.bindc {α β : Type} {o : Option α} {f : Nat → α → Option β} {a : α} {r : β} (h : o = some a) (k : Ev (fun n => f n a) r) : Ev (fun n => o.bind (f n)) r := by
  subst h
  exact k
theorem Ev.eq {α : Type} {g : Nat → Option α} {a b : α} (h : Ev g a) (e : a = b) : Ev g b := e ▸ h

theorem i64_bounds {x : Int} (h : (Lit.int .i64 x).wf = true) : -9223372036854775808 ≤ x ∧ x ≤ 9223372036854775807 := by
  simp [Lit.wf, IntKind.min, IntKind.max, IntKind.signed, IntKind.bits] at h
  omega
theorem wrap_eq {x : Int} (h0 : -9223372036854775808 ≤ x) (h1 : x ≤ 9223372036854775807) : wrap64 x = x := by
  unfold wrap64; omega
theorem u64_eq {x : Int} (h0 : 0 ≤ x) (h1 : x < 18446744073709551616) : IntKind.u64.wrap x = x := by
  simp [IntKind.wrap, IntKind.signed, IntKind.bits]; omega
theorem countP_split {α : Type} {p : α → Bool} {l : List α} {n : Nat} (hn : n ≤ l.length) (h1 : ∀ j (h : j < l.length), j < n → p l[j] = true) (h2 : ∀ j (h : j < l.length), n ≤ j → p l[j] = false) : l.countP p = n := by
  have e : l = l.take n ++ l.drop n := (List.take_append_drop n l).symm
  have a : (l.take n).countP p = (l.take n).length := by
    rw [List.countP_eq_length]
    intro x hx
    obtain ⟨j, hj, rfl⟩ := List.mem_iff_getElem.1 hx
    rw [List.length_take] at hj
    rw [List.getElem_take]
    exact h1 j (by omega) (by omega)
  have b : (l.drop n).countP p = 0 := by
    rw [List.countP_eq_zero]
    intro x hx
    obtain ⟨j, hj, rfl⟩ := List.mem_iff_getElem.1 hx
    rw [List.length_drop] at hj
    rw [List.getElem_drop, h2 (n + j) (by omega) (by omega)]
    simp
  rw [e, List.countP_append, a, b, List.length_take]
  omega
theorem idxOf_first {α : Type} [BEq α] [LawfulBEq α] {l : List α} {t : α} {i : Nat} (h : i < l.length) (he : l[i] = t) (h1 : ∀ j (h : j < l.length), j < i → l[j] ≠ t) : l.idxOf t = i := by
  unfold List.idxOf
  rw [List.findIdx_eq h]
  exact ⟨by simp [he], fun j hj => by simpa using h1 j (by omega) hj⟩
theorem rd_nat {l : List Int} {i : Nat} (h : i < l.length) : rd l (i : Int) = l[i] := by
  unfold rd; simp [List.getD_eq_getElem?_getD, h]
theorem rdOf_nat {α : Type} {d : α} {l : List α} {i : Nat} (h : i < l.length) : rdOf d l (i : Int) = l[i] := by
  unfold rdOf; simp [List.getD_eq_getElem?_getD, h]
theorem drop_cons {α : Type} {l : List α} {i : Nat} (h : i < l.length) : l.drop i = l[i] :: l.drop (i + 1) := List.drop_eq_getElem_cons h
theorem bytes_ext {a b : ByteArray} : a.toList = b.toList ↔ a = b := by
  constructor
  · intro h
    rw [ByteArray.toList_eq, ByteArray.toList_eq] at h
    cases a; cases b
    simpa [Array.toList_inj] using h
  · rintro rfl; rfl
end Go.Proofs.Ytabapiofkipkoaa.Q

/- Numbers, texts and rows as bytes, plainly: what is put, got, laid, taken, told as a row; each comes back; no condition. -/
set_option linter.unusedVariables false
namespace Go.Proofs.Ytabapiofkipkoaa.Q
open Go.RowKit Go.Proofs.YtabapiofkipkoaaW.PrintWords Go.Proofs.YtabapiofkipkoaaW.PrintLast Go.Proofs.YtabapiofkipkoaaW.PrintMore

def beL : Nat → Nat → List UInt8
  | 0, _ => []
  | w + 1, n => beL w (n / 256) ++ [UInt8.ofNat n]
def beN (l : List UInt8) : Nat := l.foldl (fun a b => 256 * a + b.toNat) 0
theorem beL_length (w : Nat) : ∀ n, (beL w n).length = w := by
  induction w with
  | zero => intro n; rfl
  | succ w ih => intro n; simp [beL, ih]
theorem beN_append (a : List UInt8) (b : UInt8) : beN (a ++ [b]) = 256 * beN a + b.toNat := by
  simp [beN]
theorem toNat_ofNat (n : Nat) : (UInt8.ofNat n).toNat = n % 256 := by simp
theorem beN_beL (w : Nat) : ∀ n, beN (beL w n) = n % 256 ^ w := by
  induction w with
  | zero => intro n; simp [beL, beN, Nat.mod_one]
  | succ w ih =>
    intro n
    rw [beL, beN_append, ih, toNat_ofNat, Nat.pow_succ, Nat.mul_comm (256 ^ w) 256, Nat.mod_mul]
    omega
theorem snoc_cases {α : Type} (l : List α) : l = [] ∨ ∃ a b, l = a ++ [b] := by
  rcases List.eq_nil_or_concat l with h | ⟨a, b, h⟩
  · exact .inl h
  · exact .inr ⟨a, b, by simpa using h⟩
theorem beL_beN (w : Nat) : ∀ l : List UInt8, l.length = w → beL w (beN l) = l := by
  induction w with
  | zero => intro l h; rw [List.eq_nil_of_length_eq_zero h]; rfl
  | succ w ih =>
    intro l h
    rcases snoc_cases l with rfl | ⟨a, b, rfl⟩
    · simp at h
    · have hb := b.toNat_lt
      rw [beL, beN_append, show (256 * beN a + b.toNat) / 256 = beN a by omega, ih a (by simpa using h)]
      congr 2
      apply UInt8.toNat_inj.1
      rw [toNat_ofNat]
      omega
theorem beN_lt (w : Nat) : ∀ l : List UInt8, l.length = w → beN l < 256 ^ w := by
  induction w with
  | zero => intro l h; rw [List.eq_nil_of_length_eq_zero h]; simp [beN]
  | succ w ih =>
    intro l h
    rcases snoc_cases l with rfl | ⟨a, b, rfl⟩
    · simp at h
    · have hb := b.toNat_lt
      have := ih a (by simpa using h)
      rw [beN_append, Nat.pow_succ]
      omega
/-- Of one length, the lists stand as their numbers. -/
theorem less_irrefl (l : List UInt8) : Op.bytesLess l l = false := by
  induction l with
  | nil => rfl
  | cons a l ih => simp [Op.bytesLess, ih]
theorem less_snoc : ∀ (x y : List UInt8) (a b : UInt8), x.length = y.length → Op.bytesLess (x ++ [a]) (y ++ [b]) = (Op.bytesLess x y || (decide (x = y) && decide (a < b)))
  | [], [], a, b, _ => by simp [Op.bytesLess]
  | [], _ :: _, _, _, h => by simp at h
  | _ :: _, [], _, _, h => by simp at h
  | p :: x, q :: y, a, b, h => by
    have ih := less_snoc x y a b (by simpa using h)
    simp only [List.cons_append, Op.bytesLess, ih]
    by_cases hpq : p = q
    · subst hpq; simp
    · have : (p == q) = false := by simpa using hpq
      simp [this, hpq]
theorem less_beN (w : Nat) : ∀ x y : List UInt8, x.length = w → y.length = w → (Op.bytesLess x y = true ↔ beN x < beN y) := by
  induction w with
  | zero => intro x y hx hy; rw [List.eq_nil_of_length_eq_zero hx, List.eq_nil_of_length_eq_zero hy]; simp [Op.bytesLess]
  | succ w ih =>
    intro x y hx hy
    rcases snoc_cases x with rfl | ⟨x, a, rfl⟩
    · simp at hx
    rcases snoc_cases y with rfl | ⟨y, b, rfl⟩
    · simp at hy
    have hx' : x.length = w := by simpa using hx
    have hy' : y.length = w := by simpa using hy
    rw [less_snoc x y a b (by omega), beN_append, beN_append]
    have ih := ih x y hx' hy'
    have ha := a.toNat_lt
    have hb := b.toNat_lt
    have hl : a < b ↔ a.toNat < b.toNat := UInt8.lt_iff_toNat_lt
    rw [Bool.or_eq_true, Bool.and_eq_true, decide_eq_true_eq, decide_eq_true_eq, ih, hl]
    constructor
    · rintro (h | ⟨rfl, h⟩) <;> omega
    · intro h
      by_cases h1 : beN x < beN y
      · exact .inl h1
      · have h2 : beN x = beN y := by omega
        have : x = y := by rw [← beL_beN w x hx', ← beL_beN w y hy', h2]
        exact .inr ⟨this, by omega⟩
def bytesB (l : List UInt8) : ByteArray := ⟨l.toArray⟩
theorem bytesB_data (l : List UInt8) : (bytesB l).data.toList = l := rfl
theorem bytesB_size (l : List UInt8) : (bytesB l).size = l.length := by simp [bytesB, ByteArray.size]
theorem ext_list {a b : ByteArray} (h : a.data.toList = b.data.toList) : a = b := by
  cases a; cases b; simpa [Array.toList_inj] using h
theorem bytesB_append (a b : List UInt8) : bytesB a ++ bytesB b = bytesB (a ++ b) := by
  apply ext_list; simp [bytesB, ByteArray.data_append]
theorem toList_data' (s : ByteArray) : s.toList = s.data.toList := ByteArray.toList_eq s
theorem data_append (a b : ByteArray) : (a ++ b).data.toList = a.data.toList ++ b.data.toList := by simp [ByteArray.data_append]
theorem data_extract (a : ByteArray) (i j : Nat) : (a.extract i j).data.toList = (a.data.toList.take j).drop i := by
  rw [ByteArray.data_extract, Array.toList_extract, List.extract_eq_take_drop, List.drop_take]
theorem size_data (a : ByteArray) : a.data.toList.length = a.size := by rw [Array.length_toList]; rfl
theorem bt_data (s : ByteArray) (i : Nat) (h : i < s.size) : bt s (i : Int) = ((s.data.toList[i]'(by rw [size_data]; exact h)).toNat : Int) := by
  unfold bt
  rw [dif_pos (by simpa using h)]
  simp [ByteArray.getElem_eq_getElem_data]

def wide (w : Int) : Prop := w = 1 ∨ w = 2 ∨ w = 4 ∨ w = 8
instance (w : Int) : Decidable (wide w) := by unfold wide; infer_instance
def putS (n w : Int) : ByteArray × Int := if wide w then (if 0 ≤ n ∧ n < 256 ^ w.toNat then (bytesB (beL w.toNat n.toNat), 0) else (⟨#[]⟩, 8)) else (⟨#[]⟩, 2)
def numAt (s : ByteArray) (at_ w : Nat) : Nat := beN ((s.data.toList.drop at_).take w)
def getS (s : ByteArray) (at_ w : Int) : Int × Int × Int :=
  if wide w ∧ 0 ≤ at_ ∧ at_ ≤ s.size then
    (if s.size - at_ < w then (0, 0, 4) else if (numAt s at_.toNat w.toNat : Int) > 9223372036854775807 then (0, 0, 8) else ((numAt s at_.toNat w.toNat : Int), at_ + w, 0))
  else (0, 0, 2)
def layS (t : ByteArray) : ByteArray × Int := if t.size > 65535 then (⟨#[]⟩, 3) else (bytesB (beL 2 t.size) ++ t, 0)
def takeS (s : ByteArray) (at_ most : Int) : ByteArray × Int × Int :=
  if most < 0 then (⟨#[]⟩, 0, 2) else
  if (getS s at_ 2).2.2 = 0 then
    (if (getS s at_ 2).1 > most then (⟨#[]⟩, 0, 3) else if (getS s at_ 2).1 > s.size - (getS s at_ 2).2.1 then (⟨#[]⟩, 0, 4) else
      (s.extract (getS s at_ 2).2.1.toNat ((getS s at_ 2).2.1 + (getS s at_ 2).1).toNat, (getS s at_ 2).2.1 + (getS s at_ 2).1, 0))
  else (⟨#[]⟩, 0, (getS s at_ 2).2.2)
def rowL (w : Int) : List Int → ByteArray × Int
  | [] => (⟨#[]⟩, 0)
  | x :: xs => if (putS x w).2 = 0 then (if (rowL w xs).2 = 0 then ((putS x w).1 ++ (rowL w xs).1, 0) else (⟨#[]⟩, (rowL w xs).2)) else (⟨#[]⟩, (putS x w).2)
def rowS (w : Int) (l : List Int) : ByteArray × Int :=
  if wide w then (if l.length > 1000 then (⟨#[]⟩, 3) else if (rowL w l).2 = 0 then (bytesB (beL 2 l.length) ++ (rowL w l).1, 0) else (⟨#[]⟩, (rowL w l).2)) else (⟨#[]⟩, 2)
def unrowL (s : ByteArray) (w : Int) : Nat → Int → List Int × Int × Int
  | 0, tt => ([], tt, 0)
  | n + 1, tt => if (getS s tt w).2.2 = 0 then
      (if (unrowL s w n (getS s tt w).2.1).2.2 = 0 then ((getS s tt w).1 :: (unrowL s w n (getS s tt w).2.1).1, (unrowL s w n (getS s tt w).2.1).2) else ([], 0, (unrowL s w n (getS s tt w).2.1).2.2))
    else ([], 0, (getS s tt w).2.2)
def unrowS (s : ByteArray) (at_ w top : Int) : List Int × Int × Int :=
  if ¬ wide w ∨ at_ < 0 ∨ at_ > s.size ∨ top < 0 then ([], 0, 2) else
  if (getS s at_ 2).2.2 = 0 then
    (if (getS s at_ 2).1 > top ∨ (getS s at_ 2).1 > 1000 then ([], 0, 3) else unrowL s w (getS s at_ 2).1.toNat (getS s at_ 2).2.1)
  else ([], 0, (getS s at_ 2).2.2)

theorem wide_nat {w : Int} (h : wide w) : 0 < w ∧ w ≤ 8 := by unfold wide at h; omega
theorem pow_wide {w : Int} (h : wide w) : (256 : Int) ^ w.toNat ≤ 18446744073709551616 := by
  rcases h with rfl | rfl | rfl | rfl <;> decide
theorem pow_cast {a w : Nat} (h : a < 256 ^ w) : (a : Int) < 256 ^ w := by
  have := Int.ofNat_lt.2 h
  rw [Int.natCast_pow] at this
  exact this
theorem pow_cast' {a w : Nat} (h : (a : Int) < 256 ^ w) : a < 256 ^ w := by
  apply Int.ofNat_lt.1
  rw [Int.natCast_pow]
  exact h
theorem beN_from (y : List UInt8) : ∀ a : Nat, y.foldl (fun a b => 256 * a + b.toNat) a = a * 256 ^ y.length + beN y := by
  induction y with
  | nil => intro a; simp [beN]
  | cons b y ih =>
    intro a
    have h := ih (256 * 0 + b.toNat)
    unfold beN at h ⊢
    simp only [List.foldl_cons, List.length_cons]
    rw [ih, h, Nat.pow_succ, Nat.add_mul, Nat.mul_zero, Nat.zero_add]
    unfold beN
    rw [← Nat.add_assoc, Nat.mul_comm 256 a, Nat.mul_assoc, Nat.mul_comm 256 (256 ^ y.length)]
theorem numAt_split {s : ByteArray} {a i d : Nat} (h : a + i + d ≤ s.size) : (numAt s a (i + d) : Int) = (numAt s a i : Int) * 256 ^ d + (numAt s (a + i) d : Int) := by
  have e : numAt s a (i + d) = numAt s a i * 256 ^ d + numAt s (a + i) d := by
    unfold numAt
    rw [List.take_add, List.drop_drop]
    have := beN_from (((s.data.toList).drop (a + i)).take d) (beN (((s.data.toList).drop a).take i))
    rw [List.length_take, List.length_drop, size_data, Nat.min_eq_left (by omega)] at this
    rw [← this]
    unfold beN
    rw [List.foldl_append]
  rw [e, Int.natCast_add, Int.natCast_mul, Int.natCast_pow]
  rfl
theorem getS_ok {s : ByteArray} {a w n tt : Int} (h : getS s a w = (n, tt, 0)) : wide w ∧ 0 ≤ a ∧ a + w ≤ s.size ∧ tt = a + w ∧ n = (numAt s a.toNat w.toNat : Int) ∧ n ≤ 9223372036854775807 ∧ 0 ≤ n := by
  unfold getS at h
  by_cases h1 : wide w ∧ 0 ≤ a ∧ a ≤ s.size
  · rw [if_pos h1] at h
    by_cases h2 : s.size - a < w
    · rw [if_pos h2] at h; simp at h
    · rw [if_neg h2] at h
      by_cases h3 : (numAt s a.toNat w.toNat : Int) > 9223372036854775807
      · rw [if_pos h3] at h; simp at h
      · rw [if_neg h3] at h
        simp only [Prod.mk.injEq] at h
        obtain ⟨rfl, rfl, _⟩ := h
        exact ⟨h1.1, h1.2.1, by omega, rfl, rfl, by omega, by omega⟩
  · rw [if_neg h1] at h; simp at h
theorem putS_ok {n w : Int} {b : ByteArray} (h : putS n w = (b, 0)) : wide w ∧ 0 ≤ n ∧ n < 256 ^ w.toNat ∧ b = bytesB (beL w.toNat n.toNat) := by
  unfold putS at h
  by_cases h1 : wide w
  · rw [if_pos h1] at h
    by_cases h2 : 0 ≤ n ∧ n < 256 ^ w.toNat
    · rw [if_pos h2] at h
      exact ⟨h1, h2.1, h2.2, (Prod.mk.inj h).1.symm⟩
    · rw [if_neg h2] at h; exact absurd (Prod.mk.inj h).2 (by decide)
  · rw [if_neg h1] at h; exact absurd (Prod.mk.inj h).2 (by decide)
theorem numAt_lt {s : ByteArray} {a w : Nat} (h : a + w ≤ s.size) : numAt s a w < 256 ^ w := by
  apply beN_lt
  rw [List.length_take, List.length_drop, size_data]; omega
/-- What is taken was put. -/
theorem put_of_get {s : ByteArray} {a w n tt : Int} (h : getS s a w = (n, tt, 0)) : putS n w = (s.extract a.toNat tt.toNat, 0) := by
  obtain ⟨hw, ha, hs, rfl, rfl, hn, _⟩ := getS_ok h
  have hw' := wide_nat hw
  have hl := numAt_lt (s := s) (a := a.toNat) (w := w.toNat) (by omega)
  unfold putS
  rw [if_pos hw, if_pos ⟨by omega, pow_cast hl⟩]
  congr 1
  apply ext_list
  rw [bytesB_data, data_extract, Int.toNat_natCast, numAt, show (a + w).toNat = a.toNat + w.toNat by omega]
  rw [beL_beN]
  · rw [List.drop_take, Nat.add_sub_cancel_left]
  · rw [List.length_take, List.length_drop, size_data]; omega
/-- What was put is got, wherever it stands. -/
theorem get_of_put {n w : Int} {b x y : ByteArray} (h : putS n w = (b, 0)) (hn : n ≤ 9223372036854775807) : getS (x ++ b ++ y) x.size w = (n, x.size + w, 0) ∧ b.size = w.toNat := by
  obtain ⟨hw, h0, h1, rfl⟩ := putS_ok h
  have hw' := wide_nat hw
  have hsz : (bytesB (beL w.toNat n.toNat)).size = w.toNat := by rw [bytesB_size, beL_length]
  have hnum : (numAt (x ++ bytesB (beL w.toNat n.toNat) ++ y) x.size w.toNat : Int) = n := by
    unfold numAt
    rw [data_append, data_append, bytesB_data, List.append_assoc, List.drop_left' (size_data x), List.take_left' (beL_length _ _), beN_beL, Nat.mod_eq_of_lt]
    · omega
    · have : ((n.toNat : Nat) : Int) < 256 ^ w.toNat := by rw [Int.toNat_of_nonneg h0]; exact h1
      exact pow_cast' this
  refine ⟨?_, hsz⟩
  unfold getS
  rw [if_pos ⟨hw, by omega, by simp only [ByteArray.size_append, hsz]; omega⟩, if_neg (by simp only [ByteArray.size_append, hsz]; omega), Int.toNat_natCast, hnum, if_neg (by omega)]
theorem lay_ok {t b : ByteArray} (h : layS t = (b, 0)) : t.size ≤ 65535 ∧ b = bytesB (beL 2 t.size) ++ t := by
  unfold layS at h
  split at h
  · simp at h
  · simp only [Prod.mk.injEq] at h
    exact ⟨by omega, h.1.symm⟩
theorem put2 {n : Nat} (h : n < 65536) : putS n 2 = (bytesB (beL 2 n), 0) := by
  unfold putS
  rw [if_pos (by decide), if_pos ⟨by omega, by show (n : Int) < 256 ^ 2; omega⟩]; rfl
theorem take_of_lay {t b x y : ByteArray} {most : Int} (h : layS t = (b, 0)) (hm : (t.size : Int) ≤ most) : takeS (x ++ b ++ y) x.size most = (t, (x.size : Int) + b.size, 0) := by
  obtain ⟨hs, rfl⟩ := lay_ok h
  have hg := (get_of_put (x := x) (y := t ++ y) (put2 (n := t.size) (by omega)) (by omega)).1
  rw [show x ++ bytesB (beL 2 t.size) ++ (t ++ y) = x ++ (bytesB (beL 2 t.size) ++ t) ++ y by simp only [ByteArray.append_assoc]] at hg
  unfold takeS
  rw [if_neg (by omega), hg]
  simp only [if_true]
  rw [if_neg (by omega), if_neg (by simp only [ByteArray.size_append, bytesB_size, beL_length]; omega)]
  simp only [ByteArray.size_append, bytesB_size, beL_length, Prod.mk.injEq, and_true]
  refine ⟨?_, by omega⟩
  apply ext_list
  rw [data_extract, data_append, data_append, data_append, bytesB_data]
  rw [show ((x.size : Int) + 2).toNat = x.size + 2 by omega, show ((x.size : Int) + 2 + (t.size : Int)).toNat = x.size + 2 + t.size by omega]
  rw [List.take_append_of_le_length (by simp only [List.length_append, beL_length, size_data]; omega), List.take_of_length_le (by simp only [List.length_append, beL_length, size_data]; omega), ← List.append_assoc, List.drop_left' (by simp only [List.length_append, beL_length, size_data])]
theorem takeS_ok {s t : ByteArray} {a most tt : Int} (h : takeS s a most = (t, tt, 0)) : 0 ≤ most ∧ ∃ n, getS s a 2 = (n, a + 2, 0) ∧ n ≤ most ∧ a + 2 + n ≤ s.size ∧ t = s.extract (a + 2).toNat (a + 2 + n).toNat ∧ tt = a + 2 + n := by
  unfold takeS at h
  split at h
  · simp at h
  · split at h
    · split at h
      · simp at h
      · split at h
        · simp at h
        · rename_i h1 h2 h3 h4
          have hg : getS s a 2 = ((getS s a 2).1, (getS s a 2).2.1, 0) := by rw [← h2]
          obtain ⟨_, _, _, e, _⟩ := getS_ok hg
          simp only [Prod.mk.injEq] at h
          rw [e] at hg h4 h
          exact ⟨by omega, (getS s a 2).1, hg, by omega, by omega, h.1.symm, h.2.1.symm⟩
    · rename_i h1 h2
      simp only [Prod.mk.injEq] at h
      exact absurd h.2.2 h2
theorem lay_of_take {s t : ByteArray} {a most tt : Int} (h : takeS s a most = (t, tt, 0)) : layS t = (s.extract a.toNat tt.toNat, 0) ∧ a ≤ tt ∧ tt ≤ s.size ∧ 0 ≤ a := by
  obtain ⟨hm, n, hg, h1, h2, rfl, rfl⟩ := takeS_ok h
  obtain ⟨_, ha, hs, _, hn, _, h0⟩ := getS_ok hg
  have hp := put_of_get hg
  obtain ⟨_, _, hlt, hb⟩ := putS_ok hp
  have hlt' : n < 65536 := hlt
  refine ⟨?_, by omega, by omega, ha⟩
  have hsz : (s.extract (a + 2).toNat (a + 2 + n).toNat).size = n.toNat := by rw [ByteArray.size_extract]; omega
  unfold layS
  rw [hsz, if_neg (by omega)]
  congr 1
  have : bytesB (beL 2 n.toNat) = s.extract a.toNat (a + 2).toNat := hb.symm
  rw [this]
  apply ext_list
  rw [data_append, data_extract, data_extract, data_extract, List.drop_take, List.drop_take, List.drop_take]
  rw [show (a + 2).toNat - a.toNat = 2 by omega, show (a + 2 + n).toNat - (a + 2).toNat = n.toNat by omega, show (a + 2 + n).toNat - a.toNat = 2 + n.toNat by omega, show (a + 2).toNat = a.toNat + 2 by omega, List.take_add, List.drop_drop]
theorem extract_append {s : ByteArray} {i j k : Nat} (h1 : i ≤ j) (h2 : j ≤ k) : s.extract i j ++ s.extract j k = s.extract i k := by
  apply ext_list
  rw [data_append, data_extract, data_extract, data_extract, List.drop_take, List.drop_take, List.drop_take]
  rw [show k - i = (j - i) + (k - j) by omega, List.take_add, List.drop_drop, show i + (j - i) = j by omega]
theorem extract_self {s : ByteArray} {i : Nat} : s.extract i i = ⟨#[]⟩ := by
  apply ext_list
  rw [data_extract, List.drop_take, Nat.sub_self]; rfl
theorem rowL_cons {w n : Int} {l : List Int} {b : ByteArray} (h : rowL w (n :: l) = (b, 0)) : ∃ p q, putS n w = (p, 0) ∧ rowL w l = (q, 0) ∧ b = p ++ q := by
  simp only [rowL] at h
  by_cases h1 : (putS n w).2 = 0
  · rw [if_pos h1] at h
    by_cases h2 : (rowL w l).2 = 0
    · rw [if_pos h2] at h
      exact ⟨(putS n w).1, (rowL w l).1, by rw [← h1], by rw [← h2], (Prod.mk.inj h).1.symm⟩
    · rw [if_neg h2] at h; exact absurd (Prod.mk.inj h).2 h2
  · rw [if_neg h1] at h; exact absurd (Prod.mk.inj h).2 h1
theorem rowL_mk {w n : Int} {l : List Int} {p q : ByteArray} (h1 : putS n w = (p, 0)) (h2 : rowL w l = (q, 0)) : rowL w (n :: l) = (p ++ q, 0) := by
  simp only [rowL, h1, h2, if_true]
theorem unrowL_cons {s : ByteArray} {w : Int} {n : Nat} {a tt : Int} {l : List Int} (h : unrowL s w (n + 1) a = (l, tt, 0)) : ∃ v t ls, getS s a w = (v, t, 0) ∧ unrowL s w n t = (ls, tt, 0) ∧ l = v :: ls := by
  simp only [unrowL] at h
  by_cases h1 : (getS s a w).2.2 = 0
  · rw [if_pos h1] at h
    by_cases h2 : (unrowL s w n (getS s a w).2.1).2.2 = 0
    · rw [if_pos h2] at h
      obtain ⟨e1, e2⟩ := Prod.mk.inj h
      refine ⟨(getS s a w).1, (getS s a w).2.1, _, by rw [← h1], ?_, e1.symm⟩
      exact Prod.ext rfl e2
    · rw [if_neg h2] at h
      exact absurd (Prod.mk.inj (Prod.mk.inj h).2).2 h2
  · rw [if_neg h1] at h
    exact absurd (Prod.mk.inj (Prod.mk.inj h).2).2 h1
theorem unrowL_of_rowL {w : Int} {y : ByteArray} : ∀ (l : List Int) (b x : ByteArray), rowL w l = (b, 0) → (∀ n ∈ l, n ≤ 9223372036854775807) → unrowL (x ++ b ++ y) w l.length (x.size : Int) = (l, (x.size : Int) + b.size, 0)
  | [], b, x, h, _ => by
    simp only [rowL, Prod.mk.injEq] at h
    obtain ⟨rfl, _⟩ := h
    have e0 : ((⟨#[]⟩ : ByteArray).size : Int) = 0 := rfl
    exact congrArg (fun z => (([] : List Int), z, (0 : Int))) (show (x.size : Int) = (x.size : Int) + ((⟨#[]⟩ : ByteArray).size : Int) by rw [e0]; omega)
  | n :: l, b, x, h, hn => by
    obtain ⟨p, q, hp, hq, rfl⟩ := rowL_cons h
    obtain ⟨hg, hs⟩ := get_of_put (x := x) (y := q ++ y) hp (hn n List.mem_cons_self)
    have hw := wide_nat (putS_ok hp).1
    have ih := unrowL_of_rowL (y := y) l q (x ++ p) hq (fun m hm => hn m (List.mem_cons_of_mem _ hm))
    have e : x ++ p ++ (q ++ y) = x ++ (p ++ q) ++ y := by simp only [ByteArray.append_assoc]
    have e2 : x ++ p ++ q ++ y = x ++ (p ++ q) ++ y := by simp only [ByteArray.append_assoc]
    rw [e] at hg
    rw [e2, ByteArray.size_append, show ((x.size + p.size : Nat) : Int) = (x.size : Int) + w by omega] at ih
    simp only [List.length_cons, unrowL, hg, ih, if_true]
    rw [ByteArray.size_append]
    congr 2
    omega
theorem rowL_of_unrowL {s : ByteArray} {w : Int} : ∀ (n : Nat) (a tt : Int) (l : List Int), unrowL s w n a = (l, tt, 0) → 0 ≤ a → a ≤ s.size → rowL w l = (s.extract a.toNat tt.toNat, 0) ∧ a ≤ tt ∧ tt ≤ s.size ∧ l.length = n
  | 0, a, tt, l, h, h0, h1 => by
    simp only [unrowL, Prod.mk.injEq] at h
    obtain ⟨rfl, rfl, _⟩ := h
    exact ⟨by rw [extract_self]; rfl, Int.le_refl _, h1, rfl⟩
  | n + 1, a, tt, l, h, h0, h1 => by
    obtain ⟨v, t, ls, hg, hu, rfl⟩ := unrowL_cons h
    obtain ⟨hw, _, hs, rfl, _⟩ := getS_ok hg
    have hw' := wide_nat hw
    obtain ⟨ih, i1, i2, i3⟩ := rowL_of_unrowL n (a + w) tt ls hu (by omega) (by omega)
    refine ⟨?_, by omega, i2, by simp [i3]⟩
    rw [rowL_mk (put_of_get hg) ih, extract_append (by omega) (by omega)]
theorem rowS_ok {w : Int} {l : List Int} {b : ByteArray} (h : rowS w l = (b, 0)) : wide w ∧ l.length ≤ 1000 ∧ ∃ q, rowL w l = (q, 0) ∧ b = bytesB (beL 2 l.length) ++ q := by
  unfold rowS at h
  by_cases h1 : wide w
  · rw [if_pos h1] at h
    by_cases h2 : l.length > 1000
    · rw [if_pos h2] at h; exact absurd (Prod.mk.inj h).2 (by decide)
    · rw [if_neg h2] at h
      by_cases h3 : (rowL w l).2 = 0
      · rw [if_pos h3] at h
        exact ⟨h1, by omega, (rowL w l).1, by rw [← h3], (Prod.mk.inj h).1.symm⟩
      · rw [if_neg h3] at h; exact absurd (Prod.mk.inj h).2 h3
  · rw [if_neg h1] at h; exact absurd (Prod.mk.inj h).2 (by decide)
theorem unrow_of_row {w top : Int} {l : List Int} {b x y : ByteArray} (h : rowS w l = (b, 0)) (hn : ∀ n ∈ l, n ≤ 9223372036854775807) (ht : (l.length : Int) ≤ top) : unrowS (x ++ b ++ y) (x.size : Int) w top = (l, (x.size : Int) + b.size, 0) := by
  obtain ⟨hw, hl, q, hq, rfl⟩ := rowS_ok h
  have hg := (get_of_put (x := x) (y := q ++ y) (put2 (n := l.length) (by omega)) (by omega)).1
  have e : x ++ bytesB (beL 2 l.length) ++ (q ++ y) = x ++ (bytesB (beL 2 l.length) ++ q) ++ y := by simp only [ByteArray.append_assoc]
  rw [e] at hg
  have hu := unrowL_of_rowL (y := y) l q (x ++ bytesB (beL 2 l.length)) hq hn
  have e2 : x ++ bytesB (beL 2 l.length) ++ q ++ y = x ++ (bytesB (beL 2 l.length) ++ q) ++ y := by simp only [ByteArray.append_assoc]
  have e3 : (bytesB (beL 2 l.length)).size = 2 := by rw [bytesB_size, beL_length]
  rw [e2, ByteArray.size_append, e3] at hu
  unfold unrowS
  rw [if_neg (by simp only [ByteArray.size_append, e3]; intro h; rcases h with h | h | h | h; exact h hw; omega; omega; omega), hg]
  simp only [if_true]
  rw [if_neg (by omega), Int.toNat_natCast]
  rw [show ((x.size + 2 : Nat) : Int) = (x.size : Int) + 2 by omega] at hu
  rw [hu, ByteArray.size_append, e3]
  congr 2
  omega
theorem unrowS_ok {s : ByteArray} {a w top tt : Int} {l : List Int} (h : unrowS s a w top = (l, tt, 0)) : wide w ∧ 0 ≤ top ∧ ∃ n, getS s a 2 = (n, a + 2, 0) ∧ n ≤ top ∧ n ≤ 1000 ∧ unrowL s w n.toNat (a + 2) = (l, tt, 0) := by
  unfold unrowS at h
  by_cases h1 : ¬ wide w ∨ a < 0 ∨ a > s.size ∨ top < 0
  · rw [if_pos h1] at h; exact absurd (Prod.mk.inj (Prod.mk.inj h).2).2 (by decide)
  · rw [if_neg h1] at h
    by_cases h2 : (getS s a 2).2.2 = 0
    · rw [if_pos h2] at h
      by_cases h3 : (getS s a 2).1 > top ∨ (getS s a 2).1 > 1000
      · rw [if_pos h3] at h; exact absurd (Prod.mk.inj (Prod.mk.inj h).2).2 (by decide)
      · rw [if_neg h3] at h
        have hg : getS s a 2 = ((getS s a 2).1, (getS s a 2).2.1, 0) := by rw [← h2]
        obtain ⟨_, _, _, e, _⟩ := getS_ok hg
        rw [e] at h hg
        exact ⟨Classical.byContradiction fun x => h1 (.inl x), by omega, (getS s a 2).1, hg, by omega, by omega, h⟩
    · rw [if_neg h2] at h; exact absurd (Prod.mk.inj (Prod.mk.inj h).2).2 h2
theorem row_of_unrow {s : ByteArray} {a w top tt : Int} {l : List Int} (h : unrowS s a w top = (l, tt, 0)) : rowS w l = (s.extract a.toNat tt.toNat, 0) ∧ a ≤ tt ∧ tt ≤ s.size ∧ 0 ≤ a := by
  obtain ⟨hw, _, n, hg, _, hn, hu⟩ := unrowS_ok h
  obtain ⟨_, ha, hs, _, _, _, h0⟩ := getS_ok hg
  obtain ⟨hr, h1, h2, hl⟩ := rowL_of_unrowL _ _ _ _ hu (by omega) (by omega)
  have hp := put_of_get hg
  have hb := (putS_ok hp).2.2.2
  refine ⟨?_, by omega, h2, ha⟩
  unfold rowS
  rw [if_pos hw, if_neg (by omega), hr]
  simp only [if_true]
  rw [hl, show bytesB (beL 2 n.toNat) = s.extract a.toNat (a + 2).toNat from hb.symm, extract_append (by omega) (by omega)]
theorem put_order {a b w : Int} {x y : ByteArray} (h1 : putS a w = (x, 0)) (h2 : putS b w = (y, 0)) : (Op.bytesLess x.data.toList y.data.toList = true ↔ a < b) := by
  obtain ⟨_, ha, ha', rfl⟩ := putS_ok h1
  obtain ⟨_, hb, hb', rfl⟩ := putS_ok h2
  rw [bytesB_data, bytesB_data, less_beN w.toNat _ _ (beL_length _ _) (beL_length _ _), beN_beL, beN_beL, Nat.mod_eq_of_lt (pow_cast' (by rw [Int.toNat_of_nonneg ha]; exact ha')), Nat.mod_eq_of_lt (pow_cast' (by rw [Int.toNat_of_nonneg hb]; exact hb'))]
  omega
end Go.Proofs.Ytabapiofkipkoaa.Q

/- Serials, plainly: what is folded, checked, marked; the order of texts; no condition. -/
set_option linter.unusedVariables false
namespace Go.Proofs.Ytabapiofkipkoaa.Q
open Go.RowKit Go.Proofs.YtabapiofkipkoaaX Go.Proofs.YtabapiofkipkoaaW.PrintWords Go.Proofs.YtabapiofkipkoaaW.PrintLast Go.Proofs.YtabapiofkipkoaaW.PrintMore

theorem less_cons (a b : UInt8) (x y : List UInt8) : Op.bytesLess (a :: x) (b :: y) = true ↔ a.toNat < b.toNat ∨ (a = b ∧ Op.bytesLess x y = true) := by
  simp only [Op.bytesLess, Bool.or_eq_true, Bool.and_eq_true, decide_eq_true_eq, beq_iff_eq, UInt8.lt_iff_toNat_lt]
theorem less_nil (x : List UInt8) : Op.bytesLess x [] = false := by cases x <;> rfl
theorem less_trans : ∀ (a b c : List UInt8), Op.bytesLess a b = true → Op.bytesLess b c = true → Op.bytesLess a c = true
  | _, [], _, h, _ => by rw [less_nil] at h; cases h
  | _, _ :: _, [], _, h => by rw [less_nil] at h; cases h
  | [], _ :: _, _ :: _, _, _ => rfl
  | a :: x, b :: y, c :: z, h1, h2 => by
    rw [less_cons] at h1 h2 ⊢
    rcases h1 with h1 | ⟨rfl, h1⟩
    · rcases h2 with h2 | ⟨rfl, h2⟩
      · exact .inl (by omega)
      · exact .inl h1
    · rcases h2 with h2 | ⟨rfl, h2⟩
      · exact .inl h2
      · exact .inr ⟨rfl, less_trans x y z h1 h2⟩
theorem less_total : ∀ (a b : List UInt8), Op.bytesLess a b = false → Op.bytesLess b a = false → a = b
  | [], [], _, _ => rfl
  | [], _ :: _, h, _ => by simp [Op.bytesLess] at h
  | _ :: _, [], _, h => by simp [Op.bytesLess] at h
  | a :: x, b :: y, h1, h2 => by
    have n1 : ¬ Op.bytesLess (a :: x) (b :: y) = true := by rw [h1]; decide
    have n2 : ¬ Op.bytesLess (b :: y) (a :: x) = true := by rw [h2]; decide
    rw [less_cons] at n1 n2
    have hab : a = b := UInt8.toNat_inj.1 (by omega)
    subst hab
    rw [less_total x y (by cases e : Op.bytesLess x y; rfl; exact absurd (.inr ⟨rfl, e⟩) n1) (by cases e : Op.bytesLess y x; rfl; exact absurd (.inr ⟨rfl, e⟩) n2)]
-- ---------------------------------------------------------------- plain
def up8 (b : UInt8) : UInt8 := if 97 ≤ b.toNat ∧ b.toNat ≤ 122 then UInt8.ofNat (b.toNat - 32) else b
theorem up8_toNat (b : UInt8) : ((up8 b).toNat : Int) = upI b.toNat := by
  unfold up8 upI
  by_cases h : 97 ≤ b.toNat ∧ b.toNat ≤ 122
  · rw [if_pos h, if_pos (by omega)]
    have : (UInt8.ofNat (b.toNat - 32)).toNat = b.toNat - 32 := by simp; omega
    rw [this]; omega
  · rw [if_neg h, if_neg (by omega)]
theorem up8_of (b : UInt8) : UInt8.ofNat (upI b.toNat).toNat = up8 b := by
  apply UInt8.toNat_inj.1
  have h := up8_toNat b
  have h2 := (up8 b).toNat_lt
  have : (upI b.toNat).toNat = (up8 b).toNat := by omega
  rw [this]; simp
theorem up_runes (l : List UInt8) : ((runes l).map fun r => UInt8.ofNat (upI r).toNat) = l.map up8 := by
  simp only [runes, List.map_map]
  exact List.map_congr_left fun b _ => up8_of b
/-- May these bytes be a serial's, folded or not? -/
def serB (l : List UInt8) : Prop := 1 ≤ l.length ∧ l.length ≤ 16 ∧ l.getLast? ≠ some 45 ∧ okL 3 (runes l) = true
instance (l : List UInt8) : Decidable (serB l) := by unfold serB; infer_instance
theorem foldS_eq (s : ByteArray) : foldS s = if serB s.data.toList then (⟨(s.data.toList.map up8).toArray⟩, 0) else (⟨#[]⟩, 9) := by
  unfold foldS
  rw [up_runes]
  by_cases h : s.size < 1 ∨ s.size > 16 ∨ s.data.toList.getLast? = some 45 ∨ okL 3 (runes s.data.toList) = false
  · rw [if_pos h, if_neg]
    rintro ⟨h1, h2, h3, h4⟩
    rw [size_data] at h1 h2
    rcases h with h | h | h | h
    · omega
    · omega
    · exact h3 h
    · rw [h] at h4; cases h4
  · rw [if_neg h, if_pos]
    refine ⟨by rw [size_data]; omega, by rw [size_data]; omega, fun x => h (.inr (.inr (.inl x))), ?_⟩
    cases e : okL 3 (runes s.data.toList)
    · exact absurd (.inr (.inr (.inr e))) h
    · rfl
theorem cls_up (r : Int) : clsI (upI r) = clsI r := by
  unfold clsI upI
  (repeat' split) <;> omega
theorem okL_up (l : List Int) : ∀ last, okL last (l.map upI) = okL last l := by
  induction l with
  | nil => intro _; rfl
  | cons r rs ih => intro last; simp only [List.map_cons, okL, cls_up, ih]
theorem runes_up (l : List UInt8) : runes (l.map up8) = (runes l).map upI := by
  simp only [runes, List.map_map]
  exact List.map_congr_left fun b _ => up8_toNat b
theorem up8_up8 (b : UInt8) : up8 (up8 b) = up8 b := by
  apply UInt8.toNat_inj.1
  have h1 := up8_toNat b
  have h2 := up8_toNat (up8 b)
  rw [h1] at h2
  have : upI (upI b.toNat) = upI b.toNat := by unfold upI; (repeat' split) <;> omega
  omega
theorem up8_45 (b : UInt8) : up8 b = 45 ↔ b = 45 := by
  have h := up8_toNat b
  rw [← UInt8.toNat_inj, ← UInt8.toNat_inj]
  unfold upI at h
  show (up8 b).toNat = 45 ↔ b.toNat = 45
  split at h <;> omega
theorem serB_up (l : List UInt8) : serB (l.map up8) ↔ serB l := by
  unfold serB
  rw [List.length_map, runes_up, okL_up, List.getLast?_map]
  have : (Option.map up8 l.getLast? ≠ some 45) ↔ l.getLast? ≠ some 45 := by
    cases l.getLast? with
    | none => simp
    | some b => simp [up8_45]
  rw [this]
theorem map_id_of {l : List UInt8} (h : l.map up8 = l) : ∀ b ∈ l, up8 b = b := by
  intro b hb
  obtain ⟨i, hi, rfl⟩ := List.mem_iff_getElem.1 hb
  have : (l.map up8)[i]'(by simpa using hi) = l[i] := by simp only [h]
  simpa using this
theorem bytes_mk (s : ByteArray) (l : List UInt8) : (⟨l.toArray⟩ : ByteArray) = s ↔ l = s.data.toList := by
  constructor
  · rintro rfl; rfl
  · intro h; subst h; rfl
theorem checkS_iff (s : ByteArray) : checkS s = 0 ↔ serB s.data.toList ∧ s.data.toList.map up8 = s.data.toList := by
  unfold checkS
  rw [foldS_eq]
  by_cases h : serB s.data.toList
  · rw [if_pos h]
    constructor
    · intro x
      split at x
      · rename_i y; exact ⟨h, (bytes_mk _ _).1 y.2⟩
      · cases x
    · rintro ⟨_, x⟩; rw [if_pos ⟨rfl, (bytes_mk _ _).2 x⟩]
  · rw [if_neg h, if_neg (fun x => absurd x.1 (by decide))]
    exact Iff.intro (fun x => absurd x (by decide)) (fun x => absurd x.1 h)
theorem checkS_or (s : ByteArray) : checkS s = 0 ∨ checkS s = 9 := by unfold checkS; split <;> simp
-- marks
theorem step_range {n : Int} {b : UInt8} (h : 0 ≤ n ∧ n < 37) : 0 ≤ stepM n b ∧ stepM n b < 37 := by
  unfold stepM; split <;> omega
theorem fold_range (l : List UInt8) : ∀ n : Int, 0 ≤ n ∧ n < 37 → 0 ≤ l.foldl stepM n ∧ l.foldl stepM n < 37 := by
  induction l with
  | nil => intro n h; exact h
  | cons b l ih => intro n h; exact ih _ (step_range h)
theorem step_inj {n m : Int} {b : UInt8} (hn : 0 ≤ n ∧ n < 37) (hm : 0 ≤ m ∧ m < 37) (h : stepM n b = stepM m b) : n = m := by
  unfold stepM at h; split at h <;> omega
theorem fold_inj (l : List UInt8) : ∀ n m : Int, 0 ≤ n ∧ n < 37 → 0 ≤ m ∧ m < 37 → l.foldl stepM n = l.foldl stepM m → n = m := by
  induction l with
  | nil => intro n m _ _ h; exact h
  | cons b l ih => intro n m hn hm h; exact step_inj hn hm (ih _ _ (step_range hn) (step_range hm) h)
theorem sign_inj {n m : Int} (hn : 0 ≤ n ∧ n < 37) (hm : 0 ≤ m ∧ m < 37) (h : signI ((38 - n) % 37) = signI ((38 - m) % 37)) : n = m := by
  unfold signI at h
  (repeat' split at h) <;> omega
/-- The class of a serial's bytes, folded: a value from 0 to 35, or the dash. -/
theorem val_of {b : UInt8} (hc : clsI b.toNat ≠ 0) (hu : up8 b = b) (hd : b ≠ 45) : 0 ≤ valI b.toNat ∧ valI b.toNat ≤ 35 := by
  have h := up8_toNat b
  rw [hu] at h
  have hd' : b.toNat ≠ 45 := fun x => hd (UInt8.toNat_inj.1 x)
  unfold clsI at hc; unfold upI at h; unfold valI
  (repeat' split at hc) <;> (repeat' split at h) <;> (repeat' split) <;> omega
theorem val_inj {a b : UInt8} (ha : 0 ≤ valI a.toNat ∧ valI a.toNat ≤ 35) (hb : 0 ≤ valI b.toNat ∧ valI b.toNat ≤ 35) (h : valI a.toNat = valI b.toNat) : a = b := by
  apply UInt8.toNat_inj.1
  unfold valI at ha hb h
  (repeat' split at ha) <;> (repeat' split at hb) <;> (repeat' split at h) <;> omega
theorem okL_mem (l : List Int) : ∀ last, okL last l = true → ∀ r ∈ l, clsI r ≠ 0 := by
  induction l with
  | nil => intro _ _ r h; cases h
  | cons a l ih =>
    intro last h r hr
    simp only [okL, Bool.and_eq_true] at h
    rcases List.mem_cons.1 hr with rfl | hr
    · intro h0; rw [h0] at h; simp [mayB] at h
    · exact ih _ h.2 r hr
theorem check_mem {s : ByteArray} (h : checkS s = 0) : ∀ b ∈ s.data.toList, b ≠ 45 → 0 ≤ valI b.toNat ∧ valI b.toNat ≤ 35 := by
  obtain ⟨h1, h2⟩ := (checkS_iff s).1 h
  intro b hb hd
  exact val_of (okL_mem _ _ h1.2.2.2 _ (List.mem_map.2 ⟨b, hb, rfl⟩)) (map_id_of h2 b hb) hd
theorem mark_one {p q : List UInt8} {a b : UInt8} {s t : ByteArray} (hs : s.data.toList = p ++ a :: q) (ht : t.data.toList = p ++ b :: q) (ha : a ≠ 45) (hb : b ≠ 45) (hab : a ≠ b) (cs : checkS s = 0) (ct : checkS t = 0) : (markS s).1 ≠ (markS t).1 := by
  unfold markS
  rw [if_pos cs, if_pos ct]
  have va := check_mem cs a (by simp [hs]) ha
  have vb := check_mem ct b (by simp [ht]) hb
  intro h
  have r1 := fold_range s.data.toList 0 (by omega)
  have r2 := fold_range t.data.toList 0 (by omega)
  have e := sign_inj r1 r2 h
  rw [hs, ht, List.foldl_append, List.foldl_append, List.foldl_cons, List.foldl_cons] at e
  have r0 := fold_range p 0 (by omega)
  have := fold_inj q _ _ (step_range r0) (step_range r0) e
  unfold stepM at this
  rw [if_neg ha, if_neg hb] at this
  exact hab (val_inj va vb (by omega))
theorem okL_last {l : List Int} {c d : Int} (hc : c ≠ 3) (hd : d ≠ 3) : okL c l = okL d l := by
  cases l with
  | nil => rfl
  | cons r rs =>
    have e1 : (c != 3) = true := by simpa using hc
    have e2 : (d != 3) = true := by simpa using hd
    simp only [okL, mayB, e1, e2]
theorem okL_swap (p : List Int) {a b : Int} {q : List Int} (ha : clsI a ≠ 3) (hb : clsI b ≠ 3) : ∀ last, okL last (p ++ a :: b :: q) = okL last (p ++ b :: a :: q) := by
  induction p with
  | nil =>
    intro last
    simp only [List.nil_append, okL]
    rw [okL_last (l := q) ha hb]
    have e1 : mayB (clsI a) last = (clsI a != 0) := by simp [mayB, ha]
    have e2 : mayB (clsI b) (clsI a) = (clsI b != 0) := by simp [mayB, hb]
    have e3 : mayB (clsI b) last = (clsI b != 0) := by simp [mayB, hb]
    have e4 : mayB (clsI a) (clsI b) = (clsI a != 0) := by simp [mayB, ha]
    rw [e1, e2, e3, e4]
    cases (clsI a != 0) <;> cases (clsI b != 0) <;> simp
  | cons c p ih => intro last; simp only [List.cons_append, okL, ih]
theorem cls_dash {b : UInt8} (h : b ≠ 45) : clsI b.toNat ≠ 3 := by
  have : b.toNat ≠ 45 := fun x => h (UInt8.toNat_inj.1 x)
  unfold clsI; (repeat' split) <;> omega
theorem last_swap (p : List UInt8) {a b : UInt8} (q : List UInt8) (ha : a ≠ 45) (hb : b ≠ 45) : ((p ++ a :: b :: q).getLast? ≠ some 45) ↔ ((p ++ b :: a :: q).getLast? ≠ some 45) := by
  cases q with
  | nil => simp [List.getLast?_append, ha, hb]
  | cons c q => simp [List.getLast?_append]
theorem check_swap {p q : List UInt8} {a b : UInt8} {s t : ByteArray} (hs : s.data.toList = p ++ a :: b :: q) (ht : t.data.toList = p ++ b :: a :: q) (ha : a ≠ 45) (hb : b ≠ 45) (cs : checkS s = 0) : checkS t = 0 := by
  rw [checkS_iff] at cs ⊢
  rw [hs] at cs
  rw [ht]
  obtain ⟨⟨h1, h2, h3, h4⟩, h5⟩ := cs
  refine ⟨⟨by simpa using h1, by simpa using h2, (last_swap p q ha hb).1 h3, ?_⟩, ?_⟩
  · simp only [runes, List.map_append, List.map_cons] at h4 ⊢
    rw [← okL_swap _ (cls_dash ha) (cls_dash hb)]
    exact h4
  · have := map_id_of h5
    refine (List.map_congr_left fun x hx => ?_).trans (List.map_id _)
    refine this x ?_
    simp only [List.mem_append, List.mem_cons] at hx ⊢
    rcases hx with h | h | h | h <;> simp [h]
theorem mark_swap {p q : List UInt8} {a b : UInt8} {s t : ByteArray} (hs : s.data.toList = p ++ a :: b :: q) (ht : t.data.toList = p ++ b :: a :: q) (ha : a ≠ 45) (hb : b ≠ 45) (hab : a ≠ b) (cs : checkS s = 0) (ct : checkS t = 0) : (markS s).1 ≠ (markS t).1 := by
  unfold markS
  rw [if_pos cs, if_pos ct]
  have va := check_mem cs a (by simp [hs]) ha
  have vb := check_mem cs b (by simp [hs]) hb
  intro h
  have r1 := fold_range s.data.toList 0 (by omega)
  have r2 := fold_range t.data.toList 0 (by omega)
  have e := sign_inj r1 r2 h
  rw [hs, ht, List.foldl_append, List.foldl_append, List.foldl_cons, List.foldl_cons, List.foldl_cons, List.foldl_cons] at e
  have r0 := fold_range p 0 (by omega)
  have := fold_inj q _ _ (step_range (step_range r0)) (step_range (step_range r0)) e
  unfold stepM at this
  rw [if_neg ha, if_neg hb, if_neg ha, if_neg hb] at this
  exact hab (val_inj va vb (by omega))
theorem mark_val {s : ByteArray} (h : checkS s = 0) : 0 ≤ valI (markS s).1 := by
  unfold markS
  rw [if_pos h]
  have := fold_range s.data.toList 0 (by omega)
  show 0 ≤ valI (signI ((38 - markN s.data.toList) % 37))
  unfold signI valI
  (repeat' split) <;> omega
-- folding
theorem fold_ok {s t : ByteArray} (h : foldS s = (t, 0)) : serB s.data.toList ∧ t.data.toList = s.data.toList.map up8 := by
  rw [foldS_eq] at h
  by_cases h1 : serB s.data.toList
  · rw [if_pos h1] at h
    refine ⟨h1, ?_⟩
    rw [← (Prod.mk.inj h).1]
  · rw [if_neg h1] at h
    exact absurd (Prod.mk.inj h).2 (by decide)
theorem fold_of {s t : ByteArray} (h1 : serB s.data.toList) (h2 : t.data.toList = s.data.toList.map up8) : foldS s = (t, 0) := by
  rw [foldS_eq, if_pos h1]
  congr 1
  exact (bytes_mk _ _).2 h2.symm
theorem fold_fold {s t : ByteArray} (h : foldS s = (t, 0)) : foldS t = (t, 0) ∧ checkS t = 0 ∧ t.size = s.size := by
  obtain ⟨h1, h2⟩ := fold_ok h
  have e : t.data.toList = t.data.toList.map up8 := by
    rw [h2, List.map_map]
    exact List.map_congr_left fun b _ => (up8_up8 b).symm
  have h3 : serB t.data.toList := by rw [h2, serB_up]; exact h1
  refine ⟨fold_of h3 e, (checkS_iff t).2 ⟨h3, e.symm⟩, ?_⟩
  rw [← size_data, ← size_data, h2, List.length_map]
theorem fold_case {s t u : ByteArray} {p q : List UInt8} {a : UInt8} (h : foldS s = (t, 0)) (ht : t.data.toList = p ++ a :: q) (hu : u.data.toList = p ++ UInt8.ofNat (a.toNat + 32) :: q) (ha : 65 ≤ a.toNat ∧ a.toNat ≤ 90) : foldS u = (t, 0) := by
  obtain ⟨h1, h2, _⟩ := fold_fold h
  obtain ⟨h3, h4⟩ := fold_ok h1
  have e : up8 (UInt8.ofNat (a.toNat + 32)) = a := by
    have h5 : (UInt8.ofNat (a.toNat + 32)).toNat = a.toNat + 32 := by simp; omega
    apply UInt8.toNat_inj.1
    have h6 := up8_toNat (UInt8.ofNat (a.toNat + 32))
    rw [h5] at h6
    unfold upI at h6
    rw [if_pos (by omega)] at h6
    omega
  have e2 : u.data.toList.map up8 = t.data.toList := by
    rw [hu, h4]
    rw [ht]
    simp only [List.map_append, List.map_cons, e]
    congr 2
    exact (map_id_of h4.symm a (by simp [ht])).symm
  refine fold_of ?_ e2.symm
  rw [← serB_up, e2]
  exact h3
theorem toList_data (s : ByteArray) : s.toList = s.data.toList := ByteArray.toList_eq s
def lt8 (a b : ByteArray) : Prop := Op.bytesLess a.toList b.toList = true
instance (a b : ByteArray) : Decidable (lt8 a b) := by unfold lt8; infer_instance
theorem lt8_irrefl (a : ByteArray) : ¬ lt8 a a := by unfold lt8; rw [less_irrefl]; decide
theorem lt8_trans {a b c : ByteArray} (h : lt8 a b) (g : lt8 b c) : lt8 a c := less_trans _ _ _ h g
theorem lt8_total {a b : ByteArray} (h : ¬ lt8 a b) (g : ¬ lt8 b a) : a = b := by
  have := less_total a.toList b.toList (by unfold lt8 at h; simpa using h) (by unfold lt8 at g; simpa using g)
  rw [toList_data, toList_data] at this
  cases a; cases b; simpa [Array.toList_inj] using this
def notUp : Option ByteArray → ByteArray → Bool
  | none, _ => false
  | some q, s => !(Op.bytesLess q.toList s.toList)
/-- A row of serials: 0; or why it is none. -/
def rowG : Option ByteArray → List ByteArray → Int
  | _, [] => 0
  | p, s :: l => if checkS s = 0 then (if notUp p s = true then 32 else rowG (some s) l) else 9
theorem notUp_some {q s : ByteArray} : notUp (some q) s = false ↔ lt8 q s := by simp [notUp, lt8]
theorem rowG_zero {l : List ByteArray} : ∀ {p : Option ByteArray}, rowG p l = 0 → (∀ s ∈ l, checkS s = 0) ∧ l.Pairwise lt8 ∧ ∀ q, p = some q → ∀ s ∈ l, lt8 q s := by
  induction l with
  | nil => intro p _; simp
  | cons a l ih =>
    intro p h
    simp only [rowG] at h
    by_cases h1 : checkS a = 0
    · rw [if_pos h1] at h
      by_cases h2 : notUp p a = true
      · rw [if_pos h2] at h; cases h
      · rw [if_neg h2] at h
        obtain ⟨i1, i2, i3⟩ := ih h
        have hq : ∀ q, p = some q → lt8 q a := fun q e => by
          subst e
          exact notUp_some.1 (by simpa using h2)
        refine ⟨fun s hs => ?_, List.pairwise_cons.2 ⟨fun s hs => i3 a rfl s hs, i2⟩, fun q e s hs => ?_⟩
        · rcases List.mem_cons.1 hs with rfl | hs
          · exact h1
          · exact i1 s hs
        · rcases List.mem_cons.1 hs with rfl | hs
          · exact hq q e
          · exact lt8_trans (hq q e) (i3 a rfl s hs)
    · rw [if_neg h1] at h; cases h
theorem rowG_of {l : List ByteArray} : ∀ {p : Option ByteArray}, (∀ s ∈ l, checkS s = 0) → l.Pairwise lt8 → (∀ q, p = some q → ∀ s ∈ l, lt8 q s) → rowG p l = 0 := by
  induction l with
  | nil => intro p _ _ _; rfl
  | cons a l ih =>
    intro p h1 h2 h3
    simp only [rowG]
    obtain ⟨g1, g2⟩ := List.pairwise_cons.1 h2
    have e : ¬ notUp p a = true := by
      cases p with
      | none => simp [notUp]
      | some q => rw [notUp_some.2 (h3 q rfl a List.mem_cons_self)]; decide
    rw [if_pos (h1 a List.mem_cons_self), if_neg e]
    exact ih (fun s hs => h1 s (List.mem_cons_of_mem _ hs)) g2 (fun q hq s hs => by injection hq with hq; subst hq; exact g1 s hs)
theorem rowG_or (l : List ByteArray) : ∀ p, rowG p l = 0 ∨ rowG p l = 9 ∨ rowG p l = 32 := by
  induction l with
  | nil => intro p; exact .inl rfl
  | cons a l ih =>
    intro p
    simp only [rowG]
    split
    · split
      · exact .inr (.inr rfl)
      · exact ih _
    · exact .inr (.inl rfl)
theorem pair_get {l : List ByteArray} (h : l.Pairwise lt8) {i j : Nat} (hj : j < l.length) (hij : i < j) : lt8 (l[i]'(by omega)) l[j] := List.pairwise_iff_getElem.1 h i j _ hj hij
def idxT (l : List ByteArray) (s : ByteArray) : Option Nat := l.findIdx? (fun x => decide (x = s))
theorem idxT_some {l : List ByteArray} {s : ByteArray} {i : Nat} (h : i < l.length) (he : l[i] = s) (hn : ∀ j (h : j < l.length), j < i → l[j] ≠ s) : idxT l s = some i := by
  unfold idxT
  rw [List.findIdx?_eq_some_iff_getElem]
  exact ⟨h, by simp [he], fun j hj => by simpa using hn j (by omega) hj⟩
theorem idxT_none {l : List ByteArray} {s : ByteArray} (hn : ∀ j (h : j < l.length), l[j] ≠ s) : idxT l s = none := by
  unfold idxT
  rw [List.findIdx?_eq_none_iff]
  intro x hx
  obtain ⟨j, hj, rfl⟩ := List.mem_iff_getElem.1 hx
  simpa using hn j hj
theorem idxT_get {l : List ByteArray} {s : ByteArray} {i : Nat} (h : idxT l s = some i) : ∃ h : i < l.length, l[i] = s ∧ ∀ j (h : j < l.length), j < i → l[j] ≠ s := by
  unfold idxT at h
  rw [List.findIdx?_eq_some_iff_getElem] at h
  obtain ⟨h1, h2, h3⟩ := h
  exact ⟨h1, by simpa using h2, fun j hj hji => by simpa using h3 j hji⟩
/-- Where a text stands; or where it would stand; or 0. -/
def findT (l : List ByteArray) (s : ByteArray) : Int × Bool := match idxT l s with
  | some i => ((i : Int), true)
  | none => (if rowG none l = 0 then (l.countP (fun x => decide (lt8 x s)) : Int) else 0, false)
theorem findT_sorted {l : List ByteArray} {s : ByteArray} {n : Nat} (hs : l.Pairwise lt8) (hn : n ≤ l.length) (h1 : ∀ j (h : j < l.length), j < n → lt8 l[j] s) (h2 : ∀ j (h : j < l.length), n ≤ j → ¬ lt8 l[j] s) (h0 : rowG none l = 0) : findT l s = ((n : Int), decide (∃ h : n < l.length, l[n] = s)) := by
  have hlt : ∀ j (h : j < l.length), j < n → l[j] ≠ s := fun j hj hjn e => lt8_irrefl s (e ▸ h1 j hj hjn)
  unfold findT
  by_cases h : ∃ h : n < l.length, l[n] = s
  · obtain ⟨hn', he⟩ := h
    rw [idxT_some hn' he hlt]
    simp only [Prod.mk.injEq, true_and]
    exact (decide_eq_true ⟨hn', he⟩).symm
  · rw [idxT_none (fun j hj e => ?_)]
    · simp only [if_pos h0]
      refine Prod.ext ?_ (decide_eq_false h).symm
      have : l.countP (fun x => decide (lt8 x s)) = n := by
        have e : l = l.take n ++ l.drop n := (List.take_append_drop n l).symm
        have a : (l.take n).countP (fun x => decide (lt8 x s)) = (l.take n).length := by
          rw [List.countP_eq_length]
          intro x hx
          obtain ⟨j, hj, rfl⟩ := List.mem_iff_getElem.1 hx
          rw [List.length_take] at hj
          rw [List.getElem_take]
          simpa using h1 j (by omega) (by omega)
        have b : (l.drop n).countP (fun x => decide (lt8 x s)) = 0 := by
          rw [List.countP_eq_zero]
          intro x hx
          obtain ⟨j, hj, rfl⟩ := List.mem_iff_getElem.1 hx
          rw [List.length_drop] at hj
          rw [List.getElem_drop]
          simpa using h2 (n + j) (by omega) (by omega)
        rw [e, List.countP_append, a, b, List.length_take]
        omega
      show (_ : Int) = _
      rw [this]
    · rcases Nat.lt_or_ge j n with hjn | hjn
      · exact hlt j hj hjn e
      · rcases Nat.lt_or_ge n j with hnj | hnj
        · have h3 := pair_get hs hj hnj
          rw [e] at h3
          exact h2 n (by omega) (Nat.le_refl _) h3
        · have : j = n := by omega
          subst this
          exact h ⟨hj, e⟩
end Go.Proofs.Ytabapiofkipkoaa.Q

namespace Go.Proofs.Ytabapiofkipkoaa.F
open Go.RowKit Go.Proofs.YtabapiofkipkoaaX Go.Proofs.YtabapiofkipkoaaW.PrintWords Go.Proofs.YtabapiofkipkoaaW.PrintLast Go.Proofs.YtabapiofkipkoaaW.PrintMore
attribute [local go_sem] max2_int min2_int max_two min_two max_three min_three max_four min_four   -- for this text's walks alone
attribute [local go_sem high] str_geq str_leq str_gtr
set_option linter.unusedVariables false
set_option linter.unusedSimpArgs false

/-! ### octet_wide: function 69 -/
def octet_wide.f (a0 : Int) : Option (Bool) := if a0 = 1 then (some true) else (if a0 = 2 then (some true) else (if a0 = 4 then (some true) else (some (a0 == 8))))
set_option maxHeartbeats 8000000 in
set_option maxRecDepth 100000 in
theorem octet_wide.calls (a0 : Int) (r : Bool) (w : World) (h : octet_wide.f a0 = some r) :
    Calls Try.prog 69 #[.int .i64 a0] w fun e w' => e = .returned (.bool r) ∧ Drawn0 w w' := by
  have H : (if a0 = 1 then (some true) else (if a0 = 2 then (some true) else (if a0 = 4 then (some true) else (some (a0 == 8))))) = some r := h
  clear h
  by_cases c2 : a0 = 1
  · rw [if_pos c2] at H
    have c2b0 : (a0 == 1) = true := beq_iff_eq.mpr c2
    have c2b1 : (a0 != 1) = false := bne_eq_false_iff_eq.mpr c2
    clear c2
    obtain rfl := Option.some.inj H
    go_enter Try.func69, Try.ntmps69
    go_wp2
    go_ret
    exact ⟨by first | rfl | (simp; done) | (simp [*]; done), by repeat (first | exact Drawn0.refl _ | apply Drawn0.step)⟩
  · rw [if_neg c2] at H
    have c2b0 : (a0 == 1) = false := beq_eq_false_iff_ne.mpr c2
    have c2b1 : (a0 != 1) = true := bne_iff_ne.mpr c2
    by_cases c3 : a0 = 2
    · rw [if_pos c3] at H
      have c3b0 : (a0 == 2) = true := beq_iff_eq.mpr c3
      have c3b1 : (a0 != 2) = false := bne_eq_false_iff_eq.mpr c3
      clear c3
      obtain rfl := Option.some.inj H
      go_enter Try.func69, Try.ntmps69
      go_wp2
      go_ret
      exact ⟨by first | rfl | (simp; done) | (simp [*]; done), by repeat (first | exact Drawn0.refl _ | apply Drawn0.step)⟩
    · rw [if_neg c3] at H
      have c3b0 : (a0 == 2) = false := beq_eq_false_iff_ne.mpr c3
      have c3b1 : (a0 != 2) = true := bne_iff_ne.mpr c3
      by_cases c4 : a0 = 4
      · rw [if_pos c4] at H
        have c4b0 : (a0 == 4) = true := beq_iff_eq.mpr c4
        have c4b1 : (a0 != 4) = false := bne_eq_false_iff_eq.mpr c4
        clear c4
        obtain rfl := Option.some.inj H
        go_enter Try.func69, Try.ntmps69
        go_wp2
        go_ret
        exact ⟨by first | rfl | (simp; done) | (simp [*]; done), by repeat (first | exact Drawn0.refl _ | apply Drawn0.step)⟩
      · rw [if_neg c4] at H
        have c4b0 : (a0 == 4) = false := beq_eq_false_iff_ne.mpr c4
        have c4b1 : (a0 != 4) = true := bne_iff_ne.mpr c4
        obtain rfl := Option.some.inj H
        go_enter Try.func69, Try.ntmps69
        go_wp2
        go_ret
        exact ⟨by first | rfl | (simp; done) | (simp [*]; done), by repeat (first | exact Drawn0.refl _ | apply Drawn0.step)⟩

end Go.Proofs.Ytabapiofkipkoaa.F

