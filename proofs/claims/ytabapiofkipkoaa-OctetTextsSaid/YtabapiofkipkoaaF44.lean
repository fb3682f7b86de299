-- printed by xprint (the session's own program) out of the translation
import Derived.Test.YtabapiofkipkoaaF
import Derived.Test.YtabapiofkipkoaaF35
import Derived.Test.YtabapiofkipkoaaF69
import Derived.Test.YtabapiofkipkoaaXBuilder
import Derived.Test.YtabapiofkipkoaaXShelf
namespace Go.Proofs.Ytabapiofkipkoaa.F
open Go.RowKit Go.Proofs.YtabapiofkipkoaaX Go.Proofs.YtabapiofkipkoaaW.PrintWords Go.Proofs.YtabapiofkipkoaaW.PrintLast Go.Proofs.YtabapiofkipkoaaW.PrintMore
attribute [local go_sem] max2_int min2_int max_two min_two max_three min_three max_four min_four   -- for this text's walks alone
attribute [local go_sem high] str_geq str_leq str_gtr
set_option linter.unusedVariables false
set_option linter.unusedSimpArgs false

/-! ### octet_Row: function 44 (by hand) -/
def octet_Row.go (k : Nat) (a0 : Int) : List Int → ByteArray → Option (ByteArray × Int)
  | [], acc => some (acc, 0)
  | x :: xs, acc => (octet_Put.f k x a0).bind fun r => if r.2 = 0 then (if acc.size + r.1.size < 140737488355328 then octet_Row.go k a0 xs (acc ++ r.1) else none) else some (⟨#[]⟩, r.2)
def octet_Row.f (k : Nat) (a0 : Int) (l1 : List Int) : Option (ByteArray × Int) := (octet_wide.f a0).bind fun t => if t = true then (if (l1.length : Int) > 1000 then some (⟨#[]⟩, 3) else (octet_Put.f k (l1.length : Int) 2).bind fun r => if r.2 = 0 then (if r.1.size < 140737488355328 then octet_Row.go k a0 l1 r.1 else none) else some (⟨#[]⟩, r.2)) else some (⟨#[]⟩, 2)
theorem octet_Row.mono_go (k : Nat) (a0 : Int) : ∀ l acc, LeO (octet_Row.go k a0 l acc) (octet_Row.go (k + 1) a0 l acc)
  | [], acc => LeO.refl _
  | x :: xs, acc => by
    simp only [octet_Row.go]
    exact LeO.bind (octet_Put.mono _ _ _) (fun r => LeO.ite (LeO.ite (octet_Row.mono_go k a0 xs _) (LeO.refl _)) (LeO.refl _))
theorem octet_Row.mono : ∀ a0 l1 k, LeO (octet_Row.f k a0 l1) (octet_Row.f (k + 1) a0 l1) := by
  intro a0 l1 k
  unfold octet_Row.f
  exact LeO.bind (LeO.refl _) (fun t => LeO.ite (LeO.ite (LeO.refl _) (LeO.bind (octet_Put.mono _ _ _) (fun r => LeO.ite (LeO.ite (octet_Row.mono_go k a0 l1 _) (LeO.refl _)) (LeO.refl _)))) (LeO.refl _))
set_option maxHeartbeats 4000000 in
set_option maxRecDepth 100000 in
theorem octet_Row.calls (k : Nat) (a0 : Int) (A1 : Option Addr) (c1 : Nat) (l1 : List Int) (r1 : ByteArray) (r2 : Int) (w : World) (hr1 : Kd.C (Kd.int .i64) w A1 l1.length l1) (hc1 : l1.length ≤ c1) (h : octet_Row.f k a0 l1 = some (r1, r2)) :
    Calls Try.prog 44 #[.int .i64 a0, .slice A1 l1.length c1] w fun e w' => e = .returned (.tuple #[.string r1, .int .i64 r2]) ∧ Below w.heap.size w w' := by
  unfold octet_Row.f at h
  replace h := Option.bind_eq_some_iff.1 h
  obtain ⟨t, ht, h⟩ := h
  have Ht := Aside0.mk ht
  have HR := Aside0.mk hr1
  have HC := Aside0.mk hc1
  clear ht hr1 hc1
  cases t with
  | false =>
    rw [if_neg (by decide)] at h
    simp only [Option.some.injEq, Prod.mk.injEq] at h
    obtain ⟨rfl, rfl⟩ := h
    go_enter Try.func44, Try.ntmps44
    go_wp2_with (go_at_call 69; refine (octet_wide.calls _ _ _ Ht.out).mono ?_; rintro e w' ⟨rfl, ⟨n, rfl⟩⟩)
    go_ret2
    exact ⟨rfl, by repeat (first | exact Below.refl _ _ | apply pw_below_drewN | apply below_drew)⟩
  | true =>
    rw [if_pos rfl] at h
    by_cases h3 : (l1.length : Int) > 1000
    · rw [if_pos h3] at h
      simp only [Option.some.injEq, Prod.mk.injEq] at h
      obtain ⟨rfl, rfl⟩ := h
      have h3' : decide (1000 < l1.length) = true := decide_eq_true (by omega)
      have h3'' : decide (1000 < (l1.length : Int)) = true := decide_eq_true (by omega)
      clear h3
      go_enter Try.func44, Try.ntmps44
      go_wp2_with (go_at_call 69; refine (octet_wide.calls _ _ _ Ht.out).mono ?_; rintro e w' ⟨rfl, ⟨n, rfl⟩⟩)
      go_ret2
      exact ⟨rfl, by repeat (first | exact Below.refl _ _ | apply pw_below_drewN | apply below_drew)⟩
    · rw [if_neg h3] at h
      have h3' : decide (1000 < l1.length) = false := decide_eq_false (by omega)
      have h3'' : decide (1000 < (l1.length : Int)) = false := decide_eq_false (by omega)
      replace h := Option.bind_eq_some_iff.1 h
      obtain ⟨⟨n1, n2⟩, hp, h⟩ := h
      have Hp := Aside0.mk hp
      have HN := Aside0.mk (show l1.length ≤ 1000 by omega)
      clear hp h3
      dsimp only at h
      by_cases h4 : n2 = 0
      · subst h4
        rw [if_pos rfl] at h
        by_cases h5 : n1.size < 140737488355328
        · rw [if_pos h5] at h
          have H5 := Aside0.mk h5
          have H := Aside0.mk h
          clear h h5
          go_enter Try.func44, Try.ntmps44
          go_wp2_with (first
            | (go_at_call 69; refine (octet_wide.calls _ _ _ Ht.out).mono ?_; rintro e w' ⟨rfl, ⟨nd, rfl⟩⟩)
            | (go_at_call 35; refine (octet_Put.calls k _ _ _ _ _ Hp.out).mono ?_; rintro e w1 ⟨rfl, hb1⟩)
            | (go_at_call 76; refine (WriteString_k w1.heap.size w1.heap.size [] n1 _ (Lib.IsBuilderF.of (Lib.fresh_isBuilder 106 5 w1)) (by have := H5.out; simp; omega) (by simp)).mono ?_; rintro e w2 ⟨rfl, hI, hb2, _⟩))
          have HW1 := Aside0.mk (show Below w.heap.size w w1 from below_then (pw_below_drewN (Below.refl _ _) _) (by simp) hb1)
          have HI0 := Aside0.mk (show Lib.IsBuilderF 106 5 w1.heap.size w1.heap.size (Lib.strCells n1) w2 from .inr hI)
          have HB0 := Aside0.mk (show Below w1.heap.size w1 w2 from (below_alloc (Below.refl w1.heap.size w1) _).trans hb2)
          clear hb1 hI hb2
          go_loopw [34] (fun v34 wr => ∃ (i : Nat) (acc : ByteArray), v34 = .int .i64 i ∧ i ≤ l1.length ∧ Aside0 (Lib.IsBuilderF 106 5 w1.heap.size w1.heap.size (Lib.strCells acc) wr) ∧ Aside0 (Below w1.heap.size w1 wr) ∧ Aside0 (octet_Row.go k a0 (l1.drop i) acc = some (r1, r2)) ∧ Aside0 (acc.size < 140737488355328)) (fun v34 _ => l1.length - (intOf v34).toNat)
          case atStart => exact ⟨0, n1, rfl, by omega, HI0, HB0, H, H5⟩
          case round =>
            obtain ⟨i, acc, rfl, hi, HI, HB, HG, HS⟩ := hrel
            clear HI0 HB0 H H5
            have HRr := Aside0.mk (Kd.C_below HR.out (below_then HW1.out HW1.out.size HB.out))
            by_cases hlt : i < l1.length
            · have hd : l1.drop i = l1[i] :: l1.drop (i + 1) := List.drop_eq_getElem_cons hlt
              have hg := HG.out
              rw [hd] at hg
              simp only [octet_Row.go] at hg
              replace hg := Option.bind_eq_some_iff.1 hg
              obtain ⟨⟨s, e⟩, hp, hg⟩ := hg
              dsimp only at hg
              obtain ⟨ad, e1, hx⟩ := Kd.at_int HRr.out (i : Int) (by omega) (by omega)
              cases e1
              have hrd : rd l1 (i : Int) = l1[i] := by unfold rd; simp [List.getD_eq_getElem?_getD, hlt]
              rw [hrd, Int.toNat_natCast] at hx
              have Hp := Aside0.mk hp
              have HIr := HI
              have t35 : decide ((i : Int) < (l1.length : Int)) = true := decide_eq_true (by omega)
              have w35 : IntKind.i64.wrap ((i : Int) + 1) = ((i + 1 : Nat) : Int) := by have := HN.out; rw [IntWalk.i64_in _ (by omega)]; rfl
              clear hp hd hrd
              by_cases h6 : e = 0
              · subst h6
                rw [if_pos rfl] at hg
                by_cases h7 : acc.size + s.size < 140737488355328
                · rw [if_pos h7] at hg
                  have HG2 := Aside0.mk hg
                  have H7 := Aside0.mk h7
                  clear hg h7 HG
                  go_wp2_with (first
                    | (go_at_call 35; refine (octet_Put.calls k _ _ _ _ _ Hp.out).mono ?_; rintro e w3 ⟨rfl, hb3⟩; have HI3 := Aside0.mk (HI.out.below hb3); have HB3 := Aside0.mk (below_then HB.out HB.out.size hb3); clear hb3)
                    | (go_at_call 76; refine (WriteString_k w1.heap.size w1.heap.size _ s _ HI3.out (by have := H7.out; rw [Lib.strCells_length]; omega) HB3.out.size).mono ?_; rintro e w4 ⟨rfl, hI4, hb4, _⟩; have HI4 := Aside0.mk hI4; have HB4 := Aside0.mk (HB3.out.trans hb4); clear hI4 hb4))
                  go_roundw
                  case rel => exact ⟨i + 1, acc ++ s, by go_num, by omega, ⟨.inr (by have := HI4.out; simpa [Lib.strCells, ByteArray.data_append] using this)⟩, HB4, HG2, ⟨by have := H7.out; simpa using this⟩⟩
                  case measure => simp [intOf]; omega
                · rw [if_neg h7] at hg; cases hg
              · rw [if_neg h6] at hg
                simp only [Option.some.injEq, Prod.mk.injEq] at hg
                obtain ⟨rfl, rfl⟩ := hg
                have h6' : (e != 0) = true := bne_iff_ne.2 h6
                have h6'' : (e == 0) = false := beq_eq_false_iff_ne.2 h6
                clear h6 HG
                go_wp2_with (first
                    | (go_at_call 35; refine (octet_Put.calls k _ _ _ _ _ Hp.out).mono ?_; rintro e w3 ⟨rfl, hb3⟩; have HB3 := Aside0.mk (below_then HB.out HB.out.size hb3); clear hb3))
                go_ret2
                exact ⟨rfl, below_then HW1.out HW1.out.size HB3.out⟩
            · have h0 : l1.drop i = [] := List.drop_eq_nil_of_le (by omega)
              have hg := HG.out
              rw [h0] at hg
              simp only [octet_Row.go, Option.some.injEq, Prod.mk.injEq] at hg
              obtain ⟨rfl, rfl⟩ := hg
              go_wp2_with (go_at_call 77; refine (Try.Builder_String_any_k w1.heap.size w1.heap.size acc.data.toList _ HI.out HB.out.size).mono ?_; rintro e w3 ⟨rfl, _, hb3, _⟩)
              go_ret2
              exact ⟨by simp, below_then HW1.out HW1.out.size (HB.out.trans hb3)⟩
        · rw [if_neg h5] at h; cases h
      · rw [if_neg h4] at h
        simp only [Option.some.injEq, Prod.mk.injEq] at h
        obtain ⟨rfl, rfl⟩ := h
        have h4' : (n2 != 0) = true := bne_iff_ne.2 h4
        have h4'' : (n2 == 0) = false := beq_eq_false_iff_ne.2 h4
        clear h4
        go_enter Try.func44, Try.ntmps44
        go_wp2_with (first
          | (go_at_call 69; refine (octet_wide.calls _ _ _ Ht.out).mono ?_; rintro e w' ⟨rfl, ⟨nd, rfl⟩⟩)
          | (go_at_call 35; refine (octet_Put.calls k _ _ _ _ _ Hp.out).mono ?_; rintro e w1 ⟨rfl, hb1⟩))
        go_ret2
        exact ⟨rfl, below_then (pw_below_drewN (Below.refl _ _) _) (by simp) hb1⟩

end Go.Proofs.Ytabapiofkipkoaa.F
