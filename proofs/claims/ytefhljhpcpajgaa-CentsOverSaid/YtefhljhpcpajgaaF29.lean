-- printed by xprint (the session's own program) out of the translation
import Derived.Test.YtefhljhpcpajgaaF
import Derived.Test.YtefhljhpcpajgaaF31
import Derived.Test.YtefhljhpcpajgaaF97
import Derived.Test.YtefhljhpcpajgaaF98
import Derived.Test.YtefhljhpcpajgaaF99
namespace Go.Proofs.Ytefhljhpcpajgaa.F
open Go.RowKit Go.Proofs.YtefhljhpcpajgaaX Go.Proofs.YtefhljhpcpajgaaW.PrintWords Go.Proofs.YtefhljhpcpajgaaW.PrintLast Go.Proofs.YtefhljhpcpajgaaW.PrintMore
attribute [local go_sem] max2_int min2_int max_two min_two max_three min_three max_four min_four   -- for this text's walks alone
set_option linter.unusedVariables false
set_option linter.unusedSimpArgs false

/-! ### cents_Times: function 29 (by hand) -/
def cents_Times.f (a0 a1 : Int) : Option (Int × Int) := (cents_In.f a0).bind fun t => if t = true then ((cents_In.f a1).bind fun u => if u = true then ((cents_size.f a0).bind fun x => (cents_size.f a1).bind fun y => (cents_product.f x y).bind fun p => (cents_wide_above.f p.1 p.2 0 1000000000000).bind fun b => if b = true then some (0, 8) else some (wrap64 (a0 * a1), 0)) else some (0, 8)) else some (0, 8)
set_option maxHeartbeats 4000000 in
set_option maxRecDepth 100000 in
theorem cents_Times.calls (a0 a1 : Int) (r1 : Int) (r2 : Int) (w : World) (h : cents_Times.f a0 a1 = some (r1, r2)) :
    Calls Try.prog 29 #[.int .i64 a0, .int .i64 a1] w fun e w' => e = .returned (.tuple #[.int .i64 r1, .int .i64 r2]) ∧ Below w.heap.size w w' := by
  unfold cents_Times.f at h
  obtain ⟨t, ht, h⟩ := Option.bind_eq_some_iff.1 h
  have Ht := Aside0.mk ht
  clear ht
  cases t with
  | false =>
    rw [if_neg (by decide)] at h
    simp only [Option.some.injEq, Prod.mk.injEq] at h
    obtain ⟨rfl, rfl⟩ := h
    go_enter Try.func29, Try.ntmps29
    go_wp2_with (go_at_call 31; (with_reducible refine (cents_In.calls _ _ _ Ht.out).mono ?_); rintro e w' ⟨rfl, ⟨n, rfl⟩⟩)
    go_ret2
    exact ⟨rfl, by repeat (first | exact Below.refl _ _ | apply pw_below_drewN | apply below_drew)⟩
  | true =>
    rw [if_pos rfl] at h
    obtain ⟨u, hu, h⟩ := Option.bind_eq_some_iff.1 h
    have Hu := Aside0.mk hu
    clear hu
    cases u with
    | false =>
      rw [if_neg (by decide)] at h
      simp only [Option.some.injEq, Prod.mk.injEq] at h
      obtain ⟨rfl, rfl⟩ := h
      go_enter Try.func29, Try.ntmps29
      go_wp2_with (first
        | (go_at_call 31; (with_reducible refine (cents_In.calls a0 _ _ Ht.out).mono ?_); rintro e w' ⟨rfl, ⟨n, rfl⟩⟩)
        | (go_at_call 31; (with_reducible refine (cents_In.calls a1 _ _ Hu.out).mono ?_); rintro e w' ⟨rfl, ⟨n2, rfl⟩⟩))
      go_ret2
      exact ⟨rfl, by repeat (first | exact Below.refl _ _ | apply pw_below_drewN | apply below_drew)⟩
    | true =>
      rw [if_pos rfl] at h
      obtain ⟨x, hx, h⟩ := Option.bind_eq_some_iff.1 h
      obtain ⟨y, hy, h⟩ := Option.bind_eq_some_iff.1 h
      obtain ⟨⟨p1, p2⟩, hp, h⟩ := Option.bind_eq_some_iff.1 h
      obtain ⟨b, hb, h⟩ := Option.bind_eq_some_iff.1 h
      have Hx := Aside0.mk hx
      have Hy := Aside0.mk hy
      have Hp := Aside0.mk hp
      have Hb := Aside0.mk hb
      clear hx hy hp hb
      cases b with
      | true =>
        rw [if_pos rfl] at h
        simp only [Option.some.injEq, Prod.mk.injEq] at h
        obtain ⟨rfl, rfl⟩ := h
        go_enter Try.func29, Try.ntmps29
        go_wp2_with (first
          | (go_at_call 31; (with_reducible refine (cents_In.calls a0 _ _ Ht.out).mono ?_); rintro e w' ⟨rfl, ⟨n, rfl⟩⟩)
          | (go_at_call 31; (with_reducible refine (cents_In.calls a1 _ _ Hu.out).mono ?_); rintro e w' ⟨rfl, ⟨n2, rfl⟩⟩)
          | (go_at_call 99; (with_reducible refine (cents_size.calls a0 _ _ Hx.out).mono ?_); rintro e w' ⟨rfl, ⟨n3, rfl⟩⟩)
          | (go_at_call 99; (with_reducible refine (cents_size.calls a1 _ _ Hy.out).mono ?_); rintro e w' ⟨rfl, ⟨n4, rfl⟩⟩)
          | (go_at_call 98; (with_reducible refine (cents_product.calls _ _ _ _ _ Hp.out).mono ?_); rintro e w5 ⟨rfl, hb5⟩; have HB5 := Aside0.mk hb5; clear hb5)
          | (go_at_call 97; (with_reducible refine (cents_wide_above.calls _ _ _ _ _ _ Hb.out).mono ?_); rintro e w6 ⟨rfl, hb6⟩; have HB6 := Aside0.mk hb6; clear hb6))
        go_ret2
        have HA : Below w.heap.size w w5 := below_then (by repeat (first | exact Below.refl _ _ | apply pw_below_drewN | apply below_drew)) (by simp) HB5.out
        exact ⟨rfl, below_then HA HA.size HB6.out⟩
      | false =>
        rw [if_neg (by decide)] at h
        simp only [Option.some.injEq, Prod.mk.injEq] at h
        obtain ⟨h1, rfl⟩ := h
        have hw : IntKind.i64.wrap (a0 * a1) = r1 := (IntWalk.i64_left _).trans h1
        clear h1
        go_enter Try.func29, Try.ntmps29
        go_wp2_with (first
          | (go_at_call 31; (with_reducible refine (cents_In.calls a0 _ _ Ht.out).mono ?_); rintro e w' ⟨rfl, ⟨n, rfl⟩⟩)
          | (go_at_call 31; (with_reducible refine (cents_In.calls a1 _ _ Hu.out).mono ?_); rintro e w' ⟨rfl, ⟨n2, rfl⟩⟩)
          | (go_at_call 99; (with_reducible refine (cents_size.calls a0 _ _ Hx.out).mono ?_); rintro e w' ⟨rfl, ⟨n3, rfl⟩⟩)
          | (go_at_call 99; (with_reducible refine (cents_size.calls a1 _ _ Hy.out).mono ?_); rintro e w' ⟨rfl, ⟨n4, rfl⟩⟩)
          | (go_at_call 98; (with_reducible refine (cents_product.calls _ _ _ _ _ Hp.out).mono ?_); rintro e w5 ⟨rfl, hb5⟩; have HB5 := Aside0.mk hb5; clear hb5)
          | (go_at_call 97; (with_reducible refine (cents_wide_above.calls _ _ _ _ _ _ Hb.out).mono ?_); rintro e w6 ⟨rfl, hb6⟩; have HB6 := Aside0.mk hb6; clear hb6))
        go_ret2
        have HA : Below w.heap.size w w5 := below_then (by repeat (first | exact Below.refl _ _ | apply pw_below_drewN | apply below_drew)) (by simp) HB5.out
        exact ⟨rfl, below_then HA HA.size HB6.out⟩

end Go.Proofs.Ytefhljhpcpajgaa.F
