-- printed by xprint (the session's own program) out of the translation
import Derived.Test.YtabapiofkipkoaaF
namespace Go.Proofs.Ytabapiofkipkoaa.F
open Go.RowKit Go.Proofs.YtabapiofkipkoaaX Go.Proofs.YtabapiofkipkoaaW.PrintWords Go.Proofs.YtabapiofkipkoaaW.PrintLast Go.Proofs.YtabapiofkipkoaaW.PrintMore
attribute [local go_sem] max2_int min2_int max_two min_two max_three min_three max_four min_four   -- for this text's walks alone
attribute [local go_sem high] str_geq str_leq str_gtr
set_option linter.unusedVariables false
set_option linter.unusedSimpArgs false

/-! ### rows_With_string: function 24 (by hand) -/
def rows_With_string.f (l0 : List ByteArray) (a1 : Int) (a2 : ByteArray) : Option (List ByteArray × Int) := if a1 < 0 then some ([], 2) else if a1 > (l0.length : Int) then some ([], 2) else if l0.length + 1 < 8796093022208 then some (l0.take a1.toNat ++ a2 :: l0.drop (a1.toNat), 0) else none
set_option maxHeartbeats 1000000 in
theorem rows_With_string.good (A0 : Option Addr) (c0 : Nat) (l0 : List ByteArray) (n : Nat) (a2 : ByteArray) (w : World) (hr0 : Kd.C Kd.string w A0 l0.length l0) (hc0 : l0.length ≤ c0) (hn : n ≤ l0.length) (h3 : l0.length + 1 < 8796093022208) :
    Calls Try.prog 24 #[.slice A0 l0.length c0, .int .i64 (n : Int), .string a2] w fun e w' => ∃ v0_ : Value, e = .returned (.tuple #[v0_, .int .i64 0]) ∧ Kd.R Kd.string 9 w' w.heap.size (fun _ => True) v0_ (l0.take n ++ a2 :: l0.drop (n)) ∧ Below w.heap.size w w' := by
  obtain ⟨i0, hi, hzz⟩ := Option.map_eq_some_iff.1 info9
  simp only [Prod.mk.injEq] at hzz
  have k1 := cut_full (P := Try.prog) 30 9 .i64 .i64 Try.underlying30 hi A0 l0.length c0 n (by omega) hc0
  have k2 := cut_from (P := Try.prog) 30 9 .i64 Try.underlying30 hi 1 hzz.2.1 A0 l0.length c0 ((n : Int)) (n) (by omega) hn hc0
  have t1 : decide ((n : Int) < 0) = false := decide_eq_false (by omega)
  have t2 : decide (l0.length < n) = false := decide_eq_false (by omega)
  have HT : Aside0 (Kd.C Kd.string w A0 n (l0.take n)) := ⟨by have := Kd.C_take hr0 (show n ≤ l0.length by omega); rwa [List.length_take, Nat.min_eq_left (show n ≤ l0.length by omega)] at this⟩
  obtain ⟨A2, hA2⟩ : ∃ A2, A2 = (if c0 = n then A0 else A0.map (·.add ((n) * 1))) := ⟨_, rfl⟩
  have HD : Aside0 (Kd.C Kd.string w A2 (l0.length - (n)) (l0.drop (n))) := ⟨by have := Kd.C_drop hr0 hn hc0; rw [List.length_drop] at this; rw [hA2]; exact this⟩
  rw [← hA2] at k2
  clear hA2
  skip
  have HC0 := Aside0.mk hc0
  have HN := Aside0.mk hn
  have H3 := Aside0.mk h3
  have HI := Aside0.mk info9
  clear hr0 hc0 hn h3
  go_enter Try.func24, Try.ntmps24
  go_wp2
  go_region_law (first
    | (refine step_append_full Kd.string flat_string rfl (.tmp 19) (.tmp 21) 30 9 _ _ rfl Try.underlying30 HI.out rfl (by decide) (by decide) A0 n (l0.take n) rfl ?c1 ⟨w.heap.size, 0, none⟩ 1 1 [a2] rfl ?c2 (by decide) ?c3 ?c4; (case c1 => exact Kd.C_below HT.out (below_drew (below_alloc (Below.refl _ _) _))); (case c2 => exact Kd.C_below (C_lit1 (d := Kd.string) rfl) (below_drew (Below.refl _ _))); (case c3 => simp only [List.length_take, List.length_singleton]; have := H3.out; have := HN.out; omega); intro v1 w1 ho1 hb1; have HO1 := Aside0.mk (Kd.R_lower ho1 (base' := w.heap.size) (by simp)); have HB1 := Aside0.mk (below_then (below_drew (below_alloc (Below.refl w.heap.size w) (.cells ([.string a2] : List Value).toArray 9))) (by simp) hb1); clear ho1 hb1)
    | (refine Kd.R_append_rows_step Kd.string (Rr := (Kd.string).K w1) (w0 := w) w.heap.size (by simp [Region.wanted]) (.tmp 22) (.tmp 25) 30 9 _ _ rfl Try.underlying30 HI.out rfl (by decide) (by decide) v1 (l0.take n ++ [a2]) (l0.drop (n)) _ (l0.length - (n)) (c0 - (n)) (fun _ => True) (fun k => some k ≠ v1.ownBlock) rfl rfl HO1.out ?d1 ?d2 (fun _ h => ⟨trivial, h⟩) (fun _ _ => trivial) HB1.out (HB1.out.size) ?d3 ?d4; (case d1 => exact Kd.C_below HD.out HB1.out); (case d2 => exact fun x cs h => flat_string _ _ _ _ _ h); (case d3 => simp only [List.length_take, List.length_append, List.length_singleton]; have := H3.out; have := HN.out; omega); intro v2 w2 ho2 hb2 hg2 ha2; have HO2 := Aside0.mk ho2; have HB2 := Aside0.mk hb2; clear ho2 hb2 hg2 ha2))
  go_wp2
  go_ret2
  exact ⟨v2, by first | rfl | (simp; rfl), by simpa using HO2.out, HB2.out⟩
set_option maxHeartbeats 1000000 in
theorem rows_With_string.calls (A0 : Option Addr) (c0 : Nat) (l0 : List ByteArray) (a1 : Int) (a2 : ByteArray) (r1 : List ByteArray) (r2 : Int) (w : World) (hr0 : Kd.C Kd.string w A0 l0.length l0) (hc0 : l0.length ≤ c0) (h : rows_With_string.f l0 a1 a2 = some (r1, r2)) :
    Calls Try.prog 24 #[.slice A0 l0.length c0, .int .i64 a1, .string a2] w fun e w' => ∃ v0_ : Value, e = .returned (.tuple #[v0_, .int .i64 r2]) ∧ Kd.R Kd.string 9 w' w.heap.size (fun _ => True) v0_ r1 ∧ Below w.heap.size w w' := by
  unfold rows_With_string.f at h
  by_cases h1 : a1 < 0
  · rw [if_pos h1] at h
    simp only [Option.some.injEq, Prod.mk.injEq] at h
    obtain ⟨rfl, rfl⟩ := h
    have h1' : decide (a1 < 0) = true := decide_eq_true h1
    clear h1 hr0
    go_enter Try.func24, Try.ntmps24
    go_wp2
    go_ret2
    exact ⟨_, rfl, Kd.R_nil _ _ _ _ _, Below.refl _ _⟩
  rw [if_neg h1] at h
  by_cases h2 : a1 > (l0.length : Int)
  · rw [if_pos h2] at h
    simp only [Option.some.injEq, Prod.mk.injEq] at h
    obtain ⟨rfl, rfl⟩ := h
    have h1' : decide (a1 < 0) = false := decide_eq_false h1
    have h2' : decide ((l0.length : Int) < a1) = true := decide_eq_true h2
    clear h1 hr0
    go_enter Try.func24, Try.ntmps24
    go_wp2
    go_ret2
    exact ⟨_, rfl, Kd.R_nil _ _ _ _ _, Below.refl _ _⟩
  rw [if_neg h2] at h
  by_cases h3 : l0.length + 1 < 8796093022208
  · rw [if_pos h3] at h
    simp only [Option.some.injEq, Prod.mk.injEq] at h
    obtain ⟨rfl, rfl⟩ := h
    obtain ⟨n, rfl⟩ := Int.eq_ofNat_of_zero_le (show 0 ≤ a1 by omega)
    simp only [Int.toNat_natCast]
    exact rows_With_string.good A0 c0 l0 n a2 w hr0 hc0 (by omega) h3
  · rw [if_neg h3] at h; cases h

end Go.Proofs.Ytabapiofkipkoaa.F
