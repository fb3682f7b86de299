-- printed by xprint (the session's own program) out of the translation
import Derived.Test.YtabapiofkipkoaaF
namespace Go.Proofs.Ytabapiofkipkoaa.F
open Go.RowKit Go.Proofs.YtabapiofkipkoaaX Go.Proofs.YtabapiofkipkoaaW.PrintWords Go.Proofs.YtabapiofkipkoaaW.PrintLast Go.Proofs.YtabapiofkipkoaaW.PrintMore
attribute [local go_sem] max2_int min2_int max_two min_two max_three min_three max_four min_four   -- for this text's walks alone
attribute [local go_sem high] str_geq str_leq str_gtr
set_option linter.unusedVariables false
set_option linter.unusedSimpArgs false

/-! ### slices_Clone_string_string: function 68 (by hand) -/
def slices_Clone_string_string.f (l0 : List ByteArray) : Option (List ByteArray) := if l0.length < 8796093022208 then some l0 else none
set_option maxHeartbeats 1000000 in
theorem slices_Clone_string_string.calls (A0 : Option Addr) (c0 : Nat) (l0 : List ByteArray) (r : List ByteArray) (w : World) (hr0 : Kd.C Kd.string w A0 l0.length l0) (hc0 : l0.length ≤ c0) (h : slices_Clone_string_string.f l0 = some r) :
    Calls Try.prog 68 #[.slice A0 l0.length c0] w fun e w' => ∃ v0_ : Value, e = .returned (v0_) ∧ Kd.R Kd.string 9 w' w.heap.size (fun _ => True) v0_ r ∧ Below w.heap.size w w' := by
  unfold slices_Clone_string_string.f at h
  by_cases h3 : l0.length < 8796093022208
  · rw [if_pos h3] at h
    simp only [Option.some.injEq] at h
    subst h
    have hinf := info9
    have hn := fun (W : World) => Lib.run_eql_slice_nil (P := Try.prog) W 30 9 A0 l0.length c0 0 0 Try.underlying30
    have HR0 := Aside0.mk hr0
    have HC0 := Aside0.mk hc0
    have H3 := Aside0.mk h3
    have HI := Aside0.mk hinf
    clear hr0 hc0 h3 hinf
    cases A0 with
    | none =>
      have h0 : l0 = [] := by
        rcases Nat.eq_zero_or_pos l0.length with h0 | h0
        · exact List.eq_nil_of_length_eq_zero h0
        · obtain ⟨ad, h, _⟩ := HR0.out.2.2 h0
          cases h
      have H0 := Aside0.mk h0
      clear h0
      go_enter Try.func68, Try.ntmps68
      go_wp2
      go_ret
      exact ⟨_, rfl, by rw [H0.out]; exact Kd.R_nil _ _ _ _ _, by first | exact Below.refl _ _ | exact pw_below_drewN (Below.refl _ _) _⟩
    | some ad =>
      go_enter Try.func68, Try.ntmps68
      go_wp2_with (first
        | (at_builtin; refine Kd.R_append_rows Kd.string (Rr := (Kd.string).K w) (w0 := w) w.heap.size rfl (.tmp 5) (.tmp 6) 30 9 _ _ rfl Try.underlying30 HI.out rfl (by decide) (by decide) (.slice (some ⟨w.heap.size, 0, none⟩) 0 0) [] l0 (some ad) l0.length c0 (fun _ => True) (fun k => some k ≠ some w.heap.size) rfl rfl ?d0 ?d1 ?d2 ?d5 (fun _ _ => trivial) ?d6 ?d7 ?d3 ?d4; (case d0 => exact R_empty_lit Kd.string 9 w); (case d1 => exact ReadsRow.imp_ HR0.out (below_alloc (Below.refl _ _) _) (fun _ _ h => h)); (case d2 => exact fun x cs h => flat_string _ _ _ _ _ ((Kd.string).K_below (below_alloc (Below.refl _ _) _) h)); (case d5 => exact fun k hk => ⟨trivial, hk⟩); (case d6 => exact below_alloc (Below.refl _ _) _); (case d7 => simp); (case d3 => simp only [List.length_nil]; have := H3.out; omega); intro v2 w2 ho2 hb2 hg2 ha2; have HO2 := Aside0.mk ho2; have HB2 := Aside0.mk hb2; clear ho2 hb2 hg2 ha2))
      go_ret
      exact ⟨v2, by first | rfl | (simp; rfl), by simpa using HO2.out, HB2.out⟩
  · rw [if_neg h3] at h; cases h

end Go.Proofs.Ytabapiofkipkoaa.F
