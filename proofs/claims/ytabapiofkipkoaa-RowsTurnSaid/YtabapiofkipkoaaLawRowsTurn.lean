-- printed by xprint (the session's own program) out of the translation
import Derived.Test.YtabapiofkipkoaaRows
import Derived.Test.YtabapiofkipkoaaF5
import Derived.Test.YtabapiofkipkoaaPureRowsTurn
import Derived.Test.YtabapiofkipkoaaXRow
import Derived.Test.YtabapiofkipkoaaXJoin
import Derived.WalkKit
import Derived.ProofKit
import Derived.OpenShut
import Derived.ShutString
import Derived.ChangeOld
import Derived.Below
import Derived.SizedLaws
import Derived.Carry
namespace Go.Proofs.Ytabapiofkipkoaa.rowsTurn
open Go.ChangeShapes Go.WideShapes Go.ChangeAt Go.RowKit Go.Proofs.YtabapiofkipkoaaX Go.Proofs.Ytabapiofkipkoaa.F Go.Proofs.YtabapiofkipkoaaW.PrintWords Go.Proofs.YtabapiofkipkoaaW.PrintLast Go.Proofs.YtabapiofkipkoaaW.PrintMore
open Go.ChangeMaps (open_string shut_string)
set_option linter.unusedVariables false
set_option linter.unusedSimpArgs false
theorem own : ownKnob Try.prog.godebug = none := by kernel_rfl
theorem laidOut : laidOutB Try.prog = true := by kernel_rfl
set_option maxRecDepth 100000 in
theorem lifted (os : Os) (started : os.Started) (H : Type) (enc : TypeId × Value → H) :
    ReturnsInHanded {} Try.checked os 5 .any (Rows.rowsTurnSpec.pre6 enc Try.prog Try.f5 Rows.rowsTurnRow.domain false) (Rows.rowsTurnSpec.post enc Try.prog Try.f5 false true false false) := by
  refine returnsInHanded_of_change_sized (C := Try.checked) own started (by kernel_rfl) Try.func5
    (ChangeSpec.witness6 (enc := enc) (C := Try.checked) false ⟨#[], #[.slice none 0 0, .int .i64 0, .string ByteArray.empty], []⟩ 8 (by kernel_rfl) (by kernel_rfl) (by kernel_rfl) (by kernel_rfl)) ?_
  intro W base args ds gs before hval0 hW hcnd hsz0 _
  have hval : ∀ (j : Nat) t v, Try.f5.params[j]? = some t → args[j]? = some v → Value.okWide Try.prog W .any base t v := hval0
  have hW' := hW
  obtain ⟨p, q, hA0, hV, rfl, hfz, hnd⟩ := hW
  have hA : DataW.TrodAll enc Try.prog W 0 (fun _ => true) true Try.f5.params.toList args.toList ds p := hA0
  rw [Try.params5] at hA hval
  obtain ⟨v0, vs0, d0, ds0, p0, q0, hargs, rfl, rfl, h0, r0⟩ := trodAll_cons hA
  obtain ⟨v1, vs1, d1, ds1, p1, q1, rfl, rfl, rfl, h1, r1⟩ := trodAll_cons r0
  obtain ⟨v2, vs2, d2, ds2, p2, q2, rfl, rfl, rfl, h2, r2⟩ := trodAll_cons r1
  obtain ⟨rfl, rfl, rfl⟩ := trodAll_nil r2
  obtain rfl : args = #[v0, v1, v2] := by cases args; simp_all
  obtain ⟨rfl, rfl⟩ := trodVars_none hV
  have k0 := h0
  have lt0 : ∀ x ∈ p0, x.block < W.heap.size := by obtain ⟨m, hm⟩ := k0; exact DataW.trod_lt m _ _ _ hm
  obtain ⟨b0, len0, cap0, rfl⟩ := okWide_slice Try.underlying30 (hval 0 30 v0 rfl rfl)
  obtain ⟨f0, hf0⟩ := h0
  obtain ⟨x0, hk0, ho0⟩ := (Opens.slice Try.underlying30 (by kernel_rfl) (Opens.string Try.underlying9)) hf0
  obtain ⟨A0, c0, he0, hl0, hc0⟩ := slice_cells (show _ from hk0)
  injection he0 with e0_1 e0_2 e0_3
  subst e0_1 e0_2 e0_3
  have k1 := h1
  have lt1 : ∀ x ∈ p1, x.block < W.heap.size := by obtain ⟨m, hm⟩ := k1; exact DataW.trod_lt m _ _ _ hm
  obtain ⟨x1, rfl⟩ := okWide_int Try.underlying3 (hval 1 3 v1 rfl rfl)
  obtain ⟨f1, hf1⟩ := h1
  obtain ⟨z1, hk1, ho1⟩ := (Opens.int Try.underlying3) hf1
  obtain rfl : x1 = z1 := by have := hk1; injection this with this; injection this
  have k2 := h2
  have lt2 : ∀ x ∈ p2, x.block < W.heap.size := by obtain ⟨m, hm⟩ := k2; exact DataW.trod_lt m _ _ _ hm
  obtain ⟨x2, rfl⟩ := okWide_string Try.underlying9 (hval 2 9 v2 rfl rfl)
  obtain ⟨f2, hf2⟩ := h2
  obtain ⟨z2, hk2, ho2⟩ := (Opens.string Try.underlying9) hf2
  obtain rfl : x2 = z2 := by have := hk2; injection this with this; injection this
  obtain ⟨k, h⟩ : ∃ k, backhaullaw13_RowsTurn.f k x0 x1 x2 = some true := Pure.RowsTurn x0 x1 x2 ho0 ho1 ho2
  refine (backhaullaw13_RowsTurn.calls k _ _ x0 x1 x2 W hc0 hl0 h).mono fun e W' hq => ?_
  obtain ⟨he, bel0⟩ := hq
  have bel : Below W.heap.size W W' := bel0
  subst he
  exact ⟨_, rfl, _, _, _, [], _, [], hW', trodAll_mk1 (shut_bool Try.underlying4 _), (trodAll_cons_mk (Below.trod laidOut (by kernel_rfl) (of_decide_eq_true (by kernel_rfl)) k0 bel lt0) (trodAll_cons_mk (Below.trod laidOut (by kernel_rfl) (of_decide_eq_true (by kernel_rfl)) k1 bel lt1) (trodAll_cons_mk (Below.trod laidOut (by kernel_rfl) (of_decide_eq_true (by kernel_rfl)) k2 bel lt2) trodAll_mk0))), rfl, bel.frame _, fun h => by cases h⟩
theorem closed_ : joinedFacts Try.pinned.checked.prog 5 Try.f5 Rows.rowsTurnSpec Rows.rowsTurnRow = true := by
  unfold joinedFacts
  repeat' (with_reducible apply band)
  any_goals with_reducible exact Join.mayEnter_is
  any_goals (rw [Join.make_is]; kernel_rfl)
  any_goals (rw [Join.lifts_is]; kernel_rfl)
  all_goals kernel_rfl
theorem over : Rows.rowsTurnRow.holds Try.pinned (OpenSpec.ofChange Rows.rowsTurnSpec) :=
  OpenClaim.holds_of_wide 5 Try.f5 rfl rfl rfl rfl rfl rfl rfl ⟨rfl, rfl, rfl, rfl, rfl⟩ rfl rfl rfl rfl rfl (by kernel_rfl) Try.func5 closed_
    (of_decide_eq_true (by kernel_rfl)) (by unfold Func.isWrapper; first | (rw [if_pos (by decide +kernel)]; kernel_rfl) | (rw [if_neg (by decide +kernel)]; exact ⟨rfl, rfl⟩))
    (fun os started H enc _ => lifted os started H enc)
theorem proved : Rows.RowsTurnSaid := over
#print axioms proved
end Go.Proofs.Ytabapiofkipkoaa.rowsTurn
namespace Go.Proofs.Ytabapiofkipkoaa
/-- The row, under a short name, for the claim. -/
theorem rowsTurn_holds : Rows.RowsTurnSaid := rowsTurn.proved
end Go.Proofs.Ytabapiofkipkoaa
