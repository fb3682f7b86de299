-- by prune.py (own program), out of the print
import Derived.ShutString
import Derived.ChangeOld
import Derived.SizedLaws
import Derived.Carry
import Derived.Test.YtdpcgigjlcpofaaZIndexTells4
namespace Go.Proofs.Ytdpcgigjlcpofaa.indexTells
open Go.ChangeShapes Go.WideShapes Go.ChangeAt Go.RowKit YtdpcgigjlcpofaaX Ytdpcgigjlcpofaa.F YtdpcgigjlcpofaaW.PrintWords YtdpcgigjlcpofaaW.PrintLast YtdpcgigjlcpofaaW.PrintMore
open Go.ChangeMaps (open_string shut_string)
set_option linter.unusedVariables false
set_option linter.unusedSimpArgs false
theorem own : ownKnob Try.prog.godebug = none := by kernel_rfl
theorem laidOut : laidOutB Try.prog = true := by kernel_rfl
set_option maxRecDepth 100000 in
theorem opens_k51 : Opens Try.prog 51 k51 (fun x => ((x.f0.length ≤ maxLen ∧ ∀ y ∈ x.f0, y.size ≤ maxLen) ∧ (x.f1.length ≤ maxLen ∧ ∀ y ∈ x.f1, (y.length ≤ maxLen ∧ ∀ x ∈ y, (Lit.int .i64 x).wf = true)))) := by
  intro H enc w base spare held fuel cs x h
  obtain ⟨hl, n, hf⟩ := field_reads Try.underlying51 h
  have hl2 : cs.length = 2 := hl.trans (by kernel_rfl)
  match cs, hl2 with
  | [c0, c1], _ =>
    obtain ⟨y0, h0⟩ := hf 0 _ rfl
    have e0 : Try.prog.cellsOf 46 = 1 := by kernel_rfl
    (try dsimp only at h0)
    (try simp only [e0] at h0)
    obtain ⟨a0, k0, o0⟩ := (Opens.slice Try.underlying46 (by kernel_rfl) (Opens.string Try.underlying9)) h0
    have k0' : ((Kd.slice 9 Kd.string)).K w a0 [c0] := k0
    obtain ⟨y1, h1⟩ := hf 1 _ rfl
    have e1 : Try.prog.cellsOf 49 = 1 := by kernel_rfl
    (try dsimp only at h1)
    (try simp only [e1] at h1)
    obtain ⟨a1, k1, o1⟩ := (Opens.slice Try.underlying49 (by kernel_rfl) (Opens.slice Try.underlying44 (by kernel_rfl) (Opens.int Try.underlying3))) h1
    have k1' : ((Kd.slice 44 (Kd.slice 3 (Kd.int .i64)))).K w a1 [c1] := k1
    exact ⟨(⟨a0, a1⟩ : S51), ⟨[c0], [c1], rfl, k0', k1'⟩, ⟨o0, o1⟩⟩
set_option maxRecDepth 100000 in
theorem lifted (os : Os) (started : os.Started) (H : Type) (enc : TypeId × Value → H) :
    ReturnsInHanded {} Try.checked os 4 .any (Rows.indexTellsSpec.pre6 enc Try.prog Try.f4 Rows.indexTellsRow.domain false) (Rows.indexTellsSpec.post enc Try.prog Try.f4 false true false false) := by
  refine returnsInHanded_of_change_sized (C := Try.checked) own started (by kernel_rfl) Try.func4
    (ChangeSpec.witness6 (enc := enc) (C := Try.checked) false ⟨#[], #[.agg #[.slice none 0 0, .slice none 0 0], .string ByteArray.empty, .int .i64 0], []⟩ 8 (by kernel_rfl) (by kernel_rfl) (by kernel_rfl) (by kernel_rfl)) ?_
  intro W base args ds gs before hval0 hW hcnd hsz0 _
  have hval : ∀ (j : Nat) t v, Try.f4.params[j]? = some t → args[j]? = some v → Value.okWide Try.prog W .any base t v := hval0
  have hW' := hW
  obtain ⟨p, q, hA0, hV, rfl, hfz, hnd⟩ := hW
  have hA : DataW.TrodAll enc Try.prog W 0 (fun _ => true) true Try.f4.params.toList args.toList ds p := hA0
  rw [Try.params4] at hA hval
  obtain ⟨v0, vs0, d0, ds0, p0, q0, hargs, rfl, rfl, h0, r0⟩ := trodAll_cons hA
  obtain ⟨v1, vs1, d1, ds1, p1, q1, rfl, rfl, rfl, h1, r1⟩ := trodAll_cons r0
  obtain ⟨v2, vs2, d2, ds2, p2, q2, rfl, rfl, rfl, h2, r2⟩ := trodAll_cons r1
  obtain ⟨rfl, rfl, rfl⟩ := trodAll_nil r2
  obtain rfl : args = #[v0, v1, v2] := by cases args; simp_all
  obtain ⟨rfl, rfl⟩ := trodVars_none hV
  have k0 := h0
  have lt0 : ∀ x ∈ p0, x.block < W.heap.size := by obtain ⟨m, hm⟩ := k0; exact DataW.trod_lt m _ _ _ hm
  obtain ⟨cs0, rfl, _⟩ := okWide_struct Try.underlying51 (hval 0 51 v0 rfl rfl)
  obtain ⟨f0, hf0⟩ := h0
  obtain ⟨x0, hk0, ho0⟩ := opens_k51 hf0
  obtain ⟨A0_0, c0_0, A0_1, c0_1, he0, hl0_0, hc0_0, hl0_1, hc0_1⟩ := k51_open hk0
  obtain rfl : cs0 = _ := Array.toList_inj.1 (he0.trans (List.toList_toArray).symm)
  have k1 := h1
  have lt1 : ∀ x ∈ p1, x.block < W.heap.size := by obtain ⟨m, hm⟩ := k1; exact DataW.trod_lt m _ _ _ hm
  obtain ⟨x1, rfl⟩ := okWide_string Try.underlying9 (hval 1 9 v1 rfl rfl)
  obtain ⟨f1, hf1⟩ := h1
  obtain ⟨z1, hk1, ho1⟩ := (Opens.string Try.underlying9) hf1
  obtain rfl : x1 = z1 := by have := hk1; injection this with this; injection this
  have k2 := h2
  have lt2 : ∀ x ∈ p2, x.block < W.heap.size := by obtain ⟨m, hm⟩ := k2; exact DataW.trod_lt m _ _ _ hm
  obtain ⟨x2, rfl⟩ := okWide_int Try.underlying3 (hval 2 3 v2 rfl rfl)
  obtain ⟨f2, hf2⟩ := h2
  obtain ⟨z2, hk2, ho2⟩ := (Opens.int Try.underlying3) hf2
  obtain rfl : x2 = z2 := by have := hk2; injection this with this; injection this
  obtain ⟨k, h⟩ : ∃ k, backhaullaw14_IndexTells.f k x0.f0 x0.f1 x1 x2 = some true := Pure.IndexTells x0.f0 x0.f1 x1 x2 ho0.1 ho0.2 ho1 ho2
  refine (backhaullaw14_IndexTells.calls k _ _ x0.f0 _ _ x0.f1 x1 x2 W hc0_0 hl0_0 hc0_1 hl0_1 h).mono fun e W' hq => ?_
  obtain ⟨he, bel0⟩ := hq
  have bel : Below W.heap.size W W' := bel0
  subst he
  exact ⟨_, rfl, _, _, _, [], _, [], hW', trodAll_mk1 (shut_bool Try.underlying4 _), (trodAll_cons_mk (Below.trod laidOut (by kernel_rfl) (of_decide_eq_true (by kernel_rfl)) k0 bel lt0) (trodAll_cons_mk (Below.trod laidOut (by kernel_rfl) (of_decide_eq_true (by kernel_rfl)) k1 bel lt1) (trodAll_cons_mk (Below.trod laidOut (by kernel_rfl) (of_decide_eq_true (by kernel_rfl)) k2 bel lt2) trodAll_mk0))), rfl, bel.frame _, fun h => by cases h⟩
theorem closed_ : joinedFacts Try.pinned.checked.prog 4 Try.f4 Rows.indexTellsSpec Rows.indexTellsRow = true := by
  unfold joinedFacts
  repeat' (with_reducible apply band)
  any_goals with_reducible exact Join.mayEnter_is
  any_goals (rw [Join.make_is]; kernel_rfl)
  any_goals (rw [Join.lifts_is]; kernel_rfl)
  all_goals kernel_rfl
theorem over : Rows.indexTellsRow.holds Try.pinned (OpenSpec.ofChange Rows.indexTellsSpec) :=
  OpenClaim.holds_of_wide 4 Try.f4 rfl rfl rfl rfl rfl rfl rfl ⟨rfl, rfl, rfl, rfl, rfl⟩ rfl rfl rfl rfl rfl (by kernel_rfl) Try.func4 closed_
    (of_decide_eq_true (by kernel_rfl)) (by unfold Func.isWrapper; first | (rw [if_pos (by decide +kernel)]; kernel_rfl) | (rw [if_neg (by decide +kernel)]; exact ⟨rfl, rfl⟩))
    (fun os started H enc _ => lifted os started H enc)
theorem proved : Rows.IndexTellsSaid := over
#print axioms proved
end Go.Proofs.Ytdpcgigjlcpofaa.indexTells
namespace Go.Proofs.Ytdpcgigjlcpofaa
theorem indexTells_holds : Rows.IndexTellsSaid := indexTells.proved
end Go.Proofs.Ytdpcgigjlcpofaa
