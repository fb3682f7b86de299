-- merged and pruned by prune.py (the session's own program); its words go back to the kit's print
import Derived.Test.YtefhljhpcpajgaaProg
import Derived.Below
import Derived.Deep.Draws
import Derived.Deep.AppendLies
import Derived.Maps.AppendAt
import Derived.OwnWalk
import Derived.Laws.BytesArg
import Derived.Laws.MakeOwn
import Derived.Laws.OwnMore
import Derived.Deep.OwnRows
import Derived.Tactics
import Derived.Lib.ConvBytes
import Derived.Laws.Slices
import Derived.WalkKit
import Derived.KernelRfl
import Derived.RowKit3
import Derived.Deep.LoopGhost
import Derived.Deep.QuietTactic
import Derived.BigQuiet
import Derived.WideLaws
import Derived.Deep.DeepCutAuto
import Derived.Deep.CutBlock
import Derived.Deep.RegionHeld3
import Derived.Laws.Rows
import Derived.Lib.AppendStr
import Derived.ArgAppend
import Derived.Laws.IdiomCopy
import Derived.OrdersHeld
import Derived.Laws.BitsLemmas
import Derived.RowKit
import Derived.Laws.StructEq
import Derived.Deep.RegionLawGrows
import Derived.Lib.SliceRun
import Derived.Shelf.SlSortCmp.Insertion1
import Derived.Shelf.Small.Bits
import Derived.Shelf.Utf8.RuneCount
import Derived.Shelf.Strconv.Itoa0
import Derived.Shelf.Strings.Prefix
import Derived.Shelf.Strings.RuneCount
import Derived.Shelf.Bits.Mul64
import Derived.Ground.Names2Prog
import Derived.Shelf.Slices.SearchI
import Derived.Ground.SlsfProg
import Derived.Shelf.SlSortCmp.Insertion
import Derived.Sort.LotA
import Derived.Sort.OwnSortedInts
import Derived.Lib.OthersKept
import Derived.Lib.RuneCount
import Derived.Laws.Cover4
import Derived.Outline
import Derived.Maps.Own
import Derived.Maps.OwnOps
import Derived.Maps.Views
import Derived.StringKeys
import Derived.Carry
import Derived.Deep.Slices
import Derived.ChangeArms
import Derived.WideShapes
import Derived.OpenShut
import Derived.Test.YtefhljhpcpajgaaRows
import Derived.ProofKit
import Derived.ShutString
import Derived.ChangeOld
import Derived.SizedLaws
import Derived.Test.YtefhljhpcpajgaaZValueBounds6
set_option linter.unusedVariables false
namespace Go.Proofs.Ytefhljhpcpajgaa.Q
open Go.RowKit Go.Proofs.Ytefhljhpcpajgaa.F Go.Proofs.YtefhljhpcpajgaaW.PrintWords Go.Proofs.YtefhljhpcpajgaaW.PrintLast Go.Proofs.YtefhljhpcpajgaaW.PrintMore
def chainS : Int → List Int → Int
  | _, [] => 0
  | last, x :: xs => if x < 0 ∨ x > 10000 ∨ x < last then 36 else chainS x xs
def fcheckS (l : List Int) : Int := if l.length = 4 then chainS 0 l else 36
def gradeS (a : Int) (l : List Int) (g : Int) : Int × Int := if fcheckS l = 0 then (if g < 0 ∨ g ≥ 4 then (0, 2) else lessS a (rd l g)) else (0, 36)
theorem chainS_or (l : List Int) : ∀ last, chainS last l = 0 ∨ chainS last l = 36 := by
  induction l with
  | nil => intro _; exact .inl rfl
  | cons x xs ih => intro last; simp only [chainS]; split; exact .inr rfl; exact ih x
theorem fcheckS_or (l : List Int) : fcheckS l = 0 ∨ fcheckS l = 36 := by
  unfold fcheckS; split; exact chainS_or _ _; exact .inr rfl
theorem fee_check_l0 {l : List Int} (hl : l.length = 4) (d : Nat) : ∀ (i : Nat) (last : Int), l.length - i = d → i ≤ l.length → Ev (fun k => fee_Check.l0 k last l (l.length : Int) (i : Int)) (chainS last (l.drop i)) := by
  induction d with
  | zero =>
    intro i last hd hi
    refine Ev.step (fun k => by simp only [fee_Check.l0]; rfl) ?_
    refine Ev.neg (by omega) (Ev.ok ?_)
    rw [List.drop_eq_nil_of_le (by omega)]; rfl
  | succ d ih =>
    intro i last hd hi
    have h : i < l.length := by omega
    refine Ev.step (fun k => by simp only [fee_Check.l0]; rfl) ?_
    refine Ev.pos (by omega) (Ev.pos (by omega) (Ev.pos (by omega) ?_))
    rw [drop_cons h, rd_nat h]
    refine Ev.bindc (fee_may_f _) ?_
    simp only [chainS]
    refine Ev.ite (fun h1 => ?_) (fun h1 => Ev.ok ?_)
    · have h2 := of_decide_eq_true h1
      refine Ev.ite (fun h3 => Ev.ok (by rw [if_pos (.inr (.inr h3))])) (fun h3 => ?_)
      rw [if_neg (by omega), wrap_eq (by omega) (by omega)]
      exact ih (i + 1) _ (by omega) (by omega)
    · have h2 : ¬ (0 ≤ l[i] ∧ l[i] ≤ 10000) := fun x => h1 (decide_eq_true x)
      rw [if_pos (by omega)]
theorem fee_check_f (l : List Int) : Ev (fun k => fee_Check.f k l) (fcheckS l) := by
  unfold fee_Check.f fcheckS
  by_cases h : l.length = 4
  · rw [if_pos h]
    exact Ev.pos (by omega) (fee_check_l0 h l.length 0 0 (by omega) (by omega))
  · rw [if_neg h]
    exact Ev.neg (by omega) (Ev.ok rfl)
theorem fcheckS_len {l : List Int} (h : fcheckS l = 0) : l.length = 4 := by
  unfold fcheckS at h
  split at h
  · assumption
  · simp at h
theorem fee_grade_f (a : Int) (l : List Int) (g : Int) : Ev (fun k => fee_Grade.f k a l g) (gradeS a l g) := by
  unfold fee_Grade.f gradeS
  refine Ev.bind (fee_check_f l) ?_
  refine Ev.ite (fun h => ?_) (fun h => Ev.ok ?_)
  · rw [if_pos h]
    have := fcheckS_len h
    refine Ev.ite (fun h1 => Ev.ok (by rw [if_pos (.inl h1)])) (fun h1 => Ev.ite (fun h2 => Ev.ok (by rw [if_pos (.inr h2)])) (fun h2 => ?_))
    rw [if_neg (by omega)]
    exact Ev.pos (by omega) (Ev.pos (by omega) (Ev.bind (fee_less_f _ _) (Ev.ok rfl)))
  · rw [if_neg h, (fcheckS_or l).resolve_left h]
end Go.Proofs.Ytefhljhpcpajgaa.Q
set_option linter.unusedVariables false
set_option linter.unusedSimpArgs false
namespace Go.Proofs.Ytefhljhpcpajgaa.Q
open Go.RowKit Go.Proofs.Ytefhljhpcpajgaa.F Go.Proofs.YtefhljhpcpajgaaX Go.Proofs.YtefhljhpcpajgaaW.PrintWords Go.Proofs.YtefhljhpcpajgaaW.PrintLast Go.Proofs.YtefhljhpcpajgaaW.PrintMore
theorem evenL_at {t : Int} {n i : Nat} (h : i < n) : (evenL t n).getD i 0 = outAt t (n : Int) (List.replicate n 1) i := by
  unfold evenL outL
  simp [List.getD_eq_getElem?_getD, h]
theorem evenL_pos {t : Int} {n i : Nat} (ht : 0 ≤ t) (hi : i < n) : 0 ≤ (evenL t n).getD i 0 := by
  rw [evenL_at hi]
  have hb := out_bounds (t := t) (s := (n : Int)) (l := List.replicate n 1) (i := i)
  have h1 : wt (List.replicate n 1) i = 1 := by
    unfold wt
    simp [List.getD_eq_getElem?_getD, hi]
  rw [h1] at hb
  have : 0 ≤ prt t (n : Int) 1 := by
    unfold prt
    exact Int.ediv_nonneg (by omega) (by omega)
  omega
theorem evenL_sum {t : Int} {n : Nat} (h1 : 1 ≤ n) : sumI (evenL t n) = t := out_sum (sumI_ones n) (by omega)
theorem take_sum {l : List Int} {i : Nat} (h : i < l.length) : sumI (l.take (i + 1)) = sumI (l.take i) + l.getD i 0 := by
  rw [List.take_succ_eq_append_getElem h, sumI_append]
  simp [sumI, List.getD_eq_getElem?_getD, h]
theorem take_le {l : List Int} (h : ∀ x ∈ l, 0 ≤ x) (i : Nat) : 0 ≤ sumI (l.take i) ∧ sumI (l.take i) ≤ sumI l := by
  have e : sumI l = sumI (l.take i) + sumI (l.drop i) := by rw [← sumI_append, List.take_append_drop]
  have := sumI_nonneg (l := l.take i) (fun x hx => h x (List.mem_of_mem_take hx))
  have := sumI_nonneg (l := l.drop i) (fun x hx => h x (List.mem_of_mem_drop hx))
  omega
theorem evenL_all {t : Int} {n : Nat} (ht : 0 ≤ t) : ∀ x ∈ evenL t n, 0 ≤ x := fun x hx => by
  obtain ⟨i, hi, rfl⟩ := List.mem_iff_getElem.1 hx
  have := evenL_pos (n := n) (i := i) ht (by rw [evenL_len] at hi; exact hi)
  simpa [List.getD_eq_getElem?_getD, hi] using this
theorem feeR_mono {a a' b b' : Int} (ha : 0 ≤ a) (hb : 0 ≤ b) (h1 : a ≤ a') (h2 : b ≤ b') : feeR a b ≤ feeR a' b' := by
  unfold feeR
  have h3 : a * b ≤ a' * b' := Int.mul_le_mul h1 h2 hb (by omega)
  rw [Int.mul_assoc, Int.mul_assoc]
  omega
theorem chain_four {l : List Int} (h : fcheckS l = 0) : 0 ≤ rd l 0 ∧ rd l 0 ≤ rd l 1 ∧ rd l 1 ≤ rd l 2 ∧ rd l 2 ≤ rd l 3 ∧ rd l 3 ≤ 10000 := by
  have hl := fcheckS_len h
  match l, hl with
  | [p, q, r, s], _ =>
    unfold fcheckS at h
    rw [if_pos (show [p, q, r, s].length = 4 from rfl)] at h
    simp only [chainS] at h
    have e0 : rd [p, q, r, s] 0 = p := rfl
    have e1 : rd [p, q, r, s] 1 = q := rfl
    have e2 : rd [p, q, r, s] 2 = r := rfl
    have e3 : rd [p, q, r, s] 3 = s := rfl
    rw [e0, e1, e2, e3]
    split at h
    · simp at h
    · split at h
      · simp at h
      · split at h
        · simp at h
        · split at h
          · simp at h
          · omega
theorem evenL_le {t : Int} {n i : Nat} (ht : 0 ≤ t) (hi : i < n) : (evenL t n).getD i 0 ≤ t := by
  have h1 := take_sum (l := evenL t n) (i := i) (by rw [evenL_len]; exact hi)
  have h2 := take_le (evenL_all (n := n) ht) i
  have h3 := take_le (evenL_all (n := n) ht) (i + 1)
  rw [evenL_sum (show 1 ≤ n by omega)] at h3
  omega
theorem unit_ok {a b c d : Int} {s : List ByteArray} {i : Int} (h : (unitS a b c d s i).2.2 = 0) : lineR a b c d s = 0 ∧ 0 ≤ i ∧ i < (s.length : Int) ∧ unitS a b c d s i = ((evenL c s.length).getD i.toNat 0, (evenL d s.length).getD i.toNat 0, 0) := by
  unfold unitS at h ⊢
  by_cases e : lineR a b c d s = 0
  · rw [if_pos e] at h ⊢
    by_cases g : i < 0 ∨ (s.length : Int) ≤ i
    · rw [if_pos g] at h; simp at h
    · rw [if_neg g]; exact ⟨e, by omega, by omega, rfl⟩
  · rw [if_neg e] at h; exact absurd h e
theorem unit_sum {a b c d : Int} {s : List ByteArray} {i : Int} (h : (unitS a b c d s i).2.2 = 0) : 0 ≤ (unitS a b c d s i).1 ∧ 0 ≤ (unitS a b c d s i).2.1 ∧ (unitS a b c d s i).1 + (unitS a b c d s i).2.1 ≤ 1000000000000 := by
  obtain ⟨e, h1, h2, h3⟩ := unit_ok h
  have ho := lineR_ok e
  rw [h3]
  have hi : i.toNat < s.length := by omega
  have p1 := evenL_pos (t := c) (n := s.length) (by omega) hi
  have p2 := evenL_pos (t := d) (n := s.length) (by omega) hi
  have q1 := evenL_le (t := c) (n := s.length) (by omega) hi
  have q2 := evenL_le (t := d) (n := s.length) (by omega) hi
  dsimp only
  omega
def fullS (a b c d : Int) (s : List ByteArray) (i : Int) : Int × Int := if (unitS a b c d s i).2.2 = 0 then ((unitS a b c d s i).1 + (unitS a b c d s i).2.1, 0) else (0, (unitS a b c d s i).2.2)
theorem full_f {a b c d : Int} {s : List ByteArray} (h : fewX s) (i : Int) : Ev (fun k => value_Full.f k a b c d s i) (fullS a b c d s i) := by
  unfold value_Full.f fullS
  refine Ev.bind (unit_f h i) (Q.Ev.ite (fun e => ?_) (fun e => Ev.ok (by rw [if_neg e])))
  have hu := unit_sum e
  rw [if_pos e]
  refine Ev.bind (cents_Add_f (by simp)) (Ev.ok ?_)
  rw [add_two hu.1 hu.2.1, if_neg (by omega)]
theorem full_bounds (a b c d : Int) (s : List ByteArray) (i : Int) : 0 ≤ (fullS a b c d s i).1 ∧ (fullS a b c d s i).1 ≤ 1000000000000 := by
  unfold fullS
  by_cases e : (unitS a b c d s i).2.2 = 0
  · have hu := unit_sum e
    rw [if_pos e]; dsimp only; omega
  · rw [if_neg e]; dsimp only; omega
def ofV (a b c d : Int) (s : List ByteArray) (i : Int) (l : List Int) (g : Int) : Int × Int := if (fullS a b c d s i).2 = 0 then gradeS (fullS a b c d s i).1 l g else (0, (fullS a b c d s i).2)
theorem terms_f (l : List Int) (x g : Int) : Ev (fun k => value_terms_left.f k l x g) (gradeS x l g) := by
  unfold value_terms_left.f
  exact Ev.bind (fee_grade_f x l g) (Ev.ok rfl)
theorem value_of_f {a b c d : Int} {s : List ByteArray} (h : fewX s) (i : Int) (l : List Int) (g : Int) : Ev (fun k => value_Of.f k a b c d s i l g) (ofV a b c d s i l g) := by
  unfold value_Of.f ofV
  refine Ev.bind (full_f h i) (Q.Ev.ite (fun e => ?_) (fun e => Ev.ok (by rw [if_neg e])))
  rw [if_pos e]
  exact Ev.bind (terms_f l _ g) (Ev.ok rfl)
theorem four_at {l : List Int} (h : fcheckS l = 0) {g : Nat} (hg : g < 4) : 0 ≤ rd l (g : Int) ∧ rd l (g : Int) ≤ 10000 ∧ (g + 1 < 4 → rd l (g : Int) ≤ rd l ((g + 1 : Nat) : Int)) := by
  obtain ⟨h0, h1, h2, h3, h4⟩ := chain_four h
  match g, hg with
  | 0, _ => exact ⟨h0, by show rd l 0 ≤ 10000; omega, fun _ => h1⟩
  | 1, _ => exact ⟨by show 0 ≤ rd l 1; omega, by show rd l 1 ≤ 10000; omega, fun _ => h2⟩
  | 2, _ => exact ⟨by show 0 ≤ rd l 2; omega, by show rd l 2 ≤ 10000; omega, fun _ => h3⟩
  | 3, _ => exact ⟨by show 0 ≤ rd l 3; omega, h4, fun q => absurd q (by omega)⟩
theorem grade_at {a : Int} {l : List Int} (ha : 0 ≤ a) (ha2 : a ≤ 1000000000000) (h : fcheckS l = 0) {g : Nat} (hg : g < 4) : gradeS a l (g : Int) = (a - feeR a (rd l (g : Int)), 0) := by
  have hf := four_at h hg
  have e : ofS a (rd l (g : Int)) = (feeR a (rd l (g : Int)), 0) := by
    unfold ofS
    rw [if_neg (by omega), if_neg (by omega)]
  unfold gradeS lessS
  rw [if_pos h, if_neg (show ¬ ((g : Int) < 0 ∨ (g : Int) ≥ 4) by omega), e]
  exact if_pos rfl
end Go.Proofs.Ytefhljhpcpajgaa.Q
set_option linter.unusedVariables false
set_option linter.unusedSimpArgs false
namespace Go.Proofs.Ytefhljhpcpajgaa.Pure
open Go.RowKit Go.Proofs.Ytefhljhpcpajgaa.F Go.Proofs.Ytefhljhpcpajgaa.Q Go.Proofs.YtefhljhpcpajgaaW.PrintWords Go.Proofs.YtefhljhpcpajgaaW.PrintLast
theorem bounds_l0 {a b c d i A : Int} {s : List ByteArray} {l : List Int} (h : fewX s) (hF : fullS a b c d s i = (A, 0)) (hc : fcheckS l = 0) (haw : backhaullaw22_awake.f = some true) (m : Nat) : ∀ g : Nat, 4 - g = m → g ≤ 4 → ∀ p : Int, (g < 4 → A - feeR A (rd l (g : Int)) ≤ p) →
    Ev (fun k => backhaullaw22_ValueBounds.l0 k i l 0 p (g : Int) a b c d s) true := by
  have hb := full_bounds a b c d s i
  rw [hF] at hb
  dsimp only at hb
  induction m with
  | zero =>
    intro g hd hg p hp
    exact Ev.step (fun k => by simp only [backhaullaw22_ValueBounds.l0]; rfl) (Ev.neg (by omega) (Q.Ev.bindc haw (Q.Ev.pos rfl (Q.Ev.const rfl))))
  | succ m ih =>
    intro g hd hg p hp
    have hg4 : g < 4 := by omega
    have hf := four_at hc hg4
    have he := feeR_bounds (a := A) (b := rd l (g : Int)) (by omega) hf.1 hf.2.1
    have hv := value_of_f (a := a) (b := b) (c := c) (d := d) h i l (g : Int)
    have e : ofV a b c d s i l (g : Int) = (A - feeR A (rd l (g : Int)), 0) := by
      unfold ofV
      rw [hF]
      exact (if_pos rfl).trans (grade_at hb.1 hb.2 hc hg4)
    rw [e] at hv
    refine Ev.step (fun k => by simp only [backhaullaw22_ValueBounds.l0]; rfl) (Ev.pos (by omega) (Ev.bind hv ?_))
    dsimp only
    rw [wrap_eq (x := (g : Int) + 1) (by omega) (by omega)]
    have hp' := hp hg4
    refine Q.Ev.pos rfl (Q.Ev.pos (by first | rfl | trivial) (Q.Ev.neg (by omega) (Q.Ev.neg (by omega) ?_)))
    refine ih (g + 1) (by omega) (by omega) _ (fun q => ?_)
    have := feeR_mono (a := A) (a' := A) hb.1 hf.1 (Int.le_refl _) (hf.2.2 q)
    omega
theorem bounds_j0 {a b c d i : Int} {s : List ByteArray} {l : List Int} (h : fewX s) (haw : backhaullaw22_awake.f = some true) (t : Bool) : Ev (fun k => backhaullaw22_ValueBounds.j0 k i l t a b c d s) true := by
  refine Ev.step (fun k => by simp only [backhaullaw22_ValueBounds.j0]; rfl) (Q.Ev.ite (fun _ => Q.Ev.bindc haw (Q.Ev.pos rfl (Q.Ev.const rfl))) (fun _ => Ev.bind (full_f h i) ?_))
  have hb := full_bounds a b c d s i
  have hv := value_of_f (a := a) (b := b) (c := c) (d := d) h i l 0
  by_cases e : (fullS a b c d s i).2 = 0
  · have hF : fullS a b c d s i = ((fullS a b c d s i).1, 0) := Prod.ext rfl e
    by_cases hc : fcheckS l = 0
    · rw [e]
      have hf := four_at hc (g := 0) (by omega)
      have he := feeR_bounds (a := (fullS a b c d s i).1) (b := rd l ((0 : Nat) : Int)) hb.1 hf.1 hf.2.1
      exact bounds_l0 h hF hc haw 4 0 rfl (by omega) _ (fun _ => by omega)
    · have eo : ofV a b c d s i l 0 = (0, 36) := by
        unfold ofV gradeS
        rw [if_pos e, if_neg hc]
      rw [eo] at hv
      rw [e]
      refine Ev.step (fun k => by simp only [backhaullaw22_ValueBounds.l0]; rfl) (Ev.pos (by first | trivial | decide | omega) (Ev.bind hv ?_))
      dsimp only
      refine Q.Ev.neg (by first | decide | omega) ?_
      refine Q.Ev.pos (by first | trivial | rfl) ?_
      refine Ev.bind (fee_check_f l) ?_
      refine Q.Ev.neg hc ?_
      refine Q.Ev.pos (by first | trivial | rfl) ?_
      exact Q.Ev.bindc haw (Q.Ev.pos rfl (Q.Ev.const rfl))
  · have eo : ofV a b c d s i l 0 = (0, (fullS a b c d s i).2) := by
      unfold ofV
      rw [if_neg e]
    rw [eo] at hv
    refine Ev.step (fun k => by simp only [backhaullaw22_ValueBounds.l0]; rfl) (Ev.pos (by first | trivial | decide | omega) (Ev.bind hv ?_))
    dsimp only
    refine Q.Ev.neg e ?_
    refine Q.Ev.neg e ?_
    refine Q.Ev.pos (by first | trivial | rfl) ?_
    exact Q.Ev.bindc haw (Q.Ev.pos rfl (Q.Ev.const rfl))
theorem ValueBounds : backhaullaw22_ValueBounds.Pure := by
  intro a b c d s i l ha hb hc hd hs hi hl
  refine Ev.rounds (r := true) ?_
  have haw : backhaullaw22_awake.f = some true := rfl
  unfold backhaullaw22_ValueBounds.f
  refine Ev.bind (few_f _) (Q.Ev.ite (fun hf => ?_) (fun _ => ?_))
  · exact bounds_j0 (fewX_of (few_p hf) (List.mem_singleton.2 rfl)) haw _
  · have j0 : ∀ t : Bool, t = true → Ev (fun k => backhaullaw22_ValueBounds.j0 k i l t a b c d s) true := fun t ht =>
      Ev.step (fun k => by simp only [backhaullaw22_ValueBounds.j0]; rfl) (Q.Ev.pos ht (Q.Ev.bindc haw (Q.Ev.pos rfl (Q.Ev.const rfl))))
    exact j0 true rfl
end Go.Proofs.Ytefhljhpcpajgaa.Pure
set_option linter.unusedVariables false
set_option linter.unusedSimpArgs false
namespace Go.Proofs.YtefhljhpcpajgaaX
open Go.RowKit Go.Proofs.YtefhljhpcpajgaaW.PrintWords Go.Proofs.YtefhljhpcpajgaaW.PrintLast Go.Proofs.YtefhljhpcpajgaaW.PrintMore
def Opens {α : Type} (P : Program) (t : TypeId) (k : Kd α) (Ok : α → Prop) : Prop :=
  ∀ {H : Type} {enc : TypeId × Value → H} {w : World} {base : Nat} {spare : Nat → Bool} {held : Bool} {fuel : Nat} {cs : List Value} {x : DataW H × List MemPlace},
    DataW.trod enc P w base spare held fuel t cs = some x → ∃ a : α, k.K w a cs ∧ Ok a
theorem Opens.int {P : Program} {t : TypeId} {k : IntKind} (ht : P.underlying t = some (.int k)) : Opens P t (Kd.int k) (fun a => (Lit.int k a).wf = true) := by
  intro H enc w base spare held fuel cs x h
  obtain ⟨n, rfl, _, hw⟩ := DataW.trod_int ht h
  exact ⟨n, rfl, hw⟩
theorem Opens.bool {P : Program} {t : TypeId} (ht : P.underlying t = some .bool) : Opens P t Kd.bool (fun _ => True) := by
  intro H enc w base spare held fuel cs x h
  obtain ⟨n, rfl, _⟩ := DataW.trod_bool ht h
  exact ⟨n, rfl, trivial⟩
theorem Opens.string {P : Program} {t : TypeId} (ht : P.underlying t = some .string) : Opens P t Kd.string (fun a => a.size ≤ maxLen) := by
  intro H enc w base spare held fuel cs x h
  obtain ⟨s, rfl, _, hw⟩ := DataW.trod_string ht h
  exact ⟨s, rfl, hw⟩
theorem list_of {α : Type} {p : Nat → α → Prop} : ∀ n, (∀ i, i < n → ∃ a, p i a) → ∃ xs : List α, xs.length = n ∧ ∀ i a, xs[i]? = some a → p i a
  | 0, _ => ⟨[], rfl, fun i a h => by simp at h⟩
  | n + 1, h => by
    obtain ⟨xs, hl, hx⟩ := list_of n (fun i hi => h i (by omega))
    obtain ⟨a, ha⟩ := h n (by omega)
    refine ⟨xs ++ [a], by simp [hl], fun i b hb => ?_⟩
    rcases Nat.lt_or_ge i xs.length with h1 | h1
    · rw [List.getElem?_append_left h1] at hb
      exact hx i b hb
    · rw [List.getElem?_append_right h1] at hb
      have h2 : i - xs.length = 0 := by
        have := (List.getElem?_eq_some_iff.1 hb).1
        simp at this; omega
      rw [h2] at hb
      have : a = b := by simpa using hb
      subst this
      have : i = n := by omega
      rw [this]; exact ha
theorem Opens.slice {α : Type} {P : Program} {t e : TypeId} {k : Kd α} {Ok : α → Prop} (ht : P.underlying t = some (.slice e)) (hc : P.cellsOf e = k.sz) (h : Opens P e k Ok) :
    Opens P t (Kd.slice e k) (fun xs => xs.length ≤ maxLen ∧ ∀ x ∈ xs, Ok x) := by
  intro H enc w base spare held fuel cs x hx
  rcases Go.Deep.open_slice ht hx with ⟨rfl, rfl⟩ | ⟨a, len, cap, m, n, D, Pl, rfl, hb, hl, hm, hmm, rfl, hel⟩
  · exact ⟨[], ⟨none, 0, rfl, by simp, rfl, by simp, fun h => absurd h (by simp)⟩, by simp [maxLen], by simp⟩
  · have hlm : len ≤ m := by rw [hmm]; split <;> omega
    obtain ⟨xs, hlen, hxs⟩ := list_of (p := fun i (a' : α) => ∃ cs', w.cells? base (a.add (i * P.cellsOf e)) (P.cellsOf e) = some cs' ∧ k.K w a' cs' ∧ Ok a') len (fun i hi => by
      obtain ⟨cs', h1, h2⟩ := hel i (by omega)
      obtain ⟨a', h3, h4⟩ := h h2
      exact ⟨a', cs', h1, h3, h4⟩)
    have hlm2 : len ≤ maxLen := by omega
    refine ⟨xs, ⟨some a, cap, by rw [hlen], by rw [hlen]; exact hl, rfl, by rw [hlen]; simpa [maxLen] using hlm2, fun _ => ⟨a, rfl, fun j p hj => ?_⟩⟩, by rw [hlen]; exact hlm2, fun y hy => ?_⟩
    · obtain ⟨cs', h1, h2, _⟩ := hxs j p hj
      refine ⟨cs', k.K_len h2, h2, fun i u hu => ?_⟩
      obtain ⟨_, _, h3⟩ := World.cells?_some h1
      have h4 := h3 i (by have := (List.getElem?_eq_some_iff.1 hu).1; have := k.K_len h2; omega)
      rw [← hc, ← Go.Proofs.YtefhljhpcpajgaaW.PrintWords.add_add]
      rw [← hu]; exact h4
    · obtain ⟨i, hi, rfl⟩ := List.mem_iff_getElem.1 hy
      obtain ⟨_, _, _, h3⟩ := hxs i _ (List.getElem?_eq_getElem hi)
      exact h3
theorem field_reads {H : Type} {enc : TypeId × Value → H} {P : Program} {w : World} {base : Nat} {spare : Nat → Bool} {held : Bool} {fuel : Nat} {t : TypeId} {cs : List Value} {x : DataW H × List MemPlace} {fs : Array Field}
    (ht : P.underlying t = some (.struct fs)) (h : DataW.trod enc P w base spare held fuel t cs = some x) :
    cs.length = P.cellsOf t ∧ ∃ n, ∀ (i : Nat) (f : Field), fs[i]? = some f → ∃ y, DataW.trod enc P w base spare held n f.type ((cs.drop f.offset).take (P.cellsOf f.type)) = some y := by
  obtain ⟨xs, n, _, _, hl, hx, hf⟩ := DataW.trod_struct ht h
  refine ⟨hl, n, fun i f hif => ?_⟩
  rw [hf i f hif]
  have hi := (Array.getElem?_eq_some_iff.1 hif).1
  exact ⟨_, List.getElem?_eq_getElem (by rw [hx]; exact hi)⟩
theorem slice_cells {α : Type} {k : Kd α} {e : Nat} {w : World} {xs : List α} {v : Value} (h : (Kd.slice e k).K w xs [v]) : ∃ A c, v = .slice A xs.length c ∧ xs.length ≤ c ∧ k.C w A xs.length xs := by
  obtain ⟨A, c, he, hl, hc⟩ := h
  injection he with he
  exact ⟨A, c, he, hl, hc⟩
theorem band {a b : Bool} (h1 : a = true) (h2 : b = true) : (a && b) = true := by rw [h1, h2]; rfl
theorem mayEnter_of {P : Program} {L c : List Char} {rest : List (List Char)} (h : P.initOrder.toList = L) (h1 : behindMainWord (wordsSigns L) = c :: rest) (h2 : ((stripLifts liftWords (c :: rest)).2.head? == some "cut".toList) = true) (h3 : P.laysLater = false) (h4 : P.bearsReflect = false) (h5 : (stripLifts liftWords (c :: rest)).1 = []) (h6 : P.doorFits [] = true) : P.mayEnter = true := by
  unfold Program.mayEnter
  rw [h, h1]
  dsimp only
  rw [h2, h3, h4, h5, h6]
  simp
theorem make_of {P : Program} {L : List Char} {rest : List (List Char)} (h : P.initOrder.toList = L) (h1 : behindMainWord (wordsSigns L) = "cut".toList :: rest) : P.make = some .cut := by
  unfold Program.make
  rw [h, h1]
  dsimp only
  rw [if_neg (by decide), if_pos (by simp)]
end Go.Proofs.YtefhljhpcpajgaaX
set_option maxRecDepth 10000
namespace Go.Proofs.Ytefhljhpcpajgaa.Join
open Go.Proofs.YtefhljhpcpajgaaX
def initSigns : List Char := ['h', 'a', 'r', 'n', 'e', 's', 's', ' ', '5', '6', '5', 'd', 'd', 'd', '3', '6', '6', '5', 'c', '5', '5', '9', 'c', '2', '4', '9', 'e', '2', 'e', '3', '7', '8', 'c', '7', '1', 'b', 'b', 'b', '4', '7', '4', '9', '6', '8', '7', '8', 'a', '7', '0', 'b', '1', 'c', '4', '8', '9', 'f', '4', '3', '5', '5', '6', 'b', 'b', '7', 'f', '7', 'f', '7', '4', '9', '2', 'f', ' ', 'c', 'u', 't', ' ', 'a', 't', ' ', 'b', 'a', 'c', 'k', 'h', 'a', 'u', 'l', '/', 'b', 'a', 'c', 'k', 'h', 'a', 'u', 'l', 'l', 'a', 'w', '0', '2', '.', 'C', 'e', 'n', 't', 's', 'S', 'u', 'm', 's', ' ', 'b', 'a', 'c', 'k', 'h', 'a', 'u', 'l', '/', 'b', 'a', 'c', 'k', 'h', 'a', 'u', 'l', 'l', 'a', 'w', '0', '2', '.', 'C', 'e', 'n', 't', 's', 'S', 'h', 'a', 'r', 'e', 's', ' ', 'b', 'a', 'c', 'k', 'h', 'a', 'u', 'l', '/', 'b', 'a', 'c', 'k', 'h', 'a', 'u', 'l', 'l', 'a', 'w', '0', '2', '.', 'C', 'e', 'n', 't', 's', 'O', 'v', 'e', 'r', ' ', 'b', 'a', 'c', 'k', 'h', 'a', 'u', 'l', '/', 'b', 'a', 'c', 'k', 'h', 'a', 'u', 'l', 'l', 'a', 'w', '0', '2', '.', 'C', 'e', 'n', 't', 's', 'D', 'i', 'v', 's', ' ', 'b', 'a', 'c', 'k', 'h', 'a', 'u', 'l', '/', 'b', 'a', 'c', 'k', 'h', 'a', 'u', 'l', 'l', 'a', 'w', '0', '4', '.', 'F', 'e', 'e', 'T', 'e', 'l', 'l', 's', ' ', 'b', 'a', 'c', 'k', 'h', 'a', 'u', 'l', '/', 'b', 'a', 'c', 'k', 'h', 'a', 'u', 'l', 'l', 'a', 'w', '0', '4', '.', 'F', 'e', 'e', 'B', 'o', 'u', 'n', 'd', 's', ' ', 'b', 'a', 'c', 'k', 'h', 'a', 'u', 'l', '/', 'b', 'a', 'c', 'k', 'h', 'a', 'u', 'l', 'l', 'a', 'w', '0', '4', '.', 'F', 'e', 'e', 'S', 't', 'e', 'p', 's', ' ', 'b', 'a', 'c', 'k', 'h', 'a', 'u', 'l', '/', 'b', 'a', 'c', 'k', 'h', 'a', 'u', 'l', 'l', 'a', 'w', '0', '3', '.', 'S', 'h', 'a', 'r', 'e', 'D', 'e', 'a', 'l', 's', ' ', 'b', 'a', 'c', 'k', 'h', 'a', 'u', 'l', '/', 'b', 'a', 'c', 'k', 'h', 'a', 'u', 'l', 'l', 'a', 'w', '0', '3', '.', 'S', 'h', 'a', 'r', 'e', 'A', 'l', 'l', ' ', 'b', 'a', 'c', 'k', 'h', 'a', 'u', 'l', '/', 'b', 'a', 'c', 'k', 'h', 'a', 'u', 'l', 'l', 'a', 'w', '0', '3', '.', 'S', 'h', 'a', 'r', 'e', 'F', 'a', 'i', 'r', ' ', 'b', 'a', 'c', 'k', 'h', 'a', 'u', 'l', '/', 'b', 'a', 'c', 'k', 'h', 'a', 'u', 'l', 'l', 'a', 'w', '2', '1', '.', 'L', 'i', 'n', 'e', 'D', 'e', 'a', 'l', 's', ' ', 'b', 'a', 'c', 'k', 'h', 'a', 'u', 'l', '/', 'b', 'a', 'c', 'k', 'h', 'a', 'u', 'l', 'l', 'a', 'w', '2', '1', '.', 'L', 'i', 'n', 'e', 'T', 'e', 'l', 'l', 's', ' ', 'b', 'a', 'c', 'k', 'h', 'a', 'u', 'l', '/', 'b', 'a', 'c', 'k', 'h', 'a', 'u', 'l', 'l', 'a', 'w', '2', '1', '.', 'L', 'i', 'n', 'e', 'A', 'l', 'l', ' ', 'b', 'a', 'c', 'k', 'h', 'a', 'u', 'l', '/', 'b', 'a', 'c', 'k', 'h', 'a', 'u', 'l', 'l', 'a', 'w', '2', '1', '.', 'L', 'i', 'n', 'e', 'U', 'n', 'i', 't', 's', ' ', 'b', 'a', 'c', 'k', 'h', 'a', 'u', 'l', '/', 'b', 'a', 'c', 'k', 'h', 'a', 'u', 'l', 'l', 'a', 'w', '2', '2', '.', 'V', 'a', 'l', 'u', 'e', 'T', 'e', 'l', 'l', 's', ' ', 'b', 'a', 'c', 'k', 'h', 'a', 'u', 'l', '/', 'b', 'a', 'c', 'k', 'h', 'a', 'u', 'l', 'l', 'a', 'w', '2', '2', '.', 'V', 'a', 'l', 'u', 'e', 'B', 'o', 'u', 'n', 'd', 's', ' ', 'b', 'a', 'c', 'k', 'h', 'a', 'u', 'l', '/', 'b', 'a', 'c', 'k', 'h', 'a', 'u', 'l', 'l', 'a', 'w', '2', '2', '.', 'V', 'a', 'l', 'u', 'e', 'W', 'h', 'o', 'l', 'e', ' ', 'b', 'a', 'c', 'k', 'h', 'a', 'u', 'l', '/', 'b', 'a', 'c', 'k', 'h', 'a', 'u', 'l', 'l', 'a', 'w', '2', '6', '.', 'O', 'r', 'd', 'e', 'r', 'M', 'a', 'k', 'e', 's', ' ', 'b', 'a', 'c', 'k', 'h', 'a', 'u', 'l', '/', 'b', 'a', 'c', 'k', 'h', 'a', 'u', 'l', 'l', 'a', 'w', '2', '6', '.', 'O', 'r', 'd', 'e', 'r', 'T', 'e', 'l', 'l', 's', ' ', 'b', 'a', 'c', 'k', 'h', 'a', 'u', 'l', '/', 'b', 'a', 'c', 'k', 'h', 'a', 'u', 'l', 'l', 'a', 'w', '2', '6', '.', 'O', 'r', 'd', 'e', 'r', 'D', 'e', 'a', 'l', 's', ' ', 'b', 'a', 'c', 'k', 'h', 'a', 'u', 'l', '/', 'b', 'a', 'c', 'k', 'h', 'a', 'u', 'l', 'l', 'a', 'w', '2', '6', '.', 'O', 'r', 'd', 'e', 'r', 'F', 'i', 'n', 'd', 's']
theorem initText : Try.pinned.checked.prog.initOrder = String.ofList initSigns := by kernel_rfl
theorem initList : Try.pinned.checked.prog.initOrder.toList = initSigns := (congrArg String.toList initText).trans String.toList_ofList
theorem mayEnter_is : Try.pinned.checked.prog.mayEnter = true :=
  mayEnter_of (L := initSigns) (c := "cut".toList) (rest := (behindMainWord (wordsSigns initSigns)).tail) initList (by kernel_rfl) (by kernel_rfl) (by kernel_rfl) (by kernel_rfl) (by kernel_rfl) (by kernel_rfl)
theorem make_is : Try.pinned.checked.prog.make = some .cut :=
  make_of (L := initSigns) (rest := (behindMainWord (wordsSigns initSigns)).tail) initList (by kernel_rfl)
theorem lifts_is : Try.pinned.checked.prog.liftsFinal = false := by
  unfold Program.liftsFinal Program.headLifts
  rw [initList]
  kernel_rfl
end Go.Proofs.Ytefhljhpcpajgaa.Join
namespace Go.Proofs.Ytefhljhpcpajgaa.valueBounds
open Go.ChangeShapes Go.WideShapes Go.ChangeAt Go.RowKit Go.Proofs.YtefhljhpcpajgaaX Go.Proofs.Ytefhljhpcpajgaa.F Go.Proofs.YtefhljhpcpajgaaW.PrintWords Go.Proofs.YtefhljhpcpajgaaW.PrintLast Go.Proofs.YtefhljhpcpajgaaW.PrintMore
open Go.ChangeMaps (open_string shut_string)
set_option linter.unusedVariables false
set_option linter.unusedSimpArgs false
theorem own : ownKnob Try.prog.godebug = none := by kernel_rfl
theorem laidOut : laidOutB Try.prog = true := by kernel_rfl
set_option maxRecDepth 100000 in
theorem opens_k71 : Opens Try.prog 71 k71 (fun x => ((Lit.int .i64 x.f0).wf = true ∧ (Lit.int .i64 x.f1).wf = true ∧ (Lit.int .i64 x.f2).wf = true ∧ (Lit.int .i64 x.f3).wf = true ∧ (x.f4.length ≤ maxLen ∧ ∀ y ∈ x.f4, y.size ≤ maxLen))) := by
  intro H enc w base spare held fuel cs x h
  obtain ⟨hl, n, hf⟩ := field_reads Try.underlying71 h
  have hl2 : cs.length = 5 := hl.trans (by kernel_rfl)
  match cs, hl2 with
  | [c0, c1, c2, c3, c4], _ =>
    obtain ⟨y0, h0⟩ := hf 0 _ rfl
    have e0 : Try.prog.cellsOf 3 = 1 := by kernel_rfl
    (try dsimp only at h0)
    (try simp only [e0] at h0)
    obtain ⟨a0, k0, o0⟩ := (Opens.int Try.underlying3) h0
    have k0' : ((Kd.int .i64)).K w a0 [c0] := k0
    obtain ⟨y1, h1⟩ := hf 1 _ rfl
    have e1 : Try.prog.cellsOf 3 = 1 := by kernel_rfl
    (try dsimp only at h1)
    (try simp only [e1] at h1)
    obtain ⟨a1, k1, o1⟩ := (Opens.int Try.underlying3) h1
    have k1' : ((Kd.int .i64)).K w a1 [c1] := k1
    obtain ⟨y2, h2⟩ := hf 2 _ rfl
    have e2 : Try.prog.cellsOf 3 = 1 := by kernel_rfl
    (try dsimp only at h2)
    (try simp only [e2] at h2)
    obtain ⟨a2, k2, o2⟩ := (Opens.int Try.underlying3) h2
    have k2' : ((Kd.int .i64)).K w a2 [c2] := k2
    obtain ⟨y3, h3⟩ := hf 3 _ rfl
    have e3 : Try.prog.cellsOf 3 = 1 := by kernel_rfl
    (try dsimp only at h3)
    (try simp only [e3] at h3)
    obtain ⟨a3, k3, o3⟩ := (Opens.int Try.underlying3) h3
    have k3' : ((Kd.int .i64)).K w a3 [c3] := k3
    obtain ⟨y4, h4⟩ := hf 4 _ rfl
    have e4 : Try.prog.cellsOf 69 = 1 := by kernel_rfl
    (try dsimp only at h4)
    (try simp only [e4] at h4)
    obtain ⟨a4, k4, o4⟩ := (Opens.slice Try.underlying69 (by kernel_rfl) (Opens.string Try.underlying9)) h4
    have k4' : ((Kd.slice 9 Kd.string)).K w a4 [c4] := k4
    exact ⟨(⟨a0, a1, a2, a3, a4⟩ : S71), ⟨[c0], [c1, c2, c3, c4], rfl, k0', ⟨[c1], [c2, c3, c4], rfl, k1', ⟨[c2], [c3, c4], rfl, k2', ⟨[c3], [c4], rfl, k3', k4'⟩⟩⟩⟩, ⟨o0, o1, o2, o3, o4⟩⟩
set_option maxRecDepth 100000 in
theorem lifted (os : Os) (started : os.Started) (H : Type) (enc : TypeId × Value → H) :
    ReturnsInHanded {} Try.checked os 18 .any (Rows.valueBoundsSpec.pre6 enc Try.prog Try.f18 Rows.valueBoundsRow.domain false) (Rows.valueBoundsSpec.post enc Try.prog Try.f18 false true false false) := by
  refine returnsInHanded_of_change_sized (C := Try.checked) own started (by kernel_rfl) Try.func18
    (ChangeSpec.witness6 (enc := enc) (C := Try.checked) false ⟨#[], #[.agg #[.int .i64 0, .int .i64 0, .int .i64 0, .int .i64 0, .slice none 0 0], .int .i64 0, .slice none 0 0], []⟩ 8 (by kernel_rfl) (by kernel_rfl) (by kernel_rfl) (by kernel_rfl)) ?_
  intro W base args ds gs before hval0 hW hcnd hsz0 _
  have hval : ∀ (j : Nat) t v, Try.f18.params[j]? = some t → args[j]? = some v → Value.okWide Try.prog W .any base t v := hval0
  have hW' := hW
  obtain ⟨p, q, hA0, hV, rfl, hfz, hnd⟩ := hW
  have hA : DataW.TrodAll enc Try.prog W 0 (fun _ => true) true Try.f18.params.toList args.toList ds p := hA0
  rw [Try.params18] at hA hval
  obtain ⟨v0, vs0, d0, ds0, p0, q0, hargs, rfl, rfl, h0, r0⟩ := trodAll_cons hA
  obtain ⟨v1, vs1, d1, ds1, p1, q1, rfl, rfl, rfl, h1, r1⟩ := trodAll_cons r0
  obtain ⟨v2, vs2, d2, ds2, p2, q2, rfl, rfl, rfl, h2, r2⟩ := trodAll_cons r1
  obtain ⟨rfl, rfl, rfl⟩ := trodAll_nil r2
  obtain rfl : args = #[v0, v1, v2] := by cases args; simp_all
  obtain ⟨rfl, rfl⟩ := trodVars_none hV
  have k0 := h0
  have lt0 : ∀ x ∈ p0, x.block < W.heap.size := by obtain ⟨m, hm⟩ := k0; exact DataW.trod_lt m _ _ _ hm
  obtain ⟨cs0, rfl, _⟩ := okWide_struct Try.underlying71 (hval 0 71 v0 rfl rfl)
  obtain ⟨f0, hf0⟩ := h0
  obtain ⟨x0, hk0, ho0⟩ := opens_k71 hf0
  obtain ⟨A0_4, c0_4, he0, hl0_4, hc0_4⟩ := k71_open hk0
  obtain rfl : cs0 = _ := Array.toList_inj.1 (he0.trans (List.toList_toArray).symm)
  have k1 := h1
  have lt1 : ∀ x ∈ p1, x.block < W.heap.size := by obtain ⟨m, hm⟩ := k1; exact DataW.trod_lt m _ _ _ hm
  obtain ⟨x1, rfl⟩ := okWide_int Try.underlying3 (hval 1 3 v1 rfl rfl)
  obtain ⟨f1, hf1⟩ := h1
  obtain ⟨z1, hk1, ho1⟩ := (Opens.int Try.underlying3) hf1
  obtain rfl : x1 = z1 := by have := hk1; injection this with this; injection this
  have k2 := h2
  have lt2 : ∀ x ∈ p2, x.block < W.heap.size := by obtain ⟨m, hm⟩ := k2; exact DataW.trod_lt m _ _ _ hm
  obtain ⟨b2, len2, cap2, rfl⟩ := okWide_slice Try.underlying22 (hval 2 22 v2 rfl rfl)
  obtain ⟨f2, hf2⟩ := h2
  obtain ⟨x2, hk2, ho2⟩ := (Opens.slice Try.underlying22 (by kernel_rfl) (Opens.int Try.underlying3)) hf2
  obtain ⟨A2, c2, he2, hl2, hc2⟩ := slice_cells (show _ from hk2)
  injection he2 with e2_1 e2_2 e2_3
  subst e2_1 e2_2 e2_3
  obtain ⟨k, h⟩ : ∃ k, backhaullaw22_ValueBounds.f k x0.f0 x0.f1 x0.f2 x0.f3 x0.f4 x1 x2 = some true := Pure.ValueBounds x0.f0 x0.f1 x0.f2 x0.f3 x0.f4 x1 x2 ho0.1 ho0.2.1 ho0.2.2.1 ho0.2.2.2.1 ho0.2.2.2.2 ho1 ho2
  refine (backhaullaw22_ValueBounds.calls k x0.f0 x0.f1 x0.f2 x0.f3 (fun k_ => k_ < W.heap.size) _ _ x0.f4 x1 _ _ x2 W (Kd.V_mk hl0_4 (Kd.C_F Kd.heap_string hc0_4)) hc2 hl2 h).mono fun e W' hq => ?_
  obtain ⟨he, bel0⟩ := hq
  have bel : Below W.heap.size W W' := bel0
  subst he
  exact ⟨_, rfl, _, _, _, [], _, [], hW', trodAll_mk1 (shut_bool Try.underlying4 _), (trodAll_cons_mk (Below.trod laidOut (by kernel_rfl) (of_decide_eq_true (by kernel_rfl)) k0 bel lt0) (trodAll_cons_mk (Below.trod laidOut (by kernel_rfl) (of_decide_eq_true (by kernel_rfl)) k1 bel lt1) (trodAll_cons_mk (Below.trod laidOut (by kernel_rfl) (of_decide_eq_true (by kernel_rfl)) k2 bel lt2) trodAll_mk0))), rfl, bel.frame _, fun h => by cases h⟩
theorem closed_ : joinedFacts Try.pinned.checked.prog 18 Try.f18 Rows.valueBoundsSpec Rows.valueBoundsRow = true := by
  unfold joinedFacts
  repeat' (with_reducible apply band)
  any_goals with_reducible exact Join.mayEnter_is
  any_goals (rw [Join.make_is]; kernel_rfl)
  any_goals (rw [Join.lifts_is]; kernel_rfl)
  all_goals kernel_rfl
theorem over : Rows.valueBoundsRow.holds Try.pinned (OpenSpec.ofChange Rows.valueBoundsSpec) :=
  OpenClaim.holds_of_wide 18 Try.f18 rfl rfl rfl rfl rfl rfl rfl ⟨rfl, rfl, rfl, rfl, rfl⟩ rfl rfl rfl rfl rfl (by kernel_rfl) Try.func18 closed_
    (of_decide_eq_true (by kernel_rfl)) (by unfold Func.isWrapper; first | (rw [if_pos (by decide +kernel)]; kernel_rfl) | (rw [if_neg (by decide +kernel)]; exact ⟨rfl, rfl⟩))
    (fun os started H enc _ => lifted os started H enc)
theorem proved : Rows.ValueBoundsSaid := over
#print axioms proved
end Go.Proofs.Ytefhljhpcpajgaa.valueBounds
namespace Go.Proofs.Ytefhljhpcpajgaa
theorem valueBounds_holds : Rows.ValueBoundsSaid := valueBounds.proved
end Go.Proofs.Ytefhljhpcpajgaa
