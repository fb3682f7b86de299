-- merged and pruned by prune.py (the session's own program); its words go back to the kit's print
import Derived.Test.YtakkhomjpflkbaaProg
import Derived.Below
import Derived.Deep.Draws
import Derived.Deep.AppendLies
import Derived.Maps.AppendAt
import Derived.OwnWalk
import Derived.Laws.BytesArg
import Derived.Laws.MakeOwn
import Derived.Laws.OwnMore
import Derived.Deep.OwnRows
import Derived.Tactics
import Derived.Lib.ConvBytes
import Derived.Laws.Slices
import Derived.WalkKit
import Derived.KernelRfl
import Derived.RowKit3
import Derived.Deep.LoopGhost
import Derived.Deep.QuietTactic
import Derived.BigQuiet
import Derived.WideLaws
import Derived.Deep.DeepCutAuto
import Derived.Deep.CutBlock
import Derived.Deep.RegionHeld3
import Derived.Laws.Rows
import Derived.Lib.AppendStr
import Derived.ArgAppend
import Derived.Laws.IdiomCopy
import Derived.OrdersHeld
import Derived.Laws.BitsLemmas
import Derived.RowKit
import Derived.Laws.StructEq
import Derived.Deep.RegionLawGrows
import Derived.Lib.SliceRun
import Derived.Laws.CopyRow
import Derived.Laws.CopyOwn
import Derived.Lib.OthersKept
import Derived.Lib.RuneCount
import Derived.Laws.Cover4
import Derived.Outline
import Derived.Shelf.Strings.Builder1
import Derived.Shelf.Strings.BuilderF
import Derived.Shelf.Strings.BuilderK
import Derived.Shelf.Utf8.RuneCount
import Derived.Shelf.Strings.Prefix
import Derived.Maps.Own
import Derived.Maps.OwnOps
import Derived.Maps.Views
import Derived.StringKeys
import Derived.Carry
import Derived.Deep.Slices
import Derived.ChangeArms
import Derived.WideShapes
import Derived.OpenShut
import Derived.Test.YtakkhomjpflkbaaRows
import Derived.ProofKit
import Derived.ShutString
import Derived.ChangeOld
import Derived.SizedLaws
import Derived.Test.YtakkhomjpflkbaaZRmaTurns6
set_option linter.unusedVariables false
namespace Go.Proofs.Ytakkhomjpflkbaa.Q
open Go.RowKit Go.Proofs.Ytakkhomjpflkbaa.F Go.Proofs.YtakkhomjpflkbaaW.PrintWords Go.Proofs.YtakkhomjpflkbaaW.PrintLast Go.Proofs.YtakkhomjpflkbaaW.PrintMore
abbrev WT := S97
theorem rdW {l : List WT} {i : Nat} (h : i < l.length) : rd_T97 l (i : Int) = l[i] := by
  unfold rd_T97; simp [h]
def wOk (p : Int) (w : WT) : Bool := !(decide (w.f0 ≤ p) || decide (w.f0 ≥ 8) || decide (w.f1 < 1) || decide (w.f1 > 20) || decide (w.f2 < 0) || decide (w.f2 > w.f1))
theorem wOk_iff {p : Int} {w : WT} : wOk p w = true ↔ p < w.f0 ∧ w.f0 < 8 ∧ 1 ≤ w.f1 ∧ w.f1 ≤ 20 ∧ 0 ≤ w.f2 ∧ w.f2 ≤ w.f1 := by
  unfold wOk; simp only [Bool.not_eq_true', Bool.or_eq_false_iff, decide_eq_false_iff_not]; omega
def wantsOk : Int → List WT → Bool
  | _, [] => true
  | p, w :: r => wOk p w && wantsOk w.f0 r
theorem wantsOk_mem : ∀ (l : List WT) (p : Int), wantsOk p l = true → ∀ w ∈ l, p < w.f0 ∧ w.f0 < 8 ∧ 1 ≤ w.f1 ∧ w.f1 ≤ 20 ∧ 0 ≤ w.f2 ∧ w.f2 ≤ w.f1
  | [], p, _ => fun w h => by cases h
  | w :: r, p, h => fun x hx => by
    simp only [wantsOk, Bool.and_eq_true] at h
    have h1 := wOk_iff.1 h.1
    rcases List.mem_cons.1 hx with rfl | hx
    · exact h1
    have := wantsOk_mem r w.f0 h.2 x hx
    exact ⟨by omega, this.2⟩
def openL (l : List WT) : Bool := l.any fun w => decide (w.f2 < w.f1)
def partOk (a b c : Int) (l : List WT) : Bool := decide (1 ≤ a) && decide (a ≤ 999999) && decide (1 ≤ b) && decide (b ≤ 999999) && decide (0 ≤ c) && decide (c ≤ 1000000) && wantsOk (-1) l && decide (l ≠ [])
def stOk (s : Int) (l : List WT) : Bool := (decide (s = 1) && openL l) || (decide (s = 2) && !openL l) || decide (s = 3)
def checkR (a b c s : Int) (l : List WT) : Int := if partOk a b c l = true ∧ stOk s l = true then 0 else 40
theorem checkR_or (a b c s : Int) (l : List WT) : checkR a b c s l = 0 ∨ checkR a b c s l = 40 := by unfold checkR; split <;> simp
theorem check_wants {a b c s : Int} {l : List WT} (h : checkR a b c s l = 0) : wantsOk (-1) l = true := by
  unfold checkR at h
  by_cases g : partOk a b c l = true ∧ stOk s l = true
  · have := g.1; unfold partOk at this; simp only [Bool.and_eq_true] at this; exact this.1.2
  rw [if_neg g] at h; cases h
theorem wanted_l0 {l : List WT} (hl : l.length < 1000000) (d : Nat) : ∀ (i : Nat) (p : Int), l.length - i = d → i ≤ l.length → Ev (fun k => rma_wanted.l0 k l p l (l.length : Int) (i : Int)) (wantsOk p (l.drop i) && decide (l ≠ [])) := by
  induction d with
  | zero =>
    intro i p hd hi
    refine Ev.step (fun k => by simp only [rma_wanted.l0]; rfl) (Ev.neg (by omega) (Ev.ok ?_))
    rw [List.drop_eq_nil_of_le (by omega)]
    cases l <;> simp [wantsOk]
  | succ d ih =>
    intro i p hd hi
    have h : i < l.length := by omega
    refine Ev.step (fun k => by simp only [rma_wanted.l0]; rfl) (Ev.pos (by omega) (Ev.pos (by omega) (Ev.pos (by omega) ?_)))
    have ih' := ih (i + 1) l[i].f0 (by omega) (by omega)
    rw [rdW h, wrap_eq (x := (i : Int) + 1) (by omega) (by omega), drop_cons h]
    have bad : wOk p l[i] = false → (wantsOk p (l[i] :: l.drop (i + 1)) && decide (l ≠ [])) = false := fun h => by simp [wantsOk, h]
    have hb : ∀ {q : Prop} [Decidable q], q → (q → wOk p l[i] = false) → (false = (wantsOk p (l[i] :: l.drop (i + 1)) && decide (l ≠ []))) := fun hq hf => (bad (hf hq)).symm
    have hw : wOk p l[i] = false ↔ ¬ (p < l[i].f0 ∧ l[i].f0 < 8 ∧ 1 ≤ l[i].f1 ∧ l[i].f1 ≤ 20 ∧ 0 ≤ l[i].f2 ∧ l[i].f2 ≤ l[i].f1) := by rw [← wOk_iff]; simp
    refine Ev.ite (fun h1 => Ev.ok (hb h1 fun h1 => hw.2 (by omega))) (fun h1 => Ev.ite (fun h2 => Ev.ok (hb h2 fun h1 => hw.2 (by omega))) (fun h2 => Ev.ite (fun h3 => Ev.ok (hb h3 fun h1 => hw.2 (by omega))) (fun h3 => Ev.ite (fun h4 => Ev.ok (hb h4 fun h1 => hw.2 (by omega))) (fun h4 => Ev.ite (fun h5 => Ev.ok (hb h5 fun h1 => hw.2 (by omega))) (fun h5 => Ev.ite (fun h6 => Ev.ok (hb h6 fun h1 => hw.2 (by omega))) (fun h6 => ?_))))))
    refine Ev.eq ih' ?_
    rw [wantsOk, wOk_iff.2 (by omega), Bool.true_and]
theorem wanted_f {l : List WT} (hl : l.length < 1000000) : Ev (fun k => rma_wanted.f k l) (wantsOk (-1) l && decide (l ≠ [])) := by
  unfold rma_wanted.f
  exact wanted_l0 hl l.length 0 (-1) (by omega) (by omega)
theorem id_f (a : Int) : rma_id.f a = some (decide (1 ≤ a) && decide (a ≤ 999999)) := by
  unfold rma_id.f
  by_cases h : 1 ≤ a
  · rw [if_pos (by omega)]; simp [h]
  rw [if_neg (by omega)]; simp [h]
theorem time_f (a : Int) : policy_Time.f a = some (decide (0 ≤ a) && decide (a ≤ 1000000)) := by
  unfold policy_Time.f policy_span_has.f
  by_cases h : 0 ≤ a
  · rw [if_pos (by omega)]; simp [h]
  rw [if_neg (by omega)]; simp [h]
def firstI (p : WT → Bool) (l : List WT) : Int := match l.findIdx? p with
  | some i => i
  | none => -1
theorem firstI_at {p : WT → Bool} {l : List WT} {i : Nat} (h : i < l.length) (hp : p l[i] = true) (hn : ∀ j (hj : j < l.length), j < i → p l[j] = false) : firstI p l = i := by
  unfold firstI
  rw [List.findIdx?_eq_some_iff_getElem.2 ⟨h, hp, fun j hj => by simpa using hn j (by omega) hj⟩]
theorem firstI_none {p : WT → Bool} {l : List WT} (hn : ∀ j (hj : j < l.length), p l[j] = false) : firstI p l = -1 := by
  unfold firstI
  rw [List.findIdx?_eq_none_iff.2 (fun x hx => by obtain ⟨j, hj, rfl⟩ := List.mem_iff_getElem.1 hx; exact hn j hj)]
theorem firstI_cases (p : WT → Bool) (l : List WT) : (firstI p l = -1 ∧ ∀ j (hj : j < l.length), p l[j] = false) ∨ ∃ (i : Nat) (h : i < l.length), firstI p l = i ∧ p l[i] = true ∧ ∀ j (hj : j < l.length), j < i → p l[j] = false := by
  unfold firstI
  cases e : l.findIdx? p with
  | none => exact .inl ⟨rfl, fun j hj => List.findIdx?_eq_none_iff.1 e _ (List.getElem_mem hj)⟩
  | some i =>
    obtain ⟨h, hp, hn⟩ := List.findIdx?_eq_some_iff_getElem.1 e
    exact .inr ⟨i, h, rfl, hp, fun j hj hji => by simpa using hn j hji⟩
theorem waits_l0 {l : List WT} (hl : l.length < 1000000) (d : Nat) : ∀ (i : Nat), l.length - i = d → i ≤ l.length → (∀ j (hj : j < l.length), j < i → decide (l[j].f2 < l[j].f1) = false) → Ev (fun k => slices_IndexFunc_rma_waits.l0 k l (l.length : Int) (i : Int)) (firstI (fun w => decide (w.f2 < w.f1)) l) := by
  induction d with
  | zero =>
    intro i hd hi hn
    refine Ev.step (fun k => by simp only [slices_IndexFunc_rma_waits.l0]; rfl) (Ev.neg (by omega) (Ev.ok ?_))
    rw [firstI_none (fun j hj => hn j hj (by omega))]
  | succ d ih =>
    intro i hd hi hn
    have h : i < l.length := by omega
    refine Ev.step (fun k => by simp only [slices_IndexFunc_rma_waits.l0]; rfl) (Ev.pos (by omega) (Ev.pos (by omega) (Ev.pos (by omega) ?_)))
    rw [rdW h, wrap_eq (x := (i : Int) + 1) (by omega) (by omega)]
    refine Ev.bindc (a := decide (l[i].f2 < l[i].f1)) rfl (Ev.ite (fun h1 => Ev.ok ?_) (fun h1 => ih (i + 1) (by omega) (by omega) fun j hj hji => ?_))
    · rw [firstI_at h h1 hn]
    by_cases e : j = i
    · subst e; simpa using h1
    exact hn j hj (by omega)
theorem has_waits_f {l : List WT} (hl : l.length < 1000000) : Ev (fun k => slices_ContainsFunc_rma_waits.f k l) (openL l) := by
  unfold slices_ContainsFunc_rma_waits.f slices_IndexFunc_rma_waits.f
  refine Ev.bind (waits_l0 hl l.length 0 (by omega) (by omega) (fun j hj h => by omega)) (Ev.ok ?_)
  rcases firstI_cases (fun w => decide (w.f2 < w.f1)) l with ⟨h, hn⟩ | ⟨i, hi, h, hp, _⟩
  · rw [h]
    have : openL l = false := by
      unfold openL
      rw [List.any_eq_false]
      intro x hx
      obtain ⟨j, hj, rfl⟩ := List.mem_iff_getElem.1 hx
      simpa using hn j hj
    rw [this]; rfl
  rw [h]
  have : openL l = true := List.any_eq_true.2 ⟨l[i], List.getElem_mem hi, hp⟩
  rw [this]; simp
theorem part_iff {a b c : Int} {l : List WT} : partOk a b c l = true ↔ 1 ≤ a ∧ a ≤ 999999 ∧ 1 ≤ b ∧ b ≤ 999999 ∧ 0 ≤ c ∧ c ≤ 1000000 ∧ wantsOk (-1) l = true ∧ l ≠ [] := by
  unfold partOk; simp only [Bool.and_eq_true, decide_eq_true_eq, and_assoc]
theorem rma_check_f {a b c s : Int} {l : List WT} (hl : l.length < 1000000) : Ev (fun k => rma_Check.f k a b c s l) (checkR a b c s l) := by
  unfold rma_Check.f
  have bad : partOk a b c l = false → Ev (fun k => rma_Check.j0 k true a b c s l) (checkR a b c s l) := fun h =>
    Ev.step (fun k => by simp only [rma_Check.j0]; rfl) (Ev.pos (by trivial) (Ev.ok (by unfold checkR; rw [if_neg (fun g => by rw [h] at g; cases g.1)])))
  refine Ev.bindc (id_f a) (Ev.ite (fun h1 => ?_) (fun h1 => bad (Bool.eq_false_iff.2 fun g => h1 (by have := part_iff.1 g; simp; omega))))
  refine Ev.bindc (id_f b) (Ev.ite (fun h2 => ?_) (fun h2 => bad (Bool.eq_false_iff.2 fun g => h2 (by have := part_iff.1 g; simp; omega))))
  refine Ev.bindc (time_f c) (Ev.ite (fun h3 => ?_) (fun h3 => bad (Bool.eq_false_iff.2 fun g => h3 (by have := part_iff.1 g; simp; omega))))
  refine Ev.bind (wanted_f hl) ?_
  have hp : partOk a b c l = (wantsOk (-1) l && decide (l ≠ [])) := by
    simp only [Bool.and_eq_true, decide_eq_true_eq] at h1 h2 h3
    unfold partOk
    simp [h1, h2, h3]
  cases hw : (wantsOk (-1) l && decide (l ≠ [])) with
  | false => exact bad (by rw [hp, hw])
  | true =>
    rw [hw] at hp
    have ok : ∀ r : Int, r = (if stOk s l = true then 0 else 40) → r = checkR a b c s l := fun r h => by rw [h]; unfold checkR; simp [hp]
    refine Ev.step (fun k => by simp only [rma_Check.j0]; rfl) (Ev.neg (by simp) ?_)
    refine Ev.bind (has_waits_f hl) ?_
    have j2 : ∀ x : Bool, (x = true → stOk s l = true) → (x = false → stOk s l = decide (s = 3)) → Ev (fun k => rma_Check.j2 k x a b c s l) (checkR a b c s l) := fun x h1 h2 =>
      Ev.step (fun k => by simp only [rma_Check.j2]; rfl) (Ev.ite (fun h => Ev.ok (ok _ (by rw [if_pos (h1 h)]))) (fun h => Ev.ite (fun h3 => Ev.ok (ok _ (by rw [h2 (by simpa using h)]; simp [h3]))) (fun h3 => Ev.ok (ok _ (by rw [h2 (by simpa using h)]; simp [h3])))))
    have j1 : ∀ x : Bool, (x = true → stOk s l = true) → (x = false → ¬ (s = 1 ∧ openL l = true)) → Ev (fun k => rma_Check.j1 k (openL l) x a b c s l) (checkR a b c s l) := fun x h1 h2 =>
      Ev.step (fun k => by simp only [rma_Check.j1]; rfl) (Ev.ite (fun h => Ev.ok (ok _ (by rw [if_pos (h1 h)]))) (fun h => by
        have hx := h2 (by simpa using h)
        refine Ev.ite (fun h3 => j2 _ (fun h4 => ?_) (fun h4 => ?_)) (fun h3 => j2 _ (fun h4 => ?_) (fun h4 => ?_))
        · unfold stOk; simp_all
        · unfold stOk; simp_all
        · cases h4
        unfold stOk; cases ho : openL l <;> simp_all))
    refine Ev.ite (fun h4 => j1 _ (fun h5 => ?_) (fun h5 => ?_)) (fun h4 => j1 _ (fun h5 => ?_) (fun h5 => ?_))
    · unfold stOk; simp_all
    · simp_all
    · cases h5
    simp_all
def placeR (l : List WT) (line : Int) : Int := firstI (fun w => decide (w.f0 = line)) l
theorem open_l0 {l : List WT} {line : Int} (hl : l.length < 1000000) (d : Nat) : ∀ (i : Nat), l.length - i = d → i ≤ l.length → (∀ j (hj : j < l.length), j < i → decide (l[j].f0 = line) = false) → Ev (fun k => slices_IndexFunc_rma_open_1_v3.l0 k l (l.length : Int) (i : Int) line) (placeR l line) := by
  induction d with
  | zero =>
    intro i hd hi hn
    refine Ev.step (fun k => by simp only [slices_IndexFunc_rma_open_1_v3.l0]; rfl) (Ev.neg (by omega) (Ev.ok ?_))
    rw [placeR, firstI_none (fun j hj => hn j hj (by omega))]
  | succ d ih =>
    intro i hd hi hn
    have h : i < l.length := by omega
    refine Ev.step (fun k => by simp only [slices_IndexFunc_rma_open_1_v3.l0]; rfl) (Ev.pos (by omega) (Ev.pos (by omega) (Ev.pos (by omega) ?_)))
    rw [rdW h, wrap_eq (x := (i : Int) + 1) (by omega) (by omega)]
    refine Ev.bindc (a := decide (l[i].f0 = line)) (by unfold rma_open_1_v3.f; rfl) (Ev.ite (fun h1 => Ev.ok ?_) (fun h1 => ih (i + 1) (by omega) (by omega) fun j hj hji => ?_))
    · rw [placeR, firstI_at h h1 hn]
    by_cases e : j = i
    · subst e; simpa using h1
    exact hn j hj (by omega)
abbrev T6 := Int × Int × Int × Int × List WT × Int
def noT (e : Int) : T6 := (0, 0, 0, 0, [], e)
theorem open_f {a b c s line : Int} {l : List WT} (hl : l.length < 1000000) : Ev (fun k => rma_open.f k a b c s l line) (if checkR a b c s l = 0 then (if s = 1 then (a, b, c, s, l, placeR l line, 0) else (0, 0, 0, 0, [], 0, 33)) else (0, 0, 0, 0, [], 0, checkR a b c s l)) := by
  unfold rma_open.f
  refine Ev.bind (rma_check_f hl) (Ev.ite (fun h1 => Ev.ite (fun h2 => Ev.pos (by omega) (Ev.pos (by omega) (Ev.pos (by simp) ?_))) (fun h2 => Ev.ok ?_)) (fun h1 => Ev.ok ?_))
  · refine Ev.bindc (a := l) rfl ?_
    unfold slices_IndexFunc_rma_open_1_v3.f
    refine Ev.bind (open_l0 hl l.length 0 (by omega) (by omega) (fun j hj h => by omega)) (Ev.ok ?_)
    rw [if_pos h1, if_pos h2]
  · rw [if_pos h1, if_neg h2]
  rw [if_neg h1]
def closeR (a b c s : Int) (l : List WT) : Int × Int × Int × Int × List WT := (a, b, c, if openL l = true then s else 2, l)
theorem closed_f {a b c s : Int} {l : List WT} (hl : l.length < 1000000) : Ev (fun k => rma_closed.f k a b c s l) (closeR a b c s l) := by
  unfold rma_closed.f closeR
  refine Ev.bind (has_waits_f hl) (Ev.ite (fun h => Ev.ok (by rw [if_pos h])) (fun h => Ev.ok (by rw [if_neg h])))
theorem place_cases (l : List WT) (line : Int) : (placeR l line = -1 ∧ ∀ j (hj : j < l.length), l[j].f0 ≠ line) ∨ ∃ (i : Nat) (h : i < l.length), placeR l line = i ∧ l[i].f0 = line ∧ ∀ j (hj : j < l.length), j < i → l[j].f0 ≠ line := by
  rcases firstI_cases (fun w => decide (w.f0 = line)) l with ⟨h, hn⟩ | ⟨i, h, e, hp, hn⟩
  · exact .inl ⟨h, fun j hj => by simpa using hn j hj⟩
  exact .inr ⟨i, h, e, by simpa using hp, fun j hj hji => by simpa using hn j hj hji⟩
def withR (a b c s : Int) (l : List WT) (i : Nat) (w : WT) : T6 := ((closeR a b c s (l.set i w)).1, (closeR a b c s (l.set i w)).2.1, (closeR a b c s (l.set i w)).2.2.1, (closeR a b c s (l.set i w)).2.2.2.1, (closeR a b c s (l.set i w)).2.2.2.2, 0)
def gotAt (l : List WT) (i : Nat) : WT := l.getD i ⟨0, 0, 0⟩
def amendR (a b c s : Int) (l : List WT) (line qty : Int) : T6 :=
  if checkR a b c s l = 0 then (if s = 1 then (if placeR l line < 0 then noT 31 else (if qty < 1 ∨ qty > 20 ∨ qty < (gotAt l (placeR l line).toNat).f2 then noT 34 else
    withR a b c s l (placeR l line).toNat ⟨(gotAt l (placeR l line).toNat).f0, qty, (gotAt l (placeR l line).toNat).f2⟩)) else noT 33) else noT 40
def takeR (a b c s : Int) (l : List WT) (line : Int) : T6 :=
  if checkR a b c s l = 0 then (if s = 1 then (if placeR l line < 0 then noT 31 else (if ¬ (gotAt l (placeR l line).toNat).f2 < (gotAt l (placeR l line).toNat).f1 then noT 34 else
    withR a b c s l (placeR l line).toNat ⟨(gotAt l (placeR l line).toNat).f0, (gotAt l (placeR l line).toNat).f1, (gotAt l (placeR l line).toNat).f2 + 1⟩)) else noT 33) else noT 40
def cancelR (a b c s : Int) (l : List WT) : T6 := if checkR a b c s l = 0 then (if s = 1 then (a, b, c, 3, l, 0) else noT 33) else noT 40
def expireR (a b c s : Int) (l : List WT) (now : Int) : Int × Int × Int × Int × List WT := (a, b, c, if checkR a b c s l = 0 ∧ s = 1 ∧ now > c then 3 else s, l)
theorem gotAt_eq {l : List WT} {i : Nat} (h : i < l.length) : gotAt l i = l[i] := by unfold gotAt; simp [List.getD_eq_getElem?_getD, h]
theorem amend_f {a b c s line qty : Int} {l : List WT} (hl : l.length < 1000000) : Ev (fun k => rma_Amend.f k a b c s l line qty) (amendR a b c s l line qty) := by
  unfold rma_Amend.f amendR
  refine Ev.bind (open_f hl) ?_
  by_cases h1 : checkR a b c s l = 0
  · rw [if_pos h1, if_pos h1]
    by_cases h2 : s = 1
    · rw [if_pos h2, if_pos h2]
      refine Ev.pos rfl ?_
      rcases place_cases l line with ⟨e, _⟩ | ⟨i, hi, e, _⟩
      · rw [e]
        exact Ev.pos (show (-1 : Int) < 0 by decide) (Ev.ok rfl)
      rw [e, if_neg (show ¬ (i : Int) < 0 by omega)]
      simp only [Int.toNat_natCast]
      rw [gotAt_eq hi, rdW hi]
      refine Ev.neg (by omega) (Ev.ite (fun h3 => Ev.ok (by rw [if_pos (.inl h3)]; rfl)) (fun h3 => Ev.ite (fun h4 => Ev.ok (by rw [if_pos (.inr (.inl h4))]; rfl)) (fun h4 => Ev.pos (by omega) (Ev.pos (by omega) (Ev.ite (fun h5 => Ev.ok (by rw [if_pos (.inr (.inr h5))]; rfl)) (fun h5 => ?_))))))
      rw [if_neg (by omega)]
      exact Ev.bind (closed_f (by simpa using hl)) (Ev.ok rfl)
    rw [if_neg h2, if_neg h2]
    exact Ev.neg (by decide) (Ev.ok rfl)
  rw [if_neg h1, if_neg h1]
  have e := (checkR_or a b c s l).resolve_left h1
  rw [e]
  exact Ev.neg (by decide) (Ev.ok rfl)
theorem take_f {a b c s line : Int} {l : List WT} (hl : l.length < 1000000) : Ev (fun k => rma_Take.f k a b c s l line) (takeR a b c s l line) := by
  unfold rma_Take.f takeR
  refine Ev.bind (open_f hl) ?_
  by_cases h1 : checkR a b c s l = 0
  · rw [if_pos h1, if_pos h1]
    have hw := check_wants h1
    by_cases h2 : s = 1
    · rw [if_pos h2, if_pos h2]
      refine Ev.pos rfl ?_
      rcases place_cases l line with ⟨e, _⟩ | ⟨i, hi, e, _⟩
      · rw [e]
        exact Ev.pos (show (-1 : Int) < 0 by decide) (Ev.ok rfl)
      rw [e, if_neg (show ¬ (i : Int) < 0 by omega)]
      simp only [Int.toNat_natCast]
      rw [gotAt_eq hi, rdW hi]
      have hm := wantsOk_mem l (-1) hw l[i] (List.getElem_mem hi)
      rw [wrap_eq (x := l[i].f2 + 1) (by omega) (by omega)]
      refine Ev.neg (by omega) (Ev.pos (by omega) (Ev.pos (by omega) ?_))
      refine Ev.bindc (a := decide (l[i].f2 < l[i].f1)) rfl (Ev.ite (fun h3 => ?_) (fun h3 => Ev.ok (by rw [if_pos (by simpa using h3)]; rfl)))
      rw [if_neg (by simpa using h3)]
      exact Ev.bind (closed_f (by simpa using hl)) (Ev.ok rfl)
    rw [if_neg h2, if_neg h2]
    exact Ev.neg (by decide) (Ev.ok rfl)
  rw [if_neg h1, if_neg h1]
  have e := (checkR_or a b c s l).resolve_left h1
  rw [e]
  exact Ev.neg (by decide) (Ev.ok rfl)
theorem cancel_f {a b c s : Int} {l : List WT} (hl : l.length < 1000000) : Ev (fun k => rma_Cancel.f k a b c s l) (cancelR a b c s l) := by
  unfold rma_Cancel.f cancelR
  refine Ev.bind (open_f hl) ?_
  by_cases h1 : checkR a b c s l = 0
  · rw [if_pos h1, if_pos h1]
    by_cases h2 : s = 1
    · rw [if_pos h2, if_pos h2]
      exact Ev.pos rfl (Ev.ok rfl)
    rw [if_neg h2, if_neg h2]
    exact Ev.neg (by decide) (Ev.ok rfl)
  have e := (checkR_or a b c s l).resolve_left h1
  rw [if_neg h1, if_neg h1, if_neg h1]
  exact Ev.ok (by rw [e]; rfl)
theorem expire_f {a b c s now : Int} {l : List WT} (hl : l.length < 1000000) : Ev (fun k => rma_Expire.f k a b c s l now) (expireR a b c s l now) := by
  unfold rma_Expire.f expireR
  refine Ev.bind (rma_check_f hl) (Ev.ite (fun h1 => Ev.ite (fun h2 => Ev.ite (fun h3 => Ev.ok ?_) (fun h3 => Ev.ok ?_)) (fun h2 => Ev.ok ?_)) (fun h1 => Ev.ok ?_))
  · rw [if_pos ⟨h1, h2, h3⟩]
  · rw [if_neg (fun h => h3 h.2.2)]
  · rw [if_neg (fun h => h2 h.2.1)]
  rw [if_neg (fun h => h1 h.1)]
instance : DecidableEq WT := fun x y => decidable_of_iff (x.f0 = y.f0 ∧ x.f1 = y.f1 ∧ x.f2 = y.f2) (by cases x; cases y; simp)
theorem want_eq (x y : WT) : (!(x.f0 == y.f0) || (!(x.f1 == y.f1) || !(x.f2 == y.f2))) = decide (x ≠ y) := by
  rw [Bool.eq_iff_iff]
  cases x with | mk a b c => cases y with | mk d e f =>
  by_cases h0 : a = d <;> by_cases h1 : b = e <;> by_cases h2 : c = f <;> simp [h0, h1, h2]
def sameR (a b c s : Int) (l : List WT) (a' b' c' s' : Int) (l' : List WT) : Bool := decide (a = a' ∧ b = b' ∧ c = c' ∧ s = s' ∧ l = l')
theorem drop_eq {l l' : List WT} {i : Nat} (h : i < l.length) (h' : i < l'.length) : (l.drop i = l'.drop i) ↔ (l[i] = l'[i] ∧ l.drop (i + 1) = l'.drop (i + 1)) := by
  rw [drop_cons h, drop_cons h', List.cons.injEq]
theorem ref_same_l0 {a b c s a' b' c' s' : Int} {l l' : List WT} (hl : l.length < 1000000) (he : l.length = l'.length) (d : Nat) : ∀ (i : Nat), l.length - i = d → i ≤ l.length → Ev (fun k => backhaulref27_Same.l0 k (i : Int) a b c s l a' b' c' s' l') (decide (l.drop i = l'.drop i)) := by
  induction d with
  | zero =>
    intro i hd hi
    refine Ev.step (fun k => by simp only [backhaulref27_Same.l0]; rfl) (Ev.neg (by omega) (Ev.ok ?_))
    rw [List.drop_eq_nil_of_le (by omega), List.drop_eq_nil_of_le (by omega)]; rfl
  | succ d ih =>
    intro i hd hi
    have h : i < l.length := by omega
    have h' : i < l'.length := by omega
    refine Ev.step (fun k => by simp only [backhaulref27_Same.l0]; rfl) (Ev.pos (by omega) (Ev.pos (by omega) (Ev.pos (by omega) ?_)))
    rw [rdW h, rdW h', wrap_eq (x := (i : Int) + 1) (by omega) (by omega), want_eq]
    refine Ev.ite (fun h1 => Ev.ok ?_) (fun h1 => Ev.eq (ih (i + 1) (by omega) (by omega)) ?_)
    · have h1 : l[i] ≠ l'[i] := of_decide_eq_true h1
      rw [decide_eq_false]
      rw [drop_eq h h']
      exact fun h => h1 h.1
    have h1 : l[i] = l'[i] := by simpa using h1
    congr 1
    rw [drop_eq h h']
    exact propext ⟨fun h => ⟨h1, h⟩, fun h => h.2⟩
theorem ref_same_f {a b c s a' b' c' s' : Int} {l l' : List WT} (hl : l.length < 1000000) : Ev (fun k => backhaulref27_Same.f k a b c s l a' b' c' s' l') (sameR a b c s l a' b' c' s' l') := by
  unfold backhaulref27_Same.f
  have bad : ¬ (a = a' ∧ b = b' ∧ c = c' ∧ s = s' ∧ l = l') → Ev (fun k => backhaulref27_Same.j0 k true a b c s l a' b' c' s' l') (sameR a b c s l a' b' c' s' l') := fun h =>
    Ev.step (fun k => by simp only [backhaulref27_Same.j0]; rfl) (Ev.pos (by trivial) (Ev.ok (decide_eq_false h).symm))
  refine Ev.ite (fun h1 => Ev.ite (fun h2 => Ev.ite (fun h3 => Ev.ite (fun h4 => ?_) (fun h4 => bad fun h => h4 h.2.2.2.1)) (fun h3 => bad fun h => h3 h.2.2.1)) (fun h2 => bad fun h => h2 h.2.1)) (fun h1 => bad fun h => h1 h.1)
  by_cases he : l.length = l'.length
  · have e : ((l.length : Int) != (l'.length : Int)) = false := by simp [he]
    rw [e]
    refine Ev.step (fun k => by simp only [backhaulref27_Same.j0]; rfl) (Ev.neg (by simp) (Ev.eq (ref_same_l0 hl he l.length 0 (by omega) (by omega)) ?_))
    unfold sameR
    rw [List.drop_zero, List.drop_zero]
    congr 1
    exact propext ⟨fun h => ⟨h1, h2, h3, h4, h⟩, fun h => h.2.2.2.2⟩
  have e : ((l.length : Int) != (l'.length : Int)) = true := by simp; omega
  rw [e]
  exact bad fun h => he (by rw [h.2.2.2.2])
theorem sameR_self (a b c s : Int) (l : List WT) : sameR a b c s l a b c s l = true := by unfold sameR; simp
theorem wantsOk_set : ∀ (l : List WT) (p : Int), wantsOk p l = true → ∀ i (hi : i < l.length) (w : WT), w.f0 = l[i].f0 → 1 ≤ w.f1 → w.f1 ≤ 20 → 0 ≤ w.f2 → w.f2 ≤ w.f1 → wantsOk p (l.set i w) = true
  | [], _, _, i, hi, _, _, _, _, _, _ => absurd hi (by simp)
  | x :: r, p, h, i, hi, w, h0, h1, h2, h3, h4 => by
    simp only [wantsOk, Bool.and_eq_true] at h
    have hx := wOk_iff.1 h.1
    rcases i with _ | i
    · simp only [List.getElem_cons_zero] at h0
      simp only [List.set_cons_zero, wantsOk, Bool.and_eq_true]
      rw [h0]
      exact ⟨wOk_iff.2 ⟨by omega, by omega, h1, h2, h3, h4⟩, h.2⟩
    simp only [List.getElem_cons_succ] at h0
    simp only [List.set_cons_succ, wantsOk, Bool.and_eq_true]
    exact ⟨h.1, wantsOk_set r x.f0 h.2 i (by simpa using hi) w h0 h1 h2 h3 h4⟩
theorem check_part {a b c s : Int} {l : List WT} (h : checkR a b c s l = 0) : partOk a b c l = true ∧ stOk s l = true := by
  unfold checkR at h; split at h
  · assumption
  cases h
theorem check_mk {a b c s : Int} {l : List WT} (h : partOk a b c l = true) (g : stOk s l = true) : checkR a b c s l = 0 := by
  unfold checkR; rw [if_pos ⟨h, g⟩]
theorem part_set {a b c : Int} {l : List WT} (h : partOk a b c l = true) {i : Nat} (hi : i < l.length) (w : WT) (h0 : w.f0 = l[i].f0) (h1 : 1 ≤ w.f1) (h2 : w.f1 ≤ 20) (h3 : 0 ≤ w.f2) (h4 : w.f2 ≤ w.f1) : partOk a b c (l.set i w) = true := by
  unfold partOk at *
  simp only [Bool.and_eq_true, decide_eq_true_eq] at *
  refine ⟨⟨h.1.1, wantsOk_set l (-1) h.1.2 i hi w h0 h1 h2 h3 h4⟩, ?_⟩
  intro e
  have := congrArg List.length e
  simp at this
  exact h.2 this
theorem close_check {a b c s : Int} {l : List WT} (h : partOk a b c l = true) (hs : s = 1) : checkR (closeR a b c s l).1 (closeR a b c s l).2.1 (closeR a b c s l).2.2.1 (closeR a b c s l).2.2.2.1 (closeR a b c s l).2.2.2.2 = 0 := by
  unfold closeR
  refine check_mk h ?_
  unfold stOk
  subst hs
  cases openL l <;> simp
end Go.Proofs.Ytakkhomjpflkbaa.Q
set_option linter.unusedVariables false
namespace Go.Proofs.Ytakkhomjpflkbaa.Q
open Go.RowKit Go.Proofs.Ytakkhomjpflkbaa.F Go.Proofs.YtakkhomjpflkbaaW.PrintWords Go.Proofs.YtakkhomjpflkbaaW.PrintLast Go.Proofs.YtakkhomjpflkbaaW.PrintMore
def keptL (l l' : List WT) : Prop := l.length = l'.length ∧ ∀ i (h : i < l.length) (h' : i < l'.length), l[i].f0 = l'[i].f0 ∧ l[i].f2 ≤ l'[i].f2
theorem keptL_refl (l : List WT) : keptL l l := ⟨rfl, fun i h h' => ⟨rfl, Int.le_refl _⟩⟩
theorem kept_l0 {a b c s a' b' c' s' : Int} {l l' : List WT} (hl : l.length < 1000000) (hk : keptL l l') (d : Nat) : ∀ (i : Nat), l.length - i = d → i ≤ l.length → Ev (fun k => backhaullaw27_kept.l0 k (i : Int) a b c s l a' b' c' s' l') true := by
  induction d with
  | zero =>
    intro i hd hi
    exact Ev.step (fun k => by simp only [backhaullaw27_kept.l0]; rfl) (Ev.neg (by omega) (Ev.ok rfl))
  | succ d ih =>
    intro i hd hi
    have he := hk.1
    have h : i < l.length := by omega
    have h' : i < l'.length := by omega
    refine Ev.step (fun k => by simp only [backhaullaw27_kept.l0]; rfl) (Ev.pos (by omega) (Ev.pos (by omega) (Ev.pos (by omega) ?_)))
    rw [rdW h, rdW h', wrap_eq (x := (i : Int) + 1) (by omega) (by omega)]
    have := hk.2 i h h'
    exact Ev.pos this.1 (Ev.neg (by omega) (ih (i + 1) (by omega) (by omega)))
theorem kept_f {a b c s s' : Int} {l l' : List WT} (hl : l.length < 1000000) (hk : keptL l l') : Ev (fun k => backhaullaw27_kept.f k a b c s l a b c s' l') true := by
  unfold backhaullaw27_kept.f
  refine Ev.pos rfl (Ev.pos rfl (Ev.pos rfl ?_))
  have e : ((l.length : Int) != (l'.length : Int)) = false := by simp [hk.1]
  rw [e]
  refine Ev.step (fun k => by simp only [backhaullaw27_kept.j0]; rfl) (Ev.neg (by simp) ?_)
  exact kept_l0 hl hk l.length 0 (by omega) (by omega)
def turned (a b c : Int) (l : List WT) (r : T6) : Prop :=
  (r.2.2.2.2.2 = 0 → checkR r.1 r.2.1 r.2.2.1 r.2.2.2.1 r.2.2.2.2.1 = 0 ∧ r.1 = a ∧ r.2.1 = b ∧ r.2.2.1 = c ∧ keptL l r.2.2.2.2.1 ∧ r.2.2.2.2.1.length < 1000000) ∧ (r.2.2.2.2.2 ≠ 0 → r.2.2.2.2.1 = [])
theorem turned_no {a b c e : Int} {l : List WT} (he : e ≠ 0) : turned a b c l (noT e) := ⟨fun h => absurd h he, fun _ => rfl⟩
theorem turn_body {a b c s : Int} {l : List WT} {r : T6} (hl : l.length < 1000000) (h : turned a b c l r) (he : r.2.2.2.2.2 = 0) {nx : Nat → Option Bool} (hn : Ev nx true) :
    Ev (fun k => (rma_Check.f k r.1 r.2.1 r.2.2.1 r.2.2.2.1 r.2.2.2.2.1).bind fun t => (if t = 0 then ((backhaullaw27_kept.f k a b c s l r.1 r.2.1 r.2.2.1 r.2.2.2.1 r.2.2.2.2.1).bind fun t' => (if t' = true then nx k else some false)) else some false)) true := by
  obtain ⟨h1, h2, h3, h4, h5, h6⟩ := h.1 he
  refine Ev.bind (rma_check_f h6) (Ev.pos h1 ?_)
  rw [h2, h3, h4]
  exact Ev.bind (kept_f hl h5) (Ev.pos rfl hn)
theorem turn_step {a b c s : Int} {l : List WT} {r : T6} (hl : l.length < 1000000) (h : turned a b c l r) {nx : Nat → Option Bool} (hn : Ev nx true) :
    Ev (fun k => if r.2.2.2.2.2 = 0 then ((rma_Check.f k r.1 r.2.1 r.2.2.1 r.2.2.2.1 r.2.2.2.2.1).bind fun t => (if t = 0 then ((backhaullaw27_kept.f k a b c s l r.1 r.2.1 r.2.2.1 r.2.2.2.1 r.2.2.2.2.1).bind fun t' => (if t' = true then nx k else some false)) else some false)) else (if (r.2.2.2.2.1.length : Int) = 0 then nx k else some false)) true :=
  Ev.ite (fun he => turn_body hl h he hn) (fun he => Ev.pos (by rw [h.2 he]; rfl) hn)
theorem set_kept {l : List WT} {i : Nat} (hi : i < l.length) (w : WT) (h0 : w.f0 = l[i].f0) (h2 : l[i].f2 ≤ w.f2) : keptL l (l.set i w) := by
  refine ⟨by simp, fun j h h' => ?_⟩
  rw [List.getElem_set]
  split
  · rename_i e; subst e; exact ⟨h0.symm, h2⟩
  exact ⟨rfl, Int.le_refl _⟩
theorem with_turned {a b c s : Int} {l : List WT} (hl : l.length < 1000000) (hp : partOk a b c l = true) (hs : s = 1) {i : Nat} (hi : i < l.length) (w : WT) (h0 : w.f0 = l[i].f0) (h1 : 1 ≤ w.f1) (h2 : w.f1 ≤ 20) (h3 : 0 ≤ w.f2) (h4 : w.f2 ≤ w.f1) (hg : l[i].f2 ≤ w.f2) : turned a b c l (withR a b c s l i w) :=
  ⟨fun _ => ⟨close_check (part_set hp hi w h0 h1 h2 h3 h4) hs, rfl, rfl, rfl, set_kept hi w h0 hg, by show (l.set i w).length < 1000000; simpa using hl⟩, fun h => absurd rfl h⟩
theorem amend_turned {a b c s line qty : Int} {l : List WT} (hl : l.length < 1000000) (h : checkR a b c s l = 0) : turned a b c l (amendR a b c s l line qty) := by
  have hp := (check_part h).1
  have hw := check_wants h
  unfold amendR
  rw [if_pos h]
  by_cases h2 : s = 1
  case neg => rw [if_neg h2]; exact turned_no (by decide)
  rw [if_pos h2]
  rcases place_cases l line with ⟨e, _⟩ | ⟨i, hi, e, _⟩
  · rw [e, if_pos (by decide)]; exact turned_no (by decide)
  rw [e, if_neg (show ¬ (i : Int) < 0 by omega)]
  simp only [Int.toNat_natCast]
  rw [gotAt_eq hi]
  have hm := wantsOk_mem l (-1) hw l[i] (List.getElem_mem hi)
  by_cases h3 : qty < 1 ∨ qty > 20 ∨ qty < l[i].f2
  · rw [if_pos h3]; exact turned_no (by decide)
  rw [if_neg h3]
  exact with_turned hl hp h2 hi _ rfl (by show 1 ≤ qty; omega) (by show qty ≤ 20; omega) (by show 0 ≤ l[i].f2; omega) (by show l[i].f2 ≤ qty; omega) (Int.le_refl _)
theorem take_turned {a b c s line : Int} {l : List WT} (hl : l.length < 1000000) (h : checkR a b c s l = 0) : turned a b c l (takeR a b c s l line) := by
  have hp := (check_part h).1
  have hw := check_wants h
  unfold takeR
  rw [if_pos h]
  by_cases h2 : s = 1
  case neg => rw [if_neg h2]; exact turned_no (by decide)
  rw [if_pos h2]
  rcases place_cases l line with ⟨e, _⟩ | ⟨i, hi, e, _⟩
  · rw [e, if_pos (by decide)]; exact turned_no (by decide)
  rw [e, if_neg (show ¬ (i : Int) < 0 by omega)]
  simp only [Int.toNat_natCast]
  rw [gotAt_eq hi]
  have hm := wantsOk_mem l (-1) hw l[i] (List.getElem_mem hi)
  by_cases h3 : l[i].f2 < l[i].f1
  · rw [if_neg (fun g => g h3)]
    exact with_turned hl hp h2 hi _ rfl (by show 1 ≤ l[i].f1; omega) (by show l[i].f1 ≤ 20; omega) (by show 0 ≤ l[i].f2 + 1; omega) (by show l[i].f2 + 1 ≤ l[i].f1; omega) (by show l[i].f2 ≤ l[i].f2 + 1; omega)
  rw [if_pos h3]; exact turned_no (by decide)
theorem off_check {a b c : Int} {l : List WT} (hp : partOk a b c l = true) : checkR a b c 3 l = 0 := check_mk hp (by unfold stOk; simp)
theorem cancel_turned {a b c s : Int} {l : List WT} (hl : l.length < 1000000) (h : checkR a b c s l = 0) : turned a b c l (cancelR a b c s l) := by
  have hp := (check_part h).1
  unfold cancelR
  rw [if_pos h]
  by_cases h2 : s = 1
  · rw [if_pos h2]; exact ⟨fun _ => ⟨off_check hp, rfl, rfl, rfl, keptL_refl l, hl⟩, fun h => absurd rfl h⟩
  rw [if_neg h2]; exact turned_no (by decide)
theorem expire_turned {a b c s now : Int} {l : List WT} (hl : l.length < 1000000) (h : checkR a b c s l = 0) : turned a b c l ((expireR a b c s l now).1, (expireR a b c s l now).2.1, (expireR a b c s l now).2.2.1, (expireR a b c s l now).2.2.2.1, (expireR a b c s l now).2.2.2.2, 0) := by
  have hp := (check_part h).1
  refine ⟨fun _ => ⟨?_, rfl, rfl, rfl, keptL_refl l, hl⟩, fun h => absurd rfl h⟩
  show checkR a b c (if checkR a b c s l = 0 ∧ s = 1 ∧ now > c then 3 else s) l = 0
  split
  · exact off_check hp
  exact h
end Go.Proofs.Ytakkhomjpflkbaa.Q
namespace Go.Proofs.Ytakkhomjpflkbaa.Pure
open Go.RowKit Go.Proofs.Ytakkhomjpflkbaa.F Go.Proofs.Ytakkhomjpflkbaa.Q Go.Proofs.YtakkhomjpflkbaaW.PrintWords Go.Proofs.YtakkhomjpflkbaaW.PrintLast Go.Proofs.YtakkhomjpflkbaaW.PrintMore
theorem RmaTurns : backhaullaw27_RmaTurns.Pure := by
  intro a b c s l line n ha hb hc hs hl hline hn
  refine Ev.rounds (r := true) ?_
  unfold backhaullaw27_RmaTurns.f backhaullaw27_Few.f
  simp only [Option.bind_some]
  have aw : Ev (fun k => backhaullaw27_RmaTurns.j0 k line n true a b c s l) true :=
    Ev.step (fun k => by simp only [backhaullaw27_RmaTurns.j0]; rfl) (Q.Ev.pos trivial (Q.Ev.const rfl))
  refine Q.Ev.ite (fun h => ?_) (fun h => aw)
  have hl' : l.length < 1000000 := by have := of_decide_eq_true h; omega
  refine Ev.bind (rma_check_f hl') ?_
  by_cases h1 : checkR a b c s l = 0
  case neg =>
    have : (checkR a b c s l != 0) = true := by simpa using h1
    rw [this]
    exact aw
  rw [h1]
  refine Ev.step (fun k => by simp only [backhaullaw27_RmaTurns.j0]; rfl) (Q.Ev.neg (by decide) (Q.Ev.bindc (a := []) rfl (Q.Ev.pos (by show 0 + l.length < 5864062014805; omega) ?_)))
  refine Ev.bind (amend_f hl') (Ev.bind (cancel_f hl') (Ev.bind (take_f hl') (Ev.bind (expire_f hl') ?_)))
  have e5 : (expireR a b c s l n).2.2.2.2 = l := rfl
  rw [e5]
  have ha := amend_turned (line := line) (qty := n) hl' h1
  have hc := cancel_turned hl' h1
  have ht := take_turned (line := line) hl' h1
  have hx := expire_turned (now := n) hl' h1
  refine Ev.step (fun k => by simp only [backhaullaw27_RmaTurns.l0]; rfl) (Q.Ev.pos (by decide) (Q.Ev.pos (by trivial) (turn_step hl' ha ?_)))
  refine Ev.step (fun k => by simp only [backhaullaw27_RmaTurns.l0]; rfl) (Q.Ev.pos (by decide) (Q.Ev.neg (by decide) (Q.Ev.pos (by trivial) (turn_step hl' hc ?_))))
  refine Ev.step (fun k => by simp only [backhaullaw27_RmaTurns.l0]; rfl) (Q.Ev.pos (by decide) (Q.Ev.neg (by decide) (Q.Ev.neg (by decide) (Q.Ev.pos (by trivial) (turn_step hl' ht ?_)))))
  refine Ev.step (fun k => by simp only [backhaullaw27_RmaTurns.l0]; rfl) (Q.Ev.pos (by decide) (Q.Ev.neg (by decide) (Q.Ev.neg (by decide) (Q.Ev.neg (by decide) (Q.Ev.pos (by trivial) (Q.Ev.pos (by trivial) (turn_body hl' hx rfl ?_)))))))
  refine Ev.step (fun k => by simp only [backhaullaw27_RmaTurns.l0]; rfl) (Q.Ev.neg (by decide) (Ev.bind (ref_same_f hl') (Q.Ev.pos (sameR_self _ _ _ _ _) (Q.Ev.const rfl))))
end Go.Proofs.Ytakkhomjpflkbaa.Pure
set_option linter.unusedVariables false
set_option linter.unusedSimpArgs false
namespace Go.Proofs.YtakkhomjpflkbaaX
open Go.RowKit Go.Proofs.YtakkhomjpflkbaaW.PrintWords Go.Proofs.YtakkhomjpflkbaaW.PrintLast Go.Proofs.YtakkhomjpflkbaaW.PrintMore
def Opens {α : Type} (P : Program) (t : TypeId) (k : Kd α) (Ok : α → Prop) : Prop :=
  ∀ {H : Type} {enc : TypeId × Value → H} {w : World} {base : Nat} {spare : Nat → Bool} {held : Bool} {fuel : Nat} {cs : List Value} {x : DataW H × List MemPlace},
    DataW.trod enc P w base spare held fuel t cs = some x → ∃ a : α, k.K w a cs ∧ Ok a
theorem Opens.int {P : Program} {t : TypeId} {k : IntKind} (ht : P.underlying t = some (.int k)) : Opens P t (Kd.int k) (fun a => (Lit.int k a).wf = true) := by
  intro H enc w base spare held fuel cs x h
  obtain ⟨n, rfl, _, hw⟩ := DataW.trod_int ht h
  exact ⟨n, rfl, hw⟩
theorem Opens.bool {P : Program} {t : TypeId} (ht : P.underlying t = some .bool) : Opens P t Kd.bool (fun _ => True) := by
  intro H enc w base spare held fuel cs x h
  obtain ⟨n, rfl, _⟩ := DataW.trod_bool ht h
  exact ⟨n, rfl, trivial⟩
theorem Opens.string {P : Program} {t : TypeId} (ht : P.underlying t = some .string) : Opens P t Kd.string (fun a => a.size ≤ maxLen) := by
  intro H enc w base spare held fuel cs x h
  obtain ⟨s, rfl, _, hw⟩ := DataW.trod_string ht h
  exact ⟨s, rfl, hw⟩
theorem list_of {α : Type} {p : Nat → α → Prop} : ∀ n, (∀ i, i < n → ∃ a, p i a) → ∃ xs : List α, xs.length = n ∧ ∀ i a, xs[i]? = some a → p i a
  | 0, _ => ⟨[], rfl, fun i a h => by simp at h⟩
  | n + 1, h => by
    obtain ⟨xs, hl, hx⟩ := list_of n (fun i hi => h i (by omega))
    obtain ⟨a, ha⟩ := h n (by omega)
    refine ⟨xs ++ [a], by simp [hl], fun i b hb => ?_⟩
    rcases Nat.lt_or_ge i xs.length with h1 | h1
    · rw [List.getElem?_append_left h1] at hb
      exact hx i b hb
    rw [List.getElem?_append_right h1] at hb
    have h2 : i - xs.length = 0 := by
      have := (List.getElem?_eq_some_iff.1 hb).1
      simp at this; omega
    rw [h2] at hb
    have : a = b := by simpa using hb
    subst this
    have : i = n := by omega
    rw [this]; exact ha
theorem Opens.slice {α : Type} {P : Program} {t e : TypeId} {k : Kd α} {Ok : α → Prop} (ht : P.underlying t = some (.slice e)) (hc : P.cellsOf e = k.sz) (h : Opens P e k Ok) :
    Opens P t (Kd.slice e k) (fun xs => xs.length ≤ maxLen ∧ ∀ x ∈ xs, Ok x) := by
  intro H enc w base spare held fuel cs x hx
  rcases Go.Deep.open_slice ht hx with ⟨rfl, rfl⟩ | ⟨a, len, cap, m, n, D, Pl, rfl, hb, hl, hm, hmm, rfl, hel⟩
  · exact ⟨[], ⟨none, 0, rfl, by simp, rfl, by simp, fun h => absurd h (by simp)⟩, by simp [maxLen], by simp⟩
  have hlm : len ≤ m := by rw [hmm]; split <;> omega
  obtain ⟨xs, hlen, hxs⟩ := list_of (p := fun i (a' : α) => ∃ cs', w.cells? base (a.add (i * P.cellsOf e)) (P.cellsOf e) = some cs' ∧ k.K w a' cs' ∧ Ok a') len (fun i hi => by
    obtain ⟨cs', h1, h2⟩ := hel i (by omega)
    obtain ⟨a', h3, h4⟩ := h h2
    exact ⟨a', cs', h1, h3, h4⟩)
  have hlm2 : len ≤ maxLen := by omega
  refine ⟨xs, ⟨some a, cap, by rw [hlen], by rw [hlen]; exact hl, rfl, by rw [hlen]; simpa [maxLen] using hlm2, fun _ => ⟨a, rfl, fun j p hj => ?_⟩⟩, by rw [hlen]; exact hlm2, fun y hy => ?_⟩
  · obtain ⟨cs', h1, h2, _⟩ := hxs j p hj
    refine ⟨cs', k.K_len h2, h2, fun i u hu => ?_⟩
    obtain ⟨_, _, h3⟩ := World.cells?_some h1
    have h4 := h3 i (by have := (List.getElem?_eq_some_iff.1 hu).1; have := k.K_len h2; omega)
    rw [← hc, ← Go.Proofs.YtakkhomjpflkbaaW.PrintWords.add_add]
    rw [← hu]; exact h4
  obtain ⟨i, hi, rfl⟩ := List.mem_iff_getElem.1 hy
  obtain ⟨_, _, _, h3⟩ := hxs i _ (List.getElem?_eq_getElem hi)
  exact h3
theorem field_reads {H : Type} {enc : TypeId × Value → H} {P : Program} {w : World} {base : Nat} {spare : Nat → Bool} {held : Bool} {fuel : Nat} {t : TypeId} {cs : List Value} {x : DataW H × List MemPlace} {fs : Array Field}
    (ht : P.underlying t = some (.struct fs)) (h : DataW.trod enc P w base spare held fuel t cs = some x) :
    cs.length = P.cellsOf t ∧ ∃ n, ∀ (i : Nat) (f : Field), fs[i]? = some f → ∃ y, DataW.trod enc P w base spare held n f.type ((cs.drop f.offset).take (P.cellsOf f.type)) = some y := by
  obtain ⟨xs, n, _, _, hl, hx, hf⟩ := DataW.trod_struct ht h
  refine ⟨hl, n, fun i f hif => ?_⟩
  rw [hf i f hif]
  have hi := (Array.getElem?_eq_some_iff.1 hif).1
  exact ⟨_, List.getElem?_eq_getElem (by rw [hx]; exact hi)⟩
theorem band {a b : Bool} (h1 : a = true) (h2 : b = true) : (a && b) = true := by rw [h1, h2]; rfl
theorem mayEnter_of {P : Program} {L c : List Char} {rest : List (List Char)} (h : P.initOrder.toList = L) (h1 : behindMainWord (wordsSigns L) = c :: rest) (h2 : ((stripLifts liftWords (c :: rest)).2.head? == some "cut".toList) = true) (h3 : P.laysLater = false) (h4 : P.bearsReflect = false) (h5 : (stripLifts liftWords (c :: rest)).1 = []) (h6 : P.doorFits [] = true) : P.mayEnter = true := by
  unfold Program.mayEnter
  rw [h, h1]
  dsimp only
  rw [h2, h3, h4, h5, h6]
  simp
theorem make_of {P : Program} {L : List Char} {rest : List (List Char)} (h : P.initOrder.toList = L) (h1 : behindMainWord (wordsSigns L) = "cut".toList :: rest) : P.make = some .cut := by
  unfold Program.make
  rw [h, h1]
  dsimp only
  rw [if_neg (by decide), if_pos (by simp)]
end Go.Proofs.YtakkhomjpflkbaaX
set_option maxRecDepth 10000
namespace Go.Proofs.Ytakkhomjpflkbaa.Join
open Go.Proofs.YtakkhomjpflkbaaX
def initSigns : List Char := ['h', 'a', 'r', 'n', 'e', 's', 's', ' ', '8', '5', '1', '9', '2', 'd', '7', '1', '7', '6', 'f', 'f', '5', '6', '1', '0', '2', '1', 'b', '4', '6', '6', '4', 'b', '6', 'a', '6', '7', 'a', '6', '8', '3', '4', '1', 'a', '9', 'f', 'e', '4', 'b', '6', 'c', 'b', '5', '5', '7', 'f', '5', 'c', 'e', '1', '9', '0', '4', '4', '3', 'f', '0', '1', 'b', '7', '6', 'a', '6', ' ', 'c', 'u', 't', ' ', 'a', 't', ' ', 'b', 'a', 'c', 'k', 'h', 'a', 'u', 'l', '/', 'b', 'a', 'c', 'k', 'h', 'a', 'u', 'l', 'l', 'a', 'w', '3', '1', '.', 'R', 'e', 'p', 'l', 'y', 'C', 'o', 'd', 'e', 's', ' ', 'b', 'a', 'c', 'k', 'h', 'a', 'u', 'l', '/', 'b', 'a', 'c', 'k', 'h', 'a', 'u', 'l', 'l', 'a', 'w', '3', '1', '.', 'R', 'e', 'p', 'l', 'y', 'B', 'a', 'c', 'k', ' ', 'b', 'a', 'c', 'k', 'h', 'a', 'u', 'l', '/', 'b', 'a', 'c', 'k', 'h', 'a', 'u', 'l', 'l', 'a', 'w', '3', '1', '.', 'R', 'e', 'p', 'l', 'y', 'O', 'n', 'l', 'y', ' ', 'b', 'a', 'c', 'k', 'h', 'a', 'u', 'l', '/', 'b', 'a', 'c', 'k', 'h', 'a', 'u', 'l', 'l', 'a', 'w', '0', '6', '.', 'S', 't', 'r', 'i', 'c', 't', 'R', 'e', 'a', 'd', 's', ' ', 'b', 'a', 'c', 'k', 'h', 'a', 'u', 'l', '/', 'b', 'a', 'c', 'k', 'h', 'a', 'u', 'l', 'l', 'a', 'w', '0', '6', '.', 'S', 't', 'r', 'i', 'c', 't', 'F', 'i', 'r', 's', 't', ' ', 'b', 'a', 'c', 'k', 'h', 'a', 'u', 'l', '/', 'b', 'a', 'c', 'k', 'h', 'a', 'u', 'l', 'l', 'a', 'w', '2', '7', '.', 'R', 'm', 'a', 'M', 'a', 'k', 'e', 's', ' ', 'b', 'a', 'c', 'k', 'h', 'a', 'u', 'l', '/', 'b', 'a', 'c', 'k', 'h', 'a', 'u', 'l', 'l', 'a', 'w', '2', '7', '.', 'R', 'm', 'a', 'M', 'o', 'v', 'e', 's', ' ', 'b', 'a', 'c', 'k', 'h', 'a', 'u', 'l', '/', 'b', 'a', 'c', 'k', 'h', 'a', 'u', 'l', 'l', 'a', 'w', '2', '7', '.', 'R', 'm', 'a', 'T', 'u', 'r', 'n', 's', ' ', 'b', 'a', 'c', 'k', 'h', 'a', 'u', 'l', '/', 'b', 'a', 'c', 'k', 'h', 'a', 'u', 'l', 'l', 'a', 'w', '2', '7', '.', 'R', 'm', 'a', 'B', 'o', 'u', 'n', 'd', 's', ' ', 'b', 'a', 'c', 'k', 'h', 'a', 'u', 'l', '/', 'b', 'a', 'c', 'k', 'h', 'a', 'u', 'l', 'l', 'a', 'w', '0', '6', '.', 'S', 't', 'r', 'i', 'c', 't', 'W', 'h', 'o', 'l', 'e', ' ', 'b', 'a', 'c', 'k', 'h', 'a', 'u', 'l', '/', 'b', 'a', 'c', 'k', 'h', 'a', 'u', 'l', 'l', 'a', 'w', '1', '4', '.', 'I', 'n', 'd', 'e', 'x', 'T', 'e', 'l', 'l', 's', ' ', 'b', 'a', 'c', 'k', 'h', 'a', 'u', 'l', '/', 'b', 'a', 'c', 'k', 'h', 'a', 'u', 'l', 'l', 'a', 'w', '1', '4', '.', 'I', 'n', 'd', 'e', 'x', 'A', 'd', 'd', 's', ' ', 'b', 'a', 'c', 'k', 'h', 'a', 'u', 'l', '/', 'b', 'a', 'c', 'k', 'h', 'a', 'u', 'l', 'l', 'a', 'w', '1', '4', '.', 'I', 'n', 'd', 'e', 'x', 'T', 'u', 'r', 'n', 's', ' ', 'b', 'a', 'c', 'k', 'h', 'a', 'u', 'l', '/', 'b', 'a', 'c', 'k', 'h', 'a', 'u', 'l', 'l', 'a', 'w', '1', '4', '.', 'I', 'n', 'd', 'e', 'x', 'W', 'h', 'o', 'l', 'e', ' ', 'b', 'a', 'c', 'k', 'h', 'a', 'u', 'l', '/', 'b', 'a', 'c', 'k', 'h', 'a', 'u', 'l', 'l', 'a', 'w', '1', '5', '.', 'B', 'a', 't', 'c', 'h', 'A', 'p', 'p', 'l', 'i', 'e', 's', ' ', 'b', 'a', 'c', 'k', 'h', 'a', 'u', 'l', '/', 'b', 'a', 'c', 'k', 'h', 'a', 'u', 'l', 'l', 'a', 'w', '1', '5', '.', 'B', 'a', 't', 'c', 'h', 'C', 'o', 'd', 'e', 's', ' ', 'b', 'a', 'c', 'k', 'h', 'a', 'u', 'l', '/', 'b', 'a', 'c', 'k', 'h', 'a', 'u', 'l', 'l', 'a', 'w', '1', '5', '.', 'B', 'a', 't', 'c', 'h', 'W', 'h', 'o', 'l', 'e', ' ', 'b', 'a', 'c', 'k', 'h', 'a', 'u', 'l', '/', 'b', 'a', 'c', 'k', 'h', 'a', 'u', 'l', 'l', 'a', 'w', '1', '5', '.', 'B', 'a', 't', 'c', 'h', 'U', 'n', 'd', 'o', ' ', 'b', 'a', 'c', 'k', 'h', 'a', 'u', 'l', '/', 'b', 'a', 'c', 'k', 'h', 'a', 'u', 'l', 'l', 'a', 'w', '1', '5', '.', 'B', 'a', 't', 'c', 'h', 'D', 'i', 'f', 'f', ' ', 'b', 'a', 'c', 'k', 'h', 'a', 'u', 'l', '/', 'b', 'a', 'c', 'k', 'h', 'a', 'u', 'l', 'l', 'a', 'w', '3', '0', '.', 'C', 'm', 'd', 'B', 'a', 'c', 'k', ' ', 'b', 'a', 'c', 'k', 'h', 'a', 'u', 'l', '/', 'b', 'a', 'c', 'k', 'h', 'a', 'u', 'l', 'l', 'a', 'w', '3', '0', '.', 'C', 'm', 'd', 'O', 'n', 'l', 'y']
theorem initText : Try.pinned.checked.prog.initOrder = String.ofList initSigns := by kernel_rfl
theorem initList : Try.pinned.checked.prog.initOrder.toList = initSigns := (congrArg String.toList initText).trans String.toList_ofList
theorem mayEnter_is : Try.pinned.checked.prog.mayEnter = true :=
  mayEnter_of (L := initSigns) (c := "cut".toList) (rest := (behindMainWord (wordsSigns initSigns)).tail) initList (by kernel_rfl) (by kernel_rfl) (by kernel_rfl) (by kernel_rfl) (by kernel_rfl) (by kernel_rfl)
theorem make_is : Try.pinned.checked.prog.make = some .cut :=
  make_of (L := initSigns) (rest := (behindMainWord (wordsSigns initSigns)).tail) initList (by kernel_rfl)
theorem lifts_is : Try.pinned.checked.prog.liftsFinal = false := by
  unfold Program.liftsFinal Program.headLifts
  rw [initList]
  kernel_rfl
end Go.Proofs.Ytakkhomjpflkbaa.Join
namespace Go.Proofs.Ytakkhomjpflkbaa.rmaTurns
open Go.ChangeShapes Go.WideShapes Go.ChangeAt Go.RowKit Go.Proofs.YtakkhomjpflkbaaX Go.Proofs.Ytakkhomjpflkbaa.F Go.Proofs.YtakkhomjpflkbaaW.PrintWords Go.Proofs.YtakkhomjpflkbaaW.PrintLast Go.Proofs.YtakkhomjpflkbaaW.PrintMore
open Go.ChangeMaps (open_string shut_string)
set_option linter.unusedVariables false
set_option linter.unusedSimpArgs false
theorem own : ownKnob Try.prog.godebug = none := by kernel_rfl
theorem laidOut : laidOutB Try.prog = true := by kernel_rfl
set_option maxRecDepth 100000 in
theorem opens_k97 : Opens Try.prog 97 k97 (fun x => ((Lit.int .i64 x.f0).wf = true ∧ (Lit.int .i64 x.f1).wf = true ∧ (Lit.int .i64 x.f2).wf = true)) := by
  intro H enc w base spare held fuel cs x h
  obtain ⟨hl, n, hf⟩ := field_reads Try.underlying97 h
  have hl2 : cs.length = 3 := hl.trans (by kernel_rfl)
  match cs, hl2 with
  | [c0, c1, c2], _ =>
    obtain ⟨y0, h0⟩ := hf 0 _ rfl
    have e0 : Try.prog.cellsOf 3 = 1 := by kernel_rfl
    (try dsimp only at h0)
    (try simp only [e0] at h0)
    obtain ⟨a0, k0, o0⟩ := (Opens.int Try.underlying3) h0
    have k0' : ((Kd.int .i64)).K w a0 [c0] := k0
    obtain ⟨y1, h1⟩ := hf 1 _ rfl
    have e1 : Try.prog.cellsOf 3 = 1 := by kernel_rfl
    (try dsimp only at h1)
    (try simp only [e1] at h1)
    obtain ⟨a1, k1, o1⟩ := (Opens.int Try.underlying3) h1
    have k1' : ((Kd.int .i64)).K w a1 [c1] := k1
    obtain ⟨y2, h2⟩ := hf 2 _ rfl
    have e2 : Try.prog.cellsOf 3 = 1 := by kernel_rfl
    (try dsimp only at h2)
    (try simp only [e2] at h2)
    obtain ⟨a2, k2, o2⟩ := (Opens.int Try.underlying3) h2
    have k2' : ((Kd.int .i64)).K w a2 [c2] := k2
    exact ⟨(⟨a0, a1, a2⟩ : S97), ⟨[c0], [c1, c2], rfl, k0', ⟨[c1], [c2], rfl, k1', k2'⟩⟩, ⟨o0, o1, o2⟩⟩
set_option maxRecDepth 100000 in
theorem opens_k70 : Opens Try.prog 70 k70 (fun x => ((Lit.int .i64 x.f0).wf = true ∧ (Lit.int .i64 x.f1).wf = true ∧ (Lit.int .i64 x.f2).wf = true ∧ (Lit.int .i64 x.f3).wf = true ∧ (x.f4.length ≤ maxLen ∧ ∀ y ∈ x.f4, ((Lit.int .i64 y.f0).wf = true ∧ (Lit.int .i64 y.f1).wf = true ∧ (Lit.int .i64 y.f2).wf = true)))) := by
  intro H enc w base spare held fuel cs x h
  obtain ⟨hl, n, hf⟩ := field_reads Try.underlying70 h
  have hl2 : cs.length = 5 := hl.trans (by kernel_rfl)
  match cs, hl2 with
  | [c0, c1, c2, c3, c4], _ =>
    obtain ⟨y0, h0⟩ := hf 0 _ rfl
    have e0 : Try.prog.cellsOf 3 = 1 := by kernel_rfl
    (try dsimp only at h0)
    (try simp only [e0] at h0)
    obtain ⟨a0, k0, o0⟩ := (Opens.int Try.underlying3) h0
    have k0' : ((Kd.int .i64)).K w a0 [c0] := k0
    obtain ⟨y1, h1⟩ := hf 1 _ rfl
    have e1 : Try.prog.cellsOf 3 = 1 := by kernel_rfl
    (try dsimp only at h1)
    (try simp only [e1] at h1)
    obtain ⟨a1, k1, o1⟩ := (Opens.int Try.underlying3) h1
    have k1' : ((Kd.int .i64)).K w a1 [c1] := k1
    obtain ⟨y2, h2⟩ := hf 2 _ rfl
    have e2 : Try.prog.cellsOf 3 = 1 := by kernel_rfl
    (try dsimp only at h2)
    (try simp only [e2] at h2)
    obtain ⟨a2, k2, o2⟩ := (Opens.int Try.underlying3) h2
    have k2' : ((Kd.int .i64)).K w a2 [c2] := k2
    obtain ⟨y3, h3⟩ := hf 3 _ rfl
    have e3 : Try.prog.cellsOf 3 = 1 := by kernel_rfl
    (try dsimp only at h3)
    (try simp only [e3] at h3)
    obtain ⟨a3, k3, o3⟩ := (Opens.int Try.underlying3) h3
    have k3' : ((Kd.int .i64)).K w a3 [c3] := k3
    obtain ⟨y4, h4⟩ := hf 4 _ rfl
    have e4 : Try.prog.cellsOf 68 = 1 := by kernel_rfl
    (try dsimp only at h4)
    (try simp only [e4] at h4)
    obtain ⟨a4, k4, o4⟩ := (Opens.slice Try.underlying68 (by kernel_rfl) opens_k97) h4
    have k4' : ((Kd.slice 97 k97)).K w a4 [c4] := k4
    exact ⟨(⟨a0, a1, a2, a3, a4⟩ : S70), ⟨[c0], [c1, c2, c3, c4], rfl, k0', ⟨[c1], [c2, c3, c4], rfl, k1', ⟨[c2], [c3, c4], rfl, k2', ⟨[c3], [c4], rfl, k3', k4'⟩⟩⟩⟩, ⟨o0, o1, o2, o3, o4⟩⟩
set_option maxRecDepth 100000 in
theorem lifted (os : Os) (started : os.Started) (H : Type) (enc : TypeId × Value → H) :
    ReturnsInHanded {} Try.checked os 10 .any (Rows.rmaTurnsSpec.pre6 enc Try.prog Try.f10 Rows.rmaTurnsRow.domain false) (Rows.rmaTurnsSpec.post enc Try.prog Try.f10 false true false false) := by
  refine returnsInHanded_of_change_sized (C := Try.checked) own started (by kernel_rfl) Try.func10
    (ChangeSpec.witness6 (enc := enc) (C := Try.checked) false ⟨#[], #[.agg #[.int .i64 0, .int .i64 0, .int .i64 0, .int .i64 0, .slice none 0 0], .int .i64 0, .int .i64 0], []⟩ 8 (by kernel_rfl) (by kernel_rfl) (by kernel_rfl) (by kernel_rfl)) ?_
  intro W base args ds gs before hval0 hW hcnd hsz0 _
  have hval : ∀ (j : Nat) t v, Try.f10.params[j]? = some t → args[j]? = some v → Value.okWide Try.prog W .any base t v := hval0
  have hW' := hW
  obtain ⟨p, q, hA0, hV, rfl, hfz, hnd⟩ := hW
  have hA : DataW.TrodAll enc Try.prog W 0 (fun _ => true) true Try.f10.params.toList args.toList ds p := hA0
  rw [Try.params10] at hA hval
  obtain ⟨v0, vs0, d0, ds0, p0, q0, hargs, rfl, rfl, h0, r0⟩ := trodAll_cons hA
  obtain ⟨v1, vs1, d1, ds1, p1, q1, rfl, rfl, rfl, h1, r1⟩ := trodAll_cons r0
  obtain ⟨v2, vs2, d2, ds2, p2, q2, rfl, rfl, rfl, h2, r2⟩ := trodAll_cons r1
  obtain ⟨rfl, rfl, rfl⟩ := trodAll_nil r2
  obtain rfl : args = #[v0, v1, v2] := by cases args; simp_all
  obtain ⟨rfl, rfl⟩ := trodVars_none hV
  have k0 := h0
  have lt0 : ∀ x ∈ p0, x.block < W.heap.size := by obtain ⟨m, hm⟩ := k0; exact DataW.trod_lt m _ _ _ hm
  obtain ⟨cs0, rfl, _⟩ := okWide_struct Try.underlying70 (hval 0 70 v0 rfl rfl)
  obtain ⟨f0, hf0⟩ := h0
  obtain ⟨x0, hk0, ho0⟩ := opens_k70 hf0
  obtain ⟨A0_4, c0_4, he0, hl0_4, hc0_4⟩ := k70_open hk0
  obtain rfl : cs0 = _ := Array.toList_inj.1 (he0.trans (List.toList_toArray).symm)
  have k1 := h1
  have lt1 : ∀ x ∈ p1, x.block < W.heap.size := by obtain ⟨m, hm⟩ := k1; exact DataW.trod_lt m _ _ _ hm
  obtain ⟨x1, rfl⟩ := okWide_int Try.underlying3 (hval 1 3 v1 rfl rfl)
  obtain ⟨f1, hf1⟩ := h1
  obtain ⟨z1, hk1, ho1⟩ := (Opens.int Try.underlying3) hf1
  obtain rfl : x1 = z1 := by have := hk1; injection this with this; injection this
  have k2 := h2
  have lt2 : ∀ x ∈ p2, x.block < W.heap.size := by obtain ⟨m, hm⟩ := k2; exact DataW.trod_lt m _ _ _ hm
  obtain ⟨x2, rfl⟩ := okWide_int Try.underlying3 (hval 2 3 v2 rfl rfl)
  obtain ⟨f2, hf2⟩ := h2
  obtain ⟨z2, hk2, ho2⟩ := (Opens.int Try.underlying3) hf2
  obtain rfl : x2 = z2 := by have := hk2; injection this with this; injection this
  obtain ⟨k, h⟩ : ∃ k, backhaullaw27_RmaTurns.f k x0.f0 x0.f1 x0.f2 x0.f3 x0.f4 x1 x2 = some true := Pure.RmaTurns x0.f0 x0.f1 x0.f2 x0.f3 x0.f4 x1 x2 ho0.1 ho0.2.1 ho0.2.2.1 ho0.2.2.2.1 ho0.2.2.2.2 ho1 ho2
  refine (backhaullaw27_RmaTurns.calls k x0.f0 x0.f1 x0.f2 x0.f3 _ _ x0.f4 x1 x2 W hc0_4 hl0_4 h).mono fun e W' hq => ?_
  obtain ⟨he, bel0⟩ := hq
  have bel : Below W.heap.size W W' := bel0
  subst he
  exact ⟨_, rfl, _, _, _, [], _, [], hW', trodAll_mk1 (shut_bool Try.underlying4 _), (trodAll_cons_mk (Below.trod laidOut (by kernel_rfl) (of_decide_eq_true (by kernel_rfl)) k0 bel lt0) (trodAll_cons_mk (Below.trod laidOut (by kernel_rfl) (of_decide_eq_true (by kernel_rfl)) k1 bel lt1) (trodAll_cons_mk (Below.trod laidOut (by kernel_rfl) (of_decide_eq_true (by kernel_rfl)) k2 bel lt2) trodAll_mk0))), rfl, bel.frame _, fun h => by cases h⟩
theorem closed_ : joinedFacts Try.pinned.checked.prog 10 Try.f10 Rows.rmaTurnsSpec Rows.rmaTurnsRow = true := by
  unfold joinedFacts
  repeat' (with_reducible apply band)
  any_goals with_reducible exact Join.mayEnter_is
  any_goals (rw [Join.make_is]; kernel_rfl)
  any_goals (rw [Join.lifts_is]; kernel_rfl)
  all_goals kernel_rfl
theorem over : Rows.rmaTurnsRow.holds Try.pinned (OpenSpec.ofChange Rows.rmaTurnsSpec) :=
  OpenClaim.holds_of_wide 10 Try.f10 rfl rfl rfl rfl rfl rfl rfl ⟨rfl, rfl, rfl, rfl, rfl⟩ rfl rfl rfl rfl rfl (by kernel_rfl) Try.func10 closed_
    (of_decide_eq_true (by kernel_rfl)) (by unfold Func.isWrapper; first | (rw [if_pos (by decide +kernel)]; kernel_rfl) | (rw [if_neg (by decide +kernel)]; exact ⟨rfl, rfl⟩))
    (fun os started H enc _ => lifted os started H enc)
theorem proved : Rows.RmaTurnsSaid := over
#print axioms proved
end Go.Proofs.Ytakkhomjpflkbaa.rmaTurns
namespace Go.Proofs.Ytakkhomjpflkbaa
theorem rmaTurns_holds : Rows.RmaTurnsSaid := rmaTurns.proved
end Go.Proofs.Ytakkhomjpflkbaa
