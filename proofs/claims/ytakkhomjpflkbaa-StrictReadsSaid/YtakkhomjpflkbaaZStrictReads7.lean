-- merged and pruned by prune.py (the session's own program); its words go back to the kit's print
import Derived.Test.YtakkhomjpflkbaaProg
import Derived.Below
import Derived.Deep.Draws
import Derived.Deep.AppendLies
import Derived.Maps.AppendAt
import Derived.OwnWalk
import Derived.Laws.BytesArg
import Derived.Laws.MakeOwn
import Derived.Laws.OwnMore
import Derived.Deep.OwnRows
import Derived.Tactics
import Derived.Lib.ConvBytes
import Derived.Laws.Slices
import Derived.WalkKit
import Derived.KernelRfl
import Derived.RowKit3
import Derived.Deep.LoopGhost
import Derived.Deep.QuietTactic
import Derived.BigQuiet
import Derived.WideLaws
import Derived.Deep.DeepCutAuto
import Derived.Deep.CutBlock
import Derived.Deep.RegionHeld3
import Derived.Laws.Rows
import Derived.Lib.AppendStr
import Derived.ArgAppend
import Derived.Laws.IdiomCopy
import Derived.OrdersHeld
import Derived.Laws.BitsLemmas
import Derived.RowKit
import Derived.Laws.StructEq
import Derived.Deep.RegionLawGrows
import Derived.Lib.SliceRun
import Derived.Shelf.Strings.BuilderK
import Derived.Shelf.Strings.Builder1
import Derived.Shelf.Strings.BuilderF
import Derived.Shelf.Utf8.RuneCount
import Derived.Shelf.Strings.Prefix
import Derived.Lib.OthersKept
import Derived.Lib.RuneCount
import Derived.Laws.Cover4
import Derived.Outline
import Derived.Deep.Slices
import Derived.ChangeArms
import Derived.WideShapes
import Derived.OpenShut
import Derived.Test.YtakkhomjpflkbaaRows
import Derived.ProofKit
import Derived.ShutString
import Derived.ChangeOld
import Derived.SizedLaws
import Derived.Carry
import Derived.Test.YtakkhomjpflkbaaZStrictReads6
set_option linter.unusedVariables false
namespace Go.Proofs.Ytakkhomjpflkbaa.Q
open Go.RowKit Go.Proofs.Ytakkhomjpflkbaa.F Go.Proofs.YtakkhomjpflkbaaW.PrintWords Go.Proofs.YtakkhomjpflkbaaW.PrintLast Go.Proofs.YtakkhomjpflkbaaW.PrintMore
def unrowA (acc : List Int) (r : List Int × Int × Int) : List Int × Int × Int := if r.2.2 = 0 then (acc ++ r.1, r.2.1, 0) else ([], 0, r.2.2)
theorem unrowA_cons {s : ByteArray} {w t : Int} {n : Nat} {acc : List Int} (h : (getS s t w).2.2 = 0) : unrowA (acc ++ [(getS s t w).1]) (unrowL s w n (getS s t w).2.1) = unrowA acc (unrowL s w (n + 1) t) := by
  unfold unrowA
  simp only [unrowL, if_pos h]
  by_cases h2 : (unrowL s w n (getS s t w).2.1).2.2 = 0
  · rw [if_pos h2, if_pos h2, if_pos h2]; simp
  rw [if_neg h2, if_neg h2, if_neg h2]
theorem unrowA_bad {s : ByteArray} {w t : Int} {n : Nat} {acc : List Int} (h : (getS s t w).2.2 ≠ 0) : (([] : List Int), (0 : Int), (getS s t w).2.2) = unrowA acc (unrowL s w (n + 1) t) := by
  unfold unrowA
  simp only [unrowL, if_neg h]
theorem unrowA_nil {r : List Int × Int × Int} (h : r.2.2 ≠ 0 → r = ([], 0, r.2.2)) : unrowA [] r = r := by
  unfold unrowA
  by_cases h2 : r.2.2 = 0
  · rw [if_pos h2, List.nil_append, ← h2]
  rw [if_neg h2]; exact (h h2).symm
theorem unrowL_bad {s : ByteArray} {w : Int} : ∀ (n : Nat) (t : Int), (unrowL s w n t).2.2 ≠ 0 → unrowL s w n t = ([], 0, (unrowL s w n t).2.2)
  | 0, t, h => absurd rfl h
  | n + 1, t, h => by
    simp only [unrowL] at h ⊢
    by_cases h1 : (getS s t w).2.2 = 0
    · rw [if_pos h1] at h ⊢
      by_cases h2 : (unrowL s w n (getS s t w).2.1).2.2 = 0
      · rw [if_pos h2] at h; exact absurd h2 h
      rw [if_neg h2]
    rw [if_neg h1]
theorem octet_unrow_l0 {s : ByteArray} {w : Int} {n : Nat} (hs : s.size ≤ 4611686018427387904) (hn : n ≤ 1000) (d : Nat) : ∀ (i : Nat) (acc : List Int) (t : Int), n - i = d → i ≤ n → acc.length ≤ i → Ev (fun k => octet_Unrow.l0 k s w acc t (n : Int) (i : Int)) (unrowA acc (unrowL s w d t)) := by
  induction d with
  | zero =>
    intro i acc t hd hi ha
    refine Ev.step (fun k => by simp only [octet_Unrow.l0]; rfl) ?_
    refine Ev.neg (by omega) (Ev.ok ?_)
    unfold unrowA
    simp [unrowL]
  | succ d ih =>
    intro i acc t hd hi ha
    refine Ev.step (fun k => by simp only [octet_Unrow.l0]; rfl) ?_
    rw [wrap_eq (x := (i : Int) + 1) (by omega) (by omega)]
    refine Ev.pos (by omega) (Ev.bind (octet_get_f t w (by omega)) ?_)
    refine Ev.ite (fun h1 => Ev.pos (by omega) ?_) (fun h1 => Ev.ok (unrowA_bad h1))
    rw [← unrowA_cons h1]
    exact ih (i + 1) _ _ (by omega) (by omega) (by simp only [List.length_append, List.length_cons, List.length_nil]; omega)
theorem ref05_unrow_l0 {s : ByteArray} {w : Int} {n : Nat} (hs : s.size ≤ 4611686018427387904) (hn : n ≤ 1000) (d : Nat) : ∀ (i : Nat) (acc : List Int) (t : Int), n - i = d → i ≤ n → acc.length ≤ i → Ev (fun k => backhaulref05_Unrow.l0 k s w (n : Int) t acc (i : Int)) (unrowA acc (unrowL s w d t)) := by
  induction d with
  | zero =>
    intro i acc t hd hi ha
    refine Ev.step (fun k => by simp only [backhaulref05_Unrow.l0]; rfl) ?_
    refine Ev.neg (by omega) (Ev.ok ?_)
    unfold unrowA
    simp [unrowL]
  | succ d ih =>
    intro i acc t hd hi ha
    refine Ev.step (fun k => by simp only [backhaulref05_Unrow.l0]; rfl) ?_
    rw [wrap_eq (x := (i : Int) + 1) (by omega) (by omega)]
    refine Ev.pos (by omega) (Ev.bind (ref05_get_f t w (by omega)) ?_)
    refine Ev.ite (fun h1 => Ev.pos (by omega) ?_) (fun h1 => Ev.ok (unrowA_bad h1))
    rw [← unrowA_cons h1]
    exact ih (i + 1) _ _ (by omega) (by omega) (by simp only [List.length_append, List.length_cons, List.length_nil]; omega)
theorem octet_unrow_f {s : ByteArray} (a w m : Int) (hs : s.size ≤ 4611686018427387904) : Ev (fun k => octet_Unrow.f k s a w m) (unrowS s a w m) := by
  have bad : (¬ wide w ∨ a < 0 ∨ a > s.size ∨ m < 0) → Ev (fun k => octet_Unrow.j0 k s a w m true) (unrowS s a w m) := by
    intro h
    refine Ev.step (fun k => by simp only [octet_Unrow.j0]; rfl) ?_
    refine Ev.pos trivial (Ev.ok ?_)
    unfold unrowS
    rw [if_pos h]
  unfold octet_Unrow.f
  refine Ev.bindc (octet_wide_f w) ?_
  by_cases hw : wide w
  · refine Ev.pos (decide_eq_true hw) (Ev.bindc (octet_inside_f s a) ?_)
    by_cases ha : 0 ≤ a ∧ a ≤ s.size
    · refine Ev.pos (decide_eq_true ha) ?_
      by_cases hm : m < 0
      · rw [decide_eq_true hm]; exact bad (.inr (.inr (.inr hm)))
      rw [decide_eq_false hm]
      have e : unrowS s a w m = if (getS s a 2).2.2 = 0 then (if (getS s a 2).1 > m ∨ (getS s a 2).1 > 1000 then ([], 0, 3) else unrowL s w (getS s a 2).1.toNat (getS s a 2).2.1) else ([], 0, (getS s a 2).2.2) := by
        unfold unrowS
        rw [if_neg (fun x => by rcases x with x | x | x | x; exact x hw; omega; omega; omega)]
      rw [e]
      refine Ev.step (fun k => by simp only [octet_Unrow.j0]; rfl) ?_
      refine Ev.neg (by decide) (Ev.bind (octet_get_f a 2 (by omega)) ?_)
      refine Ev.ite (fun h1 => ?_) (fun h1 => ?_)
      · rw [if_pos h1]
        have hg : getS s a 2 = ((getS s a 2).1, (getS s a 2).2.1, 0) := by rw [← h1]
        obtain ⟨_, h2, h3, h4, h5, h6, h7⟩ := getS_ok hg
        have hmn : mn m 1000 = if 1000 < m then 1000 else m := rfl
        refine Ev.ite (fun h8 => ?_) (fun h8 => ?_)
        · rw [if_pos (by rw [hmn] at h8; split at h8 <;> omega)]; exact Ev.ok rfl
        have h9 : ¬ ((getS s a 2).1 > m ∨ (getS s a 2).1 > 1000) := by rw [hmn] at h8; split at h8 <;> omega
        rw [if_neg h9]
        have := octet_unrow_l0 (w := w) (n := (getS s a 2).1.toNat) hs (by omega) (getS s a 2).1.toNat 0 [] (getS s a 2).2.1 (by omega) (by omega) (by simp)
        rw [Int.toNat_of_nonneg h7, unrowA_nil (unrowL_bad _ _)] at this
        exact this
      rw [if_neg h1]; exact Ev.ok rfl
    refine Ev.neg (fun x => ha (of_decide_eq_true x)) (bad (by omega))
  exact Ev.neg (fun x => hw (of_decide_eq_true x)) (bad (.inl hw))
theorem ref05_unrow_f {s : ByteArray} (a w m : Int) (hs : s.size ≤ 4611686018427387904) : Ev (fun k => backhaulref05_Unrow.f k s a w m) (unrowS s a w m) := by
  have bad : (¬ wide w ∨ a < 0 ∨ a > s.size ∨ m < 0) → Ev (fun k => backhaulref05_Unrow.j0 k s a w m true) (unrowS s a w m) := by
    intro h
    refine Ev.step (fun k => by simp only [backhaulref05_Unrow.j0]; rfl) ?_
    refine Ev.pos trivial (Ev.ok ?_)
    unfold unrowS
    rw [if_pos h]
  unfold backhaulref05_Unrow.f
  refine Ev.bindc (ref05_wide_f w) ?_
  by_cases hw : wide w
  · refine Ev.pos (decide_eq_true hw) (Ev.ite (fun h => bad (.inr (.inl h))) (fun h => Ev.ite (fun h' => bad (.inr (.inr (.inl h')))) (fun h' => ?_)))
    by_cases hm : m < 0
    · rw [decide_eq_true hm]; exact bad (.inr (.inr (.inr hm)))
    rw [decide_eq_false hm]
    have e : unrowS s a w m = if (getS s a 2).2.2 = 0 then (if (getS s a 2).1 > m ∨ (getS s a 2).1 > 1000 then ([], 0, 3) else unrowL s w (getS s a 2).1.toNat (getS s a 2).2.1) else ([], 0, (getS s a 2).2.2) := by
      unfold unrowS
      rw [if_neg (fun x => by rcases x with x | x | x | x; exact x hw; omega; omega; omega)]
    rw [e]
    refine Ev.step (fun k => by simp only [backhaulref05_Unrow.j0]; rfl) ?_
    refine Ev.neg (by decide) (Ev.bind (ref05_get_f a 2 (by omega)) ?_)
    refine Ev.ite (fun h1 => ?_) (fun h1 => ?_)
    · rw [if_pos h1]
      have hg : getS s a 2 = ((getS s a 2).1, (getS s a 2).2.1, 0) := by rw [← h1]
      obtain ⟨_, h2, h3, h4, h5, h6, h7⟩ := getS_ok hg
      have out : ∀ b : Bool, (b = true ↔ ((getS s a 2).1 > m ∨ (getS s a 2).1 > 1000)) → Ev (fun k => backhaulref05_Unrow.j1 k s w (getS s a 2).1 (getS s a 2).2.1 b) (if (getS s a 2).1 > m ∨ (getS s a 2).1 > 1000 then ([], 0, 3) else unrowL s w (getS s a 2).1.toNat (getS s a 2).2.1) := by
        intro b hb
        refine Ev.step (fun k => by simp only [backhaulref05_Unrow.j1]; rfl) ?_
        refine Ev.ite (fun h8 => ?_) (fun h8 => ?_)
        · rw [if_pos (hb.1 h8)]; exact Ev.ok rfl
        have h9 : ¬ ((getS s a 2).1 > m ∨ (getS s a 2).1 > 1000) := fun x => h8 (hb.2 x)
        rw [if_neg h9]
        have := ref05_unrow_l0 (w := w) (n := (getS s a 2).1.toNat) hs (by omega) (getS s a 2).1.toNat 0 [] (getS s a 2).2.1 (by omega) (by omega) (by simp)
        rw [Int.toNat_of_nonneg h7, unrowA_nil (unrowL_bad _ _)] at this
        exact this
      refine Ev.ite (fun h8 => out true (by simp [h8])) (fun h8 => out _ (by simp; omega))
    rw [if_neg h1]; exact Ev.ok rfl
  exact Ev.neg (fun x => hw (of_decide_eq_true x)) (bad (.inl hw))
theorem same_ints_l0 {a b : List Int} (hl : a.length < 9223372036854775807) (hab : a.length = b.length) (d : Nat) : ∀ i : Nat, a.length - i = d → i ≤ a.length →
    Ev (fun k => backhaulref02_SameInts.l0 k a b (i : Int)) (decide (a.drop i = b.drop i)) := by
  induction d with
  | zero =>
    intro i hd hi
    refine Ev.step (fun k => by simp only [backhaulref02_SameInts.l0]; rfl) ?_
    refine Ev.neg (by omega) (Ev.ok ?_)
    rw [List.drop_eq_nil_of_le (by omega), List.drop_eq_nil_of_le (by omega)]; simp
  | succ d ih =>
    intro i hd hi
    have h : i < a.length := by omega
    have h' : i < b.length := by omega
    refine Ev.step (fun k => by simp only [backhaulref02_SameInts.l0]; rfl) ?_
    refine Ev.pos (by omega) (Ev.pos (by omega) (Ev.pos (by omega) ?_))
    rw [rd_nat h, rd_nat h', drop_cons h, drop_cons h']
    refine Ev.ite (fun he => ?_) (fun he => Ev.ok ?_)
    · rw [wrap_eq (by omega) (by omega)]
      refine Ev.eq (ih (i + 1) (by omega) (by omega)) ?_
      rw [he]
      exact decide_eq_decide.2 ⟨fun e => by rw [e], fun e => by injection e⟩
    exact (decide_eq_false (fun e => he (by injection e))).symm
theorem same_ints_f {a b : List Int} (hl : a.length < 9223372036854775807) : Ev (fun k => backhaulref02_SameInts.f k a b) (decide (a = b)) := by
  unfold backhaulref02_SameInts.f
  refine Ev.ite (fun h => ?_) (fun h => Ev.ok ?_)
  · exact same_ints_l0 hl (by omega) a.length 0 (by omega) (by omega)
  have : ¬ a = b := fun e => h (by rw [e])
  simp [this]
end Go.Proofs.Ytakkhomjpflkbaa.Q
set_option linter.unusedVariables false
namespace Go.Proofs.Ytakkhomjpflkbaa.Q
open Go.RowKit Go.Proofs.Ytakkhomjpflkbaa.F Go.Proofs.YtakkhomjpflkbaaW.PrintWords Go.Proofs.YtakkhomjpflkbaaW.PrintLast Go.Proofs.YtakkhomjpflkbaaW.PrintMore
def flt (a e : Int) : Option (Int × Int) := if e = 0 then none else some (e, a)
theorem flt0 (a : Int) : flt a 0 = none := rfl
theorem flt1 {a e : Int} (h : e ≠ 0) : flt a e = some (e, a) := if_neg h
def pc {α : Type} (z : α) (a e0 : Int) (r : α × Int × Int) : α × Int × Int := if e0 = 0 then (if r.2.2 = 0 then r else (z, a, r.2.2)) else (z, a, e0)
theorem pc_bad {α : Type} {z : α} {a e0 : Int} {r : α × Int × Int} (h : e0 ≠ 0) : pc z a e0 r = (z, a, e0) := if_neg h
theorem pc_ok {α : Type} {z : α} {a : Int} {r : α × Int × Int} (h : r.2.2 = 0) : pc z a 0 r = r := by unfold pc; rw [if_pos rfl, if_pos h]
theorem pc_err {α : Type} {z : α} {a : Int} {r : α × Int × Int} (h : r.2.2 ≠ 0) : pc z a 0 r = (z, a, r.2.2) := by unfold pc; rw [if_pos rfl, if_neg h]
def bigR (r : Int × Int × Int) (m : Int) : Int × Int × Int := if r.2.2 = 0 ∧ r.1 > m then (0, 0, 3) else r
def numR (s : ByteArray) (a e0 w m : Int) : Int × Int × Int := pc 0 a e0 (bigR (getS s a w) m)
def rowR (s : ByteArray) (a e0 w m : Int) : List Int × Int × Int := pc [] a e0 (unrowS s a w m)
def endR (s : ByteArray) (a e0 : Int) : Int := if e0 = 0 ∧ a < s.size then 6 else e0
theorem goes0 (s : ByteArray) (a : Int) : strict_Reader_goes.f s a none true = some (true, s, a, none, true) := rfl
theorem goes1 (s : ByteArray) (a : Int) (q : Int × Int) : strict_Reader_goes.f s a (some q) true = some (false, s, a, some q, true) := rfl
theorem done0 (s : ByteArray) (a to_ : Int) : strict_Reader_done.f s a none true to_ 0 = some (true, s, to_, none, true) := rfl
theorem done1 (s : ByteArray) (a to_ : Int) {e : Int} (h : e ≠ 0) : strict_Reader_done.f s a none true to_ e = some (false, s, a, some (e, a), true) := by
  unfold strict_Reader_done.f; rw [if_neg h]
theorem moved0 (s : ByteArray) (a to_ : Int) : backhaulref06_moved.f s a 0 to_ 0 = some (s, to_, 0) := rfl
theorem moved1 (s : ByteArray) (a to_ : Int) {e : Int} (h : e ≠ 0) : backhaulref06_moved.f s a 0 to_ e = some (s, a, e) := by
  unfold backhaulref06_moved.f; rw [if_neg h]
theorem num_f {s : ByteArray} (a e0 w m : Int) (hs : s.size ≤ 4611686018427387904) : Ev (fun k => strict_Reader_Num.f k s a (flt a e0) true w m) ((numR s a e0 w m).1, s, (numR s a e0 w m).2.1, flt (numR s a e0 w m).2.1 (numR s a e0 w m).2.2, true) := by
  unfold strict_Reader_Num.f numR
  by_cases h0 : e0 = 0
  · subst h0
    rw [flt0]
    refine Ev.bindc (goes0 s a) (Ev.pos rfl (Ev.bind (octet_get_f (s := s) a w (by omega)) ?_))
    by_cases h1 : (getS s a w).2.2 = 0
    · refine Ev.pos h1 (Ev.step (fun k => by simp only [strict_Reader_Num.j0]; rfl) ?_)
      by_cases h2 : (getS s a w).1 > m
      · have e : bigR (getS s a w) m = (0, 0, 3) := if_pos ⟨h1, h2⟩
        rw [e, pc_err (by decide)]
        refine Ev.pos (decide_eq_true h2) (Ev.bindc (done1 s a _ (by decide)) ?_)
        exact Ev.neg Bool.false_ne_true (Ev.ok rfl)
      have e : bigR (getS s a w) m = getS s a w := if_neg (fun x => h2 x.2)
      rw [e, pc_ok h1, h1]
      refine Ev.neg (fun x => h2 (of_decide_eq_true x)) (Ev.bindc (done0 s a _) ?_)
      exact Ev.pos rfl (Ev.ok rfl)
    refine Ev.neg h1 (Ev.step (fun k => by simp only [strict_Reader_Num.j0]; rfl) ?_)
    have e : bigR (getS s a w) m = getS s a w := if_neg (fun x => h1 x.1)
    rw [e, pc_err h1]
    refine Ev.neg (by decide) (Ev.bindc (done1 s a _ h1) ?_)
    refine Ev.neg Bool.false_ne_true (Ev.ok ?_)
    rw [flt1 h1]
  rw [flt1 h0, pc_bad h0]
  refine Ev.bindc (goes1 s a _) (Ev.neg Bool.false_ne_true (Ev.ok ?_))
  rw [flt1 h0]
theorem rnum_f {s : ByteArray} (a e0 w m : Int) (hs : s.size ≤ 4611686018427387904) : Ev (fun k => backhaulref06_Num.f k s a e0 w m) (s, (numR s a e0 w m).2.1, (numR s a e0 w m).2.2, (numR s a e0 w m).1) := by
  unfold backhaulref06_Num.f numR
  by_cases h0 : e0 = 0
  · subst h0
    refine Ev.pos rfl (Ev.bind (ref05_get_f (s := s) a w (by omega)) ?_)
    by_cases h1 : (getS s a w).2.2 = 0
    · refine Ev.pos h1 (Ev.step (fun k => by simp only [backhaulref06_Num.j0]; rfl) ?_)
      by_cases h2 : (getS s a w).1 > m
      · have e : bigR (getS s a w) m = (0, 0, 3) := if_pos ⟨h1, h2⟩
        rw [e, pc_err (by decide)]
        refine Ev.pos (decide_eq_true h2) (Ev.bindc (moved1 s a _ (by decide)) (Ev.ok rfl))
      have e : bigR (getS s a w) m = getS s a w := if_neg (fun x => h2 x.2)
      rw [e, pc_ok h1, h1]
      exact Ev.neg (fun x => h2 (of_decide_eq_true x)) (Ev.pos rfl (Ev.bindc (moved0 s a _) (Ev.ok rfl)))
    refine Ev.neg h1 (Ev.step (fun k => by simp only [backhaulref06_Num.j0]; rfl) ?_)
    have e : bigR (getS s a w) m = getS s a w := if_neg (fun x => h1 x.1)
    rw [e, pc_err h1]
    exact Ev.neg (by decide) (Ev.neg h1 (Ev.bindc (moved1 s a _ h1) (Ev.ok rfl)))
  rw [pc_bad h0]
  exact Ev.neg h0 (Ev.ok rfl)
theorem unrowS_bad {s : ByteArray} {a w m : Int} (h : (unrowS s a w m).2.2 ≠ 0) : (unrowS s a w m).1 = [] := by
  unfold unrowS at h ⊢
  split
  · rfl
  rename_i h1
  rw [if_neg h1] at h
  split
  · rename_i h2
    rw [if_pos h2] at h
    split
    · rfl
    rename_i h3
    rw [if_neg h3] at h
    rw [unrowL_bad _ _ h]
  rfl
theorem row_f {s : ByteArray} (a e0 w m : Int) (hs : s.size ≤ 4611686018427387904) : Ev (fun k => strict_Reader_Row.f k s a (flt a e0) true w m) ((rowR s a e0 w m).1, s, (rowR s a e0 w m).2.1, flt (rowR s a e0 w m).2.1 (rowR s a e0 w m).2.2, true) := by
  unfold strict_Reader_Row.f rowR
  by_cases h0 : e0 = 0
  · subst h0
    rw [flt0]
    refine Ev.bindc (goes0 s a) (Ev.pos rfl (Ev.bind (octet_unrow_f a w m hs) ?_))
    by_cases h1 : (unrowS s a w m).2.2 = 0
    · rw [pc_ok h1, h1]
      exact Ev.bindc (done0 s a _) (Ev.pos rfl (Ev.ok rfl))
    rw [pc_err h1]
    refine Ev.bindc (done1 s a _ h1) (Ev.neg Bool.false_ne_true (Ev.ok ?_))
    rw [flt1 h1]
  rw [flt1 h0, pc_bad h0]
  refine Ev.bindc (goes1 s a _) (Ev.neg Bool.false_ne_true (Ev.ok ?_))
  rw [flt1 h0]
theorem rrow_f {s : ByteArray} (a e0 w m : Int) (hs : s.size ≤ 4611686018427387904) : Ev (fun k => backhaulref06_Row.f k s a e0 w m) (s, (rowR s a e0 w m).2.1, (rowR s a e0 w m).2.2, (rowR s a e0 w m).1) := by
  unfold backhaulref06_Row.f rowR
  by_cases h0 : e0 = 0
  · subst h0
    refine Ev.pos rfl (Ev.bind (ref05_unrow_f a w m hs) ?_)
    by_cases h1 : (unrowS s a w m).2.2 = 0
    · rw [pc_ok h1, h1]
      exact Ev.bindc (moved0 s a _) (Ev.ok rfl)
    rw [pc_err h1, unrowS_bad h1]
    exact Ev.bindc (moved1 s a _ h1) (Ev.ok rfl)
  rw [pc_bad h0]
  exact Ev.neg h0 (Ev.ok rfl)
theorem end_f (s : ByteArray) (a e0 : Int) : strict_Reader_End.f s a (flt a e0) true = some (s, a, flt a (endR s a e0), true) := by
  unfold strict_Reader_End.f endR
  by_cases h0 : e0 = 0
  · subst h0
    rw [flt0, goes0, Option.bind_some, if_pos rfl]
    by_cases h1 : a < s.size
    · rw [if_pos h1, if_pos ⟨rfl, h1⟩, done1 s a _ (by decide)]; rfl
    rw [if_neg h1, if_neg (fun x => h1 x.2)]; rfl
  rw [flt1 h0, goes1, Option.bind_some, if_neg Bool.false_ne_true, if_neg (fun x => h0 x.1), flt1 h0]
theorem rend_f (s : ByteArray) (a e0 : Int) : backhaulref06_End.f s a e0 = some (s, a, endR s a e0) := by
  unfold backhaulref06_End.f endR
  by_cases h0 : e0 = 0
  · subst h0
    rw [if_pos rfl]
    by_cases h1 : a < s.size
    · rw [if_pos h1, if_pos ⟨rfl, h1⟩]
    rw [if_neg h1, if_neg (fun x => h1 x.2)]
  rw [if_neg h0, if_neg (fun x => h0 x.1)]
theorem why_f (a e : Int) : strict_Why.f (flt a e) = some (e, if e = 0 then 0 else a) := by
  unfold strict_Why.f
  by_cases h : e = 0
  · subst h; rfl
  rw [flt1 h, if_neg h]; rfl
theorem err_f (s : ByteArray) (a : Int) (f : Option (Int × Int)) : strict_Reader_Err.f s a f true = some (f, s, a, f, true) := rfl
end Go.Proofs.Ytakkhomjpflkbaa.Q
set_option linter.unusedVariables false
namespace Go.Proofs.Ytakkhomjpflkbaa.Q
open Go.RowKit Go.Proofs.YtakkhomjpflkbaaX Go.Proofs.YtakkhomjpflkbaaW.PrintWords Go.Proofs.YtakkhomjpflkbaaW.PrintLast Go.Proofs.YtakkhomjpflkbaaW.PrintMore
def up8 (b : UInt8) : UInt8 := if 97 ≤ b.toNat ∧ b.toNat ≤ 122 then UInt8.ofNat (b.toNat - 32) else b
theorem up8_toNat (b : UInt8) : ((up8 b).toNat : Int) = upI b.toNat := by
  unfold up8 upI
  by_cases h : 97 ≤ b.toNat ∧ b.toNat ≤ 122
  · rw [if_pos h, if_pos (by omega)]
    have : (UInt8.ofNat (b.toNat - 32)).toNat = b.toNat - 32 := by simp; omega
    rw [this]; omega
  rw [if_neg h, if_neg (by omega)]
theorem up8_of (b : UInt8) : UInt8.ofNat (upI b.toNat).toNat = up8 b := by
  apply UInt8.toNat_inj.1
  have h := up8_toNat b
  have h2 := (up8 b).toNat_lt
  have : (upI b.toNat).toNat = (up8 b).toNat := by omega
  rw [this]; simp
theorem up_runes (l : List UInt8) : ((runes l).map fun r => UInt8.ofNat (upI r).toNat) = l.map up8 := by
  simp only [runes, List.map_map]
  exact List.map_congr_left fun b _ => up8_of b
def serB (l : List UInt8) : Prop := 1 ≤ l.length ∧ l.length ≤ 16 ∧ l.getLast? ≠ some 45 ∧ okL 3 (runes l) = true
instance (l : List UInt8) : Decidable (serB l) := by unfold serB; infer_instance
theorem foldS_eq (s : ByteArray) : foldS s = if serB s.data.toList then (⟨(s.data.toList.map up8).toArray⟩, 0) else (⟨#[]⟩, 9) := by
  unfold foldS
  rw [up_runes]
  by_cases h : s.size < 1 ∨ s.size > 16 ∨ s.data.toList.getLast? = some 45 ∨ okL 3 (runes s.data.toList) = false
  · rw [if_pos h, if_neg]
    rintro ⟨h1, h2, h3, h4⟩
    rw [size_data] at h1 h2
    rcases h with h | h | h | h
    · omega
    · omega
    · exact h3 h
    rw [h] at h4; cases h4
  rw [if_neg h, if_pos]
  refine ⟨by rw [size_data]; omega, by rw [size_data]; omega, fun x => h (.inr (.inr (.inl x))), ?_⟩
  cases e : okL 3 (runes s.data.toList)
  · exact absurd (.inr (.inr (.inr e))) h
  rfl
def lt8 (a b : ByteArray) : Prop := Op.bytesLess a.toList b.toList = true
instance (a b : ByteArray) : Decidable (lt8 a b) := by unfold lt8; infer_instance
end Go.Proofs.Ytakkhomjpflkbaa.Q
set_option linter.unusedVariables false
namespace Go.Proofs.Ytakkhomjpflkbaa.Q
open Go.RowKit Go.Proofs.Ytakkhomjpflkbaa.F Go.Proofs.YtakkhomjpflkbaaX Go.Proofs.YtakkhomjpflkbaaW.PrintWords Go.Proofs.YtakkhomjpflkbaaW.PrintLast Go.Proofs.YtakkhomjpflkbaaW.PrintMore
theorem ref01_class_f (r : Int) : backhaulref01_Class.f 20 r = some (clsI r) := by
  unfold backhaulref01_Class.f clsI
  simp only [backhaulref01_Class.j0, backhaulref01_Class.j1]
  (repeat' split) <;> simp_all <;> omega
theorem ref01_class_ev (r : Int) : Ev (fun k => backhaulref01_Class.f k r) (clsI r) := Ev.of (fun k => backhaulref01_Class.mono r k) (ref01_class_f r)
def foldRest (last : Int) (t l : List UInt8) : ByteArray × Int := if okL last (runes l) = true then (bytesB (t ++ l.map up8), 0) else (⟨#[]⟩, 9)
theorem cls_45 {b : UInt8} : clsI b.toNat = 3 ↔ b = 45 := by
  have h45 : (45 : UInt8).toNat = 45 := rfl
  have hn := b.toNat_lt
  constructor
  · intro h
    apply UInt8.toNat_inj.1
    unfold clsI at h
    (repeat' split at h) <;> omega
  rintro rfl; decide
theorem okL_iff {last : Int} {b : UInt8} {l : List UInt8} : okL last (runes (b :: l)) = true ↔ (clsI b.toNat ≠ 0 ∧ ¬ (b = 45 ∧ last = 3)) ∧ okL (clsI b.toNat) (runes l) = true := by
  show (mayB (clsI b.toNat) last && okL (clsI b.toNat) (runes l)) = true ↔ _
  rw [Bool.and_eq_true]
  have : mayB (clsI b.toNat) last = true ↔ clsI b.toNat ≠ 0 ∧ ¬ (b = 45 ∧ last = 3) := by
    unfold mayB
    rw [← cls_45]
    simp only [Bool.and_eq_true, Bool.or_eq_true, bne_iff_ne]
    omega
  rw [this]
theorem bt_nat {s : ByteArray} {i : Nat} (h : i < s.data.toList.length) : bt s (i : Int) = ((s.data.toList[i]).toNat : Int) := bt_data s i (by rw [← size_data]; exact h)
theorem bt_45 {s : ByteArray} {i : Nat} (h : i < s.data.toList.length) : bt s (i : Int) = 45 ↔ s.data.toList[i] = 45 := by
  rw [bt_nat h]
  constructor
  · intro x; apply UInt8.toNat_inj.1; show _ = 45; omega
  intro x; rw [x]; rfl
theorem ref01_fold_j2 {s : ByteArray} {i : Nat} {t : List UInt8} {b : UInt8} {r : ByteArray × Int} (ht : t.length < 100) (hi : i < 100) (h : Ev (fun k => backhaulref01_Fold.l0 k s (natI (t ++ [up8 b])) (((i + 1 : Nat)) : Int)) r) : Ev (fun k => backhaulref01_Fold.j2 k s (natI t) (i : Int) (b.toNat : Int) false) r := by
  have hl : (natI t).length = t.length := by simp [natI]
  have hn := b.toNat_lt
  have e : ∀ x : Int, x = ((up8 b).toNat : Int) → natI t ++ [x] = natI (t ++ [up8 b]) := by rintro x rfl; simp [natI]
  refine Ev.step (fun k => by simp only [backhaulref01_Fold.j2]; rfl) ?_
  rw [wrap_eq (by omega) (by omega)]
  refine Ev.neg (by decide) (Ev.ite (fun h1 => Ev.ite (fun h2 => Ev.pos (by omega) ?_) (fun h2 => Ev.pos (by omega) ?_)) (fun h1 => Ev.pos (by omega) ?_))
  · rw [e _ (by rw [up8_toNat]; unfold upI; rw [if_pos (by omega)]; omega)]; exact h
  · rw [e _ (by rw [up8_toNat]; unfold upI; rw [if_neg (by omega)])]; exact h
  rw [e _ (by rw [up8_toNat]; unfold upI; rw [if_neg (by omega)])]; exact h
theorem ref01_fold_bad {s : ByteArray} {i c : Int} {o : List Int} {last : Int} {t l : List UInt8} (h : ¬ okL last (runes l) = true) : Ev (fun k => backhaulref01_Fold.j2 k s o i c true) (foldRest last t l) := by
  refine Ev.step (fun k => by simp only [backhaulref01_Fold.j2]; rfl) ?_
  refine Ev.pos trivial (Ev.ok ?_)
  unfold foldRest
  rw [if_neg h]
theorem ref01_fold_l0 {s : ByteArray} (hs : s.size ≤ 16) (h0 : ∀ h : 0 < s.data.toList.length, s.data.toList[0] ≠ 45) (d : Nat) : ∀ (i : Nat) (t : List UInt8) (last : Int), s.size - i = d → i ≤ s.size → t.length = i → (i = 0 ∨ ∃ h : i - 1 < s.data.toList.length, last = clsI (s.data.toList[i - 1]).toNat) → Ev (fun k => backhaulref01_Fold.l0 k s (natI t) (i : Int)) (foldRest last t (s.data.toList.drop i)) := by
  have hsz := size_data s
  induction d with
  | zero =>
    intro i t last hd hi ht hla
    refine Ev.step (fun k => by simp only [backhaulref01_Fold.l0]; rfl) ?_
    refine Ev.neg (by omega) (Ev.ok ?_)
    rw [List.drop_eq_nil_of_le (by omega)]
    unfold foldRest
    rw [if_pos (show okL last (runes []) = true from rfl), strOfNums_nat, List.map_nil, List.append_nil]
  | succ d ih =>
    intro i t last hd hi ht hla
    have h : i < s.data.toList.length := by omega
    have hb : bt s (i : Int) = ((s.data.toList[i]).toNat : Int) := bt_nat h
    have hn := (s.data.toList[i]).toNat_lt
    have hw : wrap32 (((s.data.toList[i]).toNat : Int)) = ((s.data.toList[i]).toNat : Int) := by unfold wrap32; omega
    refine Ev.step (fun k => by simp only [backhaulref01_Fold.l0]; rfl) ?_
    refine Ev.pos (by omega) (Ev.pos (by omega) ?_)
    rw [drop_cons h, hb, hw]
    have hd1 : s.size - (i + 1) = d := by clear hb hw ih hla hn ht; omega
    have hd2 : i + 1 ≤ s.size := by clear hb hw ih hla hn ht; omega
    have good : okL last (runes (s.data.toList[i] :: s.data.toList.drop (i + 1))) = okL (clsI (s.data.toList[i]).toNat) (runes (s.data.toList.drop (i + 1))) → Ev (fun k => backhaulref01_Fold.j2 k s (natI t) (i : Int) ((s.data.toList[i]).toNat : Int) false) (foldRest last t (s.data.toList[i] :: s.data.toList.drop (i + 1))) := by
      intro e
      refine ref01_fold_j2 (by omega) (by omega) (Ev.eq (ih (i + 1) (t ++ [up8 s.data.toList[i]]) (clsI (s.data.toList[i]).toNat) hd1 hd2 (by simp [ht]) (.inr ⟨by simpa using h, by simp⟩)) ?_)
      unfold foldRest
      rw [e, List.map_cons, List.append_assoc]
      rfl
    have eq_of : (clsI (s.data.toList[i]).toNat ≠ 0 ∧ ¬ (s.data.toList[i] = 45 ∧ last = 3)) → okL last (runes (s.data.toList[i] :: s.data.toList.drop (i + 1))) = okL (clsI (s.data.toList[i]).toNat) (runes (s.data.toList.drop (i + 1))) := by
      intro hg
      rw [Bool.eq_iff_iff, okL_iff]
      exact ⟨fun x => x.2, fun x => ⟨hg, x⟩⟩
    refine Ev.bind (ref01_class_ev _) (Ev.ite (fun h1 => ?_) (fun h1 => ?_))
    · exact ref01_fold_bad (fun x => (okL_iff.1 x).1.1 h1)
    refine Ev.ite (fun h2 => ?_) (fun h2 => ?_)
    · have h45 : s.data.toList[i] = 45 := by apply UInt8.toNat_inj.1; show _ = 45; omega
      have hi1 : 1 ≤ i := by
        rcases Nat.eq_zero_or_pos i with h' | h'
        · subst h'; exact absurd h45 (h0 h)
        exact h'
      obtain ⟨hp, hl⟩ := hla.resolve_left (by omega)
      rw [wrap_eq (x := (i : Int) - 1) (by omega) (by omega), show (i : Int) - 1 = ((i - 1 : Nat) : Int) by omega]
      refine Ev.pos (by omega) (Ev.pos (by omega) ?_)
      by_cases h3 : s.data.toList[i - 1] = 45
      · rw [show (bt s ((i - 1 : Nat) : Int) == 45) = true from beq_iff_eq.2 ((bt_45 hp).2 h3)]
        exact ref01_fold_bad (fun x => (okL_iff.1 x).1.2 ⟨h45, by rw [hl]; exact cls_45.2 h3⟩)
      rw [show (bt s ((i - 1 : Nat) : Int) == 45) = false from beq_eq_false_iff_ne.2 (fun x => h3 ((bt_45 hp).1 x))]
      exact good (eq_of ⟨h1, fun x => h3 (cls_45.1 (by rw [← hl]; exact x.2))⟩)
    exact good (eq_of ⟨h1, fun x => h2 (by rw [x.1]; rfl)⟩)
theorem last_get {l : List UInt8} (h : l.length - 1 < l.length) : l.getLast? = some (l[l.length - 1]) := by
  rw [List.getLast?_eq_getElem?, List.getElem?_eq_getElem h]
theorem ref01_fold_f (s : ByteArray) (hs : s.size < 1099511627776) : Ev (fun k => backhaulref01_Fold.f k s) (foldS s) := by
  have hsz := size_data s
  have bad : ¬ serB s.data.toList → Ev (fun k => backhaulref01_Fold.j0 k s true) (foldS s) := by
    intro h
    refine Ev.step (fun k => by simp only [backhaulref01_Fold.j0]; rfl) ?_
    refine Ev.pos trivial (Ev.ok ?_)
    rw [foldS_eq, if_neg h]
  unfold backhaulref01_Fold.f
  refine Ev.ite (fun h => bad (fun x => by have := x.1; omega)) (fun h => Ev.ite (fun h1 => bad (fun x => by have := x.2.1; omega)) (fun h1 => Ev.pos (by omega) ?_))
  have hl0 : 0 < s.data.toList.length := by omega
  have e0 : bt s 0 = 45 ↔ s.data.toList[0] = 45 := bt_45 (i := 0) hl0
  refine Ev.ite (fun h2 => bad (fun x => ?_)) (fun h2 => ?_)
  · have h3 := x.2.2.2
    have h4 : s.data.toList = s.data.toList[0] :: s.data.toList.drop 1 := by
      have := drop_cons (l := s.data.toList) (i := 0) hl0
      simpa using this
    rw [h4] at h3
    exact (okL_iff.1 h3).1.2 ⟨e0.1 h2, rfl⟩
  have hlast : s.data.toList.length - 1 < s.data.toList.length := by omega
  rw [wrap_eq (by omega) (by omega), show (s.size : Int) - 1 = ((s.data.toList.length - 1 : Nat) : Int) by omega]
  refine Ev.pos (by omega) (Ev.pos (by omega) ?_)
  by_cases h3 : s.data.toList[s.data.toList.length - 1] = 45
  · rw [show (bt s ((s.data.toList.length - 1 : Nat) : Int) == 45) = true from beq_iff_eq.2 ((bt_45 hlast).2 h3)]
    exact bad (fun x => x.2.2.1 (by rw [last_get hlast, h3]))
  rw [show (bt s ((s.data.toList.length - 1 : Nat) : Int) == 45) = false from beq_eq_false_iff_ne.2 (fun x => h3 ((bt_45 hlast).1 x))]
  refine Ev.step (fun k => by simp only [backhaulref01_Fold.j0]; rfl) ?_
  refine Ev.neg (by decide) (Ev.eq (ref01_fold_l0 (by omega) (fun _ x => h2 (e0.2 x)) s.size 0 [] 3 (by omega) (by omega) rfl (.inl rfl)) ?_)
  rw [List.drop_zero, foldS_eq]
  unfold foldRest
  by_cases h4 : okL 3 (runes s.data.toList) = true
  · rw [if_pos h4, if_pos ⟨by omega, by omega, by rw [last_get hlast]; intro x; exact h3 (Option.some.inj x), h4⟩]; rfl
  rw [if_neg h4, if_neg (fun x => h4 x.2.2.2)]
theorem check_toList (s : ByteArray) : (if (foldS s).2 = 0 then (if (foldS s).1.toList = s.toList then some (0 : Int) else some 9) else some 9) = some (checkS s) := by
  unfold checkS
  by_cases h1 : (foldS s).2 = 0
  · rw [if_pos h1]
    by_cases h2 : (foldS s).1.toList = s.toList
    · rw [if_pos h2, if_pos ⟨h1, bytes_ext.1 h2⟩]
    rw [if_neg h2, if_neg (fun x => h2 (by rw [x.2]))]
  rw [if_neg h1, if_neg (fun x => h1 x.1)]
theorem ref01_check_f (s : ByteArray) (hs : s.size < 1099511627776) : Ev (fun k => backhaulref01_Check.f k s) (checkS s) := by
  unfold backhaulref01_Check.f
  exact Ev.bind (ref01_fold_f s hs) (Ev.const (check_toList s))
theorem serial_check_f (s : ByteArray) (hs : s.size < 9223372036854775807) : serial_Check.f s = some (checkS s) := by
  unfold serial_Check.f serial_Fold.f checkS
  rw [if_pos hs, Option.bind_some]
  have e : (foldS s).1.toList = s.toList ↔ (foldS s).1 = s := by
    constructor
    · intro h
      rw [ByteArray.toList_eq, ByteArray.toList_eq] at h
      generalize (foldS s).1 = a at *
      cases a; cases s
      simpa [Array.toList_inj] using h
    intro h; rw [h]
  by_cases h1 : (foldS s).2 = 0
  · rw [if_pos h1]
    by_cases h2 : (foldS s).1.toList = s.toList
    · rw [if_pos h2, if_pos ⟨h1, e.1 h2⟩]
    rw [if_neg h2, if_neg (fun x => h2 (e.2 x.2))]
  rw [if_neg h1, if_neg (fun x => h1 x.1)]
end Go.Proofs.Ytakkhomjpflkbaa.Q
set_option linter.unusedVariables false
namespace Go.Proofs.Ytakkhomjpflkbaa.Q
open Go.RowKit Go.Proofs.Ytakkhomjpflkbaa.F Go.Proofs.YtakkhomjpflkbaaW.PrintWords Go.Proofs.YtakkhomjpflkbaaW.PrintLast Go.Proofs.YtakkhomjpflkbaaW.PrintMore
theorem same_texts_l0 {a b : List ByteArray} (hl : a.length < 9223372036854775807) (hab : a.length = b.length) (d : Nat) : ∀ i : Nat, a.length - i = d → i ≤ a.length →
    Ev (fun k => backhaulref01_SameTexts.l0 k a b (i : Int)) (decide (a.drop i = b.drop i)) := by
  induction d with
  | zero =>
    intro i hd hi
    refine Ev.step (fun k => by simp only [backhaulref01_SameTexts.l0]; rfl) ?_
    refine Ev.neg (by omega) (Ev.ok ?_)
    rw [List.drop_eq_nil_of_le (by omega), List.drop_eq_nil_of_le (by omega)]; simp
  | succ d ih =>
    intro i hd hi
    have h : i < a.length := by omega
    have h' : i < b.length := by omega
    refine Ev.step (fun k => by simp only [backhaulref01_SameTexts.l0]; rfl) ?_
    refine Ev.pos (by omega) (Ev.pos (by omega) (Ev.pos (by omega) ?_))
    rw [rdOf_nat h, rdOf_nat h', drop_cons h, drop_cons h']
    refine Ev.ite (fun he => ?_) (fun he => Ev.ok ?_)
    · rw [wrap_eq (by omega) (by omega)]
      refine Ev.eq (ih (i + 1) (by omega) (by omega)) ?_
      rw [bytes_ext.1 he]
      exact decide_eq_decide.2 ⟨fun e => by rw [e], fun e => by injection e⟩
    exact (decide_eq_false (fun e => he (by injection e with e1; rw [e1]))).symm
theorem same_texts_f {a b : List ByteArray} (hl : a.length < 9223372036854775807) : Ev (fun k => backhaulref01_SameTexts.f k a b) (decide (a = b)) := by
  unfold backhaulref01_SameTexts.f
  refine Ev.ite (fun h => ?_) (fun h => Ev.ok ?_)
  · exact same_texts_l0 hl (by omega) a.length 0 (by omega) (by omega)
  have : ¬ a = b := fun e => h (by rw [e])
  simp [this]
end Go.Proofs.Ytakkhomjpflkbaa.Q
set_option linter.unusedVariables false
namespace Go.Proofs.Ytakkhomjpflkbaa.Q
open Go.RowKit Go.Proofs.Ytakkhomjpflkbaa.F Go.Proofs.YtakkhomjpflkbaaX Go.Proofs.YtakkhomjpflkbaaW.PrintWords Go.Proofs.YtakkhomjpflkbaaW.PrintLast Go.Proofs.YtakkhomjpflkbaaW.PrintMore
def textR (s : ByteArray) (a e0 m : Int) : ByteArray × Int × Int := pc ⟨#[]⟩ a e0 (takeS s a m)
def serG (r : ByteArray × Int × Int) : ByteArray × Int × Int := if r.2.2 = 0 then (r.1, r.2.1, checkS r.1) else r
def serR (s : ByteArray) (a e0 : Int) : ByteArray × Int × Int := pc ⟨#[]⟩ a e0 (serG (takeS s a 16))
def flagG (r : Int × Int × Int) : Bool × Int × Int := if r.2.2 = 0 then (if r.1 > 1 then (false, 0, 5) else (r.1 == 1, r.2.1, 0)) else (false, 0, r.2.2)
def flagR (s : ByteArray) (a e0 : Int) : Bool × Int × Int := pc false a e0 (flagG (getS s a 1))
def sersL (s : ByteArray) : Nat → Int → Int → List ByteArray × Int × Int
  | 0, a, e => ([], a, e)
  | n + 1, a, e => ((serR s a e).1 :: (sersL s n (serR s a e).2.1 (serR s a e).2.2).1, (sersL s n (serR s a e).2.1 (serR s a e).2.2).2)
def sersG (q : List ByteArray × Int × Int) : List ByteArray × Int × Int := if q.2.2 = 0 then q else ([], q.2)
def sersR (s : ByteArray) (a e0 m : Int) : List ByteArray × Int × Int := sersG (sersL s (numR s a e0 1 m).1.toNat (numR s a e0 1 m).2.1 (numR s a e0 1 m).2.2)
theorem takeS_bad {s : ByteArray} {a m : Int} (h : (takeS s a m).2.2 ≠ 0) : (takeS s a m).1 = ⟨#[]⟩ := by
  unfold takeS at h ⊢
  (repeat' split at h) <;> first | rfl | exact absurd rfl h | skip
  all_goals (repeat' split) <;> first | rfl | simp_all
theorem takeS_small {s : ByteArray} {a m : Int} : (takeS s a m).1.size ≤ s.size := by
  unfold takeS
  (repeat' split) <;> first | exact Nat.zero_le _ | (rw [ByteArray.size_extract]; omega)
theorem text_f {s : ByteArray} (a e0 m : Int) (hs : s.size ≤ 4611686018427387904) : Ev (fun k => strict_Reader_Text.f k s a (flt a e0) true m) ((textR s a e0 m).1, s, (textR s a e0 m).2.1, flt (textR s a e0 m).2.1 (textR s a e0 m).2.2, true) := by
  unfold strict_Reader_Text.f textR
  by_cases h0 : e0 = 0
  · subst h0
    rw [flt0]
    refine Ev.bindc (goes0 s a) (Ev.pos rfl (Ev.bind (octet_take_f (s := s) a m hs) ?_))
    by_cases h1 : (takeS s a m).2.2 = 0
    · rw [pc_ok h1, h1]
      exact Ev.bindc (done0 s a _) (Ev.pos rfl (Ev.ok rfl))
    rw [pc_err h1]
    refine Ev.bindc (done1 s a _ h1) (Ev.neg Bool.false_ne_true (Ev.ok ?_))
    rw [flt1 h1]
  rw [flt1 h0, pc_bad h0]
  refine Ev.bindc (goes1 s a _) (Ev.neg Bool.false_ne_true (Ev.ok ?_))
  rw [flt1 h0]
theorem rtext_f {s : ByteArray} (a e0 m : Int) (hs : s.size ≤ 4611686018427387904) : Ev (fun k => backhaulref06_Text.f k s a e0 m) (s, (textR s a e0 m).2.1, (textR s a e0 m).2.2, (textR s a e0 m).1) := by
  unfold backhaulref06_Text.f textR
  by_cases h0 : e0 = 0
  · subst h0
    refine Ev.pos rfl (Ev.bind (ref05_take_f (s := s) a m hs) ?_)
    by_cases h1 : (takeS s a m).2.2 = 0
    · rw [pc_ok h1, h1]
      exact Ev.bindc (moved0 s a _) (Ev.ok rfl)
    rw [pc_err h1, takeS_bad h1]
    exact Ev.bindc (moved1 s a _ h1) (Ev.ok rfl)
  rw [pc_bad h0]
  exact Ev.neg h0 (Ev.ok rfl)
theorem serial_f {s : ByteArray} (a e0 : Int) (hs : s.size < 1099511627776) : Ev (fun k => strict_Reader_Serial.f k s a (flt a e0) true) ((serR s a e0).1, s, (serR s a e0).2.1, flt (serR s a e0).2.1 (serR s a e0).2.2, true) := by
  unfold strict_Reader_Serial.f serR
  by_cases h0 : e0 = 0
  · subst h0
    rw [flt0]
    refine Ev.bindc (goes0 s a) (Ev.pos rfl (Ev.bind (octet_take_f (s := s) a 16 (by omega)) ?_))
    by_cases h1 : (takeS s a 16).2.2 = 0
    · have hz := takeS_small (s := s) (a := a) (m := 16)
      have e : serG (takeS s a 16) = ((takeS s a 16).1, (takeS s a 16).2.1, checkS (takeS s a 16).1) := if_pos h1
      rw [e]
      refine Ev.pos h1 (Ev.bindc (serial_check_f _ (by omega)) ?_)
      by_cases h2 : checkS (takeS s a 16).1 = 0
      · rw [pc_ok h2, h2]
        exact Ev.bindc (done0 s a _) (Ev.pos rfl (Ev.ok rfl))
      rw [pc_err h2]
      refine Ev.bindc (done1 s a _ h2) (Ev.neg Bool.false_ne_true (Ev.ok ?_))
      rw [flt1 h2]
    have e : serG (takeS s a 16) = takeS s a 16 := if_neg h1
    rw [e, pc_err h1]
    refine Ev.neg h1 (Ev.bindc (done1 s a _ h1) (Ev.neg Bool.false_ne_true (Ev.ok ?_)))
    rw [flt1 h1]
  rw [flt1 h0, pc_bad h0]
  refine Ev.bindc (goes1 s a _) (Ev.neg Bool.false_ne_true (Ev.ok ?_))
  rw [flt1 h0]
theorem rserial_f {s : ByteArray} (a e0 : Int) (hs : s.size < 1099511627776) : Ev (fun k => backhaulref06_Serial.f k s a e0) (s, (serR s a e0).2.1, (serR s a e0).2.2, (serR s a e0).1) := by
  unfold backhaulref06_Serial.f serR
  by_cases h0 : e0 = 0
  · subst h0
    refine Ev.pos rfl (Ev.bind (ref05_take_f (s := s) a 16 (by omega)) ?_)
    by_cases h1 : (takeS s a 16).2.2 = 0
    · have hz := takeS_small (s := s) (a := a) (m := 16)
      have e : serG (takeS s a 16) = ((takeS s a 16).1, (takeS s a 16).2.1, checkS (takeS s a 16).1) := if_pos h1
      rw [e]
      refine Ev.pos h1 (Ev.bind (ref01_check_f _ (by omega)) ?_)
      by_cases h2 : checkS (takeS s a 16).1 = 0
      · rw [pc_ok h2, h2]
        exact Ev.pos rfl (Ev.bindc (moved0 s a _) (Ev.ok rfl))
      rw [pc_err h2]
      exact Ev.neg h2 (Ev.bindc (moved1 s a _ h2) (Ev.ok rfl))
    have e : serG (takeS s a 16) = takeS s a 16 := if_neg h1
    rw [e, pc_err h1]
    exact Ev.neg h1 (Ev.bindc (moved1 s a _ h1) (Ev.ok rfl))
  rw [pc_bad h0]
  exact Ev.neg h0 (Ev.ok rfl)
theorem flag_f {s : ByteArray} (a e0 : Int) (hs : s.size ≤ 4611686018427387904) : Ev (fun k => strict_Reader_Flag.f k s a (flt a e0) true) ((flagR s a e0).1, s, (flagR s a e0).2.1, flt (flagR s a e0).2.1 (flagR s a e0).2.2, true) := by
  unfold strict_Reader_Flag.f flagR
  by_cases h0 : e0 = 0
  · subst h0
    rw [flt0]
    refine Ev.bindc (goes0 s a) (Ev.pos rfl (Ev.bind (octet_get_f (s := s) a 1 (by omega)) ?_))
    by_cases h1 : (getS s a 1).2.2 = 0
    · refine Ev.pos h1 ?_
      by_cases h2 : (getS s a 1).1 > 1
      · have e : flagG (getS s a 1) = (false, 0, 5) := by unfold flagG; rw [if_pos h1, if_pos h2]
        rw [e, pc_err (by decide)]
        exact Ev.pos h2 (Ev.bindc (done1 s a _ (by decide)) (Ev.neg Bool.false_ne_true (Ev.ok rfl)))
      have e : flagG (getS s a 1) = ((getS s a 1).1 == 1, (getS s a 1).2.1, 0) := by unfold flagG; rw [if_pos h1, if_neg h2]
      rw [e, pc_ok rfl, h1]
      exact Ev.neg h2 (Ev.bindc (done0 s a _) (Ev.pos rfl (Ev.ok rfl)))
    have e : flagG (getS s a 1) = (false, 0, (getS s a 1).2.2) := if_neg h1
    rw [e, pc_err (show (false, (0 : Int), (getS s a 1).2.2).2.2 ≠ 0 from h1)]
    refine Ev.neg h1 (Ev.bindc (done1 s a _ h1) (Ev.neg Bool.false_ne_true (Ev.ok ?_)))
    rw [flt1 h1]
  rw [flt1 h0, pc_bad h0]
  refine Ev.bindc (goes1 s a _) (Ev.neg Bool.false_ne_true (Ev.ok ?_))
  rw [flt1 h0]
theorem rflag_f {s : ByteArray} (a e0 : Int) (hs : s.size ≤ 4611686018427387904) : Ev (fun k => backhaulref06_Flag.f k s a e0) (s, (flagR s a e0).2.1, (flagR s a e0).2.2, (flagR s a e0).1) := by
  unfold backhaulref06_Flag.f flagR
  by_cases h0 : e0 = 0
  · subst h0
    refine Ev.pos rfl (Ev.bind (ref05_get_f (s := s) a 1 (by omega)) ?_)
    by_cases h1 : (getS s a 1).2.2 = 0
    · refine Ev.pos h1 ?_
      by_cases h2 : (getS s a 1).1 > 1
      · have e : flagG (getS s a 1) = (false, 0, 5) := by unfold flagG; rw [if_pos h1, if_pos h2]
        rw [e, pc_err (by decide)]
        exact Ev.pos h2 (Ev.bindc (moved1 s a _ (by decide)) (Ev.ok rfl))
      have e : flagG (getS s a 1) = ((getS s a 1).1 == 1, (getS s a 1).2.1, 0) := by unfold flagG; rw [if_pos h1, if_neg h2]
      rw [e, pc_ok rfl, h1]
      exact Ev.neg h2 (Ev.bindc (moved0 s a _) (Ev.ok rfl))
    have e : flagG (getS s a 1) = (false, 0, (getS s a 1).2.2) := if_neg h1
    rw [e, pc_err (show (false, (0 : Int), (getS s a 1).2.2).2.2 ≠ 0 from h1)]
    exact Ev.neg h1 (Ev.bindc (moved1 s a _ h1) (Ev.ok rfl))
  rw [pc_bad h0]
  exact Ev.neg h0 (Ev.ok rfl)
theorem sersL_len {s : ByteArray} : ∀ (n : Nat) (a e : Int), (sersL s n a e).1.length = n
  | 0, a, e => rfl
  | n + 1, a, e => by
    simp only [sersL, List.length_cons]
    rw [sersL_len n]
theorem sersL_bad {s : ByteArray} : ∀ (n : Nat) (a e : Int), e ≠ 0 → (sersL s n a e).2 = (a, e)
  | 0, a, e, h => rfl
  | n + 1, a, e, h => by
    have e1 : serR s a e = (⟨#[]⟩, a, e) := pc_bad h
    simp only [sersL, e1]
    exact sersL_bad n a e h
def sersA (acc : List ByteArray) (q : List ByteArray × Int × Int) : List ByteArray × Int × Int := sersG (acc ++ q.1, q.2)
theorem serials_l0 {s : ByteArray} {N : Nat} (hs : s.size < 1099511627776) (hN : N < 1000000) (d : Nat) : ∀ (i : Nat) (acc : List ByteArray) (a e : Int), N - i = d → i ≤ N → acc.length ≤ i →
    Ev (fun k => strict_Reader_Serials.l0 k acc (N : Int) (i : Int) s a (flt a e) true) ((sersA acc (sersL s d a e)).1, s, (sersA acc (sersL s d a e)).2.1, flt (sersA acc (sersL s d a e)).2.1 (sersA acc (sersL s d a e)).2.2, true) := by
  induction d with
  | zero =>
    intro i acc a e hd hi ha
    refine Ev.step (fun k => by simp only [strict_Reader_Serials.l0]; rfl) ?_
    refine Ev.neg (by omega) ?_
    unfold sersA sersG
    simp only [sersL, List.append_nil]
    by_cases h : e = 0
    · subst h
      rw [flt0, if_pos rfl]
      exact Ev.bindc (goes0 s a) (Ev.pos rfl (Ev.ok rfl))
    rw [flt1 h, if_neg h]
    refine Ev.bindc (goes1 s a _) (Ev.neg Bool.false_ne_true (Ev.ok ?_))
    rw [flt1 h]
  | succ d ih =>
    intro i acc a e hd hi ha
    refine Ev.step (fun k => by simp only [strict_Reader_Serials.l0]; rfl) ?_
    rw [wrap_eq (x := (i : Int) + 1) (by omega) (by omega)]
    refine Ev.pos (by omega) (Ev.bind (serial_f (s := s) a e hs) (Ev.pos (by omega) ?_))
    have hh := ih (i + 1) (acc ++ [(serR s a e).1]) (serR s a e).2.1 (serR s a e).2.2 (by omega) (by omega) (by simp only [List.length_append, List.length_cons, List.length_nil]; omega)
    have e1 : sersA (acc ++ [(serR s a e).1]) (sersL s d (serR s a e).2.1 (serR s a e).2.2) = sersA acc (sersL s (d + 1) a e) := by
      unfold sersA; simp only [sersL, List.append_assoc, List.cons_append, List.nil_append]
    rw [e1] at hh
    exact hh
theorem rserials_l0 {s : ByteArray} {N : Nat} (hs : s.size < 1099511627776) (hN : N < 1000000) (d : Nat) : ∀ (i : Nat) (acc : List ByteArray) (a e : Int), N - i = d → i ≤ N → acc.length ≤ i →
    Ev (fun k => backhaulref06_Serials.l0 k (N : Int) acc (i : Int) s a e) (s, (sersA acc (sersL s d a e)).2.1, (sersA acc (sersL s d a e)).2.2, (sersA acc (sersL s d a e)).1) := by
  induction d with
  | zero =>
    intro i acc a e hd hi ha
    refine Ev.step (fun k => by simp only [backhaulref06_Serials.l0]; rfl) ?_
    refine Ev.neg (by omega) ?_
    unfold sersA sersG
    simp only [sersL, List.append_nil]
    by_cases h : e = 0
    · have e1 : (if e = 0 then ((acc, a, e) : List ByteArray × Int × Int) else ([], a, e)) = (acc, a, e) := if_pos h
      rw [e1]; exact Ev.pos h (Ev.ok rfl)
    have e1 : (if e = 0 then ((acc, a, e) : List ByteArray × Int × Int) else ([], a, e)) = ([], a, e) := if_neg h
    rw [e1]; exact Ev.neg h (Ev.ok rfl)
  | succ d ih =>
    intro i acc a e hd hi ha
    refine Ev.step (fun k => by simp only [backhaulref06_Serials.l0]; rfl) ?_
    rw [wrap_eq (x := (i : Int) + 1) (by omega) (by omega)]
    refine Ev.pos (by omega) ?_
    by_cases h : e = 0
    · refine Ev.pos h (Ev.bind (rserial_f (s := s) a e hs) (Ev.pos (by omega) ?_))
      have hh := ih (i + 1) (acc ++ [(serR s a e).1]) (serR s a e).2.1 (serR s a e).2.2 (by omega) (by omega) (by simp only [List.length_append, List.length_cons, List.length_nil]; omega)
      have e1 : sersA (acc ++ [(serR s a e).1]) (sersL s d (serR s a e).2.1 (serR s a e).2.2) = sersA acc (sersL s (d + 1) a e) := by
        unfold sersA; simp only [sersL, List.append_assoc, List.cons_append, List.nil_append]
      rw [e1] at hh
      exact hh
    have hb := sersL_bad (s := s) (d + 1) a e h
    have e1 : sersA acc (sersL s (d + 1) a e) = ([], a, e) := by
      unfold sersA sersG
      rw [hb, if_neg h]
    rw [e1]
    exact Ev.neg h (Ev.ok rfl)
theorem numR_nonneg {s : ByteArray} {a e0 m : Int} : 0 ≤ (numR s a e0 1 m).1 ∧ (numR s a e0 1 m).1 ≤ 255 := by
  unfold numR
  by_cases h0 : e0 = 0
  · subst h0
    by_cases h1 : (bigR (getS s a 1) m).2.2 = 0
    · rw [pc_ok h1]
      unfold bigR at h1 ⊢
      split
      · exact ⟨by decide, by decide⟩
      rename_i h2
      rw [if_neg h2] at h1
      have e1 : getS s a 1 = ((getS s a 1).1, (getS s a 1).2.1, 0) := by
        rcases hg : getS s a 1 with ⟨x, y, z⟩
        rw [hg] at h1; simp only at h1; subst h1; rfl
      obtain ⟨w1, w2, w3, w4, w5, w6, w7⟩ := getS_ok e1
      refine ⟨w7, ?_⟩
      have := numAt_lt (s := s) (a := a.toNat) (w := 1) (by omega)
      rw [w5]
      show ((numAt s a.toNat (1 : Int).toNat : Nat) : Int) ≤ 255
      have e2 : (1 : Int).toNat = 1 := rfl
      rw [e2]; omega
    rw [pc_err h1]; exact ⟨Int.le_refl 0, (by decide : (0 : Int) ≤ 255)⟩
  rw [pc_bad h0]; exact ⟨Int.le_refl 0, (by decide : (0 : Int) ≤ 255)⟩
theorem serials_f {s : ByteArray} (a e0 m : Int) (hs : s.size < 1099511627776) : Ev (fun k => strict_Reader_Serials.f k s a (flt a e0) true m) ((sersR s a e0 m).1, s, (sersR s a e0 m).2.1, flt (sersR s a e0 m).2.1 (sersR s a e0 m).2.2, true) := by
  unfold strict_Reader_Serials.f sersR
  refine Ev.bind (num_f (s := s) a e0 1 m (by omega)) ?_
  have hn := numR_nonneg (s := s) (a := a) (e0 := e0) (m := m)
  obtain ⟨n, hn2⟩ := Int.eq_ofNat_of_zero_le hn.1
  have hh := serials_l0 (s := s) (N := n) hs (by omega) n 0 [] (numR s a e0 1 m).2.1 (numR s a e0 1 m).2.2 (by omega) (by omega) (by simp)
  have e1 : (numR s a e0 1 m).1.toNat = n := by rw [hn2]; rfl
  rw [e1]
  show Ev (fun k => strict_Reader_Serials.l0 k [] (numR s a e0 1 m).1 0 s (numR s a e0 1 m).2.1 (flt (numR s a e0 1 m).2.1 (numR s a e0 1 m).2.2) true) _
  rw [hn2]
  exact hh
theorem rserials_f {s : ByteArray} (a e0 m : Int) (hs : s.size < 1099511627776) : Ev (fun k => backhaulref06_Serials.f k s a e0 m) (s, (sersR s a e0 m).2.1, (sersR s a e0 m).2.2, (sersR s a e0 m).1) := by
  unfold backhaulref06_Serials.f sersR
  refine Ev.bind (rnum_f (s := s) a e0 1 m (by omega)) ?_
  have hn := numR_nonneg (s := s) (a := a) (e0 := e0) (m := m)
  obtain ⟨n, hn2⟩ := Int.eq_ofNat_of_zero_le hn.1
  have hh := rserials_l0 (s := s) (N := n) hs (by omega) n 0 [] (numR s a e0 1 m).2.1 (numR s a e0 1 m).2.2 (by omega) (by omega) (by simp)
  have e1 : (numR s a e0 1 m).1.toNat = n := by rw [hn2]; rfl
  rw [e1]
  show Ev (fun k => backhaulref06_Serials.l0 k (numR s a e0 1 m).1 [] 0 s (numR s a e0 1 m).2.1 (numR s a e0 1 m).2.2) _
  rw [hn2]
  exact hh
theorem sersR_len {s : ByteArray} {a e m : Int} : (sersR s a e m).1.length ≤ 255 := by
  have hn := numR_nonneg (s := s) (a := a) (e0 := e) (m := m)
  unfold sersR sersG
  split
  · rw [sersL_len]; omega
  exact Nat.zero_le _
theorem unrowL_len {s : ByteArray} {w : Int} : ∀ (n : Nat) (t : Int), (unrowL s w n t).1.length ≤ n
  | 0, t => Nat.zero_le _
  | n + 1, t => by
    have ih := unrowL_len (s := s) (w := w) n (getS s t w).2.1
    simp only [unrowL]
    split
    · split
      · simp only [List.length_cons]; omega
      exact Nat.zero_le _
    exact Nat.zero_le _
theorem rowR_len {s : ByteArray} {a e w m : Int} : (rowR s a e w m).1.length ≤ 1000 := by
  have h : (unrowS s a w m).1.length ≤ 1000 := by
    unfold unrowS
    split
    · exact Nat.zero_le _
    split
    · split
      · exact Nat.zero_le _
      rename_i h1
      have := unrowL_len (s := s) (w := w) (getS s a 2).1.toNat (getS s a 2).2.1
      omega
    exact Nat.zero_le _
  unfold rowR pc
  split
  · split
    · exact h
    exact Nat.zero_le _
  exact Nat.zero_le _
theorem at_f (s : ByteArray) (a : Int) (f : Option (Int × Int)) : strict_Reader_At.f s a f true = some (a, s, a, f, true) := rfl
end Go.Proofs.Ytakkhomjpflkbaa.Q
set_option linter.unusedVariables false
namespace Go.Proofs.Ytakkhomjpflkbaa.Pure
open Go.RowKit Go.Proofs.Ytakkhomjpflkbaa.F Go.Proofs.Ytakkhomjpflkbaa.Q Go.Proofs.YtakkhomjpflkbaaX Go.Proofs.YtakkhomjpflkbaaW.PrintWords Go.Proofs.YtakkhomjpflkbaaW.PrintLast Go.Proofs.YtakkhomjpflkbaaW.PrintMore
theorem read_j0 (s : ByteArray) (a e : Int) : Ev (fun k => backhaullaw06_read.j0 k true s a (flt a e) true s a e) (s, a, e, true, s, a, flt a e, true) := by
  refine Ev.step (fun k => by simp only [backhaullaw06_read.j0]; rfl) ?_
  refine Q.Ev.bindc (err_f s a _) (Q.Ev.bindc (why_f a e) (Q.Ev.pos trivial (Q.Ev.pos rfl (Q.Ev.bindc (at_f s a _) (Q.Ev.pos rfl ?_)))))
  by_cases h : e = 0
  · exact Q.Ev.pos h (Q.Ev.ok rfl)
  refine Q.Ev.neg h (Q.Ev.ok ?_)
  simp only [if_neg h, beq_self_eq_true]
theorem read_f {s : ByteArray} (a e kd w m : Int) (hs : s.size ≤ 2000) : ∃ a' e', Ev (fun k => backhaullaw06_read.f k s a (flt a e) true s a e kd w m) (s, a', e', true, s, a', flt a' e', true) := by
  unfold backhaullaw06_read.f
  by_cases k0 : kd = 0
  · refine ⟨(numR s a e w m).2.1, (numR s a e w m).2.2, Q.Ev.pos k0 (Ev.bind (rnum_f (s := s) a e w m (by omega)) (Ev.bind (num_f (s := s) a e w m (by omega)) ?_))⟩
    simp only [beq_self_eq_true]
    exact read_j0 _ _ _
  by_cases k1 : kd = 1
  · refine ⟨(textR s a e m).2.1, (textR s a e m).2.2, Q.Ev.neg k0 (Q.Ev.pos k1 (Ev.bind (rtext_f (s := s) a e m (by omega)) (Ev.bind (text_f (s := s) a e m (by omega)) ?_)))⟩
    simp only [beq_self_eq_true]
    exact read_j0 _ _ _
  by_cases k2 : kd = 2
  · refine ⟨(serR s a e).2.1, (serR s a e).2.2, Q.Ev.neg k0 (Q.Ev.neg k1 (Q.Ev.pos k2 (Ev.bind (rserial_f (s := s) a e (by omega)) (Ev.bind (serial_f (s := s) a e (by omega)) ?_))))⟩
    simp only [beq_self_eq_true]
    exact read_j0 _ _ _
  by_cases k3 : kd = 3
  · refine ⟨(rowR s a e w m).2.1, (rowR s a e w m).2.2, Q.Ev.neg k0 (Q.Ev.neg k1 (Q.Ev.neg k2 (Q.Ev.pos k3 (Ev.bind (rrow_f (s := s) a e w m (by omega)) (Ev.bind (row_f (s := s) a e w m (by omega)) ?_)))))⟩
    have hl : (rowR s a e w m).1.length < 9223372036854775807 := by
      have := rowR_len (s := s) (a := a) (e := e) (w := w) (m := m)
      omega
    refine Ev.bind (same_ints_f (a := (rowR s a e w m).1) (b := (rowR s a e w m).1) hl) ?_
    rw [decide_eq_true rfl]
    exact read_j0 _ _ _
  by_cases k4 : kd = 4
  · refine ⟨(sersR s a e m).2.1, (sersR s a e m).2.2, Q.Ev.neg k0 (Q.Ev.neg k1 (Q.Ev.neg k2 (Q.Ev.neg k3 (Q.Ev.pos k4 (Ev.bind (rserials_f (s := s) a e m (by omega)) (Ev.bind (serials_f (s := s) a e m (by omega)) ?_))))))⟩
    have hl : (sersR s a e m).1.length < 9223372036854775807 := by
      have := sersR_len (s := s) (a := a) (e := e) (m := m)
      omega
    refine Ev.bind (same_texts_f (a := (sersR s a e m).1) (b := (sersR s a e m).1) hl) ?_
    rw [decide_eq_true rfl]
    exact read_j0 _ _ _
  by_cases k5 : kd = 5
  · refine ⟨(flagR s a e).2.1, (flagR s a e).2.2, Q.Ev.neg k0 (Q.Ev.neg k1 (Q.Ev.neg k2 (Q.Ev.neg k3 (Q.Ev.neg k4 (Q.Ev.pos k5 (Ev.bind (rflag_f (s := s) a e (by omega)) (Ev.bind (flag_f (s := s) a e (by omega)) ?_)))))))⟩
    simp only [beq_self_eq_true]
    exact read_j0 _ _ _
  by_cases k6 : kd = 6
  · exact ⟨a, endR s a e, Q.Ev.neg k0 (Q.Ev.neg k1 (Q.Ev.neg k2 (Q.Ev.neg k3 (Q.Ev.neg k4 (Q.Ev.neg k5 (Q.Ev.pos k6 (Q.Ev.bindc (rend_f s a e) (Q.Ev.bindc (end_f s a e) (read_j0 _ _ _)))))))))⟩
  exact ⟨a, e, Q.Ev.neg k0 (Q.Ev.neg k1 (Q.Ev.neg k2 (Q.Ev.neg k3 (Q.Ev.neg k4 (Q.Ev.neg k5 (Q.Ev.neg k6 (read_j0 _ _ _)))))))⟩
theorem reads_l0 {s : ByteArray} {l : List S51} (hs : s.size ≤ 2000) (hl : l.length ≤ 40) (d : Nat) : ∀ (i : Nat) (a e : Int), l.length - i = d → i ≤ l.length → Ev (fun k => backhaullaw06_StrictReads.l0 k l (i : Int) s a (flt a e) true s a e) true := by
  induction d with
  | zero =>
    intro i a e hd hi
    exact Ev.step (fun k => by simp only [backhaullaw06_StrictReads.l0]; rfl) (Q.Ev.neg (by omega) (Q.Ev.const rfl))
  | succ d ih =>
    intro i a e hd hi
    refine Ev.step (fun k => by simp only [backhaullaw06_StrictReads.l0]; rfl) ?_
    rw [wrap_eq (x := (i : Int) + 1) (by omega) (by omega)]
    obtain ⟨a', e', h⟩ := read_f (s := s) a e (rd_T51 l (i : Int)).f0 (rd_T51 l (i : Int)).f1 (rd_T51 l (i : Int)).f2 hs
    exact Q.Ev.pos (by omega) (Q.Ev.pos (by omega) (Ev.bind h (Q.Ev.pos rfl (ih (i + 1) a' e' (by omega) (by omega)))))
theorem StrictReads : backhaullaw06_StrictReads.Pure := by
  intro s l hs hl
  refine Ev.rounds (r := true) ?_
  unfold backhaullaw06_StrictReads.f
  have aw : Ev (fun k => backhaullaw06_StrictReads.j0 k s l true) true := Ev.step (fun k => by simp only [backhaullaw06_StrictReads.j0]; rfl) (Q.Ev.pos trivial (Q.Ev.const rfl))
  refine Q.Ev.ite (fun _ => aw) (fun h => ?_)
  by_cases h1 : (l.length : Int) > 40
  · rw [decide_eq_true h1]; exact aw
  rw [decide_eq_false h1]
  refine Ev.step (fun k => by simp only [backhaullaw06_StrictReads.j0]; rfl) (Q.Ev.neg Bool.false_ne_true (Q.Ev.bindc (show strict_New.f s = some (s, 0, none, true) from rfl) ?_))
  exact reads_l0 (s := s) (l := l) (by omega) (by omega) l.length 0 0 0 (by omega) (by omega)
end Go.Proofs.Ytakkhomjpflkbaa.Pure
set_option linter.unusedVariables false
set_option linter.unusedSimpArgs false
namespace Go.Proofs.YtakkhomjpflkbaaX
open Go.RowKit Go.Proofs.YtakkhomjpflkbaaW.PrintWords Go.Proofs.YtakkhomjpflkbaaW.PrintLast Go.Proofs.YtakkhomjpflkbaaW.PrintMore
def Opens {α : Type} (P : Program) (t : TypeId) (k : Kd α) (Ok : α → Prop) : Prop :=
  ∀ {H : Type} {enc : TypeId × Value → H} {w : World} {base : Nat} {spare : Nat → Bool} {held : Bool} {fuel : Nat} {cs : List Value} {x : DataW H × List MemPlace},
    DataW.trod enc P w base spare held fuel t cs = some x → ∃ a : α, k.K w a cs ∧ Ok a
theorem Opens.int {P : Program} {t : TypeId} {k : IntKind} (ht : P.underlying t = some (.int k)) : Opens P t (Kd.int k) (fun a => (Lit.int k a).wf = true) := by
  intro H enc w base spare held fuel cs x h
  obtain ⟨n, rfl, _, hw⟩ := DataW.trod_int ht h
  exact ⟨n, rfl, hw⟩
theorem Opens.bool {P : Program} {t : TypeId} (ht : P.underlying t = some .bool) : Opens P t Kd.bool (fun _ => True) := by
  intro H enc w base spare held fuel cs x h
  obtain ⟨n, rfl, _⟩ := DataW.trod_bool ht h
  exact ⟨n, rfl, trivial⟩
theorem Opens.string {P : Program} {t : TypeId} (ht : P.underlying t = some .string) : Opens P t Kd.string (fun a => a.size ≤ maxLen) := by
  intro H enc w base spare held fuel cs x h
  obtain ⟨s, rfl, _, hw⟩ := DataW.trod_string ht h
  exact ⟨s, rfl, hw⟩
theorem list_of {α : Type} {p : Nat → α → Prop} : ∀ n, (∀ i, i < n → ∃ a, p i a) → ∃ xs : List α, xs.length = n ∧ ∀ i a, xs[i]? = some a → p i a
  | 0, _ => ⟨[], rfl, fun i a h => by simp at h⟩
  | n + 1, h => by
    obtain ⟨xs, hl, hx⟩ := list_of n (fun i hi => h i (by omega))
    obtain ⟨a, ha⟩ := h n (by omega)
    refine ⟨xs ++ [a], by simp [hl], fun i b hb => ?_⟩
    rcases Nat.lt_or_ge i xs.length with h1 | h1
    · rw [List.getElem?_append_left h1] at hb
      exact hx i b hb
    rw [List.getElem?_append_right h1] at hb
    have h2 : i - xs.length = 0 := by
      have := (List.getElem?_eq_some_iff.1 hb).1
      simp at this; omega
    rw [h2] at hb
    have : a = b := by simpa using hb
    subst this
    have : i = n := by omega
    rw [this]; exact ha
theorem Opens.slice {α : Type} {P : Program} {t e : TypeId} {k : Kd α} {Ok : α → Prop} (ht : P.underlying t = some (.slice e)) (hc : P.cellsOf e = k.sz) (h : Opens P e k Ok) :
    Opens P t (Kd.slice e k) (fun xs => xs.length ≤ maxLen ∧ ∀ x ∈ xs, Ok x) := by
  intro H enc w base spare held fuel cs x hx
  rcases Go.Deep.open_slice ht hx with ⟨rfl, rfl⟩ | ⟨a, len, cap, m, n, D, Pl, rfl, hb, hl, hm, hmm, rfl, hel⟩
  · exact ⟨[], ⟨none, 0, rfl, by simp, rfl, by simp, fun h => absurd h (by simp)⟩, by simp [maxLen], by simp⟩
  have hlm : len ≤ m := by rw [hmm]; split <;> omega
  obtain ⟨xs, hlen, hxs⟩ := list_of (p := fun i (a' : α) => ∃ cs', w.cells? base (a.add (i * P.cellsOf e)) (P.cellsOf e) = some cs' ∧ k.K w a' cs' ∧ Ok a') len (fun i hi => by
    obtain ⟨cs', h1, h2⟩ := hel i (by omega)
    obtain ⟨a', h3, h4⟩ := h h2
    exact ⟨a', cs', h1, h3, h4⟩)
  have hlm2 : len ≤ maxLen := by omega
  refine ⟨xs, ⟨some a, cap, by rw [hlen], by rw [hlen]; exact hl, rfl, by rw [hlen]; simpa [maxLen] using hlm2, fun _ => ⟨a, rfl, fun j p hj => ?_⟩⟩, by rw [hlen]; exact hlm2, fun y hy => ?_⟩
  · obtain ⟨cs', h1, h2, _⟩ := hxs j p hj
    refine ⟨cs', k.K_len h2, h2, fun i u hu => ?_⟩
    obtain ⟨_, _, h3⟩ := World.cells?_some h1
    have h4 := h3 i (by have := (List.getElem?_eq_some_iff.1 hu).1; have := k.K_len h2; omega)
    rw [← hc, ← Go.Proofs.YtakkhomjpflkbaaW.PrintWords.add_add]
    rw [← hu]; exact h4
  obtain ⟨i, hi, rfl⟩ := List.mem_iff_getElem.1 hy
  obtain ⟨_, _, _, h3⟩ := hxs i _ (List.getElem?_eq_getElem hi)
  exact h3
theorem field_reads {H : Type} {enc : TypeId × Value → H} {P : Program} {w : World} {base : Nat} {spare : Nat → Bool} {held : Bool} {fuel : Nat} {t : TypeId} {cs : List Value} {x : DataW H × List MemPlace} {fs : Array Field}
    (ht : P.underlying t = some (.struct fs)) (h : DataW.trod enc P w base spare held fuel t cs = some x) :
    cs.length = P.cellsOf t ∧ ∃ n, ∀ (i : Nat) (f : Field), fs[i]? = some f → ∃ y, DataW.trod enc P w base spare held n f.type ((cs.drop f.offset).take (P.cellsOf f.type)) = some y := by
  obtain ⟨xs, n, _, _, hl, hx, hf⟩ := DataW.trod_struct ht h
  refine ⟨hl, n, fun i f hif => ?_⟩
  rw [hf i f hif]
  have hi := (Array.getElem?_eq_some_iff.1 hif).1
  exact ⟨_, List.getElem?_eq_getElem (by rw [hx]; exact hi)⟩
theorem slice_cells {α : Type} {k : Kd α} {e : Nat} {w : World} {xs : List α} {v : Value} (h : (Kd.slice e k).K w xs [v]) : ∃ A c, v = .slice A xs.length c ∧ xs.length ≤ c ∧ k.C w A xs.length xs := by
  obtain ⟨A, c, he, hl, hc⟩ := h
  injection he with he
  exact ⟨A, c, he, hl, hc⟩
theorem band {a b : Bool} (h1 : a = true) (h2 : b = true) : (a && b) = true := by rw [h1, h2]; rfl
theorem mayEnter_of {P : Program} {L c : List Char} {rest : List (List Char)} (h : P.initOrder.toList = L) (h1 : behindMainWord (wordsSigns L) = c :: rest) (h2 : ((stripLifts liftWords (c :: rest)).2.head? == some "cut".toList) = true) (h3 : P.laysLater = false) (h4 : P.bearsReflect = false) (h5 : (stripLifts liftWords (c :: rest)).1 = []) (h6 : P.doorFits [] = true) : P.mayEnter = true := by
  unfold Program.mayEnter
  rw [h, h1]
  dsimp only
  rw [h2, h3, h4, h5, h6]
  simp
theorem make_of {P : Program} {L : List Char} {rest : List (List Char)} (h : P.initOrder.toList = L) (h1 : behindMainWord (wordsSigns L) = "cut".toList :: rest) : P.make = some .cut := by
  unfold Program.make
  rw [h, h1]
  dsimp only
  rw [if_neg (by decide), if_pos (by simp)]
end Go.Proofs.YtakkhomjpflkbaaX
set_option maxRecDepth 10000
namespace Go.Proofs.Ytakkhomjpflkbaa.Join
open Go.Proofs.YtakkhomjpflkbaaX
def initSigns : List Char := ['h', 'a', 'r', 'n', 'e', 's', 's', ' ', '8', '5', '1', '9', '2', 'd', '7', '1', '7', '6', 'f', 'f', '5', '6', '1', '0', '2', '1', 'b', '4', '6', '6', '4', 'b', '6', 'a', '6', '7', 'a', '6', '8', '3', '4', '1', 'a', '9', 'f', 'e', '4', 'b', '6', 'c', 'b', '5', '5', '7', 'f', '5', 'c', 'e', '1', '9', '0', '4', '4', '3', 'f', '0', '1', 'b', '7', '6', 'a', '6', ' ', 'c', 'u', 't', ' ', 'a', 't', ' ', 'b', 'a', 'c', 'k', 'h', 'a', 'u', 'l', '/', 'b', 'a', 'c', 'k', 'h', 'a', 'u', 'l', 'l', 'a', 'w', '3', '1', '.', 'R', 'e', 'p', 'l', 'y', 'C', 'o', 'd', 'e', 's', ' ', 'b', 'a', 'c', 'k', 'h', 'a', 'u', 'l', '/', 'b', 'a', 'c', 'k', 'h', 'a', 'u', 'l', 'l', 'a', 'w', '3', '1', '.', 'R', 'e', 'p', 'l', 'y', 'B', 'a', 'c', 'k', ' ', 'b', 'a', 'c', 'k', 'h', 'a', 'u', 'l', '/', 'b', 'a', 'c', 'k', 'h', 'a', 'u', 'l', 'l', 'a', 'w', '3', '1', '.', 'R', 'e', 'p', 'l', 'y', 'O', 'n', 'l', 'y', ' ', 'b', 'a', 'c', 'k', 'h', 'a', 'u', 'l', '/', 'b', 'a', 'c', 'k', 'h', 'a', 'u', 'l', 'l', 'a', 'w', '0', '6', '.', 'S', 't', 'r', 'i', 'c', 't', 'R', 'e', 'a', 'd', 's', ' ', 'b', 'a', 'c', 'k', 'h', 'a', 'u', 'l', '/', 'b', 'a', 'c', 'k', 'h', 'a', 'u', 'l', 'l', 'a', 'w', '0', '6', '.', 'S', 't', 'r', 'i', 'c', 't', 'F', 'i', 'r', 's', 't', ' ', 'b', 'a', 'c', 'k', 'h', 'a', 'u', 'l', '/', 'b', 'a', 'c', 'k', 'h', 'a', 'u', 'l', 'l', 'a', 'w', '2', '7', '.', 'R', 'm', 'a', 'M', 'a', 'k', 'e', 's', ' ', 'b', 'a', 'c', 'k', 'h', 'a', 'u', 'l', '/', 'b', 'a', 'c', 'k', 'h', 'a', 'u', 'l', 'l', 'a', 'w', '2', '7', '.', 'R', 'm', 'a', 'M', 'o', 'v', 'e', 's', ' ', 'b', 'a', 'c', 'k', 'h', 'a', 'u', 'l', '/', 'b', 'a', 'c', 'k', 'h', 'a', 'u', 'l', 'l', 'a', 'w', '2', '7', '.', 'R', 'm', 'a', 'T', 'u', 'r', 'n', 's', ' ', 'b', 'a', 'c', 'k', 'h', 'a', 'u', 'l', '/', 'b', 'a', 'c', 'k', 'h', 'a', 'u', 'l', 'l', 'a', 'w', '2', '7', '.', 'R', 'm', 'a', 'B', 'o', 'u', 'n', 'd', 's', ' ', 'b', 'a', 'c', 'k', 'h', 'a', 'u', 'l', '/', 'b', 'a', 'c', 'k', 'h', 'a', 'u', 'l', 'l', 'a', 'w', '0', '6', '.', 'S', 't', 'r', 'i', 'c', 't', 'W', 'h', 'o', 'l', 'e', ' ', 'b', 'a', 'c', 'k', 'h', 'a', 'u', 'l', '/', 'b', 'a', 'c', 'k', 'h', 'a', 'u', 'l', 'l', 'a', 'w', '1', '4', '.', 'I', 'n', 'd', 'e', 'x', 'T', 'e', 'l', 'l', 's', ' ', 'b', 'a', 'c', 'k', 'h', 'a', 'u', 'l', '/', 'b', 'a', 'c', 'k', 'h', 'a', 'u', 'l', 'l', 'a', 'w', '1', '4', '.', 'I', 'n', 'd', 'e', 'x', 'A', 'd', 'd', 's', ' ', 'b', 'a', 'c', 'k', 'h', 'a', 'u', 'l', '/', 'b', 'a', 'c', 'k', 'h', 'a', 'u', 'l', 'l', 'a', 'w', '1', '4', '.', 'I', 'n', 'd', 'e', 'x', 'T', 'u', 'r', 'n', 's', ' ', 'b', 'a', 'c', 'k', 'h', 'a', 'u', 'l', '/', 'b', 'a', 'c', 'k', 'h', 'a', 'u', 'l', 'l', 'a', 'w', '1', '4', '.', 'I', 'n', 'd', 'e', 'x', 'W', 'h', 'o', 'l', 'e', ' ', 'b', 'a', 'c', 'k', 'h', 'a', 'u', 'l', '/', 'b', 'a', 'c', 'k', 'h', 'a', 'u', 'l', 'l', 'a', 'w', '1', '5', '.', 'B', 'a', 't', 'c', 'h', 'A', 'p', 'p', 'l', 'i', 'e', 's', ' ', 'b', 'a', 'c', 'k', 'h', 'a', 'u', 'l', '/', 'b', 'a', 'c', 'k', 'h', 'a', 'u', 'l', 'l', 'a', 'w', '1', '5', '.', 'B', 'a', 't', 'c', 'h', 'C', 'o', 'd', 'e', 's', ' ', 'b', 'a', 'c', 'k', 'h', 'a', 'u', 'l', '/', 'b', 'a', 'c', 'k', 'h', 'a', 'u', 'l', 'l', 'a', 'w', '1', '5', '.', 'B', 'a', 't', 'c', 'h', 'W', 'h', 'o', 'l', 'e', ' ', 'b', 'a', 'c', 'k', 'h', 'a', 'u', 'l', '/', 'b', 'a', 'c', 'k', 'h', 'a', 'u', 'l', 'l', 'a', 'w', '1', '5', '.', 'B', 'a', 't', 'c', 'h', 'U', 'n', 'd', 'o', ' ', 'b', 'a', 'c', 'k', 'h', 'a', 'u', 'l', '/', 'b', 'a', 'c', 'k', 'h', 'a', 'u', 'l', 'l', 'a', 'w', '1', '5', '.', 'B', 'a', 't', 'c', 'h', 'D', 'i', 'f', 'f', ' ', 'b', 'a', 'c', 'k', 'h', 'a', 'u', 'l', '/', 'b', 'a', 'c', 'k', 'h', 'a', 'u', 'l', 'l', 'a', 'w', '3', '0', '.', 'C', 'm', 'd', 'B', 'a', 'c', 'k', ' ', 'b', 'a', 'c', 'k', 'h', 'a', 'u', 'l', '/', 'b', 'a', 'c', 'k', 'h', 'a', 'u', 'l', 'l', 'a', 'w', '3', '0', '.', 'C', 'm', 'd', 'O', 'n', 'l', 'y']
theorem initText : Try.pinned.checked.prog.initOrder = String.ofList initSigns := by kernel_rfl
theorem initList : Try.pinned.checked.prog.initOrder.toList = initSigns := (congrArg String.toList initText).trans String.toList_ofList
theorem mayEnter_is : Try.pinned.checked.prog.mayEnter = true :=
  mayEnter_of (L := initSigns) (c := "cut".toList) (rest := (behindMainWord (wordsSigns initSigns)).tail) initList (by kernel_rfl) (by kernel_rfl) (by kernel_rfl) (by kernel_rfl) (by kernel_rfl) (by kernel_rfl)
theorem make_is : Try.pinned.checked.prog.make = some .cut :=
  make_of (L := initSigns) (rest := (behindMainWord (wordsSigns initSigns)).tail) initList (by kernel_rfl)
theorem lifts_is : Try.pinned.checked.prog.liftsFinal = false := by
  unfold Program.liftsFinal Program.headLifts
  rw [initList]
  kernel_rfl
end Go.Proofs.Ytakkhomjpflkbaa.Join
namespace Go.Proofs.Ytakkhomjpflkbaa.strictReads
open Go.ChangeShapes Go.WideShapes Go.ChangeAt Go.RowKit Go.Proofs.YtakkhomjpflkbaaX Go.Proofs.Ytakkhomjpflkbaa.F Go.Proofs.YtakkhomjpflkbaaW.PrintWords Go.Proofs.YtakkhomjpflkbaaW.PrintLast Go.Proofs.YtakkhomjpflkbaaW.PrintMore
open Go.ChangeMaps (open_string shut_string)
set_option linter.unusedVariables false
set_option linter.unusedSimpArgs false
theorem own : ownKnob Try.prog.godebug = none := by kernel_rfl
theorem laidOut : laidOutB Try.prog = true := by kernel_rfl
set_option maxRecDepth 100000 in
theorem opens_k51 : Opens Try.prog 51 k51 (fun x => ((Lit.int .i64 x.f0).wf = true ∧ (Lit.int .i64 x.f1).wf = true ∧ (Lit.int .i64 x.f2).wf = true)) := by
  intro H enc w base spare held fuel cs x h
  obtain ⟨hl, n, hf⟩ := field_reads Try.underlying51 h
  have hl2 : cs.length = 3 := hl.trans (by kernel_rfl)
  match cs, hl2 with
  | [c0, c1, c2], _ =>
    obtain ⟨y0, h0⟩ := hf 0 _ rfl
    have e0 : Try.prog.cellsOf 3 = 1 := by kernel_rfl
    (try dsimp only at h0)
    (try simp only [e0] at h0)
    obtain ⟨a0, k0, o0⟩ := (Opens.int Try.underlying3) h0
    have k0' : ((Kd.int .i64)).K w a0 [c0] := k0
    obtain ⟨y1, h1⟩ := hf 1 _ rfl
    have e1 : Try.prog.cellsOf 3 = 1 := by kernel_rfl
    (try dsimp only at h1)
    (try simp only [e1] at h1)
    obtain ⟨a1, k1, o1⟩ := (Opens.int Try.underlying3) h1
    have k1' : ((Kd.int .i64)).K w a1 [c1] := k1
    obtain ⟨y2, h2⟩ := hf 2 _ rfl
    have e2 : Try.prog.cellsOf 3 = 1 := by kernel_rfl
    (try dsimp only at h2)
    (try simp only [e2] at h2)
    obtain ⟨a2, k2, o2⟩ := (Opens.int Try.underlying3) h2
    have k2' : ((Kd.int .i64)).K w a2 [c2] := k2
    exact ⟨(⟨a0, a1, a2⟩ : S51), ⟨[c0], [c1, c2], rfl, k0', ⟨[c1], [c2], rfl, k1', k2'⟩⟩, ⟨o0, o1, o2⟩⟩
set_option maxRecDepth 100000 in
theorem lifted (os : Os) (started : os.Started) (H : Type) (enc : TypeId × Value → H) :
    ReturnsInHanded {} Try.checked os 6 .any (Rows.strictReadsSpec.pre6 enc Try.prog Try.f6 Rows.strictReadsRow.domain false) (Rows.strictReadsSpec.post enc Try.prog Try.f6 false true false false) := by
  refine returnsInHanded_of_change_sized (C := Try.checked) own started (by kernel_rfl) Try.func6
    (ChangeSpec.witness6 (enc := enc) (C := Try.checked) false ⟨#[], #[.string ByteArray.empty, .slice none 0 0], []⟩ 8 (by kernel_rfl) (by kernel_rfl) (by kernel_rfl) (by kernel_rfl)) ?_
  intro W base args ds gs before hval0 hW hcnd hsz0 _
  have hval : ∀ (j : Nat) t v, Try.f6.params[j]? = some t → args[j]? = some v → Value.okWide Try.prog W .any base t v := hval0
  have hW' := hW
  obtain ⟨p, q, hA0, hV, rfl, hfz, hnd⟩ := hW
  have hA : DataW.TrodAll enc Try.prog W 0 (fun _ => true) true Try.f6.params.toList args.toList ds p := hA0
  rw [Try.params6] at hA hval
  obtain ⟨v0, vs0, d0, ds0, p0, q0, hargs, rfl, rfl, h0, r0⟩ := trodAll_cons hA
  obtain ⟨v1, vs1, d1, ds1, p1, q1, rfl, rfl, rfl, h1, r1⟩ := trodAll_cons r0
  obtain ⟨rfl, rfl, rfl⟩ := trodAll_nil r1
  obtain rfl : args = #[v0, v1] := by cases args; simp_all
  obtain ⟨rfl, rfl⟩ := trodVars_none hV
  have k0 := h0
  have lt0 : ∀ x ∈ p0, x.block < W.heap.size := by obtain ⟨m, hm⟩ := k0; exact DataW.trod_lt m _ _ _ hm
  obtain ⟨x0, rfl⟩ := okWide_string Try.underlying9 (hval 0 9 v0 rfl rfl)
  obtain ⟨f0, hf0⟩ := h0
  obtain ⟨z0, hk0, ho0⟩ := (Opens.string Try.underlying9) hf0
  obtain rfl : x0 = z0 := by have := hk0; injection this with this; injection this
  have k1 := h1
  have lt1 : ∀ x ∈ p1, x.block < W.heap.size := by obtain ⟨m, hm⟩ := k1; exact DataW.trod_lt m _ _ _ hm
  obtain ⟨b1, len1, cap1, rfl⟩ := okWide_slice Try.underlying43 (hval 1 43 v1 rfl rfl)
  obtain ⟨f1, hf1⟩ := h1
  obtain ⟨x1, hk1, ho1⟩ := (Opens.slice Try.underlying43 (by kernel_rfl) opens_k51) hf1
  obtain ⟨A1, c1, he1, hl1, hc1⟩ := slice_cells (show _ from hk1)
  injection he1 with e1_1 e1_2 e1_3
  subst e1_1 e1_2 e1_3
  obtain ⟨k, h⟩ : ∃ k, backhaullaw06_StrictReads.f k x0 x1 = some true := Pure.StrictReads x0 x1 ho0 ho1
  refine (backhaullaw06_StrictReads.calls k x0 _ _ x1 W hc1 hl1 h).mono fun e W' hq => ?_
  obtain ⟨he, bel0⟩ := hq
  have bel : Below W.heap.size W W' := bel0
  subst he
  exact ⟨_, rfl, _, _, _, [], _, [], hW', trodAll_mk1 (shut_bool Try.underlying4 _), (trodAll_cons_mk (Below.trod laidOut (by kernel_rfl) (of_decide_eq_true (by kernel_rfl)) k0 bel lt0) (trodAll_cons_mk (Below.trod laidOut (by kernel_rfl) (of_decide_eq_true (by kernel_rfl)) k1 bel lt1) trodAll_mk0)), rfl, bel.frame _, fun h => by cases h⟩
theorem closed_ : joinedFacts Try.pinned.checked.prog 6 Try.f6 Rows.strictReadsSpec Rows.strictReadsRow = true := by
  unfold joinedFacts
  repeat' (with_reducible apply band)
  any_goals with_reducible exact Join.mayEnter_is
  any_goals (rw [Join.make_is]; kernel_rfl)
  any_goals (rw [Join.lifts_is]; kernel_rfl)
  all_goals kernel_rfl
theorem over : Rows.strictReadsRow.holds Try.pinned (OpenSpec.ofChange Rows.strictReadsSpec) :=
  OpenClaim.holds_of_wide 6 Try.f6 rfl rfl rfl rfl rfl rfl rfl ⟨rfl, rfl, rfl, rfl, rfl⟩ rfl rfl rfl rfl rfl (by kernel_rfl) Try.func6 closed_
    (of_decide_eq_true (by kernel_rfl)) (by unfold Func.isWrapper; first | (rw [if_pos (by decide +kernel)]; kernel_rfl) | (rw [if_neg (by decide +kernel)]; exact ⟨rfl, rfl⟩))
    (fun os started H enc _ => lifted os started H enc)
theorem proved : Rows.StrictReadsSaid := over
#print axioms proved
end Go.Proofs.Ytakkhomjpflkbaa.strictReads
namespace Go.Proofs.Ytakkhomjpflkbaa
theorem strictReads_holds : Rows.StrictReadsSaid := strictReads.proved
end Go.Proofs.Ytakkhomjpflkbaa
