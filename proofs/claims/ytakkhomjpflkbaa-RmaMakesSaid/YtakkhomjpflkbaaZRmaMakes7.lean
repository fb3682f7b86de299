-- merged and pruned by prune.py (the session's own program); its words go back to the kit's print
import Derived.Test.YtakkhomjpflkbaaProg
import Derived.Below
import Derived.Deep.Draws
import Derived.Deep.AppendLies
import Derived.Maps.AppendAt
import Derived.OwnWalk
import Derived.Laws.BytesArg
import Derived.Laws.MakeOwn
import Derived.Laws.OwnMore
import Derived.Deep.OwnRows
import Derived.Tactics
import Derived.Lib.ConvBytes
import Derived.Laws.Slices
import Derived.WalkKit
import Derived.KernelRfl
import Derived.RowKit3
import Derived.Deep.LoopGhost
import Derived.Deep.QuietTactic
import Derived.BigQuiet
import Derived.WideLaws
import Derived.Deep.DeepCutAuto
import Derived.Deep.CutBlock
import Derived.Deep.RegionHeld3
import Derived.Laws.Rows
import Derived.Lib.AppendStr
import Derived.ArgAppend
import Derived.Laws.IdiomCopy
import Derived.OrdersHeld
import Derived.Laws.BitsLemmas
import Derived.RowKit
import Derived.Laws.StructEq
import Derived.Deep.RegionLawGrows
import Derived.Lib.SliceRun
import Derived.Lib.OthersKept
import Derived.Lib.RuneCount
import Derived.Laws.Cover4
import Derived.Outline
import Derived.Shelf.Strings.Builder1
import Derived.Shelf.Strings.BuilderF
import Derived.Shelf.Strings.BuilderK
import Derived.Shelf.Utf8.RuneCount
import Derived.Shelf.Strings.Prefix
import Derived.Maps.Own
import Derived.Maps.OwnOps
import Derived.Maps.Views
import Derived.StringKeys
import Derived.Carry
import Derived.Laws.CopyRow
import Derived.Laws.CopyOwn
import Derived.Deep.Slices
import Derived.ChangeArms
import Derived.WideShapes
import Derived.OpenShut
import Derived.Test.YtakkhomjpflkbaaRows
import Derived.ProofKit
import Derived.ShutString
import Derived.ChangeOld
import Derived.SizedLaws
import Derived.Test.YtakkhomjpflkbaaZRmaMakes6
set_option linter.unusedVariables false
namespace Go.Proofs.Ytakkhomjpflkbaa.Q
open Go.RowKit Go.Proofs.Ytakkhomjpflkbaa.F Go.Proofs.YtakkhomjpflkbaaX Go.Proofs.YtakkhomjpflkbaaW.PrintWords Go.Proofs.YtakkhomjpflkbaaW.PrintLast Go.Proofs.YtakkhomjpflkbaaW.PrintMore
theorem serial_row_l0 {l : List ByteArray} (hl : l.length < 4611686018427387904) (hs : ∀ x ∈ l, x.size < 1099511627776) (d : Nat) : ∀ (i : Nat), l.length - i = d → i ≤ l.length → Ev (fun k => serial_Row.l0 k l l (l.length : Int) (i : Int)) (rowG (if i = 0 then none else l[i - 1]?) (l.drop i)) := by
  induction d with
  | zero =>
    intro i hd hi
    refine Ev.step (fun k => by simp only [serial_Row.l0]; rfl) ?_
    refine Ev.neg (by omega) (Ev.ok ?_)
    rw [List.drop_eq_nil_of_le (by omega)]; rfl
  | succ d ih =>
    intro i hd hi
    have h : i < l.length := by omega
    refine Ev.step (fun k => by simp only [serial_Row.l0]; rfl) ?_
    refine Ev.pos (by omega) (Ev.pos (by omega) (Ev.pos (by omega) ?_))
    rw [drop_cons h, rdOf_nat h, wrap_eq (x := (i : Int) + 1) (by omega) (by omega)]
    have ih' := ih (i + 1) (by omega) (by omega)
    rw [if_neg (by omega), Nat.add_sub_cancel, List.getElem?_eq_getElem h] at ih'
    refine Ev.bindc (serial_check_f _ (by have := hs _ (List.getElem_mem h); omega)) ?_
    simp only [rowG]
    refine Ev.ite (fun h1 => ?_) (fun h1 => ?_)
    · rw [if_pos h1]
      refine Ev.ite (fun h2 => ?_) (fun h2 => ?_)
      · have h' : i - 1 < l.length := by omega
        rw [wrap_eq (x := (i : Int) - 1) (by omega) (by omega), show (i : Int) - 1 = ((i - 1 : Nat) : Int) by omega, rdOf_nat h', if_neg (show ¬ i = 0 by omega), List.getElem?_eq_getElem h']
        refine Ev.pos (by omega) (Ev.pos (by omega) ?_)
        refine Ev.ite (fun h3 => ?_) (fun h3 => ?_)
        · rw [if_neg (by simp [notUp, h3])]; exact ih'
        rw [if_pos (by simp [notUp, h3])]; exact Ev.ok rfl
      rw [if_pos (show i = 0 by omega), if_neg (by simp [notUp])]; exact ih'
    rw [if_neg h1, (checkS_or _).resolve_left h1]; exact Ev.ok rfl
theorem serial_row_f {l : List ByteArray} (hl : l.length < 4611686018427387904) (hs : ∀ x ∈ l, x.size < 1099511627776) : Ev (fun k => serial_Row.f k l) (rowG none l) := by
  unfold serial_Row.f
  exact serial_row_l0 hl hs l.length 0 (by omega) (by omega)
theorem ref01_row_l0 {l : List ByteArray} (hl : l.length < 4611686018427387904) (hs : ∀ x ∈ l, x.size < 1099511627776) (d : Nat) : ∀ (i : Nat), l.length - i = d → i ≤ l.length → Ev (fun k => backhaulref01_Row.l0 k l (i : Int)) (rowG (if i = 0 then none else l[i - 1]?) (l.drop i)) := by
  induction d with
  | zero =>
    intro i hd hi
    refine Ev.step (fun k => by simp only [backhaulref01_Row.l0]; rfl) ?_
    refine Ev.neg (by omega) (Ev.ok ?_)
    rw [List.drop_eq_nil_of_le (by omega)]; rfl
  | succ d ih =>
    intro i hd hi
    have h : i < l.length := by omega
    refine Ev.step (fun k => by simp only [backhaulref01_Row.l0]; rfl) ?_
    refine Ev.pos (by omega) (Ev.pos (by omega) ?_)
    rw [drop_cons h, rdOf_nat h, wrap_eq (x := (i : Int) + 1) (by omega) (by omega)]
    have ih' := ih (i + 1) (by omega) (by omega)
    rw [if_neg (by omega), Nat.add_sub_cancel, List.getElem?_eq_getElem h] at ih'
    refine Ev.bind (ref01_check_f _ (hs _ (List.getElem_mem h))) ?_
    simp only [rowG]
    refine Ev.ite (fun h1 => ?_) (fun h1 => ?_)
    · rw [if_pos h1]
      refine Ev.ite (fun h2 => ?_) (fun h2 => ?_)
      · have h' : i - 1 < l.length := by omega
        rw [wrap_eq (x := (i : Int) - 1) (by omega) (by omega), show (i : Int) - 1 = ((i - 1 : Nat) : Int) by omega, rdOf_nat h', if_neg (show ¬ i = 0 by omega), List.getElem?_eq_getElem h']
        refine Ev.pos (by omega) (Ev.pos (by omega) ?_)
        refine Ev.ite (fun h3 => ?_) (fun h3 => ?_)
        · rw [if_neg (by simp [notUp, h3])]; exact ih'
        rw [if_pos (by simp [notUp, h3])]; exact Ev.ok rfl
      rw [if_pos (show i = 0 by omega), if_neg (by simp [notUp])]; exact ih'
    rw [if_neg h1]; exact Ev.ok rfl
theorem ref01_row_f {l : List ByteArray} (hl : l.length < 4611686018427387904) (hs : ∀ x ∈ l, x.size < 1099511627776) : Ev (fun k => backhaulref01_Row.f k l) (rowG none l) := by
  unfold backhaulref01_Row.f
  exact ref01_row_l0 hl hs l.length 0 (by omega) (by omega)
abbrev LnT := S216
theorem rdL {l : List LnT} {i : Nat} (h : i < l.length) : rd_T216 l (i : Int) = l[i] := by
  unfold rd_T216; simp [h]
def fewR (s : List ByteArray) : Bool := s.all fun x => decide (x.size ≤ 100)
def fewB (l : List LnT) : Bool := l.all fun x => decide (x.f4.length ≤ 40) && fewR x.f4
def fewP (l : List LnT) : Prop := l.length ≤ 20 ∧ ∀ x ∈ l, x.f4.length ≤ 40 ∧ ∀ s ∈ x.f4, s.size ≤ 100
theorem fewB_iff {l : List LnT} : fewB l = true ↔ ∀ x ∈ l, x.f4.length ≤ 40 ∧ ∀ s ∈ x.f4, s.size ≤ 100 := by
  unfold fewB fewR
  simp only [List.all_eq_true, Bool.and_eq_true, decide_eq_true_eq]
theorem few_l1 {l : List LnT} {i : Nat} {r : Bool} (hl : l.length ≤ 20) (hi : i < l.length) (h40 : l[i].f4.length ≤ 40) (hr : Ev (fun k => backhaullaw21_Few.l0 k l ((i + 1 : Nat) : Int)) r) (d : Nat) : ∀ (j : Nat), l[i].f4.length - j = d → j ≤ l[i].f4.length → Ev (fun k => backhaullaw21_Few.l1 k l (i : Int) (j : Int)) (fewR (l[i].f4.drop j) && r) := by
  induction d with
  | zero =>
    intro j hd hj
    refine Ev.step (fun k => by simp only [backhaullaw21_Few.l1]; rfl) (Ev.pos (by omega) (Ev.pos (by omega) ?_))
    rw [rdL hi, List.drop_eq_nil_of_le (by omega), wrap_eq (x := (i : Int) + 1) (by omega) (by omega)]
    exact Ev.neg (by omega) hr
  | succ d ih =>
    intro j hd hj
    have h : j < l[i].f4.length := by omega
    refine Ev.step (fun k => by simp only [backhaullaw21_Few.l1]; rfl) (Ev.pos (by omega) (Ev.pos (by omega) ?_))
    rw [rdL hi, rdOf_nat h, wrap_eq (x := (j : Int) + 1) (by omega) (by omega), drop_cons h]
    refine Ev.pos (by omega) (Ev.pos (by omega) (Ev.ite (fun h1 => Ev.ok ?_) (fun h1 => Ev.eq (ih (j + 1) (by omega) (by omega)) ?_)))
    · unfold fewR; rw [List.all_cons, decide_eq_false (by omega)]; rfl
    unfold fewR; rw [List.all_cons, decide_eq_true (by omega)]; rfl
theorem few_l0 {l : List LnT} (hl : l.length ≤ 20) (d : Nat) : ∀ (i : Nat), l.length - i = d → i ≤ l.length → Ev (fun k => backhaullaw21_Few.l0 k l (i : Int)) (fewB (l.drop i)) := by
  induction d with
  | zero =>
    intro i hd hi
    refine Ev.step (fun k => by simp only [backhaullaw21_Few.l0]; rfl) (Ev.neg (by omega) (Ev.ok ?_))
    rw [List.drop_eq_nil_of_le (by omega)]; rfl
  | succ d ih =>
    intro i hd hi
    have h : i < l.length := by omega
    refine Ev.step (fun k => by simp only [backhaullaw21_Few.l0]; rfl) (Ev.pos (by omega) (Ev.pos (by omega) ?_))
    rw [rdL h, drop_cons h]
    refine Ev.ite (fun h1 => Ev.ok ?_) (fun h1 => Ev.eq (few_l1 hl h (by omega) (ih (i + 1) (by omega) (by omega)) l[i].f4.length 0 (by omega) (by omega)) ?_)
    · unfold fewB; rw [List.all_cons, decide_eq_false (by omega)]; rfl
    unfold fewB; rw [List.all_cons, decide_eq_true (by omega), List.drop_zero]; rfl
theorem few_f (l : List LnT) : Ev (fun k => backhaullaw21_Few.f k l) (decide (l.length ≤ 20) && fewB l) := by
  unfold backhaullaw21_Few.f
  refine Ev.ite (fun h => Ev.ok (by rw [decide_eq_false (by omega)]; rfl)) (fun h => ?_)
  rw [decide_eq_true (by omega)]
  exact few_l0 (by omega) l.length 0 (by omega) (by omega)
theorem few_p {l : List LnT} (h : (decide (l.length ≤ 20) && fewB l) = true) : fewP l := by
  rw [Bool.and_eq_true, decide_eq_true_eq] at h
  exact ⟨h.1, fewB_iff.1 h.2⟩
def mayB (b c d : Int) : Bool := decide (0 ≤ b ∧ b ≤ 1000000000000 ∧ 0 ≤ c ∧ c ≤ b ∧ 0 ≤ d ∧ d ≤ 1000000000000 ∧ c + d ≤ 1000000000000)
def lineR (a b c d : Int) (s : List ByteArray) : Int := if a < 1 ∨ a > 999999 then 2 else if mayB b c d = true then (if s.length < 1 ∨ s.length > 20 then 9 else if rowG none s = 0 then 0 else 9) else 8
theorem in_f3 (a : Int) : cents_In.f a = some (decide (-1000000000000 ≤ a ∧ a ≤ 1000000000000)) := by
  unfold cents_In.f
  by_cases h : a ≥ -1000000000000
  · rw [if_pos h]; congr 1; exact decide_eq_decide.2 ⟨fun x => ⟨h, x⟩, fun x => x.2⟩
  rw [if_neg h]; congr 1; exact (decide_eq_false (fun x => h x.1)).symm
theorem paid_f3 (a : Int) : line_paid.f a = some (decide (0 ≤ a ∧ a ≤ 1000000000000)) := by
  unfold line_paid.f
  by_cases h : a ≥ 0
  · rw [if_pos h, in_f3, Option.bind_some]; congr 1; exact decide_eq_decide.2 ⟨fun x => ⟨h, x.2⟩, fun x => ⟨by omega, x.2⟩⟩
  rw [if_neg h]; congr 1; exact (decide_eq_false (fun x => h x.1)).symm
theorem price_f (a b c d : Int) (s : List ByteArray) : line_price_may.f a b c d s = some (mayB b c d) := by
  unfold line_price_may.f mayB
  rw [paid_f3, paid_f3, paid_f3]
  simp only [Option.bind_some, decide_eq_true_eq]
  by_cases h1 : 0 ≤ b ∧ b ≤ 1000000000000
  · by_cases h2 : 0 ≤ c ∧ c ≤ 1000000000000
    · by_cases h3 : 0 ≤ d ∧ d ≤ 1000000000000
      · by_cases h4 : c ≤ b
        · rw [if_pos h1, if_pos h2, if_pos h3, if_pos h4, in_f3, Option.bind_some, wrap_eq (by omega) (by omega)]
          congr 1; exact decide_eq_decide.2 (by omega)
        rw [if_pos h1, if_pos h2, if_pos h3, if_neg h4]; congr 1; exact (decide_eq_false (by omega)).symm
      rw [if_pos h1, if_pos h2, if_neg h3]; congr 1; exact (decide_eq_false (by omega)).symm
    rw [if_pos h1, if_neg h2]; congr 1; exact (decide_eq_false (by omega)).symm
  rw [if_neg h1]; congr 1; exact (decide_eq_false (by omega)).symm
theorem line_check_f {a b c d : Int} {s : List ByteArray} (hs : s.length ≤ 40) (hz : ∀ x ∈ s, x.size ≤ 100) : Ev (fun k => line_Check.f k a b c d s) (lineR a b c d s) := by
  unfold line_Check.f
  have key : ∀ t : Bool, (t = true ↔ (a < 1 ∨ a > 999999)) → Ev (fun k => line_Check.j0 k t a b c d s a b c d s) (lineR a b c d s) := by
    intro t ht
    unfold lineR
    refine Ev.step (fun k => by simp only [line_Check.j0]; rfl) (Ev.ite (fun h => Ev.ok (by rw [if_pos (ht.1 h)])) (fun h => ?_))
    rw [if_neg (fun g => h (ht.2 g))]
    refine Ev.bindc (price_f a b c d s) (Ev.ite (fun h1 => ?_) (fun h1 => Ev.ok (by rw [if_neg h1])))
    rw [if_pos h1]
    refine Ev.ite (fun h2 => Ev.ok (by rw [if_pos (by omega)])) (fun h2 => Ev.ite (fun h3 => Ev.ok (by rw [if_pos (by omega)])) (fun h3 => ?_))
    rw [if_neg (by omega)]
    refine Ev.bind (serial_row_f (by omega) (fun x hx => by have := hz x hx; omega)) (Ev.ite (fun h4 => Ev.ok (by rw [if_pos h4])) (fun h4 => Ev.ok (by rw [if_neg h4])))
  refine Ev.ite (fun h => key true (by simp [h])) (fun h => key _ (by simp; omega))
theorem ref_line_f {a b c d : Int} {s : List ByteArray} (hc : -9223372036854775808 ≤ c) (hs : s.length ≤ 40) (hz : ∀ x ∈ s, x.size ≤ 100) : Ev (fun k => backhaulref21_Check.f k a b c d s) (lineR a b c d s) := by
  unfold backhaulref21_Check.f
  have k1 : ¬ (a < 1 ∨ a > 999999) → ∀ t : Bool, (t = true ↔ ¬ mayB b c d = true) → Ev (fun k => backhaulref21_Check.j1 k t a b c d s) (lineR a b c d s) := by
    intro ha t ht
    unfold lineR
    rw [if_neg ha]
    refine Ev.step (fun k => by simp only [backhaulref21_Check.j1]; rfl) (Ev.ite (fun h => Ev.ok (by rw [if_neg (ht.1 h)])) (fun h => ?_))
    rw [if_pos (Classical.byContradiction fun g => h (ht.2 g))]
    refine Ev.ite (fun h2 => Ev.ok (by rw [if_pos (by omega)])) (fun h2 => Ev.ite (fun h3 => Ev.ok (by rw [if_pos (by omega)])) (fun h3 => ?_))
    rw [if_neg (by omega)]
    refine Ev.bind (ref01_row_f (by omega) (fun x hx => by have := hz x hx; omega)) (Ev.ite (fun h4 => Ev.ok (by rw [if_pos h4])) (fun h4 => Ev.ok (by rw [if_neg h4])))
  have key : ∀ t : Bool, (t = true ↔ (a < 1 ∨ a > 999999)) → Ev (fun k => backhaulref21_Check.j0 k t a b c d s) (lineR a b c d s) := by
    intro t ht
    refine Ev.step (fun k => by simp only [backhaulref21_Check.j0]; rfl) (Ev.ite (fun h => Ev.ok (by unfold lineR; rw [if_pos (ht.1 h)])) (fun h => ?_))
    have ha : ¬ (a < 1 ∨ a > 999999) := fun g => h (ht.2 g)
    have no : ¬ (0 ≤ b ∧ b ≤ 1000000000000 ∧ 0 ≤ c ∧ c ≤ b ∧ 0 ≤ d ∧ d ≤ 1000000000000 ∧ c + d ≤ 1000000000000) → (true = true ↔ ¬ mayB b c d = true) := fun g => ⟨fun _ e => g (of_decide_eq_true e), fun _ => rfl⟩
    refine Ev.ite (fun h1 => k1 ha _ (no (by omega))) (fun h1 => Ev.ite (fun h2 => k1 ha _ (no (by omega))) (fun h2 => Ev.ite (fun h3 => k1 ha _ (no (by omega))) (fun h3 => Ev.ite (fun h4 => k1 ha _ (no (by omega))) (fun h4 => Ev.ite (fun h5 => k1 ha _ (no (by omega))) (fun h5 => Ev.ite (fun h6 => k1 ha _ (no (by omega))) (fun h6 => k1 ha _ ?_))))))
    rw [wrap_eq (by omega) (by omega), decide_eq_true_eq]
    unfold mayB
    rw [decide_eq_true_eq]
    omega
  refine Ev.ite (fun h => key true (by simp [h])) (fun h => key _ (by simp; omega))
def linesB (l : List LnT) : Bool := l.all fun x => decide (lineR x.f0 x.f1 x.f2 x.f3 x.f4 = 0)
theorem line_amounts {x : LnT} (h : lineR x.f0 x.f1 x.f2 x.f3 x.f4 = 0) : 0 ≤ x.f2 ∧ x.f2 ≤ 1000000000000 ∧ 0 ≤ x.f3 ∧ x.f3 ≤ 1000000000000 := by
  unfold lineR at h
  split at h
  · cases h
  split at h
  · rename_i g
    have := of_decide_eq_true g
    omega
  cases h
def totL : Int → List LnT → Option Int
  | n, [] => some n
  | n, x :: r => if n + x.f2 + x.f3 > 1000000000000 then none else totL (n + x.f2 + x.f3) r
def totI (o : Option Int) : Int × Int := match o with
  | some m => (m, 0)
  | none => (0, 8)
def costI (o : Option Int) : Int := match o with
  | some m => m
  | none => -1
theorem totL_nonneg : ∀ (l : List LnT) (n m : Int), 0 ≤ n → (∀ x ∈ l, 0 ≤ x.f2 ∧ 0 ≤ x.f3) → totL n l = some m → 0 ≤ m
  | [], n, m, hn, _, h => by simp only [totL, Option.some.injEq] at h; omega
  | x :: r, n, m, hn, hx, h => by
    have h0 := hx x List.mem_cons_self
    simp only [totL] at h
    split at h
    · cases h
    exact totL_nonneg r _ m (by omega) (fun y hy => hx y (List.mem_cons_of_mem _ hy)) h
theorem w01 : wrap64 (0 + 1) = 1 := by rw [wrap_eq (by decide) (by decide)]; rfl
theorem w12 : wrap64 (1 + 1) = 2 := by rw [wrap_eq (by decide) (by decide)]; rfl
theorem w23 : wrap64 (2 + 1) = 3 := by rw [wrap_eq (by decide) (by decide)]; rfl
theorem add_three {n p q : Int} (hn : 0 ≤ n) (hn' : n ≤ 1000000000000) (hp : 0 ≤ p) (hp' : p ≤ 1000000000000) (hq : 0 ≤ q) (hq' : q ≤ 1000000000000) : Ev (fun k => cents_Add.f k ([n, p, q] : List Int)) (if n + p + q > 1000000000000 then (0, 8) else (n + p + q, 0)) := by
  unfold cents_Add.f
  have r0 : rd [n, p, q] 0 = n := rfl
  have r1 : rd [n, p, q] 1 = p := rfl
  have r2 : rd [n, p, q] 2 = q := rfl
  refine Ev.step (fun k => by simp only [cents_Add.l0]; rfl) (Ev.pos (by simp) (Ev.pos (by decide) (Ev.pos (by simp) ?_)))
  rw [r0, wrap_eq (x := 0 + n) (by omega) (by omega), w01]
  refine Ev.bindc (in_f3 n) (Ev.pos (decide_eq_true (by omega)) (Ev.bindc (in_f3 _) (Ev.pos (decide_eq_true (by omega)) ?_)))
  refine Ev.step (fun k => by simp only [cents_Add.l0]; rfl) (Ev.pos (by simp) (Ev.pos (by decide) (Ev.pos (by simp) ?_)))
  rw [r1, wrap_eq (x := 0 + n + p) (by omega) (by omega), w12]
  refine Ev.bindc (in_f3 p) (Ev.pos (decide_eq_true (by omega)) (Ev.bindc (in_f3 _) (Ev.ite (fun h => ?_) (fun h => Ev.ok ?_))))
  · have h := of_decide_eq_true h
    refine Ev.step (fun k => by simp only [cents_Add.l0]; rfl) (Ev.pos (by simp) (Ev.pos (by decide) (Ev.pos (by simp) ?_)))
    rw [r2, wrap_eq (x := 0 + n + p + q) (by omega) (by omega), w23]
    refine Ev.bindc (in_f3 q) (Ev.pos (decide_eq_true (by omega)) (Ev.bindc (in_f3 _) (Ev.ite (fun h1 => ?_) (fun h1 => Ev.ok ?_))))
    · have h1 := of_decide_eq_true h1
      refine Ev.step (fun k => by simp only [cents_Add.l0]; rfl) (Ev.neg (by simp) (Ev.ok ?_))
      rw [if_neg (by omega), Int.zero_add]
    have h1 : ¬ (-1000000000000 ≤ 0 + n + p + q ∧ 0 + n + p + q ≤ 1000000000000) := fun g => h1 (decide_eq_true g)
    rw [if_pos (by omega)]
  have h : ¬ (-1000000000000 ≤ 0 + n + p ∧ 0 + n + p ≤ 1000000000000) := fun g => h (decide_eq_true g)
  rw [if_pos (by omega)]
theorem total_l0 {l : List LnT} (hl : l.length ≤ 20) (hx : ∀ x ∈ l, 0 ≤ x.f2 ∧ x.f2 ≤ 1000000000000 ∧ 0 ≤ x.f3 ∧ x.f3 ≤ 1000000000000) (d : Nat) : ∀ (i : Nat) (n : Int), l.length - i = d → i ≤ l.length → 0 ≤ n → n ≤ 1000000000000 → Ev (fun k => order_total.l0 k n l (l.length : Int) (i : Int)) (totI (totL n (l.drop i))) := by
  induction d with
  | zero =>
    intro i n hd hi h0 h1
    refine Ev.step (fun k => by simp only [order_total.l0]; rfl) (Ev.neg (by omega) (Ev.ok ?_))
    rw [List.drop_eq_nil_of_le (by omega)]; rfl
  | succ d ih =>
    intro i n hd hi h0 h1
    have h : i < l.length := by omega
    have hm := hx l[i] (List.getElem_mem h)
    refine Ev.step (fun k => by simp only [order_total.l0]; rfl) (Ev.pos (by omega) (Ev.pos (by omega) (Ev.pos (by omega) ?_)))
    rw [rdL h, drop_cons h, wrap_eq (x := (i : Int) + 1) (by omega) (by omega)]
    refine Ev.bind (add_three h0 h1 hm.1 hm.2.1 hm.2.2.1 hm.2.2.2) ?_
    simp only [totL]
    by_cases h2 : n + l[i].f2 + l[i].f3 > 1000000000000
    · rw [if_pos h2, if_pos h2]
      exact Ev.neg (by decide) (Ev.ok rfl)
    rw [if_neg h2, if_neg h2]
    exact Ev.pos rfl (ih (i + 1) _ (by omega) (by omega) (by dsimp only; omega) (by dsimp only; omega))
theorem cost_l0 {l : List LnT} (hl : l.length ≤ 20) (hx : ∀ x ∈ l, 0 ≤ x.f2 ∧ x.f2 ≤ 1000000000000 ∧ 0 ≤ x.f3 ∧ x.f3 ≤ 1000000000000) (d : Nat) : ∀ (i : Nat) (n : Int), l.length - i = d → i ≤ l.length → 0 ≤ n → n ≤ 1000000000000 → Ev (fun k => backhaulref26_cost.l0 k l n (i : Int)) (costI (totL n (l.drop i))) := by
  induction d with
  | zero =>
    intro i n hd hi h0 h1
    refine Ev.step (fun k => by simp only [backhaulref26_cost.l0]; rfl) (Ev.neg (by omega) (Ev.ok ?_))
    rw [List.drop_eq_nil_of_le (by omega)]; rfl
  | succ d ih =>
    intro i n hd hi h0 h1
    have h : i < l.length := by omega
    have hm := hx l[i] (List.getElem_mem h)
    refine Ev.step (fun k => by simp only [backhaulref26_cost.l0]; rfl) (Ev.pos (by omega) (Ev.pos (by omega) ?_))
    rw [rdL h, drop_cons h, wrap_eq (x := (i : Int) + 1) (by omega) (by omega), wrap_eq (x := n + l[i].f2) (by omega) (by omega), wrap_eq (x := n + l[i].f2 + l[i].f3) (by omega) (by omega)]
    simp only [totL]
    refine Ev.ite (fun h2 => Ev.ok (by rw [if_pos h2]; rfl)) (fun h2 => ?_)
    rw [if_neg h2]
    exact ih (i + 1) _ (by omega) (by omega) (by omega) (by omega)
theorem all_l0' {l : List LnT} (hf : fewP l) (d : Nat) : ∀ (i : Nat) (acc : List ByteArray), l.length - i = d → i ≤ l.length → acc.length ≤ 40 * i → Ev (fun k => backhaulref26_all.l0 k l acc (i : Int)) (acc ++ serialsOf (l.drop i)) := by
  induction d with
  | zero =>
    intro i acc hd hi ha
    refine Ev.step (fun k => by simp only [backhaulref26_all.l0]; rfl) (Ev.neg (by omega) (Ev.ok ?_))
    rw [List.drop_eq_nil_of_le (by omega)]; simp [serialsOf]
  | succ d ih =>
    intro i acc hd hi ha
    have h : i < l.length := by omega
    have h20 := hf.1
    have h40 := (hf.2 l[i] (List.getElem_mem h)).1
    refine Ev.step (fun k => by simp only [backhaulref26_all.l0]; rfl) (Ev.pos (by omega) (Ev.pos (by omega) ?_))
    rw [rdL h, drop_cons h, wrap_eq (x := (i : Int) + 1) (by omega) (by omega)]
    refine Ev.pos (by omega) (Ev.eq (ih (i + 1) _ (by omega) (by omega) (by rw [List.length_append]; omega)) ?_)
    unfold serialsOf
    rw [List.flatMap_cons, List.append_assoc]
theorem serials_len {l : List LnT} (hf : fewP l) : (serialsOf l).length ≤ 800 := by
  have : ∀ r : List LnT, (∀ x ∈ r, x.f4.length ≤ 40) → (serialsOf r).length ≤ 40 * r.length := by
    intro r
    induction r with
    | nil => intro _; simp [serialsOf]
    | cons x r ih =>
      intro h
      have h1 := h x List.mem_cons_self
      have h2 := ih fun y hy => h y (List.mem_cons_of_mem _ hy)
      unfold serialsOf at *
      rw [List.flatMap_cons, List.length_append, List.length_cons]
      omega
  have h1 := this l fun x hx => (hf.2 x hx).1
  have := hf.1
  omega
theorem twice_l1 {s : List ByteArray} {i : Nat} {r : Bool} (hs : s.length ≤ 800) (hi : i < s.length) (hr : Ev (fun k => backhaulref26_twice.l0 k s ((i + 1 : Nat) : Int)) r) (d : Nat) : ∀ (j : Nat), i - j = d → j ≤ i → Ev (fun k => backhaulref26_twice.l1 k s (i : Int) (j : Int)) (memB ((s.take i).drop j) s[i] || r) := by
  induction d with
  | zero =>
    intro j hd hj
    refine Ev.step (fun k => by simp only [backhaulref26_twice.l1]; rfl) (Ev.neg (by omega) ?_)
    rw [wrap_eq (x := (i : Int) + 1) (by omega) (by omega), List.drop_eq_nil_of_le (by rw [List.length_take]; omega)]
    refine Ev.eq hr ?_
    have : memB [] s[i] = false := by
      rw [← Bool.not_eq_true, memB_iff]; simp
    rw [this, Bool.false_or]
  | succ d ih =>
    intro j hd hj
    have hj' : j < s.length := by omega
    have hjt : j < (s.take i).length := by rw [List.length_take]; omega
    refine Ev.step (fun k => by simp only [backhaulref26_twice.l1]; rfl) (Ev.pos (by omega) (Ev.pos (by omega) (Ev.pos (by omega) (Ev.pos (by omega) (Ev.pos (by omega) ?_)))))
    rw [rdOf_nat hi, rdOf_nat hj', wrap_eq (x := (j : Int) + 1) (by omega) (by omega), drop_cons hjt, List.getElem_take]
    have hm : memB (s[j] :: (s.take i).drop (j + 1)) s[i] = true ↔ s[i] = s[j] ∨ memB ((s.take i).drop (j + 1)) s[i] = true := by
      rw [memB_iff, memB_iff, List.mem_cons]
    refine Ev.ite (fun h1 => Ev.ok ?_) (fun h1 => Ev.eq (ih (j + 1) (by omega) (by omega)) ?_)
    · rw [hm.2 (.inl (bytes_ext.1 h1)), Bool.true_or]
    congr 1
    rw [Bool.eq_iff_iff, hm]
    exact ⟨.inr, fun h => h.resolve_left fun e => h1 (by rw [e])⟩
theorem twice_l0 {s : List ByteArray} (hs : s.length ≤ 800) (d : Nat) : ∀ (i : Nat), s.length - i = d → i ≤ s.length → Ev (fun k => backhaulref26_twice.l0 k s (i : Int)) (dupB (s.take i) (s.drop i)) := by
  induction d with
  | zero =>
    intro i hd hi
    refine Ev.step (fun k => by simp only [backhaulref26_twice.l0]; rfl) (Ev.neg (by omega) (Ev.ok ?_))
    rw [List.drop_eq_nil_of_le (by omega)]; rfl
  | succ d ih =>
    intro i hd hi
    have h : i < s.length := by omega
    refine Ev.step (fun k => by simp only [backhaulref26_twice.l0]; rfl) (Ev.pos (by omega) ?_)
    refine Ev.eq (twice_l1 hs h (ih (i + 1) (by omega) (by omega)) i 0 (by omega) (by omega)) ?_
    rw [drop_cons h, List.drop_zero]
    simp only [dupB]
    rw [List.take_append_getElem h]
theorem ref_twice_f {s : List ByteArray} (hs : s.length ≤ 800) : Ev (fun k => backhaulref26_twice.f k s) (dupB [] s) := by
  unfold backhaulref26_twice.f
  exact twice_l0 hs s.length 0 (by omega) (by omega)
theorem order_twice_f {l : List LnT} (hf : fewP l) : order_twice.f l = some (dupB [] (serialsOf l)) := by
  unfold order_twice.f
  have hn := serials_len hf
  rw [if_pos]
  refine ⟨?_, ?_⟩
  · rw [List.all_eq_true]
    intro x hx
    rw [List.all_eq_true]
    intro s hs
    have := (hf.2 x hx).2 s hs
    exact decide_eq_true (by unfold maxLen; omega)
  unfold maxLen; omega
def finB (l : List LnT) : Bool := (totL 0 l).isSome && !dupB [] (serialsOf l)
def ordR (a b : Int) (l : List LnT) : Int := if (1 ≤ a ∧ a ≤ 999999 ∧ 0 ≤ b ∧ b ≤ 1000000 ∧ 1 ≤ l.length ∧ l.length ≤ 8) ∧ linesB l = true ∧ finB l = true then 0 else 40
theorem lines_amounts {l : List LnT} (h : linesB l = true) : ∀ x ∈ l, 0 ≤ x.f2 ∧ x.f2 ≤ 1000000000000 ∧ 0 ≤ x.f3 ∧ x.f3 ≤ 1000000000000 := fun x hx => line_amounts (of_decide_eq_true (List.all_eq_true.1 h x hx))
theorem lines_step {l : List LnT} {i : Nat} (h : i < l.length) (hp : ∀ j (hj : j < l.length), j < i → lineR l[j].f0 l[j].f1 l[j].f2 l[j].f3 l[j].f4 = 0) (h1 : lineR l[i].f0 l[i].f1 l[i].f2 l[i].f3 l[i].f4 = 0) : ∀ j (hj : j < l.length), j < i + 1 → lineR l[j].f0 l[j].f1 l[j].f2 l[j].f3 l[j].f4 = 0 := fun j hj hji => by
  by_cases e : j = i
  · subst e; exact h1
  exact hp j hj (by omega)
theorem lines_all {l : List LnT} (hp : ∀ j (hj : j < l.length), j < l.length → lineR l[j].f0 l[j].f1 l[j].f2 l[j].f3 l[j].f4 = 0) : linesB l = true := by
  unfold linesB
  rw [List.all_eq_true]
  intro x hx
  obtain ⟨j, hj, rfl⟩ := List.mem_iff_getElem.1 hx
  exact decide_eq_true (hp j hj hj)
theorem lines_not {l : List LnT} {i : Nat} (h : i < l.length) (h1 : ¬ lineR l[i].f0 l[i].f1 l[i].f2 l[i].f3 l[i].f4 = 0) : ¬ linesB l = true := fun g => h1 (of_decide_eq_true (List.all_eq_true.1 g l[i] (List.getElem_mem h)))
theorem order_l0 {a b : Int} {l : List LnT} (hf : fewP l) (hh : 1 ≤ a ∧ a ≤ 999999 ∧ 0 ≤ b ∧ b ≤ 1000000 ∧ 1 ≤ l.length ∧ l.length ≤ 8) (d : Nat) : ∀ (i : Nat), l.length - i = d → i ≤ l.length → (∀ j (hj : j < l.length), j < i → lineR l[j].f0 l[j].f1 l[j].f2 l[j].f3 l[j].f4 = 0) → Ev (fun k => order_Check.l0 k l (l.length : Int) (i : Int) a b l) (ordR a b l) := by
  have h20 := hf.1
  induction d with
  | zero =>
    intro i hd hi hp
    have hb := lines_all (fun j hj _ => hp j hj (by omega))
    have ht : Ev (fun k => order_total.f k l) (totI (totL 0 l)) := by
      unfold order_total.f
      exact total_l0 h20 (lines_amounts hb) l.length 0 0 (by omega) (by omega) (by omega) (by omega)
    refine Ev.step (fun k => by simp only [order_Check.l0]; rfl) (Ev.neg (by omega) (Ev.bind ht ?_))
    unfold ordR finB
    cases e : totL 0 l with
    | none => exact Ev.neg (by decide) (Ev.ok (by rw [if_neg]; simp))
    | some m =>
      refine Ev.pos rfl (Ev.bindc (order_twice_f hf) (Ev.ite (fun h1 => Ev.ok (by rw [if_neg]; simp [h1])) (fun h1 => Ev.ok (by rw [if_pos]; exact ⟨hh, hb, by simp [h1]⟩))))
  | succ d ih =>
    intro i hd hi hp
    have h : i < l.length := by omega
    have hx := hf.2 l[i] (List.getElem_mem h)
    refine Ev.step (fun k => by simp only [order_Check.l0]; rfl) (Ev.pos (by omega) (Ev.pos (by omega) (Ev.pos (by omega) ?_)))
    rw [rdL h, wrap_eq (x := (i : Int) + 1) (by omega) (by omega)]
    refine Ev.bind (line_check_f hx.1 hx.2) (Ev.ite (fun h1 => ih (i + 1) (by omega) (by omega) (lines_step h hp h1)) (fun h1 => Ev.ok ?_))
    unfold ordR
    rw [if_neg fun g => lines_not h h1 g.2.1]
theorem order_check_f {a b : Int} {l : List LnT} (hf : fewP l) : Ev (fun k => order_Check.f k a b l) (ordR a b l) := by
  unfold order_Check.f
  have bad : ¬ (1 ≤ a ∧ a ≤ 999999 ∧ 0 ≤ b ∧ b ≤ 1000000 ∧ 1 ≤ l.length ∧ l.length ≤ 8) → Ev (fun k => order_Check.j0 k true a b l) (ordR a b l) := fun g =>
    Ev.step (fun k => by simp only [order_Check.j0]; rfl) (Ev.pos (by trivial) (Ev.ok (by unfold ordR; rw [if_neg fun x => g x.1])))
  have tm : policy_Time.f b = some (decide (0 ≤ b ∧ b ≤ 1000000)) := by
    unfold policy_Time.f policy_span_has.f
    by_cases h : 0 ≤ b
    · rw [if_pos (by omega)]; simp [h]
    rw [if_neg (by omega)]; simp [h]
  refine Ev.ite (fun h1 => bad (by omega)) (fun h1 => Ev.ite (fun h2 => bad (by omega)) (fun h2 => Ev.bindc tm (Ev.ite (fun h3 => ?_) (fun h3 => bad (fun g => h3 (decide_eq_true ⟨g.2.2.1, g.2.2.2.1⟩))))))
  have h3 := of_decide_eq_true h3
  refine Ev.ite (fun h4 => bad (by omega)) (fun h4 => ?_)
  by_cases h5 : (l.length : Int) > 8
  · rw [decide_eq_true h5]; exact bad (by omega)
  rw [decide_eq_false h5]
  exact Ev.step (fun k => by simp only [order_Check.j0]; rfl) (Ev.neg (by simp) (order_l0 hf (by omega) l.length 0 (by omega) (by omega) (fun j hj h => by omega)))
theorem ref_order_l0 {a b : Int} {l : List LnT} (hf : fewP l) (hw : ∀ x ∈ l, -9223372036854775808 ≤ x.f2) (hh : 1 ≤ a ∧ a ≤ 999999 ∧ 0 ≤ b ∧ b ≤ 1000000 ∧ 1 ≤ l.length ∧ l.length ≤ 8) (d : Nat) : ∀ (i : Nat), l.length - i = d → i ≤ l.length → (∀ j (hj : j < l.length), j < i → lineR l[j].f0 l[j].f1 l[j].f2 l[j].f3 l[j].f4 = 0) → Ev (fun k => backhaulref26_Check.l0 k (i : Int) a b l) (ordR a b l) := by
  have h20 := hf.1
  induction d with
  | zero =>
    intro i hd hi hp
    have hb := lines_all (fun j hj _ => hp j hj (by omega))
    have ha := lines_amounts hb
    have ht : Ev (fun k => backhaulref26_cost.f k l) (costI (totL 0 l)) := by
      unfold backhaulref26_cost.f
      exact cost_l0 h20 ha l.length 0 0 (by omega) (by omega) (by omega) (by omega)
    have hall : Ev (fun k => backhaulref26_all.f k l) (serialsOf l) := by
      unfold backhaulref26_all.f
      exact all_l0' hf l.length 0 [] (by omega) (by omega) (by simp)
    refine Ev.step (fun k => by simp only [backhaulref26_Check.l0]; rfl) (Ev.neg (by omega) (Ev.bind ht ?_))
    unfold ordR finB
    cases e : totL 0 l with
    | none => exact Ev.pos (by decide) (Ev.ok (by rw [if_neg]; simp))
    | some m =>
      have hm := totL_nonneg l 0 m (by omega) (fun x hx => ⟨(ha x hx).1, (ha x hx).2.2.1⟩) e
      refine Ev.neg (by show ¬ m < 0; omega) (Ev.bind hall (Ev.bind (ref_twice_f (serials_len hf)) (Ev.ite (fun h1 => Ev.ok (by rw [if_neg]; simp [h1])) (fun h1 => Ev.ok (by rw [if_pos]; exact ⟨hh, hb, by simp [h1]⟩)))))
  | succ d ih =>
    intro i hd hi hp
    have h : i < l.length := by omega
    have hx := hf.2 l[i] (List.getElem_mem h)
    refine Ev.step (fun k => by simp only [backhaulref26_Check.l0]; rfl) (Ev.pos (by omega) (Ev.pos (by omega) ?_))
    rw [rdL h, wrap_eq (x := (i : Int) + 1) (by omega) (by omega)]
    refine Ev.bind (ref_line_f (hw l[i] (List.getElem_mem h)) hx.1 hx.2) (Ev.ite (fun h1 => ih (i + 1) (by omega) (by omega) (lines_step h hp h1)) (fun h1 => Ev.ok ?_))
    unfold ordR
    rw [if_neg fun g => lines_not h h1 g.2.1]
theorem ref_order_f {a b : Int} {l : List LnT} (hf : fewP l) (hw : ∀ x ∈ l, -9223372036854775808 ≤ x.f2) : Ev (fun k => backhaulref26_Check.f k a b l) (ordR a b l) := by
  unfold backhaulref26_Check.f
  have bad : ¬ (1 ≤ a ∧ a ≤ 999999 ∧ 0 ≤ b ∧ b ≤ 1000000 ∧ 1 ≤ l.length ∧ l.length ≤ 8) → Ev (fun k => backhaulref26_Check.j0 k true a b l) (ordR a b l) := fun g =>
    Ev.step (fun k => by simp only [backhaulref26_Check.j0]; rfl) (Ev.pos (by trivial) (Ev.ok (by unfold ordR; rw [if_neg fun x => g x.1])))
  refine Ev.ite (fun h1 => bad (by omega)) (fun h1 => Ev.ite (fun h2 => bad (by omega)) (fun h2 => Ev.ite (fun h3 => bad (by omega)) (fun h3 => Ev.ite (fun h4 => bad (by omega)) (fun h4 => Ev.ite (fun h5 => bad (by omega)) (fun h5 => ?_)))))
  by_cases h6 : (l.length : Int) > 8
  · rw [decide_eq_true h6]; exact bad (by omega)
  rw [decide_eq_false h6]
  exact Ev.step (fun k => by simp only [backhaulref26_Check.j0]; rfl) (Ev.neg (by simp) (ref_order_l0 hf hw (by omega) l.length 0 (by omega) (by omega) (fun j hj h => by omega)))
end Go.Proofs.Ytakkhomjpflkbaa.Q
set_option linter.unusedVariables false
namespace Go.Proofs.Ytakkhomjpflkbaa.Q
open Go.RowKit Go.Proofs.Ytakkhomjpflkbaa.F Go.Proofs.YtakkhomjpflkbaaX Go.Proofs.YtakkhomjpflkbaaW.PrintWords Go.Proofs.YtakkhomjpflkbaaW.PrintLast Go.Proofs.YtakkhomjpflkbaaW.PrintMore
def lineAt (l : List LnT) (i : Nat) : LnT := l.getD i ⟨0, 0, 0, 0, []⟩
theorem lineAt_eq {l : List LnT} {i : Nat} (h : i < l.length) : lineAt l i = l[i] := by unfold lineAt; simp [List.getD_eq_getElem?_getD, h]
def muchB (l : List LnT) (w : WT) : Bool := decide (w.f0 ≥ (l.length : Int)) || decide (w.f1 > ((lineAt l w.f0.toNat).f4.length : Int))
theorem much_f {p q r b c : Int} {l : List LnT} (hp : 0 ≤ p) : rma_Fits_1_v73.f p q r b c l = some (muchB l ⟨p, q, r⟩) := by
  unfold rma_Fits_1_v73.f muchB
  by_cases h : p ≥ (l.length : Int)
  · rw [if_pos h]; simp [h]
  obtain ⟨n, rfl⟩ := Int.eq_ofNat_of_zero_le hp
  have hn : n < l.length := by omega
  rw [if_neg h, if_pos (by omega), if_pos (by omega), rdL hn]
  simp only [Int.toNat_natCast, lineAt_eq hn, h, decide_false, Bool.false_or]
theorem much_l0 {wl : List WT} {b c : Int} {l : List LnT} (hl : wl.length < 1000000) (hw : ∀ w ∈ wl, 0 ≤ w.f0) (d : Nat) : ∀ (i : Nat), wl.length - i = d → i ≤ wl.length → (∀ j (hj : j < wl.length), j < i → muchB l wl[j] = false) → Ev (fun k => slices_IndexFunc_rma_Fits_1_v73.l0 k wl (wl.length : Int) (i : Int) b c l) (firstI (muchB l) wl) := by
  induction d with
  | zero =>
    intro i hd hi hn
    refine Ev.step (fun k => by simp only [slices_IndexFunc_rma_Fits_1_v73.l0]; rfl) (Ev.neg (by omega) (Ev.ok ?_))
    rw [firstI_none (fun j hj => hn j hj (by omega))]
  | succ d ih =>
    intro i hd hi hn
    have h : i < wl.length := by omega
    refine Ev.step (fun k => by simp only [slices_IndexFunc_rma_Fits_1_v73.l0]; rfl) (Ev.pos (by omega) (Ev.pos (by omega) (Ev.pos (by omega) ?_)))
    rw [rdW h, wrap_eq (x := (i : Int) + 1) (by omega) (by omega)]
    refine Ev.bindc (much_f (hw wl[i] (List.getElem_mem h))) (Ev.ite (fun h1 => Ev.ok ?_) (fun h1 => ih (i + 1) (by omega) (by omega) fun j hj hji => ?_))
    · rw [firstI_at h h1 hn]
    by_cases e : j = i
    · subst e; simpa using h1
    exact hn j hj (by omega)
theorem has_much_f {wl : List WT} {b c : Int} {l : List LnT} (hl : wl.length < 1000000) (hw : ∀ w ∈ wl, 0 ≤ w.f0) : Ev (fun k => slices_ContainsFunc_rma_Fits_1_v73.f k wl b c l) (wl.any (muchB l)) := by
  unfold slices_ContainsFunc_rma_Fits_1_v73.f slices_IndexFunc_rma_Fits_1_v73.f
  refine Ev.bind (much_l0 hl hw wl.length 0 (by omega) (by omega) (fun j hj h => by omega)) (Ev.ok ?_)
  rcases firstI_cases (muchB l) wl with ⟨h, hn⟩ | ⟨i, hi, h, hp, _⟩
  · rw [h]
    have : wl.any (muchB l) = false := by
      rw [List.any_eq_false]
      intro x hx
      obtain ⟨j, hj, rfl⟩ := List.mem_iff_getElem.1 hx
      simpa using hn j hj
    rw [this]; rfl
  rw [h]
  have : wl.any (muchB l) = true := List.any_eq_true.2 ⟨wl[i], List.getElem_mem hi, hp⟩
  rw [this]; simp
def fitsR (a b c s : Int) (wl : List WT) (a' b' : Int) (l : List LnT) : Bool := decide (checkR a b c s wl = 0 ∧ ordR a' b' l = 0 ∧ b = a') && !(wl.any (muchB l))
theorem fits_no {a b c s a' b' : Int} {wl : List WT} {l : List LnT} (h : ¬ (checkR a b c s wl = 0 ∧ ordR a' b' l = 0 ∧ b = a')) : fitsR a b c s wl a' b' l = false := by
  unfold fitsR; rw [decide_eq_false h]; rfl
theorem fits_yes {a b c s a' b' : Int} {wl : List WT} {l : List LnT} (h : checkR a b c s wl = 0 ∧ ordR a' b' l = 0 ∧ b = a') : fitsR a b c s wl a' b' l = !(wl.any (muchB l)) := by
  unfold fitsR; rw [decide_eq_true h]; rfl
theorem wants_pos {a b c s : Int} {wl : List WT} (h : checkR a b c s wl = 0) : ∀ w ∈ wl, 0 ≤ w.f0 := fun w hw => by
  have := wantsOk_mem wl (-1) (check_wants h) w hw; omega
theorem rma_fits_f {a b c s a' b' : Int} {wl : List WT} {l : List LnT} (hl : wl.length < 1000000) (hf : fewP l) : Ev (fun k => rma_Fits.f k a b c s wl a' b' l) (fitsR a b c s wl a' b' l) := by
  unfold rma_Fits.f
  refine Ev.bind (rma_check_f hl) (Ev.ite (fun h1 => Ev.bind (order_check_f hf) (Ev.ite (fun h2 => Ev.ite (fun h3 => ?_) (fun h3 => Ev.ok ?_)) (fun h2 => Ev.ok ?_))) (fun h1 => Ev.ok ?_))
  · rw [fits_yes ⟨h1, h2, h3⟩]
    exact Ev.bind (has_much_f hl (wants_pos h1)) (Ev.ok rfl)
  · rw [fits_no fun g => h3 g.2.2]
  · rw [fits_no fun g => h2 g.2.1]
  rw [fits_no fun g => h1 g.1]
theorem ref_fits_l0 {a b c s a' b' : Int} {wl : List WT} {l : List LnT} (hl : wl.length < 1000000) (hw : ∀ w ∈ wl, 0 ≤ w.f0) (d : Nat) : ∀ (i : Nat), wl.length - i = d → i ≤ wl.length → Ev (fun k => backhaulref27_Fits.l0 k (i : Int) a b c s wl a' b' l) (!((wl.drop i).any (muchB l))) := by
  induction d with
  | zero =>
    intro i hd hi
    refine Ev.step (fun k => by simp only [backhaulref27_Fits.l0]; rfl) (Ev.neg (by omega) (Ev.ok ?_))
    rw [List.drop_eq_nil_of_le (by omega)]; rfl
  | succ d ih =>
    intro i hd hi
    have h : i < wl.length := by omega
    refine Ev.step (fun k => by simp only [backhaulref27_Fits.l0]; rfl) (Ev.pos (by omega) (Ev.pos (by omega) ?_))
    rw [rdW h, wrap_eq (x := (i : Int) + 1) (by omega) (by omega), drop_cons h, List.any_cons]
    have h0 := hw wl[i] (List.getElem_mem h)
    refine Ev.ite (fun h1 => Ev.ok ?_) (fun h1 => Ev.pos h0 (Ev.pos (by omega) ?_))
    · have : muchB l wl[i] = true := by unfold muchB; rw [decide_eq_true h1, Bool.true_or]
      rw [this]; rfl
    obtain ⟨n, hn⟩ := Int.eq_ofNat_of_zero_le h0
    have hn' : n < l.length := by omega
    have e : muchB l wl[i] = decide (wl[i].f1 > ((l[n]).f4.length : Int)) := by
      unfold muchB
      rw [decide_eq_false h1, Bool.false_or, hn, Int.toNat_natCast, lineAt_eq hn']
    rw [e, hn, rdL hn']
    refine Ev.ite (fun h2 => Ev.ok ?_) (fun h2 => Ev.eq (ih (i + 1) (by omega) (by omega)) ?_)
    · rw [decide_eq_true h2, Bool.true_or]; rfl
    rw [decide_eq_false h2, Bool.false_or]
theorem ref_fits_f {a b c s a' b' : Int} {wl : List WT} {l : List LnT} (hl : wl.length < 1000000) (hf : fewP l) (hm : ∀ x ∈ l, -9223372036854775808 ≤ x.f2) : Ev (fun k => backhaulref27_Fits.f k a b c s wl a' b' l) (fitsR a b c s wl a' b' l) := by
  unfold backhaulref27_Fits.f
  have bad : ¬ (checkR a b c s wl = 0 ∧ ordR a' b' l = 0 ∧ b = a') → Ev (fun k => backhaulref27_Fits.j0 k true a b c s wl a' b' l) (fitsR a b c s wl a' b' l) := fun h =>
    Ev.step (fun k => by simp only [backhaulref27_Fits.j0]; rfl) (Ev.pos (by trivial) (Ev.ok (by rw [fits_no h])))
  refine Ev.bind (ref_check_f hl) (Ev.ite (fun h1 => Ev.bind (ref_order_f hf hm) (Ev.ite (fun h2 => ?_) (fun h2 => bad fun g => h2 g.2.1))) (fun h1 => bad fun g => h1 g.1))
  by_cases h3 : b = a'
  · have e : (b != a') = false := by simp [h3]
    rw [e, fits_yes ⟨h1, h2, h3⟩]
    exact Ev.step (fun k => by simp only [backhaulref27_Fits.j0]; rfl) (Ev.neg (by simp) (ref_fits_l0 hl (wants_pos h1) wl.length 0 (by omega) (by omega)))
  have e : (b != a') = true := by simp [h3]
  rw [e]
  exact bad fun g => h3 g.2.2
def zeroW (w : WT) : WT := ⟨w.f0, w.f1, 0⟩
def makeR (a a' b' : Int) (l : List LnT) (u : Int) (wl : List WT) : T6 :=
  if checkR a a' u 1 (wl.map zeroW) = 0 then (if fitsR a a' u 1 (wl.map zeroW) a' b' l = true then (a, a', u, 1, wl.map zeroW, 0) else noT 34) else noT 2
theorem make_len {a a' b' u : Int} {l : List LnT} {wl : List WT} (hl : wl.length < 1000000) : (makeR a a' b' l u wl).2.2.2.2.1.length < 1000000 := by
  unfold makeR noT; (repeat' split) <;> simp <;> omega
theorem make_l0 {a a' b' u : Int} {l : List LnT} {wl : List WT} (hl : wl.length < 1000000) (hf : fewP l) (d : Nat) : ∀ (i : Nat) (m : List WT) (hm : m.length = wl.length), wl.length - i = d → i ≤ wl.length → (∀ j (hj : j < wl.length), j < i → m[j] = zeroW wl[j]) → (∀ j (hj : j < wl.length), i ≤ j → m[j] = wl[j]) → Ev (fun k => rma_Make.l0 k (wl.length : Int) (i : Int) a' b' l a a' u 1 m) (makeR a a' b' l u wl) := by
  induction d with
  | zero =>
    intro i m hm hd hi h1 h2
    refine Ev.step (fun k => by simp only [rma_Make.l0]; rfl) (Ev.neg (by omega) ?_)
    have e : m = wl.map zeroW := List.ext_getElem (by simp [hm]) fun j hj hj' => by
      rw [List.getElem_map]; exact h1 j (by omega) (by omega)
    rw [e]
    have hl' : (wl.map zeroW).length < 1000000 := by simpa using hl
    unfold makeR
    refine Ev.bind (rma_check_f hl') (Ev.ite (fun g1 => ?_) (fun g1 => Ev.ok (by rw [if_neg g1]; rfl)))
    rw [if_pos g1]
    exact Ev.bind (rma_fits_f hl' hf) (Ev.ite (fun g2 => Ev.ok (by rw [if_pos g2])) (fun g2 => Ev.ok (by rw [if_neg g2]; rfl)))
  | succ d ih =>
    intro i m hm hd hi h1 h2
    have h : i < wl.length := by omega
    have h' : i < m.length := by omega
    refine Ev.step (fun k => by simp only [rma_Make.l0]; rfl) (Ev.pos (by omega) (Ev.pos (by omega) (Ev.pos (by omega) ?_)))
    rw [rdW h', wrap_eq (x := (i : Int) + 1) (by omega) (by omega), Int.toNat_natCast]
    refine ih (i + 1) _ (by simpa using hm) (by omega) (by omega) (fun j hj hji => ?_) (fun j hj hji => ?_)
    · rw [List.getElem_set]
      by_cases e : i = j
      · subst e; rw [if_pos rfl, h2 i h (by omega)]; rfl
      rw [if_neg e]; exact h1 j hj (by omega)
    rw [List.getElem_set, if_neg (by omega)]; exact h2 j hj (by omega)
theorem rma_make_f {a a' b' u : Int} {l : List LnT} {wl : List WT} (hl : wl.length < 1000000) (hf : fewP l) : Ev (fun k => rma_Make.f k a a' b' l u wl) (makeR a a' b' l u wl) := by
  unfold rma_Make.f
  refine Ev.bindc (a := wl) (by unfold api_Want_140.f; rw [if_pos (by omega)]) ?_
  exact make_l0 hl hf wl.length 0 wl rfl (by omega) (by omega) (fun j _ h => absurd h (by omega)) (fun j _ _ => rfl)
theorem ref_make_l0 {a a' b' u : Int} {l : List LnT} {wl : List WT} (hl : wl.length < 1000000) (hf : fewP l) (hm : ∀ x ∈ l, -9223372036854775808 ≤ x.f2) (d : Nat) : ∀ (i : Nat), wl.length - i = d → i ≤ wl.length → Ev (fun k => backhaulref27_Make.l0 k wl (i : Int) a' b' l a a' u 1 ((wl.take i).map zeroW)) (makeR a a' b' l u wl) := by
  induction d with
  | zero =>
    intro i hd hi
    refine Ev.step (fun k => by simp only [backhaulref27_Make.l0]; rfl) (Ev.neg (by omega) ?_)
    rw [List.take_of_length_le (by omega)]
    have hl' : (wl.map zeroW).length < 1000000 := by simpa using hl
    unfold makeR
    refine Ev.bind (ref_check_f hl') (Ev.ite (fun g1 => ?_) (fun g1 => Ev.ok (by rw [if_neg g1]; rfl)))
    rw [if_pos g1]
    exact Ev.bind (ref_fits_f hl' hf hm) (Ev.ite (fun g2 => Ev.ok (by rw [if_pos g2])) (fun g2 => Ev.ok (by rw [if_neg g2]; rfl)))
  | succ d ih =>
    intro i hd hi
    have h : i < wl.length := by omega
    refine Ev.step (fun k => by simp only [backhaulref27_Make.l0]; rfl) (Ev.pos (by omega) (Ev.pos (by omega) (Ev.pos (by rw [List.length_map, List.length_take]; omega) ?_)))
    rw [rdW h, wrap_eq (x := (i : Int) + 1) (by omega) (by omega)]
    have e : (wl.take i).map zeroW ++ [(⟨wl[i].f0, wl[i].f1, 0⟩ : WT)] = (wl.take (i + 1)).map zeroW := by
      rw [← List.take_append_getElem h, List.map_append]; rfl
    rw [e]
    exact ih (i + 1) (by omega) (by omega)
theorem ref_make_f {a a' b' u : Int} {l : List LnT} {wl : List WT} (hl : wl.length < 1000000) (hf : fewP l) (hm : ∀ x ∈ l, -9223372036854775808 ≤ x.f2) : Ev (fun k => backhaulref27_Make.f k a a' b' l u wl) (makeR a a' b' l u wl) := by
  unfold backhaulref27_Make.f
  exact ref_make_l0 hl hf hm wl.length 0 (by omega) (by omega)
end Go.Proofs.Ytakkhomjpflkbaa.Q
namespace Go.Proofs.Ytakkhomjpflkbaa.Pure
open Go.RowKit Go.Proofs.Ytakkhomjpflkbaa.F Go.Proofs.Ytakkhomjpflkbaa.Q Go.Proofs.YtakkhomjpflkbaaX Go.Proofs.YtakkhomjpflkbaaW.PrintWords Go.Proofs.YtakkhomjpflkbaaW.PrintLast Go.Proofs.YtakkhomjpflkbaaW.PrintMore
theorem RmaMakes : backhaullaw27_RmaMakes.Pure := by
  intro a b c s wl a1 b1 c1 s1 wl1 a' b' l _ _ _ _ _ _ _ _ _ _ _ _ hl
  refine Ev.rounds (r := true) ?_
  unfold backhaullaw27_RmaMakes.f backhaullaw27_Few.f
  simp only [Option.bind_some]
  have aw : Ev (fun k => backhaullaw27_RmaMakes.j0 k true a b c s wl a1 b1 c1 s1 wl1 a' b' l) true :=
    Ev.step (fun k => by simp only [backhaullaw27_RmaMakes.j0]; rfl) (Q.Ev.pos (by trivial) (Q.Ev.const rfl))
  refine Q.Ev.ite (fun h1 => Q.Ev.ite (fun h2 => Ev.bind (few_f l) ?_) (fun _ => aw)) (fun _ => aw)
  have hw : wl.length < 1000000 := by have := of_decide_eq_true h1; omega
  have hw1 : wl1.length < 1000000 := by have := of_decide_eq_true h2; omega
  cases hb : (decide (l.length ≤ 20) && fewB l) with
  | false => exact aw
  | true =>
    have hf := few_p hb
    have hm : ∀ x ∈ l, -9223372036854775808 ≤ x.f2 := fun x hx => (i64_bounds (hl.2 x hx).2.2.1).1
    refine Ev.step (fun k => by simp only [backhaullaw27_RmaMakes.j0]; rfl) (Q.Ev.neg (by decide) ?_)
    refine Ev.bind (rma_make_f hw hf) (Ev.bind (ref_make_f hw hf hm) (Ev.bind (rma_check_f hw) (Ev.bind (ref_check_f hw) (Q.Ev.pos rfl ?_))))
    refine Ev.bind (rma_fits_f hw hf) (Ev.bind (ref_fits_f hw hf hm) (Q.Ev.pos (by simp) ?_))
    refine Ev.bind (ref_same_f (make_len hw)) (Q.Ev.pos (sameR_self _ _ _ _ _) (Q.Ev.pos rfl ?_))
    refine Ev.bind (same_f hw) (Ev.bind (ref_same_f hw) (Q.Ev.pos (by simp) (Q.Ev.const rfl)))
end Go.Proofs.Ytakkhomjpflkbaa.Pure
set_option linter.unusedVariables false
set_option linter.unusedSimpArgs false
namespace Go.Proofs.YtakkhomjpflkbaaX
open Go.RowKit Go.Proofs.YtakkhomjpflkbaaW.PrintWords Go.Proofs.YtakkhomjpflkbaaW.PrintLast Go.Proofs.YtakkhomjpflkbaaW.PrintMore
def Opens {α : Type} (P : Program) (t : TypeId) (k : Kd α) (Ok : α → Prop) : Prop :=
  ∀ {H : Type} {enc : TypeId × Value → H} {w : World} {base : Nat} {spare : Nat → Bool} {held : Bool} {fuel : Nat} {cs : List Value} {x : DataW H × List MemPlace},
    DataW.trod enc P w base spare held fuel t cs = some x → ∃ a : α, k.K w a cs ∧ Ok a
theorem Opens.int {P : Program} {t : TypeId} {k : IntKind} (ht : P.underlying t = some (.int k)) : Opens P t (Kd.int k) (fun a => (Lit.int k a).wf = true) := by
  intro H enc w base spare held fuel cs x h
  obtain ⟨n, rfl, _, hw⟩ := DataW.trod_int ht h
  exact ⟨n, rfl, hw⟩
theorem Opens.bool {P : Program} {t : TypeId} (ht : P.underlying t = some .bool) : Opens P t Kd.bool (fun _ => True) := by
  intro H enc w base spare held fuel cs x h
  obtain ⟨n, rfl, _⟩ := DataW.trod_bool ht h
  exact ⟨n, rfl, trivial⟩
theorem Opens.string {P : Program} {t : TypeId} (ht : P.underlying t = some .string) : Opens P t Kd.string (fun a => a.size ≤ maxLen) := by
  intro H enc w base spare held fuel cs x h
  obtain ⟨s, rfl, _, hw⟩ := DataW.trod_string ht h
  exact ⟨s, rfl, hw⟩
theorem list_of {α : Type} {p : Nat → α → Prop} : ∀ n, (∀ i, i < n → ∃ a, p i a) → ∃ xs : List α, xs.length = n ∧ ∀ i a, xs[i]? = some a → p i a
  | 0, _ => ⟨[], rfl, fun i a h => by simp at h⟩
  | n + 1, h => by
    obtain ⟨xs, hl, hx⟩ := list_of n (fun i hi => h i (by omega))
    obtain ⟨a, ha⟩ := h n (by omega)
    refine ⟨xs ++ [a], by simp [hl], fun i b hb => ?_⟩
    rcases Nat.lt_or_ge i xs.length with h1 | h1
    · rw [List.getElem?_append_left h1] at hb
      exact hx i b hb
    rw [List.getElem?_append_right h1] at hb
    have h2 : i - xs.length = 0 := by
      have := (List.getElem?_eq_some_iff.1 hb).1
      simp at this; omega
    rw [h2] at hb
    have : a = b := by simpa using hb
    subst this
    have : i = n := by omega
    rw [this]; exact ha
theorem Opens.slice {α : Type} {P : Program} {t e : TypeId} {k : Kd α} {Ok : α → Prop} (ht : P.underlying t = some (.slice e)) (hc : P.cellsOf e = k.sz) (h : Opens P e k Ok) :
    Opens P t (Kd.slice e k) (fun xs => xs.length ≤ maxLen ∧ ∀ x ∈ xs, Ok x) := by
  intro H enc w base spare held fuel cs x hx
  rcases Go.Deep.open_slice ht hx with ⟨rfl, rfl⟩ | ⟨a, len, cap, m, n, D, Pl, rfl, hb, hl, hm, hmm, rfl, hel⟩
  · exact ⟨[], ⟨none, 0, rfl, by simp, rfl, by simp, fun h => absurd h (by simp)⟩, by simp [maxLen], by simp⟩
  have hlm : len ≤ m := by rw [hmm]; split <;> omega
  obtain ⟨xs, hlen, hxs⟩ := list_of (p := fun i (a' : α) => ∃ cs', w.cells? base (a.add (i * P.cellsOf e)) (P.cellsOf e) = some cs' ∧ k.K w a' cs' ∧ Ok a') len (fun i hi => by
    obtain ⟨cs', h1, h2⟩ := hel i (by omega)
    obtain ⟨a', h3, h4⟩ := h h2
    exact ⟨a', cs', h1, h3, h4⟩)
  have hlm2 : len ≤ maxLen := by omega
  refine ⟨xs, ⟨some a, cap, by rw [hlen], by rw [hlen]; exact hl, rfl, by rw [hlen]; simpa [maxLen] using hlm2, fun _ => ⟨a, rfl, fun j p hj => ?_⟩⟩, by rw [hlen]; exact hlm2, fun y hy => ?_⟩
  · obtain ⟨cs', h1, h2, _⟩ := hxs j p hj
    refine ⟨cs', k.K_len h2, h2, fun i u hu => ?_⟩
    obtain ⟨_, _, h3⟩ := World.cells?_some h1
    have h4 := h3 i (by have := (List.getElem?_eq_some_iff.1 hu).1; have := k.K_len h2; omega)
    rw [← hc, ← Go.Proofs.YtakkhomjpflkbaaW.PrintWords.add_add]
    rw [← hu]; exact h4
  obtain ⟨i, hi, rfl⟩ := List.mem_iff_getElem.1 hy
  obtain ⟨_, _, _, h3⟩ := hxs i _ (List.getElem?_eq_getElem hi)
  exact h3
theorem field_reads {H : Type} {enc : TypeId × Value → H} {P : Program} {w : World} {base : Nat} {spare : Nat → Bool} {held : Bool} {fuel : Nat} {t : TypeId} {cs : List Value} {x : DataW H × List MemPlace} {fs : Array Field}
    (ht : P.underlying t = some (.struct fs)) (h : DataW.trod enc P w base spare held fuel t cs = some x) :
    cs.length = P.cellsOf t ∧ ∃ n, ∀ (i : Nat) (f : Field), fs[i]? = some f → ∃ y, DataW.trod enc P w base spare held n f.type ((cs.drop f.offset).take (P.cellsOf f.type)) = some y := by
  obtain ⟨xs, n, _, _, hl, hx, hf⟩ := DataW.trod_struct ht h
  refine ⟨hl, n, fun i f hif => ?_⟩
  rw [hf i f hif]
  have hi := (Array.getElem?_eq_some_iff.1 hif).1
  exact ⟨_, List.getElem?_eq_getElem (by rw [hx]; exact hi)⟩
theorem band {a b : Bool} (h1 : a = true) (h2 : b = true) : (a && b) = true := by rw [h1, h2]; rfl
theorem mayEnter_of {P : Program} {L c : List Char} {rest : List (List Char)} (h : P.initOrder.toList = L) (h1 : behindMainWord (wordsSigns L) = c :: rest) (h2 : ((stripLifts liftWords (c :: rest)).2.head? == some "cut".toList) = true) (h3 : P.laysLater = false) (h4 : P.bearsReflect = false) (h5 : (stripLifts liftWords (c :: rest)).1 = []) (h6 : P.doorFits [] = true) : P.mayEnter = true := by
  unfold Program.mayEnter
  rw [h, h1]
  dsimp only
  rw [h2, h3, h4, h5, h6]
  simp
theorem make_of {P : Program} {L : List Char} {rest : List (List Char)} (h : P.initOrder.toList = L) (h1 : behindMainWord (wordsSigns L) = "cut".toList :: rest) : P.make = some .cut := by
  unfold Program.make
  rw [h, h1]
  dsimp only
  rw [if_neg (by decide), if_pos (by simp)]
end Go.Proofs.YtakkhomjpflkbaaX
set_option maxRecDepth 10000
namespace Go.Proofs.Ytakkhomjpflkbaa.Join
open Go.Proofs.YtakkhomjpflkbaaX
def initSigns : List Char := ['h', 'a', 'r', 'n', 'e', 's', 's', ' ', '8', '5', '1', '9', '2', 'd', '7', '1', '7', '6', 'f', 'f', '5', '6', '1', '0', '2', '1', 'b', '4', '6', '6', '4', 'b', '6', 'a', '6', '7', 'a', '6', '8', '3', '4', '1', 'a', '9', 'f', 'e', '4', 'b', '6', 'c', 'b', '5', '5', '7', 'f', '5', 'c', 'e', '1', '9', '0', '4', '4', '3', 'f', '0', '1', 'b', '7', '6', 'a', '6', ' ', 'c', 'u', 't', ' ', 'a', 't', ' ', 'b', 'a', 'c', 'k', 'h', 'a', 'u', 'l', '/', 'b', 'a', 'c', 'k', 'h', 'a', 'u', 'l', 'l', 'a', 'w', '3', '1', '.', 'R', 'e', 'p', 'l', 'y', 'C', 'o', 'd', 'e', 's', ' ', 'b', 'a', 'c', 'k', 'h', 'a', 'u', 'l', '/', 'b', 'a', 'c', 'k', 'h', 'a', 'u', 'l', 'l', 'a', 'w', '3', '1', '.', 'R', 'e', 'p', 'l', 'y', 'B', 'a', 'c', 'k', ' ', 'b', 'a', 'c', 'k', 'h', 'a', 'u', 'l', '/', 'b', 'a', 'c', 'k', 'h', 'a', 'u', 'l', 'l', 'a', 'w', '3', '1', '.', 'R', 'e', 'p', 'l', 'y', 'O', 'n', 'l', 'y', ' ', 'b', 'a', 'c', 'k', 'h', 'a', 'u', 'l', '/', 'b', 'a', 'c', 'k', 'h', 'a', 'u', 'l', 'l', 'a', 'w', '0', '6', '.', 'S', 't', 'r', 'i', 'c', 't', 'R', 'e', 'a', 'd', 's', ' ', 'b', 'a', 'c', 'k', 'h', 'a', 'u', 'l', '/', 'b', 'a', 'c', 'k', 'h', 'a', 'u', 'l', 'l', 'a', 'w', '0', '6', '.', 'S', 't', 'r', 'i', 'c', 't', 'F', 'i', 'r', 's', 't', ' ', 'b', 'a', 'c', 'k', 'h', 'a', 'u', 'l', '/', 'b', 'a', 'c', 'k', 'h', 'a', 'u', 'l', 'l', 'a', 'w', '2', '7', '.', 'R', 'm', 'a', 'M', 'a', 'k', 'e', 's', ' ', 'b', 'a', 'c', 'k', 'h', 'a', 'u', 'l', '/', 'b', 'a', 'c', 'k', 'h', 'a', 'u', 'l', 'l', 'a', 'w', '2', '7', '.', 'R', 'm', 'a', 'M', 'o', 'v', 'e', 's', ' ', 'b', 'a', 'c', 'k', 'h', 'a', 'u', 'l', '/', 'b', 'a', 'c', 'k', 'h', 'a', 'u', 'l', 'l', 'a', 'w', '2', '7', '.', 'R', 'm', 'a', 'T', 'u', 'r', 'n', 's', ' ', 'b', 'a', 'c', 'k', 'h', 'a', 'u', 'l', '/', 'b', 'a', 'c', 'k', 'h', 'a', 'u', 'l', 'l', 'a', 'w', '2', '7', '.', 'R', 'm', 'a', 'B', 'o', 'u', 'n', 'd', 's', ' ', 'b', 'a', 'c', 'k', 'h', 'a', 'u', 'l', '/', 'b', 'a', 'c', 'k', 'h', 'a', 'u', 'l', 'l', 'a', 'w', '0', '6', '.', 'S', 't', 'r', 'i', 'c', 't', 'W', 'h', 'o', 'l', 'e', ' ', 'b', 'a', 'c', 'k', 'h', 'a', 'u', 'l', '/', 'b', 'a', 'c', 'k', 'h', 'a', 'u', 'l', 'l', 'a', 'w', '1', '4', '.', 'I', 'n', 'd', 'e', 'x', 'T', 'e', 'l', 'l', 's', ' ', 'b', 'a', 'c', 'k', 'h', 'a', 'u', 'l', '/', 'b', 'a', 'c', 'k', 'h', 'a', 'u', 'l', 'l', 'a', 'w', '1', '4', '.', 'I', 'n', 'd', 'e', 'x', 'A', 'd', 'd', 's', ' ', 'b', 'a', 'c', 'k', 'h', 'a', 'u', 'l', '/', 'b', 'a', 'c', 'k', 'h', 'a', 'u', 'l', 'l', 'a', 'w', '1', '4', '.', 'I', 'n', 'd', 'e', 'x', 'T', 'u', 'r', 'n', 's', ' ', 'b', 'a', 'c', 'k', 'h', 'a', 'u', 'l', '/', 'b', 'a', 'c', 'k', 'h', 'a', 'u', 'l', 'l', 'a', 'w', '1', '4', '.', 'I', 'n', 'd', 'e', 'x', 'W', 'h', 'o', 'l', 'e', ' ', 'b', 'a', 'c', 'k', 'h', 'a', 'u', 'l', '/', 'b', 'a', 'c', 'k', 'h', 'a', 'u', 'l', 'l', 'a', 'w', '1', '5', '.', 'B', 'a', 't', 'c', 'h', 'A', 'p', 'p', 'l', 'i', 'e', 's', ' ', 'b', 'a', 'c', 'k', 'h', 'a', 'u', 'l', '/', 'b', 'a', 'c', 'k', 'h', 'a', 'u', 'l', 'l', 'a', 'w', '1', '5', '.', 'B', 'a', 't', 'c', 'h', 'C', 'o', 'd', 'e', 's', ' ', 'b', 'a', 'c', 'k', 'h', 'a', 'u', 'l', '/', 'b', 'a', 'c', 'k', 'h', 'a', 'u', 'l', 'l', 'a', 'w', '1', '5', '.', 'B', 'a', 't', 'c', 'h', 'W', 'h', 'o', 'l', 'e', ' ', 'b', 'a', 'c', 'k', 'h', 'a', 'u', 'l', '/', 'b', 'a', 'c', 'k', 'h', 'a', 'u', 'l', 'l', 'a', 'w', '1', '5', '.', 'B', 'a', 't', 'c', 'h', 'U', 'n', 'd', 'o', ' ', 'b', 'a', 'c', 'k', 'h', 'a', 'u', 'l', '/', 'b', 'a', 'c', 'k', 'h', 'a', 'u', 'l', 'l', 'a', 'w', '1', '5', '.', 'B', 'a', 't', 'c', 'h', 'D', 'i', 'f', 'f', ' ', 'b', 'a', 'c', 'k', 'h', 'a', 'u', 'l', '/', 'b', 'a', 'c', 'k', 'h', 'a', 'u', 'l', 'l', 'a', 'w', '3', '0', '.', 'C', 'm', 'd', 'B', 'a', 'c', 'k', ' ', 'b', 'a', 'c', 'k', 'h', 'a', 'u', 'l', '/', 'b', 'a', 'c', 'k', 'h', 'a', 'u', 'l', 'l', 'a', 'w', '3', '0', '.', 'C', 'm', 'd', 'O', 'n', 'l', 'y']
theorem initText : Try.pinned.checked.prog.initOrder = String.ofList initSigns := by kernel_rfl
theorem initList : Try.pinned.checked.prog.initOrder.toList = initSigns := (congrArg String.toList initText).trans String.toList_ofList
theorem mayEnter_is : Try.pinned.checked.prog.mayEnter = true :=
  mayEnter_of (L := initSigns) (c := "cut".toList) (rest := (behindMainWord (wordsSigns initSigns)).tail) initList (by kernel_rfl) (by kernel_rfl) (by kernel_rfl) (by kernel_rfl) (by kernel_rfl) (by kernel_rfl)
theorem make_is : Try.pinned.checked.prog.make = some .cut :=
  make_of (L := initSigns) (rest := (behindMainWord (wordsSigns initSigns)).tail) initList (by kernel_rfl)
theorem lifts_is : Try.pinned.checked.prog.liftsFinal = false := by
  unfold Program.liftsFinal Program.headLifts
  rw [initList]
  kernel_rfl
end Go.Proofs.Ytakkhomjpflkbaa.Join
namespace Go.Proofs.Ytakkhomjpflkbaa.rmaMakes
open Go.ChangeShapes Go.WideShapes Go.ChangeAt Go.RowKit Go.Proofs.YtakkhomjpflkbaaX Go.Proofs.Ytakkhomjpflkbaa.F Go.Proofs.YtakkhomjpflkbaaW.PrintWords Go.Proofs.YtakkhomjpflkbaaW.PrintLast Go.Proofs.YtakkhomjpflkbaaW.PrintMore
open Go.ChangeMaps (open_string shut_string)
set_option linter.unusedVariables false
set_option linter.unusedSimpArgs false
theorem own : ownKnob Try.prog.godebug = none := by kernel_rfl
theorem laidOut : laidOutB Try.prog = true := by kernel_rfl
set_option maxRecDepth 100000 in
theorem opens_k97 : Opens Try.prog 97 k97 (fun x => ((Lit.int .i64 x.f0).wf = true ∧ (Lit.int .i64 x.f1).wf = true ∧ (Lit.int .i64 x.f2).wf = true)) := by
  intro H enc w base spare held fuel cs x h
  obtain ⟨hl, n, hf⟩ := field_reads Try.underlying97 h
  have hl2 : cs.length = 3 := hl.trans (by kernel_rfl)
  match cs, hl2 with
  | [c0, c1, c2], _ =>
    obtain ⟨y0, h0⟩ := hf 0 _ rfl
    have e0 : Try.prog.cellsOf 3 = 1 := by kernel_rfl
    (try dsimp only at h0)
    (try simp only [e0] at h0)
    obtain ⟨a0, k0, o0⟩ := (Opens.int Try.underlying3) h0
    have k0' : ((Kd.int .i64)).K w a0 [c0] := k0
    obtain ⟨y1, h1⟩ := hf 1 _ rfl
    have e1 : Try.prog.cellsOf 3 = 1 := by kernel_rfl
    (try dsimp only at h1)
    (try simp only [e1] at h1)
    obtain ⟨a1, k1, o1⟩ := (Opens.int Try.underlying3) h1
    have k1' : ((Kd.int .i64)).K w a1 [c1] := k1
    obtain ⟨y2, h2⟩ := hf 2 _ rfl
    have e2 : Try.prog.cellsOf 3 = 1 := by kernel_rfl
    (try dsimp only at h2)
    (try simp only [e2] at h2)
    obtain ⟨a2, k2, o2⟩ := (Opens.int Try.underlying3) h2
    have k2' : ((Kd.int .i64)).K w a2 [c2] := k2
    exact ⟨(⟨a0, a1, a2⟩ : S97), ⟨[c0], [c1, c2], rfl, k0', ⟨[c1], [c2], rfl, k1', k2'⟩⟩, ⟨o0, o1, o2⟩⟩
set_option maxRecDepth 100000 in
theorem opens_k70 : Opens Try.prog 70 k70 (fun x => ((Lit.int .i64 x.f0).wf = true ∧ (Lit.int .i64 x.f1).wf = true ∧ (Lit.int .i64 x.f2).wf = true ∧ (Lit.int .i64 x.f3).wf = true ∧ (x.f4.length ≤ maxLen ∧ ∀ y ∈ x.f4, ((Lit.int .i64 y.f0).wf = true ∧ (Lit.int .i64 y.f1).wf = true ∧ (Lit.int .i64 y.f2).wf = true)))) := by
  intro H enc w base spare held fuel cs x h
  obtain ⟨hl, n, hf⟩ := field_reads Try.underlying70 h
  have hl2 : cs.length = 5 := hl.trans (by kernel_rfl)
  match cs, hl2 with
  | [c0, c1, c2, c3, c4], _ =>
    obtain ⟨y0, h0⟩ := hf 0 _ rfl
    have e0 : Try.prog.cellsOf 3 = 1 := by kernel_rfl
    (try dsimp only at h0)
    (try simp only [e0] at h0)
    obtain ⟨a0, k0, o0⟩ := (Opens.int Try.underlying3) h0
    have k0' : ((Kd.int .i64)).K w a0 [c0] := k0
    obtain ⟨y1, h1⟩ := hf 1 _ rfl
    have e1 : Try.prog.cellsOf 3 = 1 := by kernel_rfl
    (try dsimp only at h1)
    (try simp only [e1] at h1)
    obtain ⟨a1, k1, o1⟩ := (Opens.int Try.underlying3) h1
    have k1' : ((Kd.int .i64)).K w a1 [c1] := k1
    obtain ⟨y2, h2⟩ := hf 2 _ rfl
    have e2 : Try.prog.cellsOf 3 = 1 := by kernel_rfl
    (try dsimp only at h2)
    (try simp only [e2] at h2)
    obtain ⟨a2, k2, o2⟩ := (Opens.int Try.underlying3) h2
    have k2' : ((Kd.int .i64)).K w a2 [c2] := k2
    obtain ⟨y3, h3⟩ := hf 3 _ rfl
    have e3 : Try.prog.cellsOf 3 = 1 := by kernel_rfl
    (try dsimp only at h3)
    (try simp only [e3] at h3)
    obtain ⟨a3, k3, o3⟩ := (Opens.int Try.underlying3) h3
    have k3' : ((Kd.int .i64)).K w a3 [c3] := k3
    obtain ⟨y4, h4⟩ := hf 4 _ rfl
    have e4 : Try.prog.cellsOf 68 = 1 := by kernel_rfl
    (try dsimp only at h4)
    (try simp only [e4] at h4)
    obtain ⟨a4, k4, o4⟩ := (Opens.slice Try.underlying68 (by kernel_rfl) opens_k97) h4
    have k4' : ((Kd.slice 97 k97)).K w a4 [c4] := k4
    exact ⟨(⟨a0, a1, a2, a3, a4⟩ : S70), ⟨[c0], [c1, c2, c3, c4], rfl, k0', ⟨[c1], [c2, c3, c4], rfl, k1', ⟨[c2], [c3, c4], rfl, k2', ⟨[c3], [c4], rfl, k3', k4'⟩⟩⟩⟩, ⟨o0, o1, o2, o3, o4⟩⟩
set_option maxRecDepth 100000 in
theorem opens_k216 : Opens Try.prog 216 k216 (fun x => ((Lit.int .i64 x.f0).wf = true ∧ (Lit.int .i64 x.f1).wf = true ∧ (Lit.int .i64 x.f2).wf = true ∧ (Lit.int .i64 x.f3).wf = true ∧ (x.f4.length ≤ maxLen ∧ ∀ y ∈ x.f4, y.size ≤ maxLen))) := by
  intro H enc w base spare held fuel cs x h
  obtain ⟨hl, n, hf⟩ := field_reads Try.underlying216 h
  have hl2 : cs.length = 5 := hl.trans (by kernel_rfl)
  match cs, hl2 with
  | [c0, c1, c2, c3, c4], _ =>
    obtain ⟨y0, h0⟩ := hf 0 _ rfl
    have e0 : Try.prog.cellsOf 3 = 1 := by kernel_rfl
    (try dsimp only at h0)
    (try simp only [e0] at h0)
    obtain ⟨a0, k0, o0⟩ := (Opens.int Try.underlying3) h0
    have k0' : ((Kd.int .i64)).K w a0 [c0] := k0
    obtain ⟨y1, h1⟩ := hf 1 _ rfl
    have e1 : Try.prog.cellsOf 3 = 1 := by kernel_rfl
    (try dsimp only at h1)
    (try simp only [e1] at h1)
    obtain ⟨a1, k1, o1⟩ := (Opens.int Try.underlying3) h1
    have k1' : ((Kd.int .i64)).K w a1 [c1] := k1
    obtain ⟨y2, h2⟩ := hf 2 _ rfl
    have e2 : Try.prog.cellsOf 3 = 1 := by kernel_rfl
    (try dsimp only at h2)
    (try simp only [e2] at h2)
    obtain ⟨a2, k2, o2⟩ := (Opens.int Try.underlying3) h2
    have k2' : ((Kd.int .i64)).K w a2 [c2] := k2
    obtain ⟨y3, h3⟩ := hf 3 _ rfl
    have e3 : Try.prog.cellsOf 3 = 1 := by kernel_rfl
    (try dsimp only at h3)
    (try simp only [e3] at h3)
    obtain ⟨a3, k3, o3⟩ := (Opens.int Try.underlying3) h3
    have k3' : ((Kd.int .i64)).K w a3 [c3] := k3
    obtain ⟨y4, h4⟩ := hf 4 _ rfl
    have e4 : Try.prog.cellsOf 65 = 1 := by kernel_rfl
    (try dsimp only at h4)
    (try simp only [e4] at h4)
    obtain ⟨a4, k4, o4⟩ := (Opens.slice Try.underlying65 (by kernel_rfl) (Opens.string Try.underlying9)) h4
    have k4' : ((Kd.slice 9 Kd.string)).K w a4 [c4] := k4
    exact ⟨(⟨a0, a1, a2, a3, a4⟩ : S216), ⟨[c0], [c1, c2, c3, c4], rfl, k0', ⟨[c1], [c2, c3, c4], rfl, k1', ⟨[c2], [c3, c4], rfl, k2', ⟨[c3], [c4], rfl, k3', k4'⟩⟩⟩⟩, ⟨o0, o1, o2, o3, o4⟩⟩
set_option maxRecDepth 100000 in
theorem opens_k73 : Opens Try.prog 73 k73 (fun x => ((Lit.int .i64 x.f0).wf = true ∧ (Lit.int .i64 x.f1).wf = true ∧ (x.f2.length ≤ maxLen ∧ ∀ y ∈ x.f2, ((Lit.int .i64 y.f0).wf = true ∧ (Lit.int .i64 y.f1).wf = true ∧ (Lit.int .i64 y.f2).wf = true ∧ (Lit.int .i64 y.f3).wf = true ∧ (y.f4.length ≤ maxLen ∧ ∀ x ∈ y.f4, x.size ≤ maxLen))))) := by
  intro H enc w base spare held fuel cs x h
  obtain ⟨hl, n, hf⟩ := field_reads Try.underlying73 h
  have hl2 : cs.length = 3 := hl.trans (by kernel_rfl)
  match cs, hl2 with
  | [c0, c1, c2], _ =>
    obtain ⟨y0, h0⟩ := hf 0 _ rfl
    have e0 : Try.prog.cellsOf 3 = 1 := by kernel_rfl
    (try dsimp only at h0)
    (try simp only [e0] at h0)
    obtain ⟨a0, k0, o0⟩ := (Opens.int Try.underlying3) h0
    have k0' : ((Kd.int .i64)).K w a0 [c0] := k0
    obtain ⟨y1, h1⟩ := hf 1 _ rfl
    have e1 : Try.prog.cellsOf 3 = 1 := by kernel_rfl
    (try dsimp only at h1)
    (try simp only [e1] at h1)
    obtain ⟨a1, k1, o1⟩ := (Opens.int Try.underlying3) h1
    have k1' : ((Kd.int .i64)).K w a1 [c1] := k1
    obtain ⟨y2, h2⟩ := hf 2 _ rfl
    have e2 : Try.prog.cellsOf 71 = 1 := by kernel_rfl
    (try dsimp only at h2)
    (try simp only [e2] at h2)
    obtain ⟨a2, k2, o2⟩ := (Opens.slice Try.underlying71 (by kernel_rfl) opens_k216) h2
    have k2' : ((Kd.slice 216 k216)).K w a2 [c2] := k2
    exact ⟨(⟨a0, a1, a2⟩ : S73), ⟨[c0], [c1, c2], rfl, k0', ⟨[c1], [c2], rfl, k1', k2'⟩⟩, ⟨o0, o1, o2⟩⟩
set_option maxRecDepth 100000 in
theorem lifted (os : Os) (started : os.Started) (H : Type) (enc : TypeId × Value → H) :
    ReturnsInHanded {} Try.checked os 8 .any (Rows.rmaMakesSpec.pre6 enc Try.prog Try.f8 Rows.rmaMakesRow.domain false) (Rows.rmaMakesSpec.post enc Try.prog Try.f8 false true false false) := by
  refine returnsInHanded_of_change_sized (C := Try.checked) own started (by kernel_rfl) Try.func8
    (ChangeSpec.witness6 (enc := enc) (C := Try.checked) false ⟨#[], #[.agg #[.int .i64 0, .int .i64 0, .int .i64 0, .int .i64 0, .slice none 0 0], .agg #[.int .i64 0, .int .i64 0, .int .i64 0, .int .i64 0, .slice none 0 0], .agg #[.int .i64 0, .int .i64 0, .slice none 0 0]], []⟩ 8 (by kernel_rfl) (by kernel_rfl) (by kernel_rfl) (by kernel_rfl)) ?_
  intro W base args ds gs before hval0 hW hcnd hsz0 _
  have hval : ∀ (j : Nat) t v, Try.f8.params[j]? = some t → args[j]? = some v → Value.okWide Try.prog W .any base t v := hval0
  have hW' := hW
  obtain ⟨p, q, hA0, hV, rfl, hfz, hnd⟩ := hW
  have hA : DataW.TrodAll enc Try.prog W 0 (fun _ => true) true Try.f8.params.toList args.toList ds p := hA0
  rw [Try.params8] at hA hval
  obtain ⟨v0, vs0, d0, ds0, p0, q0, hargs, rfl, rfl, h0, r0⟩ := trodAll_cons hA
  obtain ⟨v1, vs1, d1, ds1, p1, q1, rfl, rfl, rfl, h1, r1⟩ := trodAll_cons r0
  obtain ⟨v2, vs2, d2, ds2, p2, q2, rfl, rfl, rfl, h2, r2⟩ := trodAll_cons r1
  obtain ⟨rfl, rfl, rfl⟩ := trodAll_nil r2
  obtain rfl : args = #[v0, v1, v2] := by cases args; simp_all
  obtain ⟨rfl, rfl⟩ := trodVars_none hV
  have k0 := h0
  have lt0 : ∀ x ∈ p0, x.block < W.heap.size := by obtain ⟨m, hm⟩ := k0; exact DataW.trod_lt m _ _ _ hm
  obtain ⟨cs0, rfl, _⟩ := okWide_struct Try.underlying70 (hval 0 70 v0 rfl rfl)
  obtain ⟨f0, hf0⟩ := h0
  obtain ⟨x0, hk0, ho0⟩ := opens_k70 hf0
  obtain ⟨A0_4, c0_4, he0, hl0_4, hc0_4⟩ := k70_open hk0
  obtain rfl : cs0 = _ := Array.toList_inj.1 (he0.trans (List.toList_toArray).symm)
  have k1 := h1
  have lt1 : ∀ x ∈ p1, x.block < W.heap.size := by obtain ⟨m, hm⟩ := k1; exact DataW.trod_lt m _ _ _ hm
  obtain ⟨cs1, rfl, _⟩ := okWide_struct Try.underlying70 (hval 1 70 v1 rfl rfl)
  obtain ⟨f1, hf1⟩ := h1
  obtain ⟨x1, hk1, ho1⟩ := opens_k70 hf1
  obtain ⟨A1_4, c1_4, he1, hl1_4, hc1_4⟩ := k70_open hk1
  obtain rfl : cs1 = _ := Array.toList_inj.1 (he1.trans (List.toList_toArray).symm)
  have k2 := h2
  have lt2 : ∀ x ∈ p2, x.block < W.heap.size := by obtain ⟨m, hm⟩ := k2; exact DataW.trod_lt m _ _ _ hm
  obtain ⟨cs2, rfl, _⟩ := okWide_struct Try.underlying73 (hval 2 73 v2 rfl rfl)
  obtain ⟨f2, hf2⟩ := h2
  obtain ⟨x2, hk2, ho2⟩ := opens_k73 hf2
  obtain ⟨A2_2, c2_2, he2, hl2_2, hc2_2⟩ := k73_open hk2
  obtain rfl : cs2 = _ := Array.toList_inj.1 (he2.trans (List.toList_toArray).symm)
  obtain ⟨k, h⟩ : ∃ k, backhaullaw27_RmaMakes.f k x0.f0 x0.f1 x0.f2 x0.f3 x0.f4 x1.f0 x1.f1 x1.f2 x1.f3 x1.f4 x2.f0 x2.f1 x2.f2 = some true := Pure.RmaMakes x0.f0 x0.f1 x0.f2 x0.f3 x0.f4 x1.f0 x1.f1 x1.f2 x1.f3 x1.f4 x2.f0 x2.f1 x2.f2 ho0.1 ho0.2.1 ho0.2.2.1 ho0.2.2.2.1 ho0.2.2.2.2 ho1.1 ho1.2.1 ho1.2.2.1 ho1.2.2.2.1 ho1.2.2.2.2 ho2.1 ho2.2.1 ho2.2.2
  refine (backhaullaw27_RmaMakes.calls k x0.f0 x0.f1 x0.f2 x0.f3 _ _ x0.f4 x1.f0 x1.f1 x1.f2 x1.f3 _ _ x1.f4 x2.f0 x2.f1 _ _ x2.f2 W hc0_4 hl0_4 hc1_4 hl1_4 hc2_2 hl2_2 h).mono fun e W' hq => ?_
  obtain ⟨he, bel0⟩ := hq
  have bel : Below W.heap.size W W' := bel0
  subst he
  exact ⟨_, rfl, _, _, _, [], _, [], hW', trodAll_mk1 (shut_bool Try.underlying4 _), (trodAll_cons_mk (Below.trod laidOut (by kernel_rfl) (of_decide_eq_true (by kernel_rfl)) k0 bel lt0) (trodAll_cons_mk (Below.trod laidOut (by kernel_rfl) (of_decide_eq_true (by kernel_rfl)) k1 bel lt1) (trodAll_cons_mk (Below.trod laidOut (by kernel_rfl) (of_decide_eq_true (by kernel_rfl)) k2 bel lt2) trodAll_mk0))), rfl, bel.frame _, fun h => by cases h⟩
theorem closed_ : joinedFacts Try.pinned.checked.prog 8 Try.f8 Rows.rmaMakesSpec Rows.rmaMakesRow = true := by
  unfold joinedFacts
  repeat' (with_reducible apply band)
  any_goals with_reducible exact Join.mayEnter_is
  any_goals (rw [Join.make_is]; kernel_rfl)
  any_goals (rw [Join.lifts_is]; kernel_rfl)
  all_goals kernel_rfl
theorem over : Rows.rmaMakesRow.holds Try.pinned (OpenSpec.ofChange Rows.rmaMakesSpec) :=
  OpenClaim.holds_of_wide 8 Try.f8 rfl rfl rfl rfl rfl rfl rfl ⟨rfl, rfl, rfl, rfl, rfl⟩ rfl rfl rfl rfl rfl (by kernel_rfl) Try.func8 closed_
    (of_decide_eq_true (by kernel_rfl)) (by unfold Func.isWrapper; first | (rw [if_pos (by decide +kernel)]; kernel_rfl) | (rw [if_neg (by decide +kernel)]; exact ⟨rfl, rfl⟩))
    (fun os started H enc _ => lifted os started H enc)
theorem proved : Rows.RmaMakesSaid := over
#print axioms proved
end Go.Proofs.Ytakkhomjpflkbaa.rmaMakes
namespace Go.Proofs.Ytakkhomjpflkbaa
theorem rmaMakes_holds : Rows.RmaMakesSaid := rmaMakes.proved
end Go.Proofs.Ytakkhomjpflkbaa
