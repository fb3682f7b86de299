-- merged and pruned by prune.py (the session's own program); its words go back to the kit's print
import Derived.Test.YtakkhomjpflkbaaProg
import Derived.Below
import Derived.Deep.Draws
import Derived.Deep.AppendLies
import Derived.Maps.AppendAt
import Derived.OwnWalk
import Derived.Laws.BytesArg
import Derived.Laws.MakeOwn
import Derived.Laws.OwnMore
import Derived.Deep.OwnRows
import Derived.Tactics
import Derived.Lib.ConvBytes
import Derived.Laws.Slices
import Derived.WalkKit
import Derived.KernelRfl
import Derived.RowKit3
import Derived.Deep.LoopGhost
import Derived.Deep.QuietTactic
import Derived.BigQuiet
import Derived.WideLaws
import Derived.Deep.DeepCutAuto
import Derived.Deep.CutBlock
import Derived.Deep.RegionHeld3
import Derived.Laws.Rows
import Derived.Lib.AppendStr
import Derived.ArgAppend
import Derived.Laws.IdiomCopy
import Derived.OrdersHeld
import Derived.Laws.BitsLemmas
import Derived.RowKit
import Derived.Laws.StructEq
import Derived.Deep.RegionLawGrows
import Derived.Lib.SliceRun
import Derived.Shelf.Strings.BuilderK
import Derived.Shelf.Strings.Builder1
import Derived.Shelf.Small.Wraps
import Derived.Shelf.Strings.BuilderF
import Derived.Shelf.Utf8.RuneCount
import Derived.Shelf.Strings.Prefix
import Derived.Shelf.Strings.RuneCount
import Derived.Shelf.Slices.Turned
import Derived.Shelf.Slices.Equal
import Derived.Ground.Names2Prog
import Derived.Shelf.Slices.ReverseS
import Derived.Shelf.Slices.Clone
import Derived.Shelf.Slices.SearchI
import Derived.Shelf.Slices.Delete
import Derived.Shelf.Slices.Cells
import Derived.Shelf.Slices.Empties
import Derived.Shelf.Slices.Empties2
import Derived.Ground.SlgnProg
import Derived.Shelf.SlicesE.Reverse
import Derived.Shelf.SlicesE.Delete
import Derived.Shelf.SlicesE.Clone
import Derived.Deep.Slices
import Derived.ChangeArms
import Derived.WideShapes
import Derived.OpenShut
import Derived.Test.YtakkhomjpflkbaaRows
import Derived.ProofKit
import Derived.ShutString
import Derived.ChangeOld
import Derived.SizedLaws
import Derived.Carry
import Derived.Test.YtakkhomjpflkbaaZReplyBack4
set_option linter.unusedVariables false
namespace Go.Proofs.Ytakkhomjpflkbaa.Q
open Go.RowKit Go.Proofs.Ytakkhomjpflkbaa.F Go.Proofs.YtakkhomjpflkbaaW.PrintWords Go.Proofs.YtakkhomjpflkbaaW.PrintLast Go.Proofs.YtakkhomjpflkbaaW.PrintMore
def flt (a e : Int) : Option (Int × Int) := if e = 0 then none else some (e, a)
theorem flt0 (a : Int) : flt a 0 = none := rfl
theorem flt1 {a e : Int} (h : e ≠ 0) : flt a e = some (e, a) := if_neg h
def pc {α : Type} (z : α) (a e0 : Int) (r : α × Int × Int) : α × Int × Int := if e0 = 0 then (if r.2.2 = 0 then r else (z, a, r.2.2)) else (z, a, e0)
theorem pc_bad {α : Type} {z : α} {a e0 : Int} {r : α × Int × Int} (h : e0 ≠ 0) : pc z a e0 r = (z, a, e0) := if_neg h
theorem pc_ok {α : Type} {z : α} {a : Int} {r : α × Int × Int} (h : r.2.2 = 0) : pc z a 0 r = r := by unfold pc; rw [if_pos rfl, if_pos h]
theorem pc_err {α : Type} {z : α} {a : Int} {r : α × Int × Int} (h : r.2.2 ≠ 0) : pc z a 0 r = (z, a, r.2.2) := by unfold pc; rw [if_pos rfl, if_neg h]
def bigR (r : Int × Int × Int) (m : Int) : Int × Int × Int := if r.2.2 = 0 ∧ r.1 > m then (0, 0, 3) else r
def numR (s : ByteArray) (a e0 w m : Int) : Int × Int × Int := pc 0 a e0 (bigR (getS s a w) m)
def rowR (s : ByteArray) (a e0 w m : Int) : List Int × Int × Int := pc [] a e0 (unrowS s a w m)
def endR (s : ByteArray) (a e0 : Int) : Int := if e0 = 0 ∧ a < s.size then 6 else e0
theorem goes0 (s : ByteArray) (a : Int) : strict_Reader_goes.f s a none true = some (true, s, a, none, true) := rfl
theorem goes1 (s : ByteArray) (a : Int) (q : Int × Int) : strict_Reader_goes.f s a (some q) true = some (false, s, a, some q, true) := rfl
theorem done0 (s : ByteArray) (a to_ : Int) : strict_Reader_done.f s a none true to_ 0 = some (true, s, to_, none, true) := rfl
theorem done1 (s : ByteArray) (a to_ : Int) {e : Int} (h : e ≠ 0) : strict_Reader_done.f s a none true to_ e = some (false, s, a, some (e, a), true) := by
  unfold strict_Reader_done.f; rw [if_neg h]
theorem num_f {s : ByteArray} (a e0 w m : Int) (hs : s.size ≤ 4611686018427387904) : Ev (fun k => strict_Reader_Num.f k s a (flt a e0) true w m) ((numR s a e0 w m).1, s, (numR s a e0 w m).2.1, flt (numR s a e0 w m).2.1 (numR s a e0 w m).2.2, true) := by
  unfold strict_Reader_Num.f numR
  by_cases h0 : e0 = 0
  · subst h0
    rw [flt0]
    refine Ev.bindc (goes0 s a) (Ev.pos rfl (Ev.bind (octet_get_f (s := s) a w (by omega)) ?_))
    by_cases h1 : (getS s a w).2.2 = 0
    · refine Ev.pos h1 (Ev.step (fun k => by simp only [strict_Reader_Num.j0]; rfl) ?_)
      by_cases h2 : (getS s a w).1 > m
      · have e : bigR (getS s a w) m = (0, 0, 3) := if_pos ⟨h1, h2⟩
        rw [e, pc_err (by decide)]
        refine Ev.pos (decide_eq_true h2) (Ev.bindc (done1 s a _ (by decide)) ?_)
        exact Ev.neg Bool.false_ne_true (Ev.ok rfl)
      · have e : bigR (getS s a w) m = getS s a w := if_neg (fun x => h2 x.2)
        rw [e, pc_ok h1, h1]
        refine Ev.neg (fun x => h2 (of_decide_eq_true x)) (Ev.bindc (done0 s a _) ?_)
        exact Ev.pos rfl (Ev.ok rfl)
    · refine Ev.neg h1 (Ev.step (fun k => by simp only [strict_Reader_Num.j0]; rfl) ?_)
      have e : bigR (getS s a w) m = getS s a w := if_neg (fun x => h1 x.1)
      rw [e, pc_err h1]
      refine Ev.neg (by decide) (Ev.bindc (done1 s a _ h1) ?_)
      refine Ev.neg Bool.false_ne_true (Ev.ok ?_)
      rw [flt1 h1]
  · rw [flt1 h0, pc_bad h0]
    refine Ev.bindc (goes1 s a _) (Ev.neg Bool.false_ne_true (Ev.ok ?_))
    rw [flt1 h0]
theorem row_f {s : ByteArray} (a e0 w m : Int) (hs : s.size ≤ 4611686018427387904) : Ev (fun k => strict_Reader_Row.f k s a (flt a e0) true w m) ((rowR s a e0 w m).1, s, (rowR s a e0 w m).2.1, flt (rowR s a e0 w m).2.1 (rowR s a e0 w m).2.2, true) := by
  unfold strict_Reader_Row.f rowR
  by_cases h0 : e0 = 0
  · subst h0
    rw [flt0]
    refine Ev.bindc (goes0 s a) (Ev.pos rfl (Ev.bind (octet_unrow_f a w m hs) ?_))
    by_cases h1 : (unrowS s a w m).2.2 = 0
    · rw [pc_ok h1, h1]
      exact Ev.bindc (done0 s a _) (Ev.pos rfl (Ev.ok rfl))
    · rw [pc_err h1]
      refine Ev.bindc (done1 s a _ h1) (Ev.neg Bool.false_ne_true (Ev.ok ?_))
      rw [flt1 h1]
  · rw [flt1 h0, pc_bad h0]
    refine Ev.bindc (goes1 s a _) (Ev.neg Bool.false_ne_true (Ev.ok ?_))
    rw [flt1 h0]
theorem end_f (s : ByteArray) (a e0 : Int) : strict_Reader_End.f s a (flt a e0) true = some (s, a, flt a (endR s a e0), true) := by
  unfold strict_Reader_End.f endR
  by_cases h0 : e0 = 0
  · subst h0
    rw [flt0, goes0, Option.bind_some, if_pos rfl]
    by_cases h1 : a < s.size
    · rw [if_pos h1, if_pos ⟨rfl, h1⟩, done1 s a _ (by decide)]; rfl
    · rw [if_neg h1, if_neg (fun x => h1 x.2)]; rfl
  · rw [flt1 h0, goes1, Option.bind_some, if_neg Bool.false_ne_true, if_neg (fun x => h0 x.1), flt1 h0]
theorem why_f (a e : Int) : strict_Why.f (flt a e) = some (e, if e = 0 then 0 else a) := by
  unfold strict_Why.f
  by_cases h : e = 0
  · subst h; rfl
  · rw [flt1 h, if_neg h]; rfl
theorem err_f (s : ByteArray) (a : Int) (f : Option (Int × Int)) : strict_Reader_Err.f s a f true = some (f, s, a, f, true) := rfl
end Go.Proofs.Ytakkhomjpflkbaa.Q
set_option linter.unusedVariables false
namespace Go.Proofs.Ytakkhomjpflkbaa.Q
open Go.RowKit Go.Proofs.Ytakkhomjpflkbaa.F Go.Proofs.YtakkhomjpflkbaaW.PrintWords Go.Proofs.YtakkhomjpflkbaaW.PrintLast Go.Proofs.YtakkhomjpflkbaaW.PrintMore
def badR (c : Int) (l : List Int) : Prop := c < 0 ∨ c > 255 ∨ l.length > 200 ∨ (l.any fun x => decide (x < 0)) = true ∨ (c ≠ 0 ∧ l.length > 0)
instance (c : Int) (l : List Int) : Decidable (badR c l) := by unfold badR; infer_instance
def chkR (c : Int) (l : List Int) : Int := if badR c l then 2 else 0
theorem idx_l0 {l : List Int} (hl : l.length < 1000000) (d : Nat) : ∀ i : Nat, l.length - i = d → i ≤ l.length → ∃ r, Ev (fun k => slices_IndexFunc_int_int_123.l0 k l (l.length : Int) (i : Int)) r ∧ decide (r ≥ 0) = ((l.drop i).any fun x => decide (x < 0)) := by
  induction d with
  | zero =>
    intro i hd hi
    refine ⟨-1, Ev.step (fun k => by simp only [slices_IndexFunc_int_int_123.l0]; rfl) (Ev.neg (by omega) (Ev.ok rfl)), ?_⟩
    rw [List.drop_eq_nil_of_le (by omega)]; rfl
  | succ d ih =>
    intro i hd hi
    have h : i < l.length := by omega
    rw [drop_cons h, List.any_cons]
    by_cases hn : l[i] < 0
    · refine ⟨(i : Int), Ev.step (fun k => by simp only [slices_IndexFunc_int_int_123.l0]; rfl) ?_, ?_⟩
      · refine Ev.pos (by omega) (Ev.pos (by omega) (Ev.pos (by omega) ?_))
        rw [rd_nat h]
        exact Ev.bindc (show reply_Check_1.f l[i] = some true by unfold reply_Check_1.f; rw [decide_eq_true hn]) (Ev.pos rfl (Ev.ok rfl))
      · rw [decide_eq_true hn, Bool.true_or]; exact decide_eq_true (by omega)
    · obtain ⟨r, hr, he⟩ := ih (i + 1) (by omega) (by omega)
      refine ⟨r, Ev.step (fun k => by simp only [slices_IndexFunc_int_int_123.l0]; rfl) ?_, ?_⟩
      · refine Ev.pos (by omega) (Ev.pos (by omega) (Ev.pos (by omega) ?_))
        rw [rd_nat h, wrap_eq (by omega) (by omega)]
        exact Ev.bindc (show reply_Check_1.f l[i] = some false by unfold reply_Check_1.f; rw [decide_eq_false hn]) (Ev.neg Bool.false_ne_true hr)
      · rw [decide_eq_false hn, Bool.false_or]; exact he
theorem contains_f {l : List Int} (hl : l.length < 1000000) : Ev (fun k => slices_ContainsFunc_int_int_123.f k l) (l.any fun x => decide (x < 0)) := by
  obtain ⟨r, hr, he⟩ := idx_l0 hl l.length 0 (by omega) (by omega)
  unfold slices_ContainsFunc_int_int_123.f slices_IndexFunc_int_int_123.f
  refine Ev.bind hr (Ev.ok ?_)
  rw [he, List.drop_zero]
theorem chk2 {c : Int} {l : List Int} (h : badR c l) : chkR c l = 2 := if_pos h
theorem chk0 {c : Int} {l : List Int} (h : ¬ badR c l) : chkR c l = 0 := if_neg h
theorem check_j1 {b : Bool} {c : Int} {l : List Int} (hc : 0 ≤ c ∧ c ≤ 255) (hb : b = true ↔ l.length > 200 ∨ (l.any fun x => decide (x < 0)) = true) : Ev (fun k => reply_Check.j1 k b c l) (chkR c l) := by
  refine Ev.step (fun k => by simp only [reply_Check.j1]; rfl) ?_
  by_cases h : b = true
  · have hb' : badR c l := by
      rcases hb.1 h with h1 | h1
      · exact .inr (.inr (.inl h1))
      · exact .inr (.inr (.inr (.inl h1)))
    rw [chk2 hb']
    exact Ev.pos h (Ev.ok rfl)
  · refine Ev.neg h ?_
    have h1 : ¬ l.length > 200 := fun x => h (hb.2 (.inl x))
    have h2 : ¬ (l.any fun x => decide (x < 0)) = true := fun x => h (hb.2 (.inr x))
    by_cases h3 : c = 0
    · have hb' : ¬ badR c l := by
        rintro (x | x | x | x | x)
        · omega
        · omega
        · omega
        · exact h2 x
        · exact x.1 h3
      rw [chk0 hb']
      exact Ev.pos h3 (Ev.ok rfl)
    · refine Ev.neg h3 ?_
      by_cases h4 : l.length > 0
      · rw [chk2 (.inr (.inr (.inr (.inr ⟨h3, h4⟩))))]
        exact Ev.pos (by omega) (Ev.ok rfl)
      · have hb' : ¬ badR c l := by
          rintro (x | x | x | x | x)
          · omega
          · omega
          · omega
          · exact h2 x
          · exact h4 x.2
        rw [chk0 hb']
        exact Ev.neg (by omega) (Ev.ok rfl)
theorem reply_check_f {c : Int} {l : List Int} (hl : l.length < 1000000) : Ev (fun k => reply_Check.f k c l) (chkR c l) := by
  unfold reply_Check.f
  have bad : (c < 0 ∨ c > 255) → Ev (fun k => reply_Check.j0 k true c l) (chkR c l) := fun h => by
    refine Ev.step (fun k => by simp only [reply_Check.j0]; rfl) (Ev.pos trivial ?_)
    refine Ev.step (fun k => by simp only [reply_Check.j1]; rfl) (Ev.pos trivial ?_)
    have hb' : badR c l := by
      rcases h with h | h
      · exact .inl h
      · exact .inr (.inl h)
    rw [chk2 hb']
    exact Ev.ok rfl
  refine Ev.ite (fun h => bad (.inl h)) (fun h => ?_)
  by_cases h1 : c > 255
  · rw [decide_eq_true h1]; exact bad (.inr h1)
  · rw [decide_eq_false h1]
    refine Ev.step (fun k => by simp only [reply_Check.j0]; rfl) ?_
    refine Ev.neg Bool.false_ne_true (Ev.ite (fun h2 => ?_) (fun h2 => ?_))
    · exact check_j1 (by omega) ⟨fun x => .inl (by have := of_decide_eq_true x; omega), fun _ => decide_eq_true h2⟩
    · refine Ev.bind (contains_f hl) (check_j1 (by omega) ⟨fun x => .inr x, fun x => ?_⟩)
      rcases x with x | x
      · omega
      · exact x
theorem chk_ok {c : Int} {l : List Int} (h : chkR c l = 0) : 0 ≤ c ∧ c ≤ 255 ∧ l.length ≤ 200 ∧ (∀ x ∈ l, 0 ≤ x) ∧ (c ≠ 0 → l = []) := by
  unfold chkR at h
  by_cases hb : badR c l
  · rw [if_pos hb] at h; exact absurd h (by decide)
  · refine ⟨?_, ?_, ?_, fun x hx => ?_, fun hc => ?_⟩
    · exact Int.not_lt.1 (fun x => hb (.inl x))
    · exact Int.not_lt.1 (fun x => hb (.inr (.inl x)))
    · exact Nat.not_lt.1 (fun x => hb (.inr (.inr (.inl x))))
    · refine Int.not_lt.1 (fun y => hb (.inr (.inr (.inr (.inl ?_)))))
      exact List.any_eq_true.2 ⟨x, hx, decide_eq_true y⟩
    · cases l with
      | nil => rfl
      | cons a l => exact absurd (.inr (.inr (.inr (.inr ⟨hc, by simp⟩)))) hb
theorem chk_two {c : Int} {l : List Int} (h : chkR c l ≠ 0) : chkR c l = 2 := by
  unfold chkR at h ⊢
  split
  · rfl
  · rename_i x; rw [if_neg x] at h; exact absurd rfl h
theorem put8 {x : Int} (h0 : 0 ≤ x) (h1 : x ≤ 9223372036854775807) : (putS x 8).2 = 0 := by
  unfold putS
  rw [if_pos (.inr (.inr (.inr rfl))), if_pos]
  refine ⟨h0, ?_⟩
  have : (256 : Int) ^ (8 : Int).toNat = 18446744073709551616 := by decide
  omega
theorem rowL_good : ∀ l : List Int, (∀ x ∈ l, 0 ≤ x ∧ x ≤ 9223372036854775807) → (rowL 8 l).2 = 0
  | [], _ => rfl
  | x :: xs, h => by
    have h1 := rowL_good xs (fun y hy => h y (List.mem_cons_of_mem _ hy))
    have h2 := put8 (h x List.mem_cons_self).1 (h x List.mem_cons_self).2
    simp only [rowL]
    rw [if_pos h2, if_pos h1]
theorem rowS_good {l : List Int} (hl : l.length ≤ 1000) (h : ∀ x ∈ l, 0 ≤ x ∧ x ≤ 9223372036854775807) : rowS 8 l = ((rowS 8 l).1, 0) := by
  unfold rowS
  rw [if_pos (.inr (.inr (.inr rfl))), if_neg (by omega), if_pos (rowL_good l h)]
theorem putS_one {c : Int} (h0 : 0 ≤ c) (h1 : c ≤ 255) : putS c 1 = (bytesB (beL 1 c.toNat), 0) := by
  unfold putS
  rw [if_pos (.inl rfl), if_pos]
  · rfl
  · refine ⟨h0, ?_⟩
    have : (256 : Int) ^ (1 : Int).toNat = 256 := by decide
    omega
def putR (c : Int) (l : List Int) : ByteArray × Int := if chkR c l = 0 then (bytesB (beL 1 c.toNat) ++ (rowS 8 l).1, 0) else (⟨#[]⟩, 2)
theorem rowS_small {l : List Int} (hl : l.length ≤ 1000) : (rowS 8 l).1.size ≤ 8002 := by
  have h : ∀ l : List Int, (rowL 8 l).1.size ≤ 8 * l.length := by
    intro l
    induction l with
    | nil => exact Nat.zero_le _
    | cons x xs ih =>
      have h2 := put_size (n := x) (w := 8)
      simp only [rowL, List.length_cons]
      split
      · split
        · simp only [ByteArray.size_append]; omega
        · exact Nat.zero_le _
      · exact Nat.zero_le _
  have := h l
  unfold rowS
  split
  · split
    · exact Nat.zero_le _
    · split
      · simp only [ByteArray.size_append, bytesB_size, beL_length]; omega
      · exact Nat.zero_le _
  · exact Nat.zero_le _
theorem reply_put_f {c : Int} {l : List Int} (hl : l.length < 1000000) (hx : ∀ x ∈ l, x ≤ 9223372036854775807) : Ev (fun k => reply_Put.f k c l) (putR c l) := by
  unfold reply_Put.f putR
  refine Ev.bind (reply_check_f hl) ?_
  by_cases h : chkR c l = 0
  · obtain ⟨h0, h1, h2, h3, h4⟩ := chk_ok h
    rw [if_pos h]
    have hp := octet_put_f (n := c) 1 (by omega)
    rw [putS_one h0 h1] at hp
    refine Ev.pos h (Ev.bind hp (Ev.pos rfl (Ev.bind (octet_row_f 8 hx) (Ev.pos ?_ (Ev.ok ?_)))))
    · have := rowS_small (l := l) (by omega)
      simp only [bytesB_size, beL_length]; omega
    · rw [rowS_good (by omega) (fun x hx' => ⟨h3 x hx', hx x hx'⟩)]
  · rw [if_neg h, chk_two h]
    exact Ev.neg (by decide) (Ev.ok rfl)
def takeG (t : ByteArray) (n : Int × Int × Int) (r : List Int × Int × Int) : Int × List Int × Int := if endR t r.2.1 r.2.2 = 0 then (if n.1 = 0 then (n.1, r.1, 0) else if (r.1.length : Int) > 0 then (0, [], 5) else (n.1, r.1, 0)) else (0, [], endR t r.2.1 r.2.2)
def takeR (t : ByteArray) : Int × List Int × Int := takeG t (numR t 0 0 1 255) (rowR t (numR t 0 0 1 255).2.1 (numR t 0 0 1 255).2.2 8 200)
theorem takeG_1 {t : ByteArray} {n : Int × Int × Int} {r : List Int × Int × Int} (h : endR t r.2.1 r.2.2 = 0) (h1 : n.1 = 0) : (n.1, r.1, 0) = takeG t n r := by unfold takeG; rw [if_pos h, if_pos h1]
theorem takeG_2 {t : ByteArray} {n : Int × Int × Int} {r : List Int × Int × Int} (h : endR t r.2.1 r.2.2 = 0) (h1 : n.1 ≠ 0) (h2 : (r.1.length : Int) > 0) : (0, [], 5) = takeG t n r := by unfold takeG; rw [if_pos h, if_neg h1, if_pos h2]
theorem takeG_3 {t : ByteArray} {n : Int × Int × Int} {r : List Int × Int × Int} (h : endR t r.2.1 r.2.2 = 0) (h1 : n.1 ≠ 0) (h2 : ¬ (r.1.length : Int) > 0) : (n.1, r.1, 0) = takeG t n r := by unfold takeG; rw [if_pos h, if_neg h1, if_neg h2]
theorem takeG_4 {t : ByteArray} {n : Int × Int × Int} {r : List Int × Int × Int} (h : endR t r.2.1 r.2.2 ≠ 0) : (0, [], endR t r.2.1 r.2.2) = takeG t n r := by unfold takeG; rw [if_neg h]
theorem reply_take_f {t : ByteArray} (ht : t.size ≤ 4611686018427387904) : Ev (fun k => reply_Take.f k t) (takeR t) := by
  unfold reply_Take.f takeR
  refine Ev.bindc rfl (Ev.bind (num_f (s := t) 0 0 1 255 ht) (Ev.bind (row_f (s := t) _ _ 8 200 ht) (Ev.bindc (end_f t _ _) (Ev.bindc (err_f t _ _) (Ev.bindc (why_f _ _) ?_)))))
  exact Ev.ite (fun h => Ev.ite (fun h1 => Ev.ok (takeG_1 h h1)) (fun h1 => Ev.ite (fun h2 => Ev.ok (takeG_2 h h1 h2)) (fun h2 => Ev.ok (takeG_3 h h1 h2)))) (fun h => Ev.ok (takeG_4 h))
theorem ref31_same_f {c d : Int} {l m : List Int} (hl : l.length < 9223372036854775807) : Ev (fun k => backhaulref31_Same.f k c l d m) (decide (c = d) && decide (l = m)) := by
  unfold backhaulref31_Same.f
  refine Ev.ite (fun h => ?_) (fun h => Ev.ok ?_)
  · refine Ev.bind (same_ints_f hl) (Ev.ok ?_)
    rw [decide_eq_true h, Bool.true_and]
  · rw [decide_eq_false h, Bool.false_and]
theorem take_of_put {c : Int} {l : List Int} (h : chkR c l = 0) (hx : ∀ x ∈ l, x ≤ 9223372036854775807) : takeR (putR c l).1 = (c, l, 0) := by
  obtain ⟨h0, h1, h2, h3, h4⟩ := chk_ok h
  unfold putR
  rw [if_pos h]
  show takeR (bytesB (beL 1 c.toNat) ++ (rowS 8 l).1) = (c, l, 0)
  have hp := putS_one h0 h1
  have hr := rowS_good (l := l) (by omega) (fun x hx' => ⟨h3 x hx', hx x hx'⟩)
  obtain ⟨hg, hz⟩ := get_of_put (x := ⟨#[]⟩) (y := (rowS 8 l).1) hp (by omega)
  have e0 : (⟨#[]⟩ : ByteArray) ++ bytesB (beL 1 c.toNat) ++ (rowS 8 l).1 = bytesB (beL 1 c.toNat) ++ (rowS 8 l).1 := by
    apply ext_list; simp only [data_append]; rfl
  rw [e0] at hg
  have hu := unrow_of_row (x := bytesB (beL 1 c.toNat)) (y := ⟨#[]⟩) (top := 200) hr hx (by omega)
  have e1 : bytesB (beL 1 c.toNat) ++ (rowS 8 l).1 ++ (⟨#[]⟩ : ByteArray) = bytesB (beL 1 c.toNat) ++ (rowS 8 l).1 := by
    apply ext_list; simp only [data_append, List.append_nil]
  rw [e1] at hu
  have hb1 : (bytesB (beL 1 c.toNat)).size = 1 := by rw [bytesB_size, beL_length]
  have hs : (bytesB (beL 1 c.toNat) ++ (rowS 8 l).1).size = 1 + (rowS 8 l).1.size := by rw [ByteArray.size_append, hb1]
  generalize bytesB (beL 1 c.toNat) ++ (rowS 8 l).1 = t at *
  rw [hb1] at hu
  have hg' : getS t 0 1 = (c, 1, 0) := hg
  have hn : numR t 0 0 1 255 = (c, 1, 0) := by
    unfold numR bigR
    rw [hg', if_neg (fun x => by have := x.2; simp only at this; omega)]
    exact pc_ok rfl
  unfold takeR takeG
  simp only [hn]
  have hrr : rowR t 1 0 8 200 = (l, (1 : Int) + (rowS 8 l).1.size, 0) := by
    unfold rowR
    have hu' : unrowS t 1 8 200 = (l, (1 : Int) + (rowS 8 l).1.size, 0) := hu
    rw [hu']
    exact pc_ok rfl
  simp only [hrr]
  have he : endR t ((1 : Int) + (rowS 8 l).1.size) 0 = 0 := by
    unfold endR
    rw [if_neg]
    intro x
    have := x.2
    omega
  rw [if_pos he]
  by_cases hc : c = 0
  · rw [if_pos hc]
  · rw [if_neg hc, if_neg]
    rw [h4 hc]; decide
end Go.Proofs.Ytakkhomjpflkbaa.Q
namespace Go.Proofs.Ytakkhomjpflkbaa.Pure
open Go.RowKit Go.Proofs.Ytakkhomjpflkbaa.F Go.Proofs.Ytakkhomjpflkbaa.Q Go.Proofs.YtakkhomjpflkbaaW.PrintWords Go.Proofs.YtakkhomjpflkbaaW.PrintLast Go.Proofs.YtakkhomjpflkbaaW.PrintMore
theorem ReplyBack : backhaullaw31_ReplyBack.Pure := by
  intro c l hc hl
  refine Ev.rounds (r := true) ?_
  unfold backhaullaw31_ReplyBack.f
  refine Q.Ev.ite (fun _ => Q.Ev.const rfl) (fun h1 => ?_)
  have hx : ∀ x ∈ l, x ≤ 9223372036854775807 := fun x hx => (i64_bounds (hl.2 x hx)).2
  have ho : reply_OK.f l = some (0, l) := by
    unfold reply_OK.f slices_Clone_int_int_126.f
    rw [if_pos (by omega)]; rfl
  refine Q.Ev.bindc ho (Q.Ev.bindc (show reply_Wrong.f c = some (c, []) from rfl) (Q.Ev.pos rfl ?_))
  refine Ev.bind (ref31_same_f (c := c) (d := c) (l := l) (m := l) (by omega)) (Q.Ev.pos (by simp) (Q.Ev.pos rfl ?_))
  refine Ev.step (fun k => by simp only [backhaullaw31_ReplyBack.j0]; rfl) (Q.Ev.neg (by decide) ?_)
  refine Ev.bind (reply_put_f (by omega) hx) ?_
  by_cases h : chkR c l = 0
  · have e : (putR c l).2 = 0 := by unfold putR; rw [if_pos h]
    have hsz : (putR c l).1.size ≤ 4611686018427387904 := by
      have := rowS_small (l := l) (by omega)
      unfold putR
      rw [if_pos h]
      show (bytesB (beL 1 c.toNat) ++ (rowS 8 l).1).size ≤ _
      rw [ByteArray.size_append, bytesB_size, beL_length]; omega
    have ht := reply_take_f hsz
    rw [take_of_put h hx] at ht
    refine Q.Ev.pos e (Ev.bind ht (Ev.bind (ref31_same_f (c := c) (d := c) (l := l) (m := l) (by omega)) (Q.Ev.pos (by simp) (Q.Ev.pos rfl (Q.Ev.const rfl)))))
  · have e : putR c l = (⟨#[]⟩, 2) := by unfold putR; rw [if_neg h]
    rw [e]
    refine Q.Ev.neg (by decide) (Q.Ev.pos (by show (⟨#[]⟩ : ByteArray).toList = []; rw [ByteArray.toList_eq]) (Ev.bind (reply_check_f (by omega)) (Q.Ev.pos (chk_two h) (Q.Ev.const rfl))))
end Go.Proofs.Ytakkhomjpflkbaa.Pure
set_option linter.unusedVariables false
set_option linter.unusedSimpArgs false
namespace Go.Proofs.YtakkhomjpflkbaaX
open Go.RowKit Go.Proofs.YtakkhomjpflkbaaW.PrintWords Go.Proofs.YtakkhomjpflkbaaW.PrintLast Go.Proofs.YtakkhomjpflkbaaW.PrintMore
def Opens {α : Type} (P : Program) (t : TypeId) (k : Kd α) (Ok : α → Prop) : Prop :=
  ∀ {H : Type} {enc : TypeId × Value → H} {w : World} {base : Nat} {spare : Nat → Bool} {held : Bool} {fuel : Nat} {cs : List Value} {x : DataW H × List MemPlace},
    DataW.trod enc P w base spare held fuel t cs = some x → ∃ a : α, k.K w a cs ∧ Ok a
theorem Opens.int {P : Program} {t : TypeId} {k : IntKind} (ht : P.underlying t = some (.int k)) : Opens P t (Kd.int k) (fun a => (Lit.int k a).wf = true) := by
  intro H enc w base spare held fuel cs x h
  obtain ⟨n, rfl, _, hw⟩ := DataW.trod_int ht h
  exact ⟨n, rfl, hw⟩
theorem Opens.bool {P : Program} {t : TypeId} (ht : P.underlying t = some .bool) : Opens P t Kd.bool (fun _ => True) := by
  intro H enc w base spare held fuel cs x h
  obtain ⟨n, rfl, _⟩ := DataW.trod_bool ht h
  exact ⟨n, rfl, trivial⟩
theorem Opens.string {P : Program} {t : TypeId} (ht : P.underlying t = some .string) : Opens P t Kd.string (fun a => a.size ≤ maxLen) := by
  intro H enc w base spare held fuel cs x h
  obtain ⟨s, rfl, _, hw⟩ := DataW.trod_string ht h
  exact ⟨s, rfl, hw⟩
theorem list_of {α : Type} {p : Nat → α → Prop} : ∀ n, (∀ i, i < n → ∃ a, p i a) → ∃ xs : List α, xs.length = n ∧ ∀ i a, xs[i]? = some a → p i a
  | 0, _ => ⟨[], rfl, fun i a h => by simp at h⟩
  | n + 1, h => by
    obtain ⟨xs, hl, hx⟩ := list_of n (fun i hi => h i (by omega))
    obtain ⟨a, ha⟩ := h n (by omega)
    refine ⟨xs ++ [a], by simp [hl], fun i b hb => ?_⟩
    rcases Nat.lt_or_ge i xs.length with h1 | h1
    · rw [List.getElem?_append_left h1] at hb
      exact hx i b hb
    · rw [List.getElem?_append_right h1] at hb
      have h2 : i - xs.length = 0 := by
        have := (List.getElem?_eq_some_iff.1 hb).1
        simp at this; omega
      rw [h2] at hb
      have : a = b := by simpa using hb
      subst this
      have : i = n := by omega
      rw [this]; exact ha
theorem Opens.slice {α : Type} {P : Program} {t e : TypeId} {k : Kd α} {Ok : α → Prop} (ht : P.underlying t = some (.slice e)) (hc : P.cellsOf e = k.sz) (h : Opens P e k Ok) :
    Opens P t (Kd.slice e k) (fun xs => xs.length ≤ maxLen ∧ ∀ x ∈ xs, Ok x) := by
  intro H enc w base spare held fuel cs x hx
  rcases Go.Deep.open_slice ht hx with ⟨rfl, rfl⟩ | ⟨a, len, cap, m, n, D, Pl, rfl, hb, hl, hm, hmm, rfl, hel⟩
  · exact ⟨[], ⟨none, 0, rfl, by simp, rfl, by simp, fun h => absurd h (by simp)⟩, by simp [maxLen], by simp⟩
  · have hlm : len ≤ m := by rw [hmm]; split <;> omega
    obtain ⟨xs, hlen, hxs⟩ := list_of (p := fun i (a' : α) => ∃ cs', w.cells? base (a.add (i * P.cellsOf e)) (P.cellsOf e) = some cs' ∧ k.K w a' cs' ∧ Ok a') len (fun i hi => by
      obtain ⟨cs', h1, h2⟩ := hel i (by omega)
      obtain ⟨a', h3, h4⟩ := h h2
      exact ⟨a', cs', h1, h3, h4⟩)
    have hlm2 : len ≤ maxLen := by omega
    refine ⟨xs, ⟨some a, cap, by rw [hlen], by rw [hlen]; exact hl, rfl, by rw [hlen]; simpa [maxLen] using hlm2, fun _ => ⟨a, rfl, fun j p hj => ?_⟩⟩, by rw [hlen]; exact hlm2, fun y hy => ?_⟩
    · obtain ⟨cs', h1, h2, _⟩ := hxs j p hj
      refine ⟨cs', k.K_len h2, h2, fun i u hu => ?_⟩
      obtain ⟨_, _, h3⟩ := World.cells?_some h1
      have h4 := h3 i (by have := (List.getElem?_eq_some_iff.1 hu).1; have := k.K_len h2; omega)
      rw [← hc, ← Go.Proofs.YtakkhomjpflkbaaW.PrintWords.add_add]
      rw [← hu]; exact h4
    · obtain ⟨i, hi, rfl⟩ := List.mem_iff_getElem.1 hy
      obtain ⟨_, _, _, h3⟩ := hxs i _ (List.getElem?_eq_getElem hi)
      exact h3
theorem field_reads {H : Type} {enc : TypeId × Value → H} {P : Program} {w : World} {base : Nat} {spare : Nat → Bool} {held : Bool} {fuel : Nat} {t : TypeId} {cs : List Value} {x : DataW H × List MemPlace} {fs : Array Field}
    (ht : P.underlying t = some (.struct fs)) (h : DataW.trod enc P w base spare held fuel t cs = some x) :
    cs.length = P.cellsOf t ∧ ∃ n, ∀ (i : Nat) (f : Field), fs[i]? = some f → ∃ y, DataW.trod enc P w base spare held n f.type ((cs.drop f.offset).take (P.cellsOf f.type)) = some y := by
  obtain ⟨xs, n, _, _, hl, hx, hf⟩ := DataW.trod_struct ht h
  refine ⟨hl, n, fun i f hif => ?_⟩
  rw [hf i f hif]
  have hi := (Array.getElem?_eq_some_iff.1 hif).1
  exact ⟨_, List.getElem?_eq_getElem (by rw [hx]; exact hi)⟩
theorem band {a b : Bool} (h1 : a = true) (h2 : b = true) : (a && b) = true := by rw [h1, h2]; rfl
theorem mayEnter_of {P : Program} {L c : List Char} {rest : List (List Char)} (h : P.initOrder.toList = L) (h1 : behindMainWord (wordsSigns L) = c :: rest) (h2 : ((stripLifts liftWords (c :: rest)).2.head? == some "cut".toList) = true) (h3 : P.laysLater = false) (h4 : P.bearsReflect = false) (h5 : (stripLifts liftWords (c :: rest)).1 = []) (h6 : P.doorFits [] = true) : P.mayEnter = true := by
  unfold Program.mayEnter
  rw [h, h1]
  dsimp only
  rw [h2, h3, h4, h5, h6]
  simp
theorem make_of {P : Program} {L : List Char} {rest : List (List Char)} (h : P.initOrder.toList = L) (h1 : behindMainWord (wordsSigns L) = "cut".toList :: rest) : P.make = some .cut := by
  unfold Program.make
  rw [h, h1]
  dsimp only
  rw [if_neg (by decide), if_pos (by simp)]
end Go.Proofs.YtakkhomjpflkbaaX
set_option maxRecDepth 10000
namespace Go.Proofs.Ytakkhomjpflkbaa.Join
open Go.Proofs.YtakkhomjpflkbaaX
def initSigns : List Char := ['h', 'a', 'r', 'n', 'e', 's', 's', ' ', '8', '5', '1', '9', '2', 'd', '7', '1', '7', '6', 'f', 'f', '5', '6', '1', '0', '2', '1', 'b', '4', '6', '6', '4', 'b', '6', 'a', '6', '7', 'a', '6', '8', '3', '4', '1', 'a', '9', 'f', 'e', '4', 'b', '6', 'c', 'b', '5', '5', '7', 'f', '5', 'c', 'e', '1', '9', '0', '4', '4', '3', 'f', '0', '1', 'b', '7', '6', 'a', '6', ' ', 'c', 'u', 't', ' ', 'a', 't', ' ', 'b', 'a', 'c', 'k', 'h', 'a', 'u', 'l', '/', 'b', 'a', 'c', 'k', 'h', 'a', 'u', 'l', 'l', 'a', 'w', '3', '1', '.', 'R', 'e', 'p', 'l', 'y', 'C', 'o', 'd', 'e', 's', ' ', 'b', 'a', 'c', 'k', 'h', 'a', 'u', 'l', '/', 'b', 'a', 'c', 'k', 'h', 'a', 'u', 'l', 'l', 'a', 'w', '3', '1', '.', 'R', 'e', 'p', 'l', 'y', 'B', 'a', 'c', 'k', ' ', 'b', 'a', 'c', 'k', 'h', 'a', 'u', 'l', '/', 'b', 'a', 'c', 'k', 'h', 'a', 'u', 'l', 'l', 'a', 'w', '3', '1', '.', 'R', 'e', 'p', 'l', 'y', 'O', 'n', 'l', 'y', ' ', 'b', 'a', 'c', 'k', 'h', 'a', 'u', 'l', '/', 'b', 'a', 'c', 'k', 'h', 'a', 'u', 'l', 'l', 'a', 'w', '0', '6', '.', 'S', 't', 'r', 'i', 'c', 't', 'R', 'e', 'a', 'd', 's', ' ', 'b', 'a', 'c', 'k', 'h', 'a', 'u', 'l', '/', 'b', 'a', 'c', 'k', 'h', 'a', 'u', 'l', 'l', 'a', 'w', '0', '6', '.', 'S', 't', 'r', 'i', 'c', 't', 'F', 'i', 'r', 's', 't', ' ', 'b', 'a', 'c', 'k', 'h', 'a', 'u', 'l', '/', 'b', 'a', 'c', 'k', 'h', 'a', 'u', 'l', 'l', 'a', 'w', '2', '7', '.', 'R', 'm', 'a', 'M', 'a', 'k', 'e', 's', ' ', 'b', 'a', 'c', 'k', 'h', 'a', 'u', 'l', '/', 'b', 'a', 'c', 'k', 'h', 'a', 'u', 'l', 'l', 'a', 'w', '2', '7', '.', 'R', 'm', 'a', 'M', 'o', 'v', 'e', 's', ' ', 'b', 'a', 'c', 'k', 'h', 'a', 'u', 'l', '/', 'b', 'a', 'c', 'k', 'h', 'a', 'u', 'l', 'l', 'a', 'w', '2', '7', '.', 'R', 'm', 'a', 'T', 'u', 'r', 'n', 's', ' ', 'b', 'a', 'c', 'k', 'h', 'a', 'u', 'l', '/', 'b', 'a', 'c', 'k', 'h', 'a', 'u', 'l', 'l', 'a', 'w', '2', '7', '.', 'R', 'm', 'a', 'B', 'o', 'u', 'n', 'd', 's', ' ', 'b', 'a', 'c', 'k', 'h', 'a', 'u', 'l', '/', 'b', 'a', 'c', 'k', 'h', 'a', 'u', 'l', 'l', 'a', 'w', '0', '6', '.', 'S', 't', 'r', 'i', 'c', 't', 'W', 'h', 'o', 'l', 'e', ' ', 'b', 'a', 'c', 'k', 'h', 'a', 'u', 'l', '/', 'b', 'a', 'c', 'k', 'h', 'a', 'u', 'l', 'l', 'a', 'w', '1', '4', '.', 'I', 'n', 'd', 'e', 'x', 'T', 'e', 'l', 'l', 's', ' ', 'b', 'a', 'c', 'k', 'h', 'a', 'u', 'l', '/', 'b', 'a', 'c', 'k', 'h', 'a', 'u', 'l', 'l', 'a', 'w', '1', '4', '.', 'I', 'n', 'd', 'e', 'x', 'A', 'd', 'd', 's', ' ', 'b', 'a', 'c', 'k', 'h', 'a', 'u', 'l', '/', 'b', 'a', 'c', 'k', 'h', 'a', 'u', 'l', 'l', 'a', 'w', '1', '4', '.', 'I', 'n', 'd', 'e', 'x', 'T', 'u', 'r', 'n', 's', ' ', 'b', 'a', 'c', 'k', 'h', 'a', 'u', 'l', '/', 'b', 'a', 'c', 'k', 'h', 'a', 'u', 'l', 'l', 'a', 'w', '1', '4', '.', 'I', 'n', 'd', 'e', 'x', 'W', 'h', 'o', 'l', 'e', ' ', 'b', 'a', 'c', 'k', 'h', 'a', 'u', 'l', '/', 'b', 'a', 'c', 'k', 'h', 'a', 'u', 'l', 'l', 'a', 'w', '1', '5', '.', 'B', 'a', 't', 'c', 'h', 'A', 'p', 'p', 'l', 'i', 'e', 's', ' ', 'b', 'a', 'c', 'k', 'h', 'a', 'u', 'l', '/', 'b', 'a', 'c', 'k', 'h', 'a', 'u', 'l', 'l', 'a', 'w', '1', '5', '.', 'B', 'a', 't', 'c', 'h', 'C', 'o', 'd', 'e', 's', ' ', 'b', 'a', 'c', 'k', 'h', 'a', 'u', 'l', '/', 'b', 'a', 'c', 'k', 'h', 'a', 'u', 'l', 'l', 'a', 'w', '1', '5', '.', 'B', 'a', 't', 'c', 'h', 'W', 'h', 'o', 'l', 'e', ' ', 'b', 'a', 'c', 'k', 'h', 'a', 'u', 'l', '/', 'b', 'a', 'c', 'k', 'h', 'a', 'u', 'l', 'l', 'a', 'w', '1', '5', '.', 'B', 'a', 't', 'c', 'h', 'U', 'n', 'd', 'o', ' ', 'b', 'a', 'c', 'k', 'h', 'a', 'u', 'l', '/', 'b', 'a', 'c', 'k', 'h', 'a', 'u', 'l', 'l', 'a', 'w', '1', '5', '.', 'B', 'a', 't', 'c', 'h', 'D', 'i', 'f', 'f', ' ', 'b', 'a', 'c', 'k', 'h', 'a', 'u', 'l', '/', 'b', 'a', 'c', 'k', 'h', 'a', 'u', 'l', 'l', 'a', 'w', '3', '0', '.', 'C', 'm', 'd', 'B', 'a', 'c', 'k', ' ', 'b', 'a', 'c', 'k', 'h', 'a', 'u', 'l', '/', 'b', 'a', 'c', 'k', 'h', 'a', 'u', 'l', 'l', 'a', 'w', '3', '0', '.', 'C', 'm', 'd', 'O', 'n', 'l', 'y']
theorem initText : Try.pinned.checked.prog.initOrder = String.ofList initSigns := by kernel_rfl
theorem initList : Try.pinned.checked.prog.initOrder.toList = initSigns := (congrArg String.toList initText).trans String.toList_ofList
theorem mayEnter_is : Try.pinned.checked.prog.mayEnter = true :=
  mayEnter_of (L := initSigns) (c := "cut".toList) (rest := (behindMainWord (wordsSigns initSigns)).tail) initList (by kernel_rfl) (by kernel_rfl) (by kernel_rfl) (by kernel_rfl) (by kernel_rfl) (by kernel_rfl)
theorem make_is : Try.pinned.checked.prog.make = some .cut :=
  make_of (L := initSigns) (rest := (behindMainWord (wordsSigns initSigns)).tail) initList (by kernel_rfl)
theorem lifts_is : Try.pinned.checked.prog.liftsFinal = false := by
  unfold Program.liftsFinal Program.headLifts
  rw [initList]
  kernel_rfl
end Go.Proofs.Ytakkhomjpflkbaa.Join
namespace Go.Proofs.Ytakkhomjpflkbaa.replyBack
open Go.ChangeShapes Go.WideShapes Go.ChangeAt Go.RowKit Go.Proofs.YtakkhomjpflkbaaX Go.Proofs.Ytakkhomjpflkbaa.F Go.Proofs.YtakkhomjpflkbaaW.PrintWords Go.Proofs.YtakkhomjpflkbaaW.PrintLast Go.Proofs.YtakkhomjpflkbaaW.PrintMore
open Go.ChangeMaps (open_string shut_string)
set_option linter.unusedVariables false
set_option linter.unusedSimpArgs false
theorem own : ownKnob Try.prog.godebug = none := by kernel_rfl
theorem laidOut : laidOutB Try.prog = true := by kernel_rfl
set_option maxRecDepth 100000 in
theorem opens_k25 : Opens Try.prog 25 k25 (fun x => ((Lit.int .i64 x.f0).wf = true ∧ (x.f1.length ≤ maxLen ∧ ∀ y ∈ x.f1, (Lit.int .i64 y).wf = true))) := by
  intro H enc w base spare held fuel cs x h
  obtain ⟨hl, n, hf⟩ := field_reads Try.underlying25 h
  have hl2 : cs.length = 2 := hl.trans (by kernel_rfl)
  match cs, hl2 with
  | [c0, c1], _ =>
    obtain ⟨y0, h0⟩ := hf 0 _ rfl
    have e0 : Try.prog.cellsOf 22 = 1 := by kernel_rfl
    (try dsimp only at h0)
    (try simp only [e0] at h0)
    obtain ⟨a0, k0, o0⟩ := (Opens.int Try.underlying22) h0
    have k0' : ((Kd.int .i64)).K w a0 [c0] := k0
    obtain ⟨y1, h1⟩ := hf 1 _ rfl
    have e1 : Try.prog.cellsOf 23 = 1 := by kernel_rfl
    (try dsimp only at h1)
    (try simp only [e1] at h1)
    obtain ⟨a1, k1, o1⟩ := (Opens.slice Try.underlying23 (by kernel_rfl) (Opens.int Try.underlying3)) h1
    have k1' : ((Kd.slice 3 (Kd.int .i64))).K w a1 [c1] := k1
    exact ⟨(⟨a0, a1⟩ : S25), ⟨[c0], [c1], rfl, k0', k1'⟩, ⟨o0, o1⟩⟩
set_option maxRecDepth 100000 in
theorem lifted (os : Os) (started : os.Started) (H : Type) (enc : TypeId × Value → H) :
    ReturnsInHanded {} Try.checked os 4 .any (Rows.replyBackSpec.pre6 enc Try.prog Try.f4 Rows.replyBackRow.domain false) (Rows.replyBackSpec.post enc Try.prog Try.f4 false true false false) := by
  refine returnsInHanded_of_change_sized (C := Try.checked) own started (by kernel_rfl) Try.func4
    (ChangeSpec.witness6 (enc := enc) (C := Try.checked) false ⟨#[], #[.agg #[.int .i64 0, .slice none 0 0]], []⟩ 8 (by kernel_rfl) (by kernel_rfl) (by kernel_rfl) (by kernel_rfl)) ?_
  intro W base args ds gs before hval0 hW hcnd hsz0 _
  have hval : ∀ (j : Nat) t v, Try.f4.params[j]? = some t → args[j]? = some v → Value.okWide Try.prog W .any base t v := hval0
  have hW' := hW
  obtain ⟨p, q, hA0, hV, rfl, hfz, hnd⟩ := hW
  have hA : DataW.TrodAll enc Try.prog W 0 (fun _ => true) true Try.f4.params.toList args.toList ds p := hA0
  rw [Try.params4] at hA hval
  obtain ⟨v0, vs0, d0, ds0, p0, q0, hargs, rfl, rfl, h0, r0⟩ := trodAll_cons hA
  obtain ⟨rfl, rfl, rfl⟩ := trodAll_nil r0
  obtain rfl : args = #[v0] := by cases args; simp_all
  obtain ⟨rfl, rfl⟩ := trodVars_none hV
  have k0 := h0
  have lt0 : ∀ x ∈ p0, x.block < W.heap.size := by obtain ⟨m, hm⟩ := k0; exact DataW.trod_lt m _ _ _ hm
  obtain ⟨cs0, rfl, _⟩ := okWide_struct Try.underlying25 (hval 0 25 v0 rfl rfl)
  obtain ⟨f0, hf0⟩ := h0
  obtain ⟨x0, hk0, ho0⟩ := opens_k25 hf0
  obtain ⟨A0_1, c0_1, he0, hl0_1, hc0_1⟩ := k25_open hk0
  obtain rfl : cs0 = _ := Array.toList_inj.1 (he0.trans (List.toList_toArray).symm)
  obtain ⟨k, h⟩ : ∃ k, backhaullaw31_ReplyBack.f k x0.f0 x0.f1 = some true := Pure.ReplyBack x0.f0 x0.f1 ho0.1 ho0.2
  refine (backhaullaw31_ReplyBack.calls k x0.f0 _ _ x0.f1 W hc0_1 hl0_1 h).mono fun e W' hq => ?_
  obtain ⟨he, bel0⟩ := hq
  have bel : Below W.heap.size W W' := bel0
  subst he
  exact ⟨_, rfl, _, _, _, [], _, [], hW', trodAll_mk1 (shut_bool Try.underlying4 _), (trodAll_cons_mk (Below.trod laidOut (by kernel_rfl) (of_decide_eq_true (by kernel_rfl)) k0 bel lt0) trodAll_mk0), rfl, bel.frame _, fun h => by cases h⟩
theorem closed_ : joinedFacts Try.pinned.checked.prog 4 Try.f4 Rows.replyBackSpec Rows.replyBackRow = true := by
  unfold joinedFacts
  repeat' (with_reducible apply band)
  any_goals with_reducible exact Join.mayEnter_is
  any_goals (rw [Join.make_is]; kernel_rfl)
  any_goals (rw [Join.lifts_is]; kernel_rfl)
  all_goals kernel_rfl
theorem over : Rows.replyBackRow.holds Try.pinned (OpenSpec.ofChange Rows.replyBackSpec) :=
  OpenClaim.holds_of_wide 4 Try.f4 rfl rfl rfl rfl rfl rfl rfl ⟨rfl, rfl, rfl, rfl, rfl⟩ rfl rfl rfl rfl rfl (by kernel_rfl) Try.func4 closed_
    (of_decide_eq_true (by kernel_rfl)) (by unfold Func.isWrapper; first | (rw [if_pos (by decide +kernel)]; kernel_rfl) | (rw [if_neg (by decide +kernel)]; exact ⟨rfl, rfl⟩))
    (fun os started H enc _ => lifted os started H enc)
theorem proved : Rows.ReplyBackSaid := over
#print axioms proved
end Go.Proofs.Ytakkhomjpflkbaa.replyBack
namespace Go.Proofs.Ytakkhomjpflkbaa
theorem replyBack_holds : Rows.ReplyBackSaid := replyBack.proved
end Go.Proofs.Ytakkhomjpflkbaa
