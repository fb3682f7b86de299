-- merged and pruned by prune.py (the session's own program); its words go back to the kit's print
import Derived.Test.YtakkhomjpflkbaaProg
import Derived.Below
import Derived.Deep.Draws
import Derived.Deep.AppendLies
import Derived.Maps.AppendAt
import Derived.OwnWalk
import Derived.Laws.BytesArg
import Derived.Laws.MakeOwn
import Derived.Laws.OwnMore
import Derived.Deep.OwnRows
import Derived.Tactics
import Derived.Lib.ConvBytes
import Derived.Laws.Slices
import Derived.WalkKit
import Derived.KernelRfl
import Derived.RowKit3
import Derived.Deep.LoopGhost
import Derived.Deep.QuietTactic
import Derived.BigQuiet
import Derived.WideLaws
import Derived.Deep.DeepCutAuto
import Derived.Deep.CutBlock
import Derived.Deep.RegionHeld3
import Derived.Laws.Rows
import Derived.Lib.AppendStr
import Derived.ArgAppend
import Derived.Laws.IdiomCopy
import Derived.OrdersHeld
import Derived.Laws.BitsLemmas
import Derived.RowKit
import Derived.Laws.StructEq
import Derived.Deep.RegionLawGrows
import Derived.Lib.SliceRun
import Derived.Shelf.Strings.BuilderK
import Derived.Shelf.Strings.Builder1
import Derived.Shelf.Small.Wraps
import Derived.Shelf.Strings.BuilderF
import Derived.Shelf.Utf8.RuneCount
import Derived.Shelf.Strings.Prefix
import Derived.Shelf.Strings.RuneCount
import Derived.Shelf.Slices.Turned
import Derived.Shelf.Slices.Equal
import Derived.Ground.Names2Prog
import Derived.Shelf.Slices.ReverseS
import Derived.Shelf.Slices.Clone
import Derived.Shelf.Slices.SearchI
import Derived.Shelf.Slices.Delete
import Derived.Shelf.Slices.Cells
import Derived.Shelf.Slices.Empties
import Derived.Shelf.Slices.Empties2
import Derived.Ground.SlgnProg
import Derived.Shelf.SlicesE.Reverse
import Derived.Shelf.SlicesE.Delete
import Derived.Shelf.SlicesE.Clone
import Derived.Deep.Slices
import Derived.ChangeArms
import Derived.WideShapes
import Derived.OpenShut
import Derived.Test.YtakkhomjpflkbaaRows
import Derived.ProofKit
import Derived.ShutString
import Derived.ChangeOld
import Derived.SizedLaws
import Derived.Carry
import Derived.Test.YtakkhomjpflkbaaZReplyOnly3
set_option linter.unusedVariables false
namespace Go.Proofs.Ytakkhomjpflkbaa.Q
open Go.RowKit Go.Proofs.Ytakkhomjpflkbaa.F Go.Proofs.YtakkhomjpflkbaaW.PrintWords Go.Proofs.YtakkhomjpflkbaaW.PrintLast Go.Proofs.YtakkhomjpflkbaaW.PrintMore
theorem wide_dec (w : Int) : (if w = 1 then some true else if w = 2 then some true else if w = 4 then some true else some (w == 8)) = some (decide (wide w)) := by
  unfold wide
  by_cases h1 : w = 1
  · rw [if_pos h1]; simp [h1]
  · rw [if_neg h1]
    by_cases h2 : w = 2
    · rw [if_pos h2]; simp [h2]
    · rw [if_neg h2]
      by_cases h4 : w = 4
      · rw [if_pos h4]; simp [h4]
      · rw [if_neg h4]
        by_cases h8 : w = 8
        · simp [h8]
        · simp [h1, h2, h4, h8]
theorem octet_wide_f (w : Int) : octet_wide.f w = some (decide (wide w)) := by
  unfold octet_wide.f
  exact wide_dec w
theorem octet_inside_f (s : ByteArray) (a : Int) : octet_inside.f s a = some (decide (0 ≤ a ∧ a ≤ s.size)) := by
  unfold octet_inside.f
  by_cases h : a ≥ 0
  · rw [if_pos h]; congr 1; exact decide_eq_decide.2 ⟨fun x => ⟨h, x⟩, fun x => x.2⟩
  · rw [if_neg h]; congr 1; exact (decide_eq_false (fun x => h x.1)).symm
def natI (l : List UInt8) : List Int := l.map (fun b => (b.toNat : Int))
theorem strOfNums_nat (l : List UInt8) : strOfNums (natI l) = bytesB l := by
  unfold strOfNums natI bytesB
  rw [List.map_map]
  congr 2
  exact (List.map_congr_left fun b _ => by simp).trans (List.map_id l)
theorem byte_mod (n : Int) (h : 0 ≤ n) : n % 256 = (((UInt8.ofNat n.toNat).toNat : Nat) : Int) := by
  rw [toNat_ofNat]; omega
theorem octet_put_l0 (d : Nat) : ∀ (n : Int) (t : List UInt8), 0 ≤ n → d ≤ 8 → Ev (fun k => octet_Put.l0 k n (List.replicate d 0 ++ natI t) ((d : Int) - 1)) (bytesB (beL d n.toNat ++ t), 0) := by
  induction d with
  | zero =>
    intro n t hn hd
    refine Ev.step (fun k => by simp only [octet_Put.l0]; rfl) ?_
    refine Ev.neg (by omega) (Ev.ok ?_)
    simp only [List.replicate_zero, List.nil_append, beL]
    rw [strOfNums_nat]
  | succ d ih =>
    intro n t hn hd
    refine Ev.step (fun k => by simp only [octet_Put.l0]; rfl) ?_
    refine Ev.pos (by omega) (Ev.pos (by omega) (Ev.pos (by simp only [List.length_append, List.length_replicate]; omega) ?_))
    have e1 : ((((d + 1 : Nat) : Int) - 1) : Int).toNat = d := by omega
    have e2 : wrap64 (((d + 1 : Nat) : Int) - 1 - 1) = (d : Int) - 1 := by rw [wrap_eq (by omega) (by omega)]; omega
    have e3 : (List.replicate (d + 1) 0 ++ natI t).set d (n % 256) = List.replicate d 0 ++ natI (UInt8.ofNat n.toNat :: t) := by
      rw [List.replicate_succ', List.append_assoc, List.set_append_right _ _ (by simp)]
      simp only [List.length_replicate, Nat.sub_self, List.cons_append, List.nil_append, List.set_cons_zero, natI, List.map_cons, byte_mod n hn]
    rw [e1, e2, e3]
    refine Ev.eq (ih (n / 256) (UInt8.ofNat n.toNat :: t) (by omega) (by omega)) ?_
    rw [beL, show (n / 256).toNat = n.toNat / 256 by omega, List.append_assoc]
    rfl
theorem octet_put_j0 {n w : Int} (hw : wide w) (hn : 0 ≤ n) (hlt : n < 256 ^ w.toNat) : Ev (fun k => octet_Put.j0 k n w false) (putS n w) := by
  have hw' := wide_nat hw
  refine Ev.step (fun k => by simp only [octet_Put.j0]; rfl) ?_
  refine Ev.neg (by decide) (Ev.pos (by omega) (Ev.pos (by omega) ?_))
  have h := octet_put_l0 w.toNat n [] hn (by omega)
  simp only [natI, List.map_nil, List.append_nil] at h
  rw [wrap_eq (by omega) (by omega), show w - 1 = ((w.toNat : Nat) : Int) - 1 by omega]
  refine Ev.eq h ?_
  unfold putS
  rw [if_pos hw, if_pos ⟨hn, hlt⟩]
theorem octet_put_t {n w : Int} (hw : wide w) (h : ¬ (0 ≤ n ∧ n < 256 ^ w.toNat)) : Ev (fun k => octet_Put.j0 k n w true) (putS n w) := by
  refine Ev.step (fun k => by simp only [octet_Put.j0]; rfl) ?_
  refine Ev.pos trivial (Ev.ok ?_)
  unfold putS
  rw [if_pos hw, if_neg h]
theorem octet_put_f {n : Int} (w : Int) (h1 : n ≤ 9223372036854775807) : Ev (fun k => octet_Put.f k n w) (putS n w) := by
  unfold octet_Put.f
  refine Ev.bindc (octet_wide_f w) ?_
  by_cases hw : wide w
  · refine Ev.pos (decide_eq_true hw) ?_
    refine Ev.ite (fun h => octet_put_t hw (by omega)) (fun h => ?_)
    have key : ∀ b : Bool, (b = true ↔ ¬ n < 256 ^ w.toNat) → Ev (fun k => octet_Put.j0 k n w b) (putS n w) := by
      intro b hb
      cases b with
      | true => exact octet_put_t hw (fun x => (hb.1 rfl) x.2)
      | false => exact octet_put_j0 hw (by omega) (Classical.byContradiction fun x => by have := hb.2 x; cases this)
    rcases hw with rfl | rfl | rfl | rfl
    · rw [show wrap64 (8 * 1) = 8 from wrap_eq (by decide) (by decide)]
      refine Ev.pos (by decide) (Ev.pos (by decide) (key _ ?_))
      rw [decide_eq_true_eq, show shr .i64 n 8 = n / 256 from rfl]
      show n / 256 > 0 ↔ ¬ n < 256
      omega
    · rw [show wrap64 (8 * 2) = 16 from wrap_eq (by decide) (by decide)]
      refine Ev.pos (by decide) (Ev.pos (by decide) (key _ ?_))
      rw [decide_eq_true_eq, show shr .i64 n 16 = n / 65536 from rfl]
      show n / 65536 > 0 ↔ ¬ n < 65536
      omega
    · rw [show wrap64 (8 * 4) = 32 from wrap_eq (by decide) (by decide)]
      refine Ev.pos (by decide) (Ev.pos (by decide) (key _ ?_))
      rw [decide_eq_true_eq, show shr .i64 n 32 = n / 4294967296 from rfl]
      show n / 4294967296 > 0 ↔ ¬ n < 4294967296
      omega
    · refine Ev.neg (by decide) (key false ?_)
      show false = true ↔ ¬ n < 18446744073709551616
      simp
      omega
  · refine Ev.neg (fun x => hw (of_decide_eq_true x)) (Ev.ok ?_)
    unfold putS
    rw [if_neg hw]
theorem numAt_succ {s : ByteArray} {a i : Nat} (h : a + i < s.size) : (numAt s a (i + 1) : Int) = 256 * (numAt s a i : Int) + bt s ((a + i : Nat) : Int) := by
  have hl : a + i < s.data.toList.length := by rw [size_data]; exact h
  unfold numAt
  rw [List.take_succ_eq_append_getElem (by rw [List.length_drop]; omega), beN_append, bt_data s (a + i) h, List.getElem_drop]
  omega
theorem numAt_lt' {s : ByteArray} {a i : Nat} (h : a + i ≤ s.size) : (numAt s a i : Int) < 256 ^ i := pow_cast (numAt_lt h)
theorem pow_le8 {i : Nat} (h : i ≤ 7) : (256 : Int) ^ i ≤ 72057594037927936 := by
  have : i = 0 ∨ i = 1 ∨ i = 2 ∨ i = 3 ∨ i = 4 ∨ i = 5 ∨ i = 6 ∨ i = 7 := by omega
  rcases this with rfl | rfl | rfl | rfl | rfl | rfl | rfl | rfl <;> decide
theorem bt_range (s : ByteArray) (i : Int) : 0 ≤ bt s i ∧ bt s i < 256 := by
  unfold bt
  split
  · rename_i h
    have := (s[i.toNat]'h).toNat_lt
    omega
  · omega
theorem or_byte {x y : Int} (h0 : 0 ≤ x) (h1 : x < 72057594037927936) (h2 : 0 ≤ y) (h3 : y < 256) : Go.bits .or .u64 (IntKind.u64.wrap (x * 256)) (IntKind.u64.wrap y) = 256 * x + y := by
  rw [u64_eq (x := x * 256) (by omega) (by omega), u64_eq (x := y) (by omega) (by omega)]
  rw [bits_join .u64 64 (by decide) (fun n h0 h1 => u64_eq h0 h1) 8 (x * 256) y (by omega) (by omega) (by omega) (by omega) (by omega) (by omega)]
  omega
theorem getS_in {s : ByteArray} {a w : Int} (hw : wide w) (h0 : 0 ≤ a) (h1 : a + w ≤ s.size) : getS s a w = if (numAt s a.toNat w.toNat : Int) > 9223372036854775807 then (0, 0, 8) else ((numAt s a.toNat w.toNat : Int), a + w, 0) := by
  have hw' := wide_nat hw
  unfold getS
  rw [if_pos ⟨hw, h0, by omega⟩, if_neg (by omega)]
theorem octet_get_l0 {s : ByteArray} {a w : Int} (hs : s.size ≤ 9223372036854775807) (hw : wide w) (h0 : 0 ≤ a) (h1 : a + w ≤ s.size) (d : Nat) : ∀ i : Nat, w - i = d → Ev (fun k => octet_Get.l0 k s a w (numAt s a.toNat i : Int) w (i : Int)) (getS s a w) := by
  have hw' := wide_nat hw
  induction d with
  | zero =>
    intro i hi
    refine Ev.step (fun k => by simp only [octet_Get.l0]; rfl) ?_
    refine Ev.neg (by omega) ?_
    rw [getS_in hw h0 h1, show w.toNat = i by omega]
    refine Ev.ite (fun h => ?_) (fun h => ?_)
    · rw [if_pos h]; exact Ev.ok rfl
    · rw [if_neg h, wrap_eq (x := (numAt s a.toNat i : Int)) (by omega) (by omega), wrap_eq (by omega) (by omega)]
      exact Ev.ok rfl
  | succ d ih =>
    intro i hi
    have hlt := numAt_lt' (s := s) (a := a.toNat) (i := i) (by omega)
    have hp := pow_le8 (i := i) (by omega)
    refine Ev.step (fun k => by simp only [octet_Get.l0]; rfl) ?_
    rw [wrap_eq (x := a + (i : Int)) (by omega) (by omega), wrap_eq (x := (i : Int) + 1) (by omega) (by omega)]
    refine Ev.pos (by omega) (Ev.pos (by omega) (Ev.pos (by omega) ?_))
    have hb := bt_range s (a + i)
    rw [or_byte (by omega) (by omega) hb.1 hb.2]
    have e := numAt_succ (s := s) (a := a.toNat) (i := i) (by omega)
    rw [show ((a.toNat + i : Nat) : Int) = a + i by omega] at e
    rw [← e]
    exact ih (i + 1) (by omega)
theorem octet_get_f {s : ByteArray} (a w : Int) (hs : s.size ≤ 9223372036854775807) : Ev (fun k => octet_Get.f k s a w) (getS s a w) := by
  have bad : ¬ (wide w ∧ 0 ≤ a ∧ a ≤ s.size) → Ev (fun k => octet_Get.j0 k s a w true) (getS s a w) := by
    intro h
    refine Ev.step (fun k => by simp only [octet_Get.j0]; rfl) ?_
    refine Ev.pos trivial (Ev.ok ?_)
    unfold getS
    rw [if_neg h]
  unfold octet_Get.f
  refine Ev.bindc (octet_wide_f w) ?_
  by_cases hw : wide w
  · have hw' := wide_nat hw
    refine Ev.pos (decide_eq_true hw) (Ev.bindc (octet_inside_f s a) ?_)
    by_cases ha : 0 ≤ a ∧ a ≤ s.size
    · rw [decide_eq_true ha]
      refine Ev.step (fun k => by simp only [octet_Get.j0]; rfl) ?_
      refine Ev.neg (by decide) ?_
      rw [wrap_eq (by omega) (by omega)]
      refine Ev.ite (fun h => Ev.ok ?_) (fun h => ?_)
      · unfold getS
        rw [if_pos ⟨hw, ha⟩, if_pos h]
      · exact octet_get_l0 hs hw ha.1 (by omega) w.toNat 0 (by omega)
    · rw [decide_eq_false ha]
      exact bad (fun x => ha x.2)
  · exact Ev.neg (fun x => hw (of_decide_eq_true x)) (bad (fun x => hw x.1))
end Go.Proofs.Ytakkhomjpflkbaa.Q
set_option linter.unusedVariables false
namespace Go.Proofs.Ytakkhomjpflkbaa.Q
open Go.RowKit Go.Proofs.Ytakkhomjpflkbaa.F Go.Proofs.YtakkhomjpflkbaaW.PrintWords Go.Proofs.YtakkhomjpflkbaaW.PrintLast Go.Proofs.YtakkhomjpflkbaaW.PrintMore
theorem put_size {n w : Int} : (putS n w).1.size ≤ 8 := by
  unfold putS
  by_cases hw : wide w
  · rw [if_pos hw]
    split
    · have := wide_nat hw
      show (bytesB _).size ≤ 8
      rw [bytesB_size, beL_length]; omega
    · exact Nat.zero_le _
  · rw [if_neg hw]; exact Nat.zero_le _
def rowA (acc : ByteArray) (r : ByteArray × Int) : ByteArray × Int := if r.2 = 0 then (acc ++ r.1, 0) else (⟨#[]⟩, r.2)
theorem rowA_cons {w x : Int} {xs : List Int} {acc : ByteArray} (h : (putS x w).2 = 0) : rowA (acc ++ (putS x w).1) (rowL w xs) = rowA acc (rowL w (x :: xs)) := by
  unfold rowA
  simp only [rowL, if_pos h]
  by_cases h2 : (rowL w xs).2 = 0
  · rw [if_pos h2, if_pos h2, if_pos rfl, ByteArray.append_assoc]
  · rw [if_neg h2, if_neg h2, if_neg h2]
theorem rowA_bad {w x : Int} {xs : List Int} {acc : ByteArray} (h : (putS x w).2 ≠ 0) : ((⟨#[]⟩ : ByteArray), (putS x w).2) = rowA acc (rowL w (x :: xs)) := by
  unfold rowA
  simp only [rowL, if_neg h]
theorem octet_row_go {w : Int} : ∀ (l : List Int) (acc : ByteArray), (∀ x ∈ l, x ≤ 9223372036854775807) → acc.size + 8 * l.length < 140737488355328 → Ev (fun k => octet_Row.go k w l acc) (rowA acc (rowL w l))
  | [], acc, _, _ => by
    refine Ev.ok ?_
    unfold rowA
    simp only [rowL, if_true]
    congr 1
    apply ext_list
    rw [data_append]; simp
  | x :: xs, acc, hx, hs => by
    simp only [octet_Row.go]
    refine Ev.bind (octet_put_f w (hx x List.mem_cons_self)) ?_
    have hp := put_size (n := x) (w := w)
    rw [List.length_cons] at hs
    refine Ev.ite (fun h => ?_) (fun h => Ev.ok (rowA_bad h))
    refine Ev.pos (by omega) ?_
    rw [← rowA_cons h]
    exact octet_row_go xs _ (fun y hy => hx y (List.mem_cons_of_mem _ hy)) (by rw [ByteArray.size_append]; omega)
theorem octet_row_f {l : List Int} (w : Int) (hx : ∀ x ∈ l, x ≤ 9223372036854775807) : Ev (fun k => octet_Row.f k w l) (rowS w l) := by
  unfold octet_Row.f rowS
  refine Ev.bindc (octet_wide_f w) ?_
  by_cases hw : wide w
  · rw [if_pos hw]
    refine Ev.pos (decide_eq_true hw) (Ev.ite (fun h => ?_) (fun h => ?_))
    · rw [if_pos (by omega)]; exact Ev.ok rfl
    · rw [if_neg (by omega)]
      have hb := octet_put_f (n := (l.length : Int)) 2 (by omega)
      rw [put2 (by omega)] at hb
      refine Ev.bind hb (Ev.pos rfl (Ev.pos ?_ ?_))
      · simp only [bytesB_size, beL_length]; omega
      · exact octet_row_go l _ hx (by simp only [bytesB_size, beL_length]; omega)
  · rw [if_neg hw]
    exact Ev.neg (fun x => hw (of_decide_eq_true x)) (Ev.ok rfl)
def unrowA (acc : List Int) (r : List Int × Int × Int) : List Int × Int × Int := if r.2.2 = 0 then (acc ++ r.1, r.2.1, 0) else ([], 0, r.2.2)
theorem unrowA_cons {s : ByteArray} {w t : Int} {n : Nat} {acc : List Int} (h : (getS s t w).2.2 = 0) : unrowA (acc ++ [(getS s t w).1]) (unrowL s w n (getS s t w).2.1) = unrowA acc (unrowL s w (n + 1) t) := by
  unfold unrowA
  simp only [unrowL, if_pos h]
  by_cases h2 : (unrowL s w n (getS s t w).2.1).2.2 = 0
  · rw [if_pos h2, if_pos h2, if_pos h2]; simp
  · rw [if_neg h2, if_neg h2, if_neg h2]
theorem unrowA_bad {s : ByteArray} {w t : Int} {n : Nat} {acc : List Int} (h : (getS s t w).2.2 ≠ 0) : (([] : List Int), (0 : Int), (getS s t w).2.2) = unrowA acc (unrowL s w (n + 1) t) := by
  unfold unrowA
  simp only [unrowL, if_neg h]
theorem unrowA_nil {r : List Int × Int × Int} (h : r.2.2 ≠ 0 → r = ([], 0, r.2.2)) : unrowA [] r = r := by
  unfold unrowA
  by_cases h2 : r.2.2 = 0
  · rw [if_pos h2, List.nil_append, ← h2]
  · rw [if_neg h2]; exact (h h2).symm
theorem unrowL_bad {s : ByteArray} {w : Int} : ∀ (n : Nat) (t : Int), (unrowL s w n t).2.2 ≠ 0 → unrowL s w n t = ([], 0, (unrowL s w n t).2.2)
  | 0, t, h => absurd rfl h
  | n + 1, t, h => by
    simp only [unrowL] at h ⊢
    by_cases h1 : (getS s t w).2.2 = 0
    · rw [if_pos h1] at h ⊢
      by_cases h2 : (unrowL s w n (getS s t w).2.1).2.2 = 0
      · rw [if_pos h2] at h; exact absurd h2 h
      · rw [if_neg h2]
    · rw [if_neg h1]
theorem octet_unrow_l0 {s : ByteArray} {w : Int} {n : Nat} (hs : s.size ≤ 4611686018427387904) (hn : n ≤ 1000) (d : Nat) : ∀ (i : Nat) (acc : List Int) (t : Int), n - i = d → i ≤ n → acc.length ≤ i → Ev (fun k => octet_Unrow.l0 k s w acc t (n : Int) (i : Int)) (unrowA acc (unrowL s w d t)) := by
  induction d with
  | zero =>
    intro i acc t hd hi ha
    refine Ev.step (fun k => by simp only [octet_Unrow.l0]; rfl) ?_
    refine Ev.neg (by omega) (Ev.ok ?_)
    unfold unrowA
    simp [unrowL]
  | succ d ih =>
    intro i acc t hd hi ha
    refine Ev.step (fun k => by simp only [octet_Unrow.l0]; rfl) ?_
    rw [wrap_eq (x := (i : Int) + 1) (by omega) (by omega)]
    refine Ev.pos (by omega) (Ev.bind (octet_get_f t w (by omega)) ?_)
    refine Ev.ite (fun h1 => Ev.pos (by omega) ?_) (fun h1 => Ev.ok (unrowA_bad h1))
    rw [← unrowA_cons h1]
    exact ih (i + 1) _ _ (by omega) (by omega) (by simp only [List.length_append, List.length_cons, List.length_nil]; omega)
theorem octet_unrow_f {s : ByteArray} (a w m : Int) (hs : s.size ≤ 4611686018427387904) : Ev (fun k => octet_Unrow.f k s a w m) (unrowS s a w m) := by
  have bad : (¬ wide w ∨ a < 0 ∨ a > s.size ∨ m < 0) → Ev (fun k => octet_Unrow.j0 k s a w m true) (unrowS s a w m) := by
    intro h
    refine Ev.step (fun k => by simp only [octet_Unrow.j0]; rfl) ?_
    refine Ev.pos trivial (Ev.ok ?_)
    unfold unrowS
    rw [if_pos h]
  unfold octet_Unrow.f
  refine Ev.bindc (octet_wide_f w) ?_
  by_cases hw : wide w
  · refine Ev.pos (decide_eq_true hw) (Ev.bindc (octet_inside_f s a) ?_)
    by_cases ha : 0 ≤ a ∧ a ≤ s.size
    · refine Ev.pos (decide_eq_true ha) ?_
      by_cases hm : m < 0
      · rw [decide_eq_true hm]; exact bad (.inr (.inr (.inr hm)))
      · rw [decide_eq_false hm]
        have e : unrowS s a w m = if (getS s a 2).2.2 = 0 then (if (getS s a 2).1 > m ∨ (getS s a 2).1 > 1000 then ([], 0, 3) else unrowL s w (getS s a 2).1.toNat (getS s a 2).2.1) else ([], 0, (getS s a 2).2.2) := by
          unfold unrowS
          rw [if_neg (fun x => by rcases x with x | x | x | x; exact x hw; omega; omega; omega)]
        rw [e]
        refine Ev.step (fun k => by simp only [octet_Unrow.j0]; rfl) ?_
        refine Ev.neg (by decide) (Ev.bind (octet_get_f a 2 (by omega)) ?_)
        refine Ev.ite (fun h1 => ?_) (fun h1 => ?_)
        · rw [if_pos h1]
          have hg : getS s a 2 = ((getS s a 2).1, (getS s a 2).2.1, 0) := by rw [← h1]
          obtain ⟨_, h2, h3, h4, h5, h6, h7⟩ := getS_ok hg
          have hmn : mn m 1000 = if 1000 < m then 1000 else m := rfl
          refine Ev.ite (fun h8 => ?_) (fun h8 => ?_)
          · rw [if_pos (by rw [hmn] at h8; split at h8 <;> omega)]; exact Ev.ok rfl
          · have h9 : ¬ ((getS s a 2).1 > m ∨ (getS s a 2).1 > 1000) := by rw [hmn] at h8; split at h8 <;> omega
            rw [if_neg h9]
            have := octet_unrow_l0 (w := w) (n := (getS s a 2).1.toNat) hs (by omega) (getS s a 2).1.toNat 0 [] (getS s a 2).2.1 (by omega) (by omega) (by simp)
            rw [Int.toNat_of_nonneg h7, unrowA_nil (unrowL_bad _ _)] at this
            exact this
        · rw [if_neg h1]; exact Ev.ok rfl
    · refine Ev.neg (fun x => ha (of_decide_eq_true x)) (bad (by omega))
  · exact Ev.neg (fun x => hw (of_decide_eq_true x)) (bad (.inl hw))
end Go.Proofs.Ytakkhomjpflkbaa.Q
set_option linter.unusedVariables false
namespace Go.Proofs.Ytakkhomjpflkbaa.Q
open Go.RowKit Go.Proofs.Ytakkhomjpflkbaa.F Go.Proofs.YtakkhomjpflkbaaW.PrintWords Go.Proofs.YtakkhomjpflkbaaW.PrintLast Go.Proofs.YtakkhomjpflkbaaW.PrintMore
def flt (a e : Int) : Option (Int × Int) := if e = 0 then none else some (e, a)
theorem flt0 (a : Int) : flt a 0 = none := rfl
theorem flt1 {a e : Int} (h : e ≠ 0) : flt a e = some (e, a) := if_neg h
def pc {α : Type} (z : α) (a e0 : Int) (r : α × Int × Int) : α × Int × Int := if e0 = 0 then (if r.2.2 = 0 then r else (z, a, r.2.2)) else (z, a, e0)
theorem pc_bad {α : Type} {z : α} {a e0 : Int} {r : α × Int × Int} (h : e0 ≠ 0) : pc z a e0 r = (z, a, e0) := if_neg h
theorem pc_ok {α : Type} {z : α} {a : Int} {r : α × Int × Int} (h : r.2.2 = 0) : pc z a 0 r = r := by unfold pc; rw [if_pos rfl, if_pos h]
theorem pc_err {α : Type} {z : α} {a : Int} {r : α × Int × Int} (h : r.2.2 ≠ 0) : pc z a 0 r = (z, a, r.2.2) := by unfold pc; rw [if_pos rfl, if_neg h]
def bigR (r : Int × Int × Int) (m : Int) : Int × Int × Int := if r.2.2 = 0 ∧ r.1 > m then (0, 0, 3) else r
def numR (s : ByteArray) (a e0 w m : Int) : Int × Int × Int := pc 0 a e0 (bigR (getS s a w) m)
def rowR (s : ByteArray) (a e0 w m : Int) : List Int × Int × Int := pc [] a e0 (unrowS s a w m)
def endR (s : ByteArray) (a e0 : Int) : Int := if e0 = 0 ∧ a < s.size then 6 else e0
theorem goes0 (s : ByteArray) (a : Int) : strict_Reader_goes.f s a none true = some (true, s, a, none, true) := rfl
theorem goes1 (s : ByteArray) (a : Int) (q : Int × Int) : strict_Reader_goes.f s a (some q) true = some (false, s, a, some q, true) := rfl
theorem done0 (s : ByteArray) (a to_ : Int) : strict_Reader_done.f s a none true to_ 0 = some (true, s, to_, none, true) := rfl
theorem done1 (s : ByteArray) (a to_ : Int) {e : Int} (h : e ≠ 0) : strict_Reader_done.f s a none true to_ e = some (false, s, a, some (e, a), true) := by
  unfold strict_Reader_done.f; rw [if_neg h]
theorem num_f {s : ByteArray} (a e0 w m : Int) (hs : s.size ≤ 4611686018427387904) : Ev (fun k => strict_Reader_Num.f k s a (flt a e0) true w m) ((numR s a e0 w m).1, s, (numR s a e0 w m).2.1, flt (numR s a e0 w m).2.1 (numR s a e0 w m).2.2, true) := by
  unfold strict_Reader_Num.f numR
  by_cases h0 : e0 = 0
  · subst h0
    rw [flt0]
    refine Ev.bindc (goes0 s a) (Ev.pos rfl (Ev.bind (octet_get_f (s := s) a w (by omega)) ?_))
    by_cases h1 : (getS s a w).2.2 = 0
    · refine Ev.pos h1 (Ev.step (fun k => by simp only [strict_Reader_Num.j0]; rfl) ?_)
      by_cases h2 : (getS s a w).1 > m
      · have e : bigR (getS s a w) m = (0, 0, 3) := if_pos ⟨h1, h2⟩
        rw [e, pc_err (by decide)]
        refine Ev.pos (decide_eq_true h2) (Ev.bindc (done1 s a _ (by decide)) ?_)
        exact Ev.neg Bool.false_ne_true (Ev.ok rfl)
      · have e : bigR (getS s a w) m = getS s a w := if_neg (fun x => h2 x.2)
        rw [e, pc_ok h1, h1]
        refine Ev.neg (fun x => h2 (of_decide_eq_true x)) (Ev.bindc (done0 s a _) ?_)
        exact Ev.pos rfl (Ev.ok rfl)
    · refine Ev.neg h1 (Ev.step (fun k => by simp only [strict_Reader_Num.j0]; rfl) ?_)
      have e : bigR (getS s a w) m = getS s a w := if_neg (fun x => h1 x.1)
      rw [e, pc_err h1]
      refine Ev.neg (by decide) (Ev.bindc (done1 s a _ h1) ?_)
      refine Ev.neg Bool.false_ne_true (Ev.ok ?_)
      rw [flt1 h1]
  · rw [flt1 h0, pc_bad h0]
    refine Ev.bindc (goes1 s a _) (Ev.neg Bool.false_ne_true (Ev.ok ?_))
    rw [flt1 h0]
theorem row_f {s : ByteArray} (a e0 w m : Int) (hs : s.size ≤ 4611686018427387904) : Ev (fun k => strict_Reader_Row.f k s a (flt a e0) true w m) ((rowR s a e0 w m).1, s, (rowR s a e0 w m).2.1, flt (rowR s a e0 w m).2.1 (rowR s a e0 w m).2.2, true) := by
  unfold strict_Reader_Row.f rowR
  by_cases h0 : e0 = 0
  · subst h0
    rw [flt0]
    refine Ev.bindc (goes0 s a) (Ev.pos rfl (Ev.bind (octet_unrow_f a w m hs) ?_))
    by_cases h1 : (unrowS s a w m).2.2 = 0
    · rw [pc_ok h1, h1]
      exact Ev.bindc (done0 s a _) (Ev.pos rfl (Ev.ok rfl))
    · rw [pc_err h1]
      refine Ev.bindc (done1 s a _ h1) (Ev.neg Bool.false_ne_true (Ev.ok ?_))
      rw [flt1 h1]
  · rw [flt1 h0, pc_bad h0]
    refine Ev.bindc (goes1 s a _) (Ev.neg Bool.false_ne_true (Ev.ok ?_))
    rw [flt1 h0]
theorem end_f (s : ByteArray) (a e0 : Int) : strict_Reader_End.f s a (flt a e0) true = some (s, a, flt a (endR s a e0), true) := by
  unfold strict_Reader_End.f endR
  by_cases h0 : e0 = 0
  · subst h0
    rw [flt0, goes0, Option.bind_some, if_pos rfl]
    by_cases h1 : a < s.size
    · rw [if_pos h1, if_pos ⟨rfl, h1⟩, done1 s a _ (by decide)]; rfl
    · rw [if_neg h1, if_neg (fun x => h1 x.2)]; rfl
  · rw [flt1 h0, goes1, Option.bind_some, if_neg Bool.false_ne_true, if_neg (fun x => h0 x.1), flt1 h0]
theorem why_f (a e : Int) : strict_Why.f (flt a e) = some (e, if e = 0 then 0 else a) := by
  unfold strict_Why.f
  by_cases h : e = 0
  · subst h; rfl
  · rw [flt1 h, if_neg h]; rfl
theorem err_f (s : ByteArray) (a : Int) (f : Option (Int × Int)) : strict_Reader_Err.f s a f true = some (f, s, a, f, true) := rfl
end Go.Proofs.Ytakkhomjpflkbaa.Q
set_option linter.unusedVariables false
namespace Go.Proofs.Ytakkhomjpflkbaa.Q
open Go.RowKit Go.Proofs.Ytakkhomjpflkbaa.F Go.Proofs.YtakkhomjpflkbaaW.PrintWords Go.Proofs.YtakkhomjpflkbaaW.PrintLast Go.Proofs.YtakkhomjpflkbaaW.PrintMore
def badR (c : Int) (l : List Int) : Prop := c < 0 ∨ c > 255 ∨ l.length > 200 ∨ (l.any fun x => decide (x < 0)) = true ∨ (c ≠ 0 ∧ l.length > 0)
instance (c : Int) (l : List Int) : Decidable (badR c l) := by unfold badR; infer_instance
def chkR (c : Int) (l : List Int) : Int := if badR c l then 2 else 0
theorem idx_l0 {l : List Int} (hl : l.length < 1000000) (d : Nat) : ∀ i : Nat, l.length - i = d → i ≤ l.length → ∃ r, Ev (fun k => slices_IndexFunc_int_int_123.l0 k l (l.length : Int) (i : Int)) r ∧ decide (r ≥ 0) = ((l.drop i).any fun x => decide (x < 0)) := by
  induction d with
  | zero =>
    intro i hd hi
    refine ⟨-1, Ev.step (fun k => by simp only [slices_IndexFunc_int_int_123.l0]; rfl) (Ev.neg (by omega) (Ev.ok rfl)), ?_⟩
    rw [List.drop_eq_nil_of_le (by omega)]; rfl
  | succ d ih =>
    intro i hd hi
    have h : i < l.length := by omega
    rw [drop_cons h, List.any_cons]
    by_cases hn : l[i] < 0
    · refine ⟨(i : Int), Ev.step (fun k => by simp only [slices_IndexFunc_int_int_123.l0]; rfl) ?_, ?_⟩
      · refine Ev.pos (by omega) (Ev.pos (by omega) (Ev.pos (by omega) ?_))
        rw [rd_nat h]
        exact Ev.bindc (show reply_Check_1.f l[i] = some true by unfold reply_Check_1.f; rw [decide_eq_true hn]) (Ev.pos rfl (Ev.ok rfl))
      · rw [decide_eq_true hn, Bool.true_or]; exact decide_eq_true (by omega)
    · obtain ⟨r, hr, he⟩ := ih (i + 1) (by omega) (by omega)
      refine ⟨r, Ev.step (fun k => by simp only [slices_IndexFunc_int_int_123.l0]; rfl) ?_, ?_⟩
      · refine Ev.pos (by omega) (Ev.pos (by omega) (Ev.pos (by omega) ?_))
        rw [rd_nat h, wrap_eq (by omega) (by omega)]
        exact Ev.bindc (show reply_Check_1.f l[i] = some false by unfold reply_Check_1.f; rw [decide_eq_false hn]) (Ev.neg Bool.false_ne_true hr)
      · rw [decide_eq_false hn, Bool.false_or]; exact he
theorem contains_f {l : List Int} (hl : l.length < 1000000) : Ev (fun k => slices_ContainsFunc_int_int_123.f k l) (l.any fun x => decide (x < 0)) := by
  obtain ⟨r, hr, he⟩ := idx_l0 hl l.length 0 (by omega) (by omega)
  unfold slices_ContainsFunc_int_int_123.f slices_IndexFunc_int_int_123.f
  refine Ev.bind hr (Ev.ok ?_)
  rw [he, List.drop_zero]
theorem chk2 {c : Int} {l : List Int} (h : badR c l) : chkR c l = 2 := if_pos h
theorem chk0 {c : Int} {l : List Int} (h : ¬ badR c l) : chkR c l = 0 := if_neg h
theorem check_j1 {b : Bool} {c : Int} {l : List Int} (hc : 0 ≤ c ∧ c ≤ 255) (hb : b = true ↔ l.length > 200 ∨ (l.any fun x => decide (x < 0)) = true) : Ev (fun k => reply_Check.j1 k b c l) (chkR c l) := by
  refine Ev.step (fun k => by simp only [reply_Check.j1]; rfl) ?_
  by_cases h : b = true
  · have hb' : badR c l := by
      rcases hb.1 h with h1 | h1
      · exact .inr (.inr (.inl h1))
      · exact .inr (.inr (.inr (.inl h1)))
    rw [chk2 hb']
    exact Ev.pos h (Ev.ok rfl)
  · refine Ev.neg h ?_
    have h1 : ¬ l.length > 200 := fun x => h (hb.2 (.inl x))
    have h2 : ¬ (l.any fun x => decide (x < 0)) = true := fun x => h (hb.2 (.inr x))
    by_cases h3 : c = 0
    · have hb' : ¬ badR c l := by
        rintro (x | x | x | x | x)
        · omega
        · omega
        · omega
        · exact h2 x
        · exact x.1 h3
      rw [chk0 hb']
      exact Ev.pos h3 (Ev.ok rfl)
    · refine Ev.neg h3 ?_
      by_cases h4 : l.length > 0
      · rw [chk2 (.inr (.inr (.inr (.inr ⟨h3, h4⟩))))]
        exact Ev.pos (by omega) (Ev.ok rfl)
      · have hb' : ¬ badR c l := by
          rintro (x | x | x | x | x)
          · omega
          · omega
          · omega
          · exact h2 x
          · exact h4 x.2
        rw [chk0 hb']
        exact Ev.neg (by omega) (Ev.ok rfl)
theorem reply_check_f {c : Int} {l : List Int} (hl : l.length < 1000000) : Ev (fun k => reply_Check.f k c l) (chkR c l) := by
  unfold reply_Check.f
  have bad : (c < 0 ∨ c > 255) → Ev (fun k => reply_Check.j0 k true c l) (chkR c l) := fun h => by
    refine Ev.step (fun k => by simp only [reply_Check.j0]; rfl) (Ev.pos trivial ?_)
    refine Ev.step (fun k => by simp only [reply_Check.j1]; rfl) (Ev.pos trivial ?_)
    have hb' : badR c l := by
      rcases h with h | h
      · exact .inl h
      · exact .inr (.inl h)
    rw [chk2 hb']
    exact Ev.ok rfl
  refine Ev.ite (fun h => bad (.inl h)) (fun h => ?_)
  by_cases h1 : c > 255
  · rw [decide_eq_true h1]; exact bad (.inr h1)
  · rw [decide_eq_false h1]
    refine Ev.step (fun k => by simp only [reply_Check.j0]; rfl) ?_
    refine Ev.neg Bool.false_ne_true (Ev.ite (fun h2 => ?_) (fun h2 => ?_))
    · exact check_j1 (by omega) ⟨fun x => .inl (by have := of_decide_eq_true x; omega), fun _ => decide_eq_true h2⟩
    · refine Ev.bind (contains_f hl) (check_j1 (by omega) ⟨fun x => .inr x, fun x => ?_⟩)
      rcases x with x | x
      · omega
      · exact x
theorem chk_ok {c : Int} {l : List Int} (h : chkR c l = 0) : 0 ≤ c ∧ c ≤ 255 ∧ l.length ≤ 200 ∧ (∀ x ∈ l, 0 ≤ x) ∧ (c ≠ 0 → l = []) := by
  unfold chkR at h
  by_cases hb : badR c l
  · rw [if_pos hb] at h; exact absurd h (by decide)
  · refine ⟨?_, ?_, ?_, fun x hx => ?_, fun hc => ?_⟩
    · exact Int.not_lt.1 (fun x => hb (.inl x))
    · exact Int.not_lt.1 (fun x => hb (.inr (.inl x)))
    · exact Nat.not_lt.1 (fun x => hb (.inr (.inr (.inl x))))
    · refine Int.not_lt.1 (fun y => hb (.inr (.inr (.inr (.inl ?_)))))
      exact List.any_eq_true.2 ⟨x, hx, decide_eq_true y⟩
    · cases l with
      | nil => rfl
      | cons a l => exact absurd (.inr (.inr (.inr (.inr ⟨hc, by simp⟩)))) hb
theorem chk_of {c : Int} {l : List Int} (h0 : 0 ≤ c) (h1 : c ≤ 255) (h2 : l.length ≤ 200) (h3 : ∀ x ∈ l, 0 ≤ x) (h4 : c ≠ 0 → l = []) : chkR c l = 0 := by
  unfold chkR
  rw [if_neg]
  rintro (x | x | x | x | x)
  · omega
  · omega
  · omega
  · obtain ⟨y, hy, hn⟩ := List.any_eq_true.1 x
    have := h3 y hy
    have := of_decide_eq_true hn
    omega
  · have := h4 x.1
    subst this
    exact absurd x.2 (by simp)
theorem chk_two {c : Int} {l : List Int} (h : chkR c l ≠ 0) : chkR c l = 2 := by
  unfold chkR at h ⊢
  split
  · rfl
  · rename_i x; rw [if_neg x] at h; exact absurd rfl h
theorem put8 {x : Int} (h0 : 0 ≤ x) (h1 : x ≤ 9223372036854775807) : (putS x 8).2 = 0 := by
  unfold putS
  rw [if_pos (.inr (.inr (.inr rfl))), if_pos]
  refine ⟨h0, ?_⟩
  have : (256 : Int) ^ (8 : Int).toNat = 18446744073709551616 := by decide
  omega
theorem rowL_good : ∀ l : List Int, (∀ x ∈ l, 0 ≤ x ∧ x ≤ 9223372036854775807) → (rowL 8 l).2 = 0
  | [], _ => rfl
  | x :: xs, h => by
    have h1 := rowL_good xs (fun y hy => h y (List.mem_cons_of_mem _ hy))
    have h2 := put8 (h x List.mem_cons_self).1 (h x List.mem_cons_self).2
    simp only [rowL]
    rw [if_pos h2, if_pos h1]
theorem rowS_good {l : List Int} (hl : l.length ≤ 1000) (h : ∀ x ∈ l, 0 ≤ x ∧ x ≤ 9223372036854775807) : rowS 8 l = ((rowS 8 l).1, 0) := by
  unfold rowS
  rw [if_pos (.inr (.inr (.inr rfl))), if_neg (by omega), if_pos (rowL_good l h)]
theorem putS_one {c : Int} (h0 : 0 ≤ c) (h1 : c ≤ 255) : putS c 1 = (bytesB (beL 1 c.toNat), 0) := by
  unfold putS
  rw [if_pos (.inl rfl), if_pos]
  · rfl
  · refine ⟨h0, ?_⟩
    have : (256 : Int) ^ (1 : Int).toNat = 256 := by decide
    omega
def putR (c : Int) (l : List Int) : ByteArray × Int := if chkR c l = 0 then (bytesB (beL 1 c.toNat) ++ (rowS 8 l).1, 0) else (⟨#[]⟩, 2)
theorem rowS_small {l : List Int} (hl : l.length ≤ 1000) : (rowS 8 l).1.size ≤ 8002 := by
  have h : ∀ l : List Int, (rowL 8 l).1.size ≤ 8 * l.length := by
    intro l
    induction l with
    | nil => exact Nat.zero_le _
    | cons x xs ih =>
      have h2 := put_size (n := x) (w := 8)
      simp only [rowL, List.length_cons]
      split
      · split
        · simp only [ByteArray.size_append]; omega
        · exact Nat.zero_le _
      · exact Nat.zero_le _
  have := h l
  unfold rowS
  split
  · split
    · exact Nat.zero_le _
    · split
      · simp only [ByteArray.size_append, bytesB_size, beL_length]; omega
      · exact Nat.zero_le _
  · exact Nat.zero_le _
theorem reply_put_f {c : Int} {l : List Int} (hl : l.length < 1000000) (hx : ∀ x ∈ l, x ≤ 9223372036854775807) : Ev (fun k => reply_Put.f k c l) (putR c l) := by
  unfold reply_Put.f putR
  refine Ev.bind (reply_check_f hl) ?_
  by_cases h : chkR c l = 0
  · obtain ⟨h0, h1, h2, h3, h4⟩ := chk_ok h
    rw [if_pos h]
    have hp := octet_put_f (n := c) 1 (by omega)
    rw [putS_one h0 h1] at hp
    refine Ev.pos h (Ev.bind hp (Ev.pos rfl (Ev.bind (octet_row_f 8 hx) (Ev.pos ?_ (Ev.ok ?_)))))
    · have := rowS_small (l := l) (by omega)
      simp only [bytesB_size, beL_length]; omega
    · rw [rowS_good (by omega) (fun x hx' => ⟨h3 x hx', hx x hx'⟩)]
  · rw [if_neg h, chk_two h]
    exact Ev.neg (by decide) (Ev.ok rfl)
def takeG (t : ByteArray) (n : Int × Int × Int) (r : List Int × Int × Int) : Int × List Int × Int := if endR t r.2.1 r.2.2 = 0 then (if n.1 = 0 then (n.1, r.1, 0) else if (r.1.length : Int) > 0 then (0, [], 5) else (n.1, r.1, 0)) else (0, [], endR t r.2.1 r.2.2)
def takeR (t : ByteArray) : Int × List Int × Int := takeG t (numR t 0 0 1 255) (rowR t (numR t 0 0 1 255).2.1 (numR t 0 0 1 255).2.2 8 200)
theorem takeG_1 {t : ByteArray} {n : Int × Int × Int} {r : List Int × Int × Int} (h : endR t r.2.1 r.2.2 = 0) (h1 : n.1 = 0) : (n.1, r.1, 0) = takeG t n r := by unfold takeG; rw [if_pos h, if_pos h1]
theorem takeG_2 {t : ByteArray} {n : Int × Int × Int} {r : List Int × Int × Int} (h : endR t r.2.1 r.2.2 = 0) (h1 : n.1 ≠ 0) (h2 : (r.1.length : Int) > 0) : (0, [], 5) = takeG t n r := by unfold takeG; rw [if_pos h, if_neg h1, if_pos h2]
theorem takeG_3 {t : ByteArray} {n : Int × Int × Int} {r : List Int × Int × Int} (h : endR t r.2.1 r.2.2 = 0) (h1 : n.1 ≠ 0) (h2 : ¬ (r.1.length : Int) > 0) : (n.1, r.1, 0) = takeG t n r := by unfold takeG; rw [if_pos h, if_neg h1, if_neg h2]
theorem takeG_4 {t : ByteArray} {n : Int × Int × Int} {r : List Int × Int × Int} (h : endR t r.2.1 r.2.2 ≠ 0) : (0, [], endR t r.2.1 r.2.2) = takeG t n r := by unfold takeG; rw [if_neg h]
theorem reply_take_f {t : ByteArray} (ht : t.size ≤ 4611686018427387904) : Ev (fun k => reply_Take.f k t) (takeR t) := by
  unfold reply_Take.f takeR
  refine Ev.bindc rfl (Ev.bind (num_f (s := t) 0 0 1 255 ht) (Ev.bind (row_f (s := t) _ _ 8 200 ht) (Ev.bindc (end_f t _ _) (Ev.bindc (err_f t _ _) (Ev.bindc (why_f _ _) ?_)))))
  exact Ev.ite (fun h => Ev.ite (fun h1 => Ev.ok (takeG_1 h h1)) (fun h1 => Ev.ite (fun h2 => Ev.ok (takeG_2 h h1 h2)) (fun h2 => Ev.ok (takeG_3 h h1 h2)))) (fun h => Ev.ok (takeG_4 h))
theorem unrowL_nonneg {s : ByteArray} {w : Int} : ∀ (n : Nat) (t : Int), ∀ x ∈ (unrowL s w n t).1, 0 ≤ x ∧ x ≤ 9223372036854775807
  | 0, t => by simp [unrowL]
  | n + 1, t => by
    have ih := unrowL_nonneg (s := s) (w := w) n (getS s t w).2.1
    simp only [unrowL]
    split
    · rename_i h
      split
      · intro x hx
        rcases List.mem_cons.1 hx with rfl | hx
        · have hg : getS s t w = ((getS s t w).1, (getS s t w).2.1, 0) := by rw [← h]
          exact ⟨(getS_ok hg).2.2.2.2.2.2, (getS_ok hg).2.2.2.2.2.1⟩
        · exact ih x hx
      · simp
    · simp
theorem eta3 {α β : Type} {r : α × β × Int} (h : r.2.2 = 0) : r = (r.1, r.2.1, 0) := by
  rcases r with ⟨a, b, c⟩
  simp only at h
  subst h; rfl
theorem take_ok {t : ByteArray} {c : Int} {l : List Int} (h : takeR t = (c, l, 0)) : chkR c l = 0 ∧ (putR c l).1 = t ∧ ∀ x ∈ l, x ≤ 9223372036854775807 := by
  unfold takeR takeG at h
  by_cases he : endR t (rowR t (numR t 0 0 1 255).2.1 (numR t 0 0 1 255).2.2 8 200).2.1 (rowR t (numR t 0 0 1 255).2.1 (numR t 0 0 1 255).2.2 8 200).2.2 = 0
  · rw [if_pos he] at h
    have hr0 : (rowR t (numR t 0 0 1 255).2.1 (numR t 0 0 1 255).2.2 8 200).2.2 = 0 := by
      unfold endR at he
      split at he
      · exact absurd he (by decide)
      · exact he
    have hn0 : (numR t 0 0 1 255).2.2 = 0 := by
      apply Classical.byContradiction
      intro hne
      unfold rowR at hr0
      rw [pc_bad hne] at hr0
      exact hne hr0
    rw [hn0] at h hr0 he
    have hg : (bigR (getS t 0 1) 255).2.2 = 0 := by
      apply Classical.byContradiction
      intro hne
      unfold numR at hn0
      rw [pc_err hne] at hn0
      exact hne hn0
    have en : numR t 0 0 1 255 = bigR (getS t 0 1) 255 := by unfold numR; rw [pc_ok hg]
    have hb : ¬ ((getS t 0 1).2.2 = 0 ∧ (getS t 0 1).1 > 255) := by
      intro x
      unfold bigR at hg
      rw [if_pos x] at hg
      exact absurd hg (by decide)
    have eb : bigR (getS t 0 1) 255 = getS t 0 1 := if_neg hb
    rw [eb] at hg en
    rw [en] at h hr0 he
    have e1 : getS t 0 1 = ((getS t 0 1).1, (getS t 0 1).2.1, 0) := eta3 hg
    have hu : (unrowS t (getS t 0 1).2.1 8 200).2.2 = 0 := by
      apply Classical.byContradiction
      intro hne
      unfold rowR at hr0
      rw [pc_err hne] at hr0
      exact hne hr0
    have er : rowR t (getS t 0 1).2.1 0 8 200 = unrowS t (getS t 0 1).2.1 8 200 := by unfold rowR; rw [pc_ok hu]
    rw [er] at h he
    obtain ⟨w1, w2, w3, w4, w5, w6, w7⟩ := getS_ok e1
    rw [w4] at h he hu
    have e2 : unrowS t (0 + 1) 8 200 = ((unrowS t (0 + 1) 8 200).1, (unrowS t (0 + 1) 8 200).2.1, 0) := eta3 hu
    obtain ⟨p1, p2, p3, p4⟩ := row_of_unrow e2
    obtain ⟨_, _, n, q1, q2, q3, q4⟩ := unrowS_ok e2
    have hlen := (rowL_of_unrowL _ _ _ _ q4 (by omega) (by obtain ⟨_, _, z, _⟩ := getS_ok q1; omega)).2.2.2
    have hq0 := (getS_ok q1).2.2.2.2.2.2
    have hnn := unrowL_nonneg (s := t) (w := 8) n.toNat (0 + 1 + 2)
    rw [q4] at hnn
    have hto : (unrowS t (0 + 1) 8 200).2.1 = t.size := by
      unfold endR at he
      rw [hu] at he
      split at he
      · exact absurd he (by decide)
      · rename_i x
        have : ¬ (unrowS t (0 + 1) 8 200).2.1 < t.size := fun y => x ⟨rfl, y⟩
        omega
    have hcl : (getS t 0 1).1 = c ∧ (unrowS t (0 + 1) 8 200).1 = l ∧ (c ≠ 0 → l = []) := by
      by_cases h1 : (getS t 0 1).1 = 0
      · rw [if_pos h1] at h
        injection h with h2 h3
        injection h3 with h4 h5
        exact ⟨h2, h4, fun x => absurd (h2.symm.trans h1) x⟩
      · rw [if_neg h1] at h
        by_cases h2 : ((unrowS t (0 + 1) 8 200).1.length : Int) > 0
        · rw [if_pos h2] at h
          injection h with h3 h4
          injection h4 with h5 h6
          exact absurd h6 (by decide)
        · rw [if_neg h2] at h
          injection h with h3 h4
          injection h4 with h5 h6
          refine ⟨h3, h5, fun _ => ?_⟩
          rw [← h5]
          exact List.length_eq_zero_iff.1 (by omega)
    obtain ⟨hc, hl, hz⟩ := hcl
    rw [hc] at w6 w7 w5
    rw [hl] at p1 hnn hlen
    have hc255 : c ≤ 255 := by
      apply Int.not_lt.1
      intro x
      exact hb ⟨hg, by rw [hc]; exact x⟩
    have hchk : chkR c l = 0 := chk_of w7 hc255 (by omega) (fun x hx => (hnn x hx).1) hz
    refine ⟨hchk, ?_, fun x hx => (hnn x hx).2⟩
    unfold putR
    rw [if_pos hchk]
    have hp := put_of_get e1
    rw [hc, w4, putS_one w7 hc255] at hp
    injection hp with hp _
    show bytesB (beL 1 c.toNat) ++ (rowS 8 l).1 = t
    rw [p1, hp, hto]
    show t.extract 0 1 ++ t.extract 1 t.size = t
    rw [extract_append (by omega) (by omega)]
    apply ext_list
    rw [data_extract, ← size_data t, List.take_length, List.drop_zero]
  · rw [if_neg he] at h
    injection h with h1 h2
    injection h2 with h3 h4
    exact absurd h4 he
theorem take_none {t : ByteArray} (h : (takeR t).2.2 ≠ 0) : (takeR t).1 = 0 ∧ (takeR t).2.1 = [] := by
  unfold takeR takeG at h ⊢
  split
  · rename_i h1
    rw [if_pos h1] at h
    split
    · rename_i h2
      rw [if_pos h2] at h; exact absurd rfl h
    · rename_i h2
      rw [if_neg h2] at h
      split
      · exact ⟨rfl, rfl⟩
      · rename_i h3
        rw [if_neg h3] at h; exact absurd rfl h
  · exact ⟨rfl, rfl⟩
end Go.Proofs.Ytakkhomjpflkbaa.Q
namespace Go.Proofs.Ytakkhomjpflkbaa.Pure
open Go.RowKit Go.Proofs.Ytakkhomjpflkbaa.F Go.Proofs.Ytakkhomjpflkbaa.Q Go.Proofs.YtakkhomjpflkbaaW.PrintWords Go.Proofs.YtakkhomjpflkbaaW.PrintLast Go.Proofs.YtakkhomjpflkbaaW.PrintMore
theorem ReplyOnly : backhaullaw31_ReplyOnly.Pure := by
  intro t ht
  refine Ev.rounds (r := true) ?_
  unfold backhaullaw31_ReplyOnly.f
  refine Q.Ev.ite (fun _ => Q.Ev.const rfl) (fun h1 => ?_)
  refine Ev.bind (reply_take_f (t := t) (by omega)) (Q.Ev.ite (fun h => ?_) (fun h => ?_))
  · obtain ⟨hk, hp, hx⟩ := take_ok (t := t) (eta3 (r := takeR t) h)
    have hl := (chk_ok hk).2.2.1
    refine Ev.bind (reply_put_f (by omega) hx) (Q.Ev.pos (by rw [hp]) (Q.Ev.pos ?_ (Ev.bind (reply_check_f (by omega)) (Q.Ev.pos hk (Q.Ev.const rfl)))))
    unfold putR; rw [if_pos hk]
  · obtain ⟨e1, e2⟩ := take_none h
    exact Q.Ev.pos (by rw [e2]; rfl) (Q.Ev.pos e1 (Q.Ev.const rfl))
end Go.Proofs.Ytakkhomjpflkbaa.Pure
set_option linter.unusedVariables false
set_option linter.unusedSimpArgs false
namespace Go.Proofs.YtakkhomjpflkbaaX
open Go.RowKit Go.Proofs.YtakkhomjpflkbaaW.PrintWords Go.Proofs.YtakkhomjpflkbaaW.PrintLast Go.Proofs.YtakkhomjpflkbaaW.PrintMore
def Opens {α : Type} (P : Program) (t : TypeId) (k : Kd α) (Ok : α → Prop) : Prop :=
  ∀ {H : Type} {enc : TypeId × Value → H} {w : World} {base : Nat} {spare : Nat → Bool} {held : Bool} {fuel : Nat} {cs : List Value} {x : DataW H × List MemPlace},
    DataW.trod enc P w base spare held fuel t cs = some x → ∃ a : α, k.K w a cs ∧ Ok a
theorem Opens.int {P : Program} {t : TypeId} {k : IntKind} (ht : P.underlying t = some (.int k)) : Opens P t (Kd.int k) (fun a => (Lit.int k a).wf = true) := by
  intro H enc w base spare held fuel cs x h
  obtain ⟨n, rfl, _, hw⟩ := DataW.trod_int ht h
  exact ⟨n, rfl, hw⟩
theorem Opens.bool {P : Program} {t : TypeId} (ht : P.underlying t = some .bool) : Opens P t Kd.bool (fun _ => True) := by
  intro H enc w base spare held fuel cs x h
  obtain ⟨n, rfl, _⟩ := DataW.trod_bool ht h
  exact ⟨n, rfl, trivial⟩
theorem Opens.string {P : Program} {t : TypeId} (ht : P.underlying t = some .string) : Opens P t Kd.string (fun a => a.size ≤ maxLen) := by
  intro H enc w base spare held fuel cs x h
  obtain ⟨s, rfl, _, hw⟩ := DataW.trod_string ht h
  exact ⟨s, rfl, hw⟩
theorem list_of {α : Type} {p : Nat → α → Prop} : ∀ n, (∀ i, i < n → ∃ a, p i a) → ∃ xs : List α, xs.length = n ∧ ∀ i a, xs[i]? = some a → p i a
  | 0, _ => ⟨[], rfl, fun i a h => by simp at h⟩
  | n + 1, h => by
    obtain ⟨xs, hl, hx⟩ := list_of n (fun i hi => h i (by omega))
    obtain ⟨a, ha⟩ := h n (by omega)
    refine ⟨xs ++ [a], by simp [hl], fun i b hb => ?_⟩
    rcases Nat.lt_or_ge i xs.length with h1 | h1
    · rw [List.getElem?_append_left h1] at hb
      exact hx i b hb
    · rw [List.getElem?_append_right h1] at hb
      have h2 : i - xs.length = 0 := by
        have := (List.getElem?_eq_some_iff.1 hb).1
        simp at this; omega
      rw [h2] at hb
      have : a = b := by simpa using hb
      subst this
      have : i = n := by omega
      rw [this]; exact ha
theorem Opens.slice {α : Type} {P : Program} {t e : TypeId} {k : Kd α} {Ok : α → Prop} (ht : P.underlying t = some (.slice e)) (hc : P.cellsOf e = k.sz) (h : Opens P e k Ok) :
    Opens P t (Kd.slice e k) (fun xs => xs.length ≤ maxLen ∧ ∀ x ∈ xs, Ok x) := by
  intro H enc w base spare held fuel cs x hx
  rcases Go.Deep.open_slice ht hx with ⟨rfl, rfl⟩ | ⟨a, len, cap, m, n, D, Pl, rfl, hb, hl, hm, hmm, rfl, hel⟩
  · exact ⟨[], ⟨none, 0, rfl, by simp, rfl, by simp, fun h => absurd h (by simp)⟩, by simp [maxLen], by simp⟩
  · have hlm : len ≤ m := by rw [hmm]; split <;> omega
    obtain ⟨xs, hlen, hxs⟩ := list_of (p := fun i (a' : α) => ∃ cs', w.cells? base (a.add (i * P.cellsOf e)) (P.cellsOf e) = some cs' ∧ k.K w a' cs' ∧ Ok a') len (fun i hi => by
      obtain ⟨cs', h1, h2⟩ := hel i (by omega)
      obtain ⟨a', h3, h4⟩ := h h2
      exact ⟨a', cs', h1, h3, h4⟩)
    have hlm2 : len ≤ maxLen := by omega
    refine ⟨xs, ⟨some a, cap, by rw [hlen], by rw [hlen]; exact hl, rfl, by rw [hlen]; simpa [maxLen] using hlm2, fun _ => ⟨a, rfl, fun j p hj => ?_⟩⟩, by rw [hlen]; exact hlm2, fun y hy => ?_⟩
    · obtain ⟨cs', h1, h2, _⟩ := hxs j p hj
      refine ⟨cs', k.K_len h2, h2, fun i u hu => ?_⟩
      obtain ⟨_, _, h3⟩ := World.cells?_some h1
      have h4 := h3 i (by have := (List.getElem?_eq_some_iff.1 hu).1; have := k.K_len h2; omega)
      rw [← hc, ← Go.Proofs.YtakkhomjpflkbaaW.PrintWords.add_add]
      rw [← hu]; exact h4
    · obtain ⟨i, hi, rfl⟩ := List.mem_iff_getElem.1 hy
      obtain ⟨_, _, _, h3⟩ := hxs i _ (List.getElem?_eq_getElem hi)
      exact h3
theorem band {a b : Bool} (h1 : a = true) (h2 : b = true) : (a && b) = true := by rw [h1, h2]; rfl
theorem mayEnter_of {P : Program} {L c : List Char} {rest : List (List Char)} (h : P.initOrder.toList = L) (h1 : behindMainWord (wordsSigns L) = c :: rest) (h2 : ((stripLifts liftWords (c :: rest)).2.head? == some "cut".toList) = true) (h3 : P.laysLater = false) (h4 : P.bearsReflect = false) (h5 : (stripLifts liftWords (c :: rest)).1 = []) (h6 : P.doorFits [] = true) : P.mayEnter = true := by
  unfold Program.mayEnter
  rw [h, h1]
  dsimp only
  rw [h2, h3, h4, h5, h6]
  simp
theorem make_of {P : Program} {L : List Char} {rest : List (List Char)} (h : P.initOrder.toList = L) (h1 : behindMainWord (wordsSigns L) = "cut".toList :: rest) : P.make = some .cut := by
  unfold Program.make
  rw [h, h1]
  dsimp only
  rw [if_neg (by decide), if_pos (by simp)]
end Go.Proofs.YtakkhomjpflkbaaX
set_option maxRecDepth 10000
namespace Go.Proofs.Ytakkhomjpflkbaa.Join
open Go.Proofs.YtakkhomjpflkbaaX
def initSigns : List Char := ['h', 'a', 'r', 'n', 'e', 's', 's', ' ', '8', '5', '1', '9', '2', 'd', '7', '1', '7', '6', 'f', 'f', '5', '6', '1', '0', '2', '1', 'b', '4', '6', '6', '4', 'b', '6', 'a', '6', '7', 'a', '6', '8', '3', '4', '1', 'a', '9', 'f', 'e', '4', 'b', '6', 'c', 'b', '5', '5', '7', 'f', '5', 'c', 'e', '1', '9', '0', '4', '4', '3', 'f', '0', '1', 'b', '7', '6', 'a', '6', ' ', 'c', 'u', 't', ' ', 'a', 't', ' ', 'b', 'a', 'c', 'k', 'h', 'a', 'u', 'l', '/', 'b', 'a', 'c', 'k', 'h', 'a', 'u', 'l', 'l', 'a', 'w', '3', '1', '.', 'R', 'e', 'p', 'l', 'y', 'C', 'o', 'd', 'e', 's', ' ', 'b', 'a', 'c', 'k', 'h', 'a', 'u', 'l', '/', 'b', 'a', 'c', 'k', 'h', 'a', 'u', 'l', 'l', 'a', 'w', '3', '1', '.', 'R', 'e', 'p', 'l', 'y', 'B', 'a', 'c', 'k', ' ', 'b', 'a', 'c', 'k', 'h', 'a', 'u', 'l', '/', 'b', 'a', 'c', 'k', 'h', 'a', 'u', 'l', 'l', 'a', 'w', '3', '1', '.', 'R', 'e', 'p', 'l', 'y', 'O', 'n', 'l', 'y', ' ', 'b', 'a', 'c', 'k', 'h', 'a', 'u', 'l', '/', 'b', 'a', 'c', 'k', 'h', 'a', 'u', 'l', 'l', 'a', 'w', '0', '6', '.', 'S', 't', 'r', 'i', 'c', 't', 'R', 'e', 'a', 'd', 's', ' ', 'b', 'a', 'c', 'k', 'h', 'a', 'u', 'l', '/', 'b', 'a', 'c', 'k', 'h', 'a', 'u', 'l', 'l', 'a', 'w', '0', '6', '.', 'S', 't', 'r', 'i', 'c', 't', 'F', 'i', 'r', 's', 't', ' ', 'b', 'a', 'c', 'k', 'h', 'a', 'u', 'l', '/', 'b', 'a', 'c', 'k', 'h', 'a', 'u', 'l', 'l', 'a', 'w', '2', '7', '.', 'R', 'm', 'a', 'M', 'a', 'k', 'e', 's', ' ', 'b', 'a', 'c', 'k', 'h', 'a', 'u', 'l', '/', 'b', 'a', 'c', 'k', 'h', 'a', 'u', 'l', 'l', 'a', 'w', '2', '7', '.', 'R', 'm', 'a', 'M', 'o', 'v', 'e', 's', ' ', 'b', 'a', 'c', 'k', 'h', 'a', 'u', 'l', '/', 'b', 'a', 'c', 'k', 'h', 'a', 'u', 'l', 'l', 'a', 'w', '2', '7', '.', 'R', 'm', 'a', 'T', 'u', 'r', 'n', 's', ' ', 'b', 'a', 'c', 'k', 'h', 'a', 'u', 'l', '/', 'b', 'a', 'c', 'k', 'h', 'a', 'u', 'l', 'l', 'a', 'w', '2', '7', '.', 'R', 'm', 'a', 'B', 'o', 'u', 'n', 'd', 's', ' ', 'b', 'a', 'c', 'k', 'h', 'a', 'u', 'l', '/', 'b', 'a', 'c', 'k', 'h', 'a', 'u', 'l', 'l', 'a', 'w', '0', '6', '.', 'S', 't', 'r', 'i', 'c', 't', 'W', 'h', 'o', 'l', 'e', ' ', 'b', 'a', 'c', 'k', 'h', 'a', 'u', 'l', '/', 'b', 'a', 'c', 'k', 'h', 'a', 'u', 'l', 'l', 'a', 'w', '1', '4', '.', 'I', 'n', 'd', 'e', 'x', 'T', 'e', 'l', 'l', 's', ' ', 'b', 'a', 'c', 'k', 'h', 'a', 'u', 'l', '/', 'b', 'a', 'c', 'k', 'h', 'a', 'u', 'l', 'l', 'a', 'w', '1', '4', '.', 'I', 'n', 'd', 'e', 'x', 'A', 'd', 'd', 's', ' ', 'b', 'a', 'c', 'k', 'h', 'a', 'u', 'l', '/', 'b', 'a', 'c', 'k', 'h', 'a', 'u', 'l', 'l', 'a', 'w', '1', '4', '.', 'I', 'n', 'd', 'e', 'x', 'T', 'u', 'r', 'n', 's', ' ', 'b', 'a', 'c', 'k', 'h', 'a', 'u', 'l', '/', 'b', 'a', 'c', 'k', 'h', 'a', 'u', 'l', 'l', 'a', 'w', '1', '4', '.', 'I', 'n', 'd', 'e', 'x', 'W', 'h', 'o', 'l', 'e', ' ', 'b', 'a', 'c', 'k', 'h', 'a', 'u', 'l', '/', 'b', 'a', 'c', 'k', 'h', 'a', 'u', 'l', 'l', 'a', 'w', '1', '5', '.', 'B', 'a', 't', 'c', 'h', 'A', 'p', 'p', 'l', 'i', 'e', 's', ' ', 'b', 'a', 'c', 'k', 'h', 'a', 'u', 'l', '/', 'b', 'a', 'c', 'k', 'h', 'a', 'u', 'l', 'l', 'a', 'w', '1', '5', '.', 'B', 'a', 't', 'c', 'h', 'C', 'o', 'd', 'e', 's', ' ', 'b', 'a', 'c', 'k', 'h', 'a', 'u', 'l', '/', 'b', 'a', 'c', 'k', 'h', 'a', 'u', 'l', 'l', 'a', 'w', '1', '5', '.', 'B', 'a', 't', 'c', 'h', 'W', 'h', 'o', 'l', 'e', ' ', 'b', 'a', 'c', 'k', 'h', 'a', 'u', 'l', '/', 'b', 'a', 'c', 'k', 'h', 'a', 'u', 'l', 'l', 'a', 'w', '1', '5', '.', 'B', 'a', 't', 'c', 'h', 'U', 'n', 'd', 'o', ' ', 'b', 'a', 'c', 'k', 'h', 'a', 'u', 'l', '/', 'b', 'a', 'c', 'k', 'h', 'a', 'u', 'l', 'l', 'a', 'w', '1', '5', '.', 'B', 'a', 't', 'c', 'h', 'D', 'i', 'f', 'f', ' ', 'b', 'a', 'c', 'k', 'h', 'a', 'u', 'l', '/', 'b', 'a', 'c', 'k', 'h', 'a', 'u', 'l', 'l', 'a', 'w', '3', '0', '.', 'C', 'm', 'd', 'B', 'a', 'c', 'k', ' ', 'b', 'a', 'c', 'k', 'h', 'a', 'u', 'l', '/', 'b', 'a', 'c', 'k', 'h', 'a', 'u', 'l', 'l', 'a', 'w', '3', '0', '.', 'C', 'm', 'd', 'O', 'n', 'l', 'y']
theorem initText : Try.pinned.checked.prog.initOrder = String.ofList initSigns := by kernel_rfl
theorem initList : Try.pinned.checked.prog.initOrder.toList = initSigns := (congrArg String.toList initText).trans String.toList_ofList
theorem mayEnter_is : Try.pinned.checked.prog.mayEnter = true :=
  mayEnter_of (L := initSigns) (c := "cut".toList) (rest := (behindMainWord (wordsSigns initSigns)).tail) initList (by kernel_rfl) (by kernel_rfl) (by kernel_rfl) (by kernel_rfl) (by kernel_rfl) (by kernel_rfl)
theorem make_is : Try.pinned.checked.prog.make = some .cut :=
  make_of (L := initSigns) (rest := (behindMainWord (wordsSigns initSigns)).tail) initList (by kernel_rfl)
theorem lifts_is : Try.pinned.checked.prog.liftsFinal = false := by
  unfold Program.liftsFinal Program.headLifts
  rw [initList]
  kernel_rfl
end Go.Proofs.Ytakkhomjpflkbaa.Join
namespace Go.Proofs.Ytakkhomjpflkbaa.replyOnly
open Go.ChangeShapes Go.WideShapes Go.ChangeAt Go.RowKit Go.Proofs.YtakkhomjpflkbaaX Go.Proofs.Ytakkhomjpflkbaa.F Go.Proofs.YtakkhomjpflkbaaW.PrintWords Go.Proofs.YtakkhomjpflkbaaW.PrintLast Go.Proofs.YtakkhomjpflkbaaW.PrintMore
open Go.ChangeMaps (open_string shut_string)
set_option linter.unusedVariables false
set_option linter.unusedSimpArgs false
theorem own : ownKnob Try.prog.godebug = none := by kernel_rfl
theorem laidOut : laidOutB Try.prog = true := by kernel_rfl
set_option maxRecDepth 100000 in
theorem lifted (os : Os) (started : os.Started) (H : Type) (enc : TypeId × Value → H) :
    ReturnsInHanded {} Try.checked os 5 .any (Rows.replyOnlySpec.pre6 enc Try.prog Try.f5 Rows.replyOnlyRow.domain false) (Rows.replyOnlySpec.post enc Try.prog Try.f5 false true false false) := by
  refine returnsInHanded_of_change_sized (C := Try.checked) own started (by kernel_rfl) Try.func5
    (ChangeSpec.witness6 (enc := enc) (C := Try.checked) false ⟨#[], #[.string ByteArray.empty], []⟩ 8 (by kernel_rfl) (by kernel_rfl) (by kernel_rfl) (by kernel_rfl)) ?_
  intro W base args ds gs before hval0 hW hcnd hsz0 _
  have hval : ∀ (j : Nat) t v, Try.f5.params[j]? = some t → args[j]? = some v → Value.okWide Try.prog W .any base t v := hval0
  have hW' := hW
  obtain ⟨p, q, hA0, hV, rfl, hfz, hnd⟩ := hW
  have hA : DataW.TrodAll enc Try.prog W 0 (fun _ => true) true Try.f5.params.toList args.toList ds p := hA0
  rw [Try.params5] at hA hval
  obtain ⟨v0, vs0, d0, ds0, p0, q0, hargs, rfl, rfl, h0, r0⟩ := trodAll_cons hA
  obtain ⟨rfl, rfl, rfl⟩ := trodAll_nil r0
  obtain rfl : args = #[v0] := by cases args; simp_all
  obtain ⟨rfl, rfl⟩ := trodVars_none hV
  have k0 := h0
  have lt0 : ∀ x ∈ p0, x.block < W.heap.size := by obtain ⟨m, hm⟩ := k0; exact DataW.trod_lt m _ _ _ hm
  obtain ⟨x0, rfl⟩ := okWide_string Try.underlying9 (hval 0 9 v0 rfl rfl)
  obtain ⟨f0, hf0⟩ := h0
  obtain ⟨z0, hk0, ho0⟩ := (Opens.string Try.underlying9) hf0
  obtain rfl : x0 = z0 := by have := hk0; injection this with this; injection this
  obtain ⟨k, h⟩ : ∃ k, backhaullaw31_ReplyOnly.f k x0 = some true := Pure.ReplyOnly x0 ho0
  refine (backhaullaw31_ReplyOnly.calls k x0 W  h).mono fun e W' hq => ?_
  obtain ⟨he, bel0⟩ := hq
  have bel : Below W.heap.size W W' := bel0
  subst he
  exact ⟨_, rfl, _, _, _, [], _, [], hW', trodAll_mk1 (shut_bool Try.underlying4 _), (trodAll_cons_mk (Below.trod laidOut (by kernel_rfl) (of_decide_eq_true (by kernel_rfl)) k0 bel lt0) trodAll_mk0), rfl, bel.frame _, fun h => by cases h⟩
theorem closed_ : joinedFacts Try.pinned.checked.prog 5 Try.f5 Rows.replyOnlySpec Rows.replyOnlyRow = true := by
  unfold joinedFacts
  repeat' (with_reducible apply band)
  any_goals with_reducible exact Join.mayEnter_is
  any_goals (rw [Join.make_is]; kernel_rfl)
  any_goals (rw [Join.lifts_is]; kernel_rfl)
  all_goals kernel_rfl
theorem over : Rows.replyOnlyRow.holds Try.pinned (OpenSpec.ofChange Rows.replyOnlySpec) :=
  OpenClaim.holds_of_wide 5 Try.f5 rfl rfl rfl rfl rfl rfl rfl ⟨rfl, rfl, rfl, rfl, rfl⟩ rfl rfl rfl rfl rfl (by kernel_rfl) Try.func5 closed_
    (of_decide_eq_true (by kernel_rfl)) (by unfold Func.isWrapper; first | (rw [if_pos (by decide +kernel)]; kernel_rfl) | (rw [if_neg (by decide +kernel)]; exact ⟨rfl, rfl⟩))
    (fun os started H enc _ => lifted os started H enc)
theorem proved : Rows.ReplyOnlySaid := over
#print axioms proved
end Go.Proofs.Ytakkhomjpflkbaa.replyOnly
namespace Go.Proofs.Ytakkhomjpflkbaa
theorem replyOnly_holds : Rows.ReplyOnlySaid := replyOnly.proved
end Go.Proofs.Ytakkhomjpflkbaa
