-- merged and pruned by prune.py (the session's own program); its words go back to the kit's print
import Derived.Test.YtakkhomjpflkbaaProg
import Derived.Below
import Derived.Deep.Draws
import Derived.Deep.AppendLies
import Derived.Maps.AppendAt
import Derived.OwnWalk
import Derived.Laws.BytesArg
import Derived.Laws.MakeOwn
import Derived.Laws.OwnMore
import Derived.Deep.OwnRows
import Derived.Tactics
import Derived.Lib.ConvBytes
import Derived.Laws.Slices
import Derived.WalkKit
import Derived.KernelRfl
import Derived.RowKit3
import Derived.Deep.LoopGhost
import Derived.Deep.QuietTactic
import Derived.BigQuiet
import Derived.WideLaws
import Derived.Deep.DeepCutAuto
import Derived.Deep.CutBlock
import Derived.Deep.RegionHeld3
import Derived.Laws.Rows
import Derived.Lib.AppendStr
import Derived.ArgAppend
import Derived.Laws.IdiomCopy
import Derived.OrdersHeld
import Derived.Laws.BitsLemmas
import Derived.RowKit
import Derived.Laws.StructEq
import Derived.Deep.RegionLawGrows
import Derived.Lib.SliceRun
import Derived.Shelf.Strings.BuilderK
import Derived.Shelf.Strings.Builder1
import Derived.Shelf.Strings.BuilderF
import Derived.Shelf.Utf8.RuneCount
import Derived.Shelf.Strings.Prefix
import Derived.Lib.OthersKept
import Derived.Lib.RuneCount
import Derived.Laws.Cover4
import Derived.Outline
import Derived.Deep.Slices
import Derived.ChangeArms
import Derived.WideShapes
import Derived.OpenShut
import Derived.Test.YtakkhomjpflkbaaRows
import Derived.ProofKit
import Derived.ShutString
import Derived.ChangeOld
import Derived.SizedLaws
import Derived.Carry
import Derived.Test.YtakkhomjpflkbaaZStrictWhole6
set_option linter.unusedVariables false
namespace Go.Proofs.Ytakkhomjpflkbaa.Q
open Go.RowKit Go.Proofs.Ytakkhomjpflkbaa.F Go.Proofs.YtakkhomjpflkbaaW.PrintWords Go.Proofs.YtakkhomjpflkbaaW.PrintLast Go.Proofs.YtakkhomjpflkbaaW.PrintMore
theorem wide_dec (w : Int) : (if w = 1 then some true else if w = 2 then some true else if w = 4 then some true else some (w == 8)) = some (decide (wide w)) := by
  unfold wide
  by_cases h1 : w = 1
  · rw [if_pos h1]; simp [h1]
  · rw [if_neg h1]
    by_cases h2 : w = 2
    · rw [if_pos h2]; simp [h2]
    · rw [if_neg h2]
      by_cases h4 : w = 4
      · rw [if_pos h4]; simp [h4]
      · rw [if_neg h4]
        by_cases h8 : w = 8
        · simp [h8]
        · simp [h1, h2, h4, h8]
theorem octet_wide_f (w : Int) : octet_wide.f w = some (decide (wide w)) := by
  unfold octet_wide.f
  exact wide_dec w
theorem octet_inside_f (s : ByteArray) (a : Int) : octet_inside.f s a = some (decide (0 ≤ a ∧ a ≤ s.size)) := by
  unfold octet_inside.f
  by_cases h : a ≥ 0
  · rw [if_pos h]; congr 1; exact decide_eq_decide.2 ⟨fun x => ⟨h, x⟩, fun x => x.2⟩
  · rw [if_neg h]; congr 1; exact (decide_eq_false (fun x => h x.1)).symm
def natI (l : List UInt8) : List Int := l.map (fun b => (b.toNat : Int))
theorem strOfNums_nat (l : List UInt8) : strOfNums (natI l) = bytesB l := by
  unfold strOfNums natI bytesB
  rw [List.map_map]
  congr 2
  exact (List.map_congr_left fun b _ => by simp).trans (List.map_id l)
theorem byte_mod (n : Int) (h : 0 ≤ n) : n % 256 = (((UInt8.ofNat n.toNat).toNat : Nat) : Int) := by
  rw [toNat_ofNat]; omega
theorem octet_put_l0 (d : Nat) : ∀ (n : Int) (t : List UInt8), 0 ≤ n → d ≤ 8 → Ev (fun k => octet_Put.l0 k n (List.replicate d 0 ++ natI t) ((d : Int) - 1)) (bytesB (beL d n.toNat ++ t), 0) := by
  induction d with
  | zero =>
    intro n t hn hd
    refine Ev.step (fun k => by simp only [octet_Put.l0]; rfl) ?_
    refine Ev.neg (by omega) (Ev.ok ?_)
    simp only [List.replicate_zero, List.nil_append, beL]
    rw [strOfNums_nat]
  | succ d ih =>
    intro n t hn hd
    refine Ev.step (fun k => by simp only [octet_Put.l0]; rfl) ?_
    refine Ev.pos (by omega) (Ev.pos (by omega) (Ev.pos (by simp only [List.length_append, List.length_replicate]; omega) ?_))
    have e1 : ((((d + 1 : Nat) : Int) - 1) : Int).toNat = d := by omega
    have e2 : wrap64 (((d + 1 : Nat) : Int) - 1 - 1) = (d : Int) - 1 := by rw [wrap_eq (by omega) (by omega)]; omega
    have e3 : (List.replicate (d + 1) 0 ++ natI t).set d (n % 256) = List.replicate d 0 ++ natI (UInt8.ofNat n.toNat :: t) := by
      rw [List.replicate_succ', List.append_assoc, List.set_append_right _ _ (by simp)]
      simp only [List.length_replicate, Nat.sub_self, List.cons_append, List.nil_append, List.set_cons_zero, natI, List.map_cons, byte_mod n hn]
    rw [e1, e2, e3]
    refine Ev.eq (ih (n / 256) (UInt8.ofNat n.toNat :: t) (by omega) (by omega)) ?_
    rw [beL, show (n / 256).toNat = n.toNat / 256 by omega, List.append_assoc]
    rfl
theorem octet_put_j0 {n w : Int} (hw : wide w) (hn : 0 ≤ n) (hlt : n < 256 ^ w.toNat) : Ev (fun k => octet_Put.j0 k n w false) (putS n w) := by
  have hw' := wide_nat hw
  refine Ev.step (fun k => by simp only [octet_Put.j0]; rfl) ?_
  refine Ev.neg (by decide) (Ev.pos (by omega) (Ev.pos (by omega) ?_))
  have h := octet_put_l0 w.toNat n [] hn (by omega)
  simp only [natI, List.map_nil, List.append_nil] at h
  rw [wrap_eq (by omega) (by omega), show w - 1 = ((w.toNat : Nat) : Int) - 1 by omega]
  refine Ev.eq h ?_
  unfold putS
  rw [if_pos hw, if_pos ⟨hn, hlt⟩]
theorem octet_put_t {n w : Int} (hw : wide w) (h : ¬ (0 ≤ n ∧ n < 256 ^ w.toNat)) : Ev (fun k => octet_Put.j0 k n w true) (putS n w) := by
  refine Ev.step (fun k => by simp only [octet_Put.j0]; rfl) ?_
  refine Ev.pos trivial (Ev.ok ?_)
  unfold putS
  rw [if_pos hw, if_neg h]
theorem octet_put_f {n : Int} (w : Int) (h1 : n ≤ 9223372036854775807) : Ev (fun k => octet_Put.f k n w) (putS n w) := by
  unfold octet_Put.f
  refine Ev.bindc (octet_wide_f w) ?_
  by_cases hw : wide w
  · refine Ev.pos (decide_eq_true hw) ?_
    refine Ev.ite (fun h => octet_put_t hw (by omega)) (fun h => ?_)
    have key : ∀ b : Bool, (b = true ↔ ¬ n < 256 ^ w.toNat) → Ev (fun k => octet_Put.j0 k n w b) (putS n w) := by
      intro b hb
      cases b with
      | true => exact octet_put_t hw (fun x => (hb.1 rfl) x.2)
      | false => exact octet_put_j0 hw (by omega) (Classical.byContradiction fun x => by have := hb.2 x; cases this)
    rcases hw with rfl | rfl | rfl | rfl
    · rw [show wrap64 (8 * 1) = 8 from wrap_eq (by decide) (by decide)]
      refine Ev.pos (by decide) (Ev.pos (by decide) (key _ ?_))
      rw [decide_eq_true_eq, show shr .i64 n 8 = n / 256 from rfl]
      show n / 256 > 0 ↔ ¬ n < 256
      omega
    · rw [show wrap64 (8 * 2) = 16 from wrap_eq (by decide) (by decide)]
      refine Ev.pos (by decide) (Ev.pos (by decide) (key _ ?_))
      rw [decide_eq_true_eq, show shr .i64 n 16 = n / 65536 from rfl]
      show n / 65536 > 0 ↔ ¬ n < 65536
      omega
    · rw [show wrap64 (8 * 4) = 32 from wrap_eq (by decide) (by decide)]
      refine Ev.pos (by decide) (Ev.pos (by decide) (key _ ?_))
      rw [decide_eq_true_eq, show shr .i64 n 32 = n / 4294967296 from rfl]
      show n / 4294967296 > 0 ↔ ¬ n < 4294967296
      omega
    · refine Ev.neg (by decide) (key false ?_)
      show false = true ↔ ¬ n < 18446744073709551616
      simp
      omega
  · refine Ev.neg (fun x => hw (of_decide_eq_true x)) (Ev.ok ?_)
    unfold putS
    rw [if_neg hw]
theorem numAt_succ {s : ByteArray} {a i : Nat} (h : a + i < s.size) : (numAt s a (i + 1) : Int) = 256 * (numAt s a i : Int) + bt s ((a + i : Nat) : Int) := by
  have hl : a + i < s.data.toList.length := by rw [size_data]; exact h
  unfold numAt
  rw [List.take_succ_eq_append_getElem (by rw [List.length_drop]; omega), beN_append, bt_data s (a + i) h, List.getElem_drop]
  omega
theorem numAt_lt' {s : ByteArray} {a i : Nat} (h : a + i ≤ s.size) : (numAt s a i : Int) < 256 ^ i := pow_cast (numAt_lt h)
theorem pow_le8 {i : Nat} (h : i ≤ 7) : (256 : Int) ^ i ≤ 72057594037927936 := by
  have : i = 0 ∨ i = 1 ∨ i = 2 ∨ i = 3 ∨ i = 4 ∨ i = 5 ∨ i = 6 ∨ i = 7 := by omega
  rcases this with rfl | rfl | rfl | rfl | rfl | rfl | rfl | rfl <;> decide
theorem bt_range (s : ByteArray) (i : Int) : 0 ≤ bt s i ∧ bt s i < 256 := by
  unfold bt
  split
  · rename_i h
    have := (s[i.toNat]'h).toNat_lt
    omega
  · omega
theorem or_byte {x y : Int} (h0 : 0 ≤ x) (h1 : x < 72057594037927936) (h2 : 0 ≤ y) (h3 : y < 256) : Go.bits .or .u64 (IntKind.u64.wrap (x * 256)) (IntKind.u64.wrap y) = 256 * x + y := by
  rw [u64_eq (x := x * 256) (by omega) (by omega), u64_eq (x := y) (by omega) (by omega)]
  rw [bits_join .u64 64 (by decide) (fun n h0 h1 => u64_eq h0 h1) 8 (x * 256) y (by omega) (by omega) (by omega) (by omega) (by omega) (by omega)]
  omega
theorem getS_in {s : ByteArray} {a w : Int} (hw : wide w) (h0 : 0 ≤ a) (h1 : a + w ≤ s.size) : getS s a w = if (numAt s a.toNat w.toNat : Int) > 9223372036854775807 then (0, 0, 8) else ((numAt s a.toNat w.toNat : Int), a + w, 0) := by
  have hw' := wide_nat hw
  unfold getS
  rw [if_pos ⟨hw, h0, by omega⟩, if_neg (by omega)]
theorem octet_get_l0 {s : ByteArray} {a w : Int} (hs : s.size ≤ 9223372036854775807) (hw : wide w) (h0 : 0 ≤ a) (h1 : a + w ≤ s.size) (d : Nat) : ∀ i : Nat, w - i = d → Ev (fun k => octet_Get.l0 k s a w (numAt s a.toNat i : Int) w (i : Int)) (getS s a w) := by
  have hw' := wide_nat hw
  induction d with
  | zero =>
    intro i hi
    refine Ev.step (fun k => by simp only [octet_Get.l0]; rfl) ?_
    refine Ev.neg (by omega) ?_
    rw [getS_in hw h0 h1, show w.toNat = i by omega]
    refine Ev.ite (fun h => ?_) (fun h => ?_)
    · rw [if_pos h]; exact Ev.ok rfl
    · rw [if_neg h, wrap_eq (x := (numAt s a.toNat i : Int)) (by omega) (by omega), wrap_eq (by omega) (by omega)]
      exact Ev.ok rfl
  | succ d ih =>
    intro i hi
    have hlt := numAt_lt' (s := s) (a := a.toNat) (i := i) (by omega)
    have hp := pow_le8 (i := i) (by omega)
    refine Ev.step (fun k => by simp only [octet_Get.l0]; rfl) ?_
    rw [wrap_eq (x := a + (i : Int)) (by omega) (by omega), wrap_eq (x := (i : Int) + 1) (by omega) (by omega)]
    refine Ev.pos (by omega) (Ev.pos (by omega) (Ev.pos (by omega) ?_))
    have hb := bt_range s (a + i)
    rw [or_byte (by omega) (by omega) hb.1 hb.2]
    have e := numAt_succ (s := s) (a := a.toNat) (i := i) (by omega)
    rw [show ((a.toNat + i : Nat) : Int) = a + i by omega] at e
    rw [← e]
    exact ih (i + 1) (by omega)
theorem octet_get_f {s : ByteArray} (a w : Int) (hs : s.size ≤ 9223372036854775807) : Ev (fun k => octet_Get.f k s a w) (getS s a w) := by
  have bad : ¬ (wide w ∧ 0 ≤ a ∧ a ≤ s.size) → Ev (fun k => octet_Get.j0 k s a w true) (getS s a w) := by
    intro h
    refine Ev.step (fun k => by simp only [octet_Get.j0]; rfl) ?_
    refine Ev.pos trivial (Ev.ok ?_)
    unfold getS
    rw [if_neg h]
  unfold octet_Get.f
  refine Ev.bindc (octet_wide_f w) ?_
  by_cases hw : wide w
  · have hw' := wide_nat hw
    refine Ev.pos (decide_eq_true hw) (Ev.bindc (octet_inside_f s a) ?_)
    by_cases ha : 0 ≤ a ∧ a ≤ s.size
    · rw [decide_eq_true ha]
      refine Ev.step (fun k => by simp only [octet_Get.j0]; rfl) ?_
      refine Ev.neg (by decide) ?_
      rw [wrap_eq (by omega) (by omega)]
      refine Ev.ite (fun h => Ev.ok ?_) (fun h => ?_)
      · unfold getS
        rw [if_pos ⟨hw, ha⟩, if_pos h]
      · exact octet_get_l0 hs hw ha.1 (by omega) w.toNat 0 (by omega)
    · rw [decide_eq_false ha]
      exact bad (fun x => ha x.2)
  · exact Ev.neg (fun x => hw (of_decide_eq_true x)) (bad (fun x => hw x.1))
theorem octet_lay_f {t : ByteArray} (ht : t.size ≤ 4611686018427387904) : Ev (fun k => octet_Lay.f k t) (layS t) := by
  unfold octet_Lay.f layS
  refine Ev.ite (fun h => Ev.ok ?_) (fun h => ?_)
  · rw [if_pos (by omega)]
  · rw [if_neg (by omega)]
    refine Ev.bind (octet_put_f 2 (by omega)) ?_
    rw [put2 (by omega)]
    refine Ev.pos ?_ (Ev.ok rfl)
    simp only [bytesB_size, beL_length]; omega
theorem ref05_lay_f {t : ByteArray} (ht : t.size ≤ 4611686018427387904) : backhaulref05_Lay.f t = some (layS t) := by
  unfold backhaulref05_Lay.f layS
  by_cases h : (t.size : Int) > 65535
  · rw [if_pos h, if_pos (by omega)]
  · rw [if_neg h, if_neg (by omega), Option.bind_some]
    have e : strOfNums [((t.size : Int) / 256) % 256, (t.size : Int) % 256] = bytesB (beL 2 t.size) := by
      rw [byte_mod _ (by omega), byte_mod (t.size : Int) (by omega)]
      rw [show ((t.size : Int) / 256).toNat = t.size / 256 by omega, Int.toNat_natCast]
      exact strOfNums_nat [UInt8.ofNat (t.size / 256), UInt8.ofNat t.size]
    rw [e, if_pos (by simp only [bytesB_size, beL_length]; omega)]
theorem octet_take_f {s : ByteArray} (a m : Int) (hs : s.size ≤ 4611686018427387904) : Ev (fun k => octet_Take.f k s a m) (takeS s a m) := by
  unfold octet_Take.f takeS
  refine Ev.ite (fun h => ?_) (fun h => ?_)
  · rw [if_pos h]; exact Ev.ok rfl
  · rw [if_neg h]
    refine Ev.bind (octet_get_f a 2 (by omega)) ?_
    refine Ev.ite (fun h1 => ?_) (fun h1 => ?_)
    · rw [if_pos h1]
      have hg : getS s a 2 = ((getS s a 2).1, (getS s a 2).2.1, 0) := by rw [← h1]
      obtain ⟨_, h2, h3, h4, h5, h6, h7⟩ := getS_ok hg
      refine Ev.ite (fun h8 => ?_) (fun h8 => ?_)
      · rw [if_pos h8]; exact Ev.ok rfl
      · rw [if_neg h8, wrap_eq (x := (s.size : Int) - (getS s a 2).2.1) (by omega) (by omega)]
        refine Ev.ite (fun h9 => ?_) (fun h9 => ?_)
        · rw [if_pos h9]; exact Ev.ok rfl
        · rw [if_neg h9, wrap_eq (by omega) (by omega)]
          exact Ev.pos (by omega) (Ev.pos (by omega) (Ev.pos (by omega) (Ev.ok rfl)))
    · rw [if_neg h1]; exact Ev.ok rfl
end Go.Proofs.Ytakkhomjpflkbaa.Q
set_option linter.unusedVariables false
namespace Go.Proofs.Ytakkhomjpflkbaa.Q
open Go.RowKit Go.Proofs.Ytakkhomjpflkbaa.F Go.Proofs.YtakkhomjpflkbaaW.PrintWords Go.Proofs.YtakkhomjpflkbaaW.PrintLast Go.Proofs.YtakkhomjpflkbaaW.PrintMore
theorem put_size {n w : Int} : (putS n w).1.size ≤ 8 := by
  unfold putS
  by_cases hw : wide w
  · rw [if_pos hw]
    split
    · have := wide_nat hw
      show (bytesB _).size ≤ 8
      rw [bytesB_size, beL_length]; omega
    · exact Nat.zero_le _
  · rw [if_neg hw]; exact Nat.zero_le _
def rowA (acc : ByteArray) (r : ByteArray × Int) : ByteArray × Int := if r.2 = 0 then (acc ++ r.1, 0) else (⟨#[]⟩, r.2)
theorem rowA_cons {w x : Int} {xs : List Int} {acc : ByteArray} (h : (putS x w).2 = 0) : rowA (acc ++ (putS x w).1) (rowL w xs) = rowA acc (rowL w (x :: xs)) := by
  unfold rowA
  simp only [rowL, if_pos h]
  by_cases h2 : (rowL w xs).2 = 0
  · rw [if_pos h2, if_pos h2, if_pos rfl, ByteArray.append_assoc]
  · rw [if_neg h2, if_neg h2, if_neg h2]
theorem rowA_bad {w x : Int} {xs : List Int} {acc : ByteArray} (h : (putS x w).2 ≠ 0) : ((⟨#[]⟩ : ByteArray), (putS x w).2) = rowA acc (rowL w (x :: xs)) := by
  unfold rowA
  simp only [rowL, if_neg h]
theorem octet_row_go {w : Int} : ∀ (l : List Int) (acc : ByteArray), (∀ x ∈ l, x ≤ 9223372036854775807) → acc.size + 8 * l.length < 140737488355328 → Ev (fun k => octet_Row.go k w l acc) (rowA acc (rowL w l))
  | [], acc, _, _ => by
    refine Ev.ok ?_
    unfold rowA
    simp only [rowL, if_true]
    congr 1
    apply ext_list
    rw [data_append]; simp
  | x :: xs, acc, hx, hs => by
    simp only [octet_Row.go]
    refine Ev.bind (octet_put_f w (hx x List.mem_cons_self)) ?_
    have hp := put_size (n := x) (w := w)
    rw [List.length_cons] at hs
    refine Ev.ite (fun h => ?_) (fun h => Ev.ok (rowA_bad h))
    refine Ev.pos (by omega) ?_
    rw [← rowA_cons h]
    exact octet_row_go xs _ (fun y hy => hx y (List.mem_cons_of_mem _ hy)) (by rw [ByteArray.size_append]; omega)
theorem octet_row_f {l : List Int} (w : Int) (hx : ∀ x ∈ l, x ≤ 9223372036854775807) : Ev (fun k => octet_Row.f k w l) (rowS w l) := by
  unfold octet_Row.f rowS
  refine Ev.bindc (octet_wide_f w) ?_
  by_cases hw : wide w
  · rw [if_pos hw]
    refine Ev.pos (decide_eq_true hw) (Ev.ite (fun h => ?_) (fun h => ?_))
    · rw [if_pos (by omega)]; exact Ev.ok rfl
    · rw [if_neg (by omega)]
      have hb := octet_put_f (n := (l.length : Int)) 2 (by omega)
      rw [put2 (by omega)] at hb
      refine Ev.bind hb (Ev.pos rfl (Ev.pos ?_ ?_))
      · simp only [bytesB_size, beL_length]; omega
      · exact octet_row_go l _ hx (by simp only [bytesB_size, beL_length]; omega)
  · rw [if_neg hw]
    exact Ev.neg (fun x => hw (of_decide_eq_true x)) (Ev.ok rfl)
def unrowA (acc : List Int) (r : List Int × Int × Int) : List Int × Int × Int := if r.2.2 = 0 then (acc ++ r.1, r.2.1, 0) else ([], 0, r.2.2)
theorem unrowA_cons {s : ByteArray} {w t : Int} {n : Nat} {acc : List Int} (h : (getS s t w).2.2 = 0) : unrowA (acc ++ [(getS s t w).1]) (unrowL s w n (getS s t w).2.1) = unrowA acc (unrowL s w (n + 1) t) := by
  unfold unrowA
  simp only [unrowL, if_pos h]
  by_cases h2 : (unrowL s w n (getS s t w).2.1).2.2 = 0
  · rw [if_pos h2, if_pos h2, if_pos h2]; simp
  · rw [if_neg h2, if_neg h2, if_neg h2]
theorem unrowA_bad {s : ByteArray} {w t : Int} {n : Nat} {acc : List Int} (h : (getS s t w).2.2 ≠ 0) : (([] : List Int), (0 : Int), (getS s t w).2.2) = unrowA acc (unrowL s w (n + 1) t) := by
  unfold unrowA
  simp only [unrowL, if_neg h]
theorem unrowA_nil {r : List Int × Int × Int} (h : r.2.2 ≠ 0 → r = ([], 0, r.2.2)) : unrowA [] r = r := by
  unfold unrowA
  by_cases h2 : r.2.2 = 0
  · rw [if_pos h2, List.nil_append, ← h2]
  · rw [if_neg h2]; exact (h h2).symm
theorem unrowL_bad {s : ByteArray} {w : Int} : ∀ (n : Nat) (t : Int), (unrowL s w n t).2.2 ≠ 0 → unrowL s w n t = ([], 0, (unrowL s w n t).2.2)
  | 0, t, h => absurd rfl h
  | n + 1, t, h => by
    simp only [unrowL] at h ⊢
    by_cases h1 : (getS s t w).2.2 = 0
    · rw [if_pos h1] at h ⊢
      by_cases h2 : (unrowL s w n (getS s t w).2.1).2.2 = 0
      · rw [if_pos h2] at h; exact absurd h2 h
      · rw [if_neg h2]
    · rw [if_neg h1]
theorem octet_unrow_l0 {s : ByteArray} {w : Int} {n : Nat} (hs : s.size ≤ 4611686018427387904) (hn : n ≤ 1000) (d : Nat) : ∀ (i : Nat) (acc : List Int) (t : Int), n - i = d → i ≤ n → acc.length ≤ i → Ev (fun k => octet_Unrow.l0 k s w acc t (n : Int) (i : Int)) (unrowA acc (unrowL s w d t)) := by
  induction d with
  | zero =>
    intro i acc t hd hi ha
    refine Ev.step (fun k => by simp only [octet_Unrow.l0]; rfl) ?_
    refine Ev.neg (by omega) (Ev.ok ?_)
    unfold unrowA
    simp [unrowL]
  | succ d ih =>
    intro i acc t hd hi ha
    refine Ev.step (fun k => by simp only [octet_Unrow.l0]; rfl) ?_
    rw [wrap_eq (x := (i : Int) + 1) (by omega) (by omega)]
    refine Ev.pos (by omega) (Ev.bind (octet_get_f t w (by omega)) ?_)
    refine Ev.ite (fun h1 => Ev.pos (by omega) ?_) (fun h1 => Ev.ok (unrowA_bad h1))
    rw [← unrowA_cons h1]
    exact ih (i + 1) _ _ (by omega) (by omega) (by simp only [List.length_append, List.length_cons, List.length_nil]; omega)
theorem octet_unrow_f {s : ByteArray} (a w m : Int) (hs : s.size ≤ 4611686018427387904) : Ev (fun k => octet_Unrow.f k s a w m) (unrowS s a w m) := by
  have bad : (¬ wide w ∨ a < 0 ∨ a > s.size ∨ m < 0) → Ev (fun k => octet_Unrow.j0 k s a w m true) (unrowS s a w m) := by
    intro h
    refine Ev.step (fun k => by simp only [octet_Unrow.j0]; rfl) ?_
    refine Ev.pos trivial (Ev.ok ?_)
    unfold unrowS
    rw [if_pos h]
  unfold octet_Unrow.f
  refine Ev.bindc (octet_wide_f w) ?_
  by_cases hw : wide w
  · refine Ev.pos (decide_eq_true hw) (Ev.bindc (octet_inside_f s a) ?_)
    by_cases ha : 0 ≤ a ∧ a ≤ s.size
    · refine Ev.pos (decide_eq_true ha) ?_
      by_cases hm : m < 0
      · rw [decide_eq_true hm]; exact bad (.inr (.inr (.inr hm)))
      · rw [decide_eq_false hm]
        have e : unrowS s a w m = if (getS s a 2).2.2 = 0 then (if (getS s a 2).1 > m ∨ (getS s a 2).1 > 1000 then ([], 0, 3) else unrowL s w (getS s a 2).1.toNat (getS s a 2).2.1) else ([], 0, (getS s a 2).2.2) := by
          unfold unrowS
          rw [if_neg (fun x => by rcases x with x | x | x | x; exact x hw; omega; omega; omega)]
        rw [e]
        refine Ev.step (fun k => by simp only [octet_Unrow.j0]; rfl) ?_
        refine Ev.neg (by decide) (Ev.bind (octet_get_f a 2 (by omega)) ?_)
        refine Ev.ite (fun h1 => ?_) (fun h1 => ?_)
        · rw [if_pos h1]
          have hg : getS s a 2 = ((getS s a 2).1, (getS s a 2).2.1, 0) := by rw [← h1]
          obtain ⟨_, h2, h3, h4, h5, h6, h7⟩ := getS_ok hg
          have hmn : mn m 1000 = if 1000 < m then 1000 else m := rfl
          refine Ev.ite (fun h8 => ?_) (fun h8 => ?_)
          · rw [if_pos (by rw [hmn] at h8; split at h8 <;> omega)]; exact Ev.ok rfl
          · have h9 : ¬ ((getS s a 2).1 > m ∨ (getS s a 2).1 > 1000) := by rw [hmn] at h8; split at h8 <;> omega
            rw [if_neg h9]
            have := octet_unrow_l0 (w := w) (n := (getS s a 2).1.toNat) hs (by omega) (getS s a 2).1.toNat 0 [] (getS s a 2).2.1 (by omega) (by omega) (by simp)
            rw [Int.toNat_of_nonneg h7, unrowA_nil (unrowL_bad _ _)] at this
            exact this
        · rw [if_neg h1]; exact Ev.ok rfl
    · refine Ev.neg (fun x => ha (of_decide_eq_true x)) (bad (by omega))
  · exact Ev.neg (fun x => hw (of_decide_eq_true x)) (bad (.inl hw))
end Go.Proofs.Ytakkhomjpflkbaa.Q
set_option linter.unusedVariables false
namespace Go.Proofs.Ytakkhomjpflkbaa.Q
open Go.RowKit Go.Proofs.Ytakkhomjpflkbaa.F Go.Proofs.YtakkhomjpflkbaaW.PrintWords Go.Proofs.YtakkhomjpflkbaaW.PrintLast Go.Proofs.YtakkhomjpflkbaaW.PrintMore
def flt (a e : Int) : Option (Int × Int) := if e = 0 then none else some (e, a)
theorem flt0 (a : Int) : flt a 0 = none := rfl
theorem flt1 {a e : Int} (h : e ≠ 0) : flt a e = some (e, a) := if_neg h
def pc {α : Type} (z : α) (a e0 : Int) (r : α × Int × Int) : α × Int × Int := if e0 = 0 then (if r.2.2 = 0 then r else (z, a, r.2.2)) else (z, a, e0)
theorem pc_bad {α : Type} {z : α} {a e0 : Int} {r : α × Int × Int} (h : e0 ≠ 0) : pc z a e0 r = (z, a, e0) := if_neg h
theorem pc_ok {α : Type} {z : α} {a : Int} {r : α × Int × Int} (h : r.2.2 = 0) : pc z a 0 r = r := by unfold pc; rw [if_pos rfl, if_pos h]
theorem pc_err {α : Type} {z : α} {a : Int} {r : α × Int × Int} (h : r.2.2 ≠ 0) : pc z a 0 r = (z, a, r.2.2) := by unfold pc; rw [if_pos rfl, if_neg h]
theorem pc_stay {α : Type} {z : α} {a e0 : Int} {r : α × Int × Int} (h : (pc z a e0 r).2.2 ≠ 0) : (pc z a e0 r).1 = z ∧ (pc z a e0 r).2.1 = a := by
  unfold pc at h ⊢
  (repeat' split at h) <;> (try contradiction) <;> simp_all
def bigR (r : Int × Int × Int) (m : Int) : Int × Int × Int := if r.2.2 = 0 ∧ r.1 > m then (0, 0, 3) else r
def numR (s : ByteArray) (a e0 w m : Int) : Int × Int × Int := pc 0 a e0 (bigR (getS s a w) m)
def rowR (s : ByteArray) (a e0 w m : Int) : List Int × Int × Int := pc [] a e0 (unrowS s a w m)
def endR (s : ByteArray) (a e0 : Int) : Int := if e0 = 0 ∧ a < s.size then 6 else e0
theorem goes0 (s : ByteArray) (a : Int) : strict_Reader_goes.f s a none true = some (true, s, a, none, true) := rfl
theorem goes1 (s : ByteArray) (a : Int) (q : Int × Int) : strict_Reader_goes.f s a (some q) true = some (false, s, a, some q, true) := rfl
theorem done0 (s : ByteArray) (a to_ : Int) : strict_Reader_done.f s a none true to_ 0 = some (true, s, to_, none, true) := rfl
theorem done1 (s : ByteArray) (a to_ : Int) {e : Int} (h : e ≠ 0) : strict_Reader_done.f s a none true to_ e = some (false, s, a, some (e, a), true) := by
  unfold strict_Reader_done.f; rw [if_neg h]
theorem num_f {s : ByteArray} (a e0 w m : Int) (hs : s.size ≤ 4611686018427387904) : Ev (fun k => strict_Reader_Num.f k s a (flt a e0) true w m) ((numR s a e0 w m).1, s, (numR s a e0 w m).2.1, flt (numR s a e0 w m).2.1 (numR s a e0 w m).2.2, true) := by
  unfold strict_Reader_Num.f numR
  by_cases h0 : e0 = 0
  · subst h0
    rw [flt0]
    refine Ev.bindc (goes0 s a) (Ev.pos rfl (Ev.bind (octet_get_f (s := s) a w (by omega)) ?_))
    by_cases h1 : (getS s a w).2.2 = 0
    · refine Ev.pos h1 (Ev.step (fun k => by simp only [strict_Reader_Num.j0]; rfl) ?_)
      by_cases h2 : (getS s a w).1 > m
      · have e : bigR (getS s a w) m = (0, 0, 3) := if_pos ⟨h1, h2⟩
        rw [e, pc_err (by decide)]
        refine Ev.pos (decide_eq_true h2) (Ev.bindc (done1 s a _ (by decide)) ?_)
        exact Ev.neg Bool.false_ne_true (Ev.ok rfl)
      · have e : bigR (getS s a w) m = getS s a w := if_neg (fun x => h2 x.2)
        rw [e, pc_ok h1, h1]
        refine Ev.neg (fun x => h2 (of_decide_eq_true x)) (Ev.bindc (done0 s a _) ?_)
        exact Ev.pos rfl (Ev.ok rfl)
    · refine Ev.neg h1 (Ev.step (fun k => by simp only [strict_Reader_Num.j0]; rfl) ?_)
      have e : bigR (getS s a w) m = getS s a w := if_neg (fun x => h1 x.1)
      rw [e, pc_err h1]
      refine Ev.neg (by decide) (Ev.bindc (done1 s a _ h1) ?_)
      refine Ev.neg Bool.false_ne_true (Ev.ok ?_)
      rw [flt1 h1]
  · rw [flt1 h0, pc_bad h0]
    refine Ev.bindc (goes1 s a _) (Ev.neg Bool.false_ne_true (Ev.ok ?_))
    rw [flt1 h0]
theorem row_f {s : ByteArray} (a e0 w m : Int) (hs : s.size ≤ 4611686018427387904) : Ev (fun k => strict_Reader_Row.f k s a (flt a e0) true w m) ((rowR s a e0 w m).1, s, (rowR s a e0 w m).2.1, flt (rowR s a e0 w m).2.1 (rowR s a e0 w m).2.2, true) := by
  unfold strict_Reader_Row.f rowR
  by_cases h0 : e0 = 0
  · subst h0
    rw [flt0]
    refine Ev.bindc (goes0 s a) (Ev.pos rfl (Ev.bind (octet_unrow_f a w m hs) ?_))
    by_cases h1 : (unrowS s a w m).2.2 = 0
    · rw [pc_ok h1, h1]
      exact Ev.bindc (done0 s a _) (Ev.pos rfl (Ev.ok rfl))
    · rw [pc_err h1]
      refine Ev.bindc (done1 s a _ h1) (Ev.neg Bool.false_ne_true (Ev.ok ?_))
      rw [flt1 h1]
  · rw [flt1 h0, pc_bad h0]
    refine Ev.bindc (goes1 s a _) (Ev.neg Bool.false_ne_true (Ev.ok ?_))
    rw [flt1 h0]
theorem end_f (s : ByteArray) (a e0 : Int) : strict_Reader_End.f s a (flt a e0) true = some (s, a, flt a (endR s a e0), true) := by
  unfold strict_Reader_End.f endR
  by_cases h0 : e0 = 0
  · subst h0
    rw [flt0, goes0, Option.bind_some, if_pos rfl]
    by_cases h1 : a < s.size
    · rw [if_pos h1, if_pos ⟨rfl, h1⟩, done1 s a _ (by decide)]; rfl
    · rw [if_neg h1, if_neg (fun x => h1 x.2)]; rfl
  · rw [flt1 h0, goes1, Option.bind_some, if_neg Bool.false_ne_true, if_neg (fun x => h0 x.1), flt1 h0]
theorem why_f (a e : Int) : strict_Why.f (flt a e) = some (e, if e = 0 then 0 else a) := by
  unfold strict_Why.f
  by_cases h : e = 0
  · subst h; rfl
  · rw [flt1 h, if_neg h]; rfl
theorem err_f (s : ByteArray) (a : Int) (f : Option (Int × Int)) : strict_Reader_Err.f s a f true = some (f, s, a, f, true) := rfl
end Go.Proofs.Ytakkhomjpflkbaa.Q
set_option linter.unusedVariables false
namespace Go.Proofs.Ytakkhomjpflkbaa.Q
open Go.RowKit Go.Proofs.YtakkhomjpflkbaaX Go.Proofs.YtakkhomjpflkbaaW.PrintWords Go.Proofs.YtakkhomjpflkbaaW.PrintLast Go.Proofs.YtakkhomjpflkbaaW.PrintMore
def serB (l : List UInt8) : Prop := 1 ≤ l.length ∧ l.length ≤ 16 ∧ l.getLast? ≠ some 45 ∧ okL 3 (runes l) = true
instance (l : List UInt8) : Decidable (serB l) := by unfold serB; infer_instance
def lt8 (a b : ByteArray) : Prop := Op.bytesLess a.toList b.toList = true
instance (a b : ByteArray) : Decidable (lt8 a b) := by unfold lt8; infer_instance
end Go.Proofs.Ytakkhomjpflkbaa.Q
set_option linter.unusedVariables false
namespace Go.Proofs.Ytakkhomjpflkbaa.Q
open Go.RowKit Go.Proofs.Ytakkhomjpflkbaa.F Go.Proofs.YtakkhomjpflkbaaX Go.Proofs.YtakkhomjpflkbaaW.PrintWords Go.Proofs.YtakkhomjpflkbaaW.PrintLast Go.Proofs.YtakkhomjpflkbaaW.PrintMore
theorem serial_check_f (s : ByteArray) (hs : s.size < 9223372036854775807) : serial_Check.f s = some (checkS s) := by
  unfold serial_Check.f serial_Fold.f checkS
  rw [if_pos hs, Option.bind_some]
  have e : (foldS s).1.toList = s.toList ↔ (foldS s).1 = s := by
    constructor
    · intro h
      rw [ByteArray.toList_eq, ByteArray.toList_eq] at h
      generalize (foldS s).1 = a at *
      cases a; cases s
      simpa [Array.toList_inj] using h
    · intro h; rw [h]
  by_cases h1 : (foldS s).2 = 0
  · rw [if_pos h1]
    by_cases h2 : (foldS s).1.toList = s.toList
    · rw [if_pos h2, if_pos ⟨h1, e.1 h2⟩]
    · rw [if_neg h2, if_neg (fun x => h2 (e.2 x.2))]
  · rw [if_neg h1, if_neg (fun x => h1 x.1)]
end Go.Proofs.Ytakkhomjpflkbaa.Q
set_option linter.unusedVariables false
namespace Go.Proofs.Ytakkhomjpflkbaa.Q
open Go.RowKit Go.Proofs.Ytakkhomjpflkbaa.F Go.Proofs.YtakkhomjpflkbaaX Go.Proofs.YtakkhomjpflkbaaW.PrintWords Go.Proofs.YtakkhomjpflkbaaW.PrintLast Go.Proofs.YtakkhomjpflkbaaW.PrintMore
def textR (s : ByteArray) (a e0 m : Int) : ByteArray × Int × Int := pc ⟨#[]⟩ a e0 (takeS s a m)
def serG (r : ByteArray × Int × Int) : ByteArray × Int × Int := if r.2.2 = 0 then (r.1, r.2.1, checkS r.1) else r
def serR (s : ByteArray) (a e0 : Int) : ByteArray × Int × Int := pc ⟨#[]⟩ a e0 (serG (takeS s a 16))
def flagG (r : Int × Int × Int) : Bool × Int × Int := if r.2.2 = 0 then (if r.1 > 1 then (false, 0, 5) else (r.1 == 1, r.2.1, 0)) else (false, 0, r.2.2)
def flagR (s : ByteArray) (a e0 : Int) : Bool × Int × Int := pc false a e0 (flagG (getS s a 1))
def sersL (s : ByteArray) : Nat → Int → Int → List ByteArray × Int × Int
  | 0, a, e => ([], a, e)
  | n + 1, a, e => ((serR s a e).1 :: (sersL s n (serR s a e).2.1 (serR s a e).2.2).1, (sersL s n (serR s a e).2.1 (serR s a e).2.2).2)
def sersG (q : List ByteArray × Int × Int) : List ByteArray × Int × Int := if q.2.2 = 0 then q else ([], q.2)
def sersR (s : ByteArray) (a e0 m : Int) : List ByteArray × Int × Int := sersG (sersL s (numR s a e0 1 m).1.toNat (numR s a e0 1 m).2.1 (numR s a e0 1 m).2.2)
theorem takeS_small {s : ByteArray} {a m : Int} : (takeS s a m).1.size ≤ s.size := by
  unfold takeS
  (repeat' split) <;> first | exact Nat.zero_le _ | (rw [ByteArray.size_extract]; omega)
theorem text_f {s : ByteArray} (a e0 m : Int) (hs : s.size ≤ 4611686018427387904) : Ev (fun k => strict_Reader_Text.f k s a (flt a e0) true m) ((textR s a e0 m).1, s, (textR s a e0 m).2.1, flt (textR s a e0 m).2.1 (textR s a e0 m).2.2, true) := by
  unfold strict_Reader_Text.f textR
  by_cases h0 : e0 = 0
  · subst h0
    rw [flt0]
    refine Ev.bindc (goes0 s a) (Ev.pos rfl (Ev.bind (octet_take_f (s := s) a m hs) ?_))
    by_cases h1 : (takeS s a m).2.2 = 0
    · rw [pc_ok h1, h1]
      exact Ev.bindc (done0 s a _) (Ev.pos rfl (Ev.ok rfl))
    · rw [pc_err h1]
      refine Ev.bindc (done1 s a _ h1) (Ev.neg Bool.false_ne_true (Ev.ok ?_))
      rw [flt1 h1]
  · rw [flt1 h0, pc_bad h0]
    refine Ev.bindc (goes1 s a _) (Ev.neg Bool.false_ne_true (Ev.ok ?_))
    rw [flt1 h0]
theorem serial_f {s : ByteArray} (a e0 : Int) (hs : s.size < 1099511627776) : Ev (fun k => strict_Reader_Serial.f k s a (flt a e0) true) ((serR s a e0).1, s, (serR s a e0).2.1, flt (serR s a e0).2.1 (serR s a e0).2.2, true) := by
  unfold strict_Reader_Serial.f serR
  by_cases h0 : e0 = 0
  · subst h0
    rw [flt0]
    refine Ev.bindc (goes0 s a) (Ev.pos rfl (Ev.bind (octet_take_f (s := s) a 16 (by omega)) ?_))
    by_cases h1 : (takeS s a 16).2.2 = 0
    · have hz := takeS_small (s := s) (a := a) (m := 16)
      have e : serG (takeS s a 16) = ((takeS s a 16).1, (takeS s a 16).2.1, checkS (takeS s a 16).1) := if_pos h1
      rw [e]
      refine Ev.pos h1 (Ev.bindc (serial_check_f _ (by omega)) ?_)
      by_cases h2 : checkS (takeS s a 16).1 = 0
      · rw [pc_ok h2, h2]
        exact Ev.bindc (done0 s a _) (Ev.pos rfl (Ev.ok rfl))
      · rw [pc_err h2]
        refine Ev.bindc (done1 s a _ h2) (Ev.neg Bool.false_ne_true (Ev.ok ?_))
        rw [flt1 h2]
    · have e : serG (takeS s a 16) = takeS s a 16 := if_neg h1
      rw [e, pc_err h1]
      refine Ev.neg h1 (Ev.bindc (done1 s a _ h1) (Ev.neg Bool.false_ne_true (Ev.ok ?_)))
      rw [flt1 h1]
  · rw [flt1 h0, pc_bad h0]
    refine Ev.bindc (goes1 s a _) (Ev.neg Bool.false_ne_true (Ev.ok ?_))
    rw [flt1 h0]
theorem flag_f {s : ByteArray} (a e0 : Int) (hs : s.size ≤ 4611686018427387904) : Ev (fun k => strict_Reader_Flag.f k s a (flt a e0) true) ((flagR s a e0).1, s, (flagR s a e0).2.1, flt (flagR s a e0).2.1 (flagR s a e0).2.2, true) := by
  unfold strict_Reader_Flag.f flagR
  by_cases h0 : e0 = 0
  · subst h0
    rw [flt0]
    refine Ev.bindc (goes0 s a) (Ev.pos rfl (Ev.bind (octet_get_f (s := s) a 1 (by omega)) ?_))
    by_cases h1 : (getS s a 1).2.2 = 0
    · refine Ev.pos h1 ?_
      by_cases h2 : (getS s a 1).1 > 1
      · have e : flagG (getS s a 1) = (false, 0, 5) := by unfold flagG; rw [if_pos h1, if_pos h2]
        rw [e, pc_err (by decide)]
        exact Ev.pos h2 (Ev.bindc (done1 s a _ (by decide)) (Ev.neg Bool.false_ne_true (Ev.ok rfl)))
      · have e : flagG (getS s a 1) = ((getS s a 1).1 == 1, (getS s a 1).2.1, 0) := by unfold flagG; rw [if_pos h1, if_neg h2]
        rw [e, pc_ok rfl, h1]
        exact Ev.neg h2 (Ev.bindc (done0 s a _) (Ev.pos rfl (Ev.ok rfl)))
    · have e : flagG (getS s a 1) = (false, 0, (getS s a 1).2.2) := if_neg h1
      rw [e, pc_err (show (false, (0 : Int), (getS s a 1).2.2).2.2 ≠ 0 from h1)]
      refine Ev.neg h1 (Ev.bindc (done1 s a _ h1) (Ev.neg Bool.false_ne_true (Ev.ok ?_)))
      rw [flt1 h1]
  · rw [flt1 h0, pc_bad h0]
    refine Ev.bindc (goes1 s a _) (Ev.neg Bool.false_ne_true (Ev.ok ?_))
    rw [flt1 h0]
theorem sersL_len {s : ByteArray} : ∀ (n : Nat) (a e : Int), (sersL s n a e).1.length = n
  | 0, a, e => rfl
  | n + 1, a, e => by
    simp only [sersL, List.length_cons]
    rw [sersL_len n]
def sersA (acc : List ByteArray) (q : List ByteArray × Int × Int) : List ByteArray × Int × Int := sersG (acc ++ q.1, q.2)
theorem serials_l0 {s : ByteArray} {N : Nat} (hs : s.size < 1099511627776) (hN : N < 1000000) (d : Nat) : ∀ (i : Nat) (acc : List ByteArray) (a e : Int), N - i = d → i ≤ N → acc.length ≤ i →
    Ev (fun k => strict_Reader_Serials.l0 k acc (N : Int) (i : Int) s a (flt a e) true) ((sersA acc (sersL s d a e)).1, s, (sersA acc (sersL s d a e)).2.1, flt (sersA acc (sersL s d a e)).2.1 (sersA acc (sersL s d a e)).2.2, true) := by
  induction d with
  | zero =>
    intro i acc a e hd hi ha
    refine Ev.step (fun k => by simp only [strict_Reader_Serials.l0]; rfl) ?_
    refine Ev.neg (by omega) ?_
    unfold sersA sersG
    simp only [sersL, List.append_nil]
    by_cases h : e = 0
    · subst h
      rw [flt0, if_pos rfl]
      exact Ev.bindc (goes0 s a) (Ev.pos rfl (Ev.ok rfl))
    · rw [flt1 h, if_neg h]
      refine Ev.bindc (goes1 s a _) (Ev.neg Bool.false_ne_true (Ev.ok ?_))
      rw [flt1 h]
  | succ d ih =>
    intro i acc a e hd hi ha
    refine Ev.step (fun k => by simp only [strict_Reader_Serials.l0]; rfl) ?_
    rw [wrap_eq (x := (i : Int) + 1) (by omega) (by omega)]
    refine Ev.pos (by omega) (Ev.bind (serial_f (s := s) a e hs) (Ev.pos (by omega) ?_))
    have hh := ih (i + 1) (acc ++ [(serR s a e).1]) (serR s a e).2.1 (serR s a e).2.2 (by omega) (by omega) (by simp only [List.length_append, List.length_cons, List.length_nil]; omega)
    have e1 : sersA (acc ++ [(serR s a e).1]) (sersL s d (serR s a e).2.1 (serR s a e).2.2) = sersA acc (sersL s (d + 1) a e) := by
      unfold sersA; simp only [sersL, List.append_assoc, List.cons_append, List.nil_append]
    rw [e1] at hh
    exact hh
theorem numR_nonneg {s : ByteArray} {a e0 m : Int} : 0 ≤ (numR s a e0 1 m).1 ∧ (numR s a e0 1 m).1 ≤ 255 := by
  unfold numR
  by_cases h0 : e0 = 0
  · subst h0
    by_cases h1 : (bigR (getS s a 1) m).2.2 = 0
    · rw [pc_ok h1]
      unfold bigR at h1 ⊢
      split
      · exact ⟨by decide, by decide⟩
      · rename_i h2
        rw [if_neg h2] at h1
        have e1 : getS s a 1 = ((getS s a 1).1, (getS s a 1).2.1, 0) := by
          rcases hg : getS s a 1 with ⟨x, y, z⟩
          rw [hg] at h1; simp only at h1; subst h1; rfl
        obtain ⟨w1, w2, w3, w4, w5, w6, w7⟩ := getS_ok e1
        refine ⟨w7, ?_⟩
        have := numAt_lt (s := s) (a := a.toNat) (w := 1) (by omega)
        rw [w5]
        show ((numAt s a.toNat (1 : Int).toNat : Nat) : Int) ≤ 255
        have e2 : (1 : Int).toNat = 1 := rfl
        rw [e2]; omega
    · rw [pc_err h1]; exact ⟨Int.le_refl 0, (by decide : (0 : Int) ≤ 255)⟩
  · rw [pc_bad h0]; exact ⟨Int.le_refl 0, (by decide : (0 : Int) ≤ 255)⟩
theorem serials_f {s : ByteArray} (a e0 m : Int) (hs : s.size < 1099511627776) : Ev (fun k => strict_Reader_Serials.f k s a (flt a e0) true m) ((sersR s a e0 m).1, s, (sersR s a e0 m).2.1, flt (sersR s a e0 m).2.1 (sersR s a e0 m).2.2, true) := by
  unfold strict_Reader_Serials.f sersR
  refine Ev.bind (num_f (s := s) a e0 1 m (by omega)) ?_
  have hn := numR_nonneg (s := s) (a := a) (e0 := e0) (m := m)
  obtain ⟨n, hn2⟩ := Int.eq_ofNat_of_zero_le hn.1
  have hh := serials_l0 (s := s) (N := n) hs (by omega) n 0 [] (numR s a e0 1 m).2.1 (numR s a e0 1 m).2.2 (by omega) (by omega) (by simp)
  have e1 : (numR s a e0 1 m).1.toNat = n := by rw [hn2]; rfl
  rw [e1]
  show Ev (fun k => strict_Reader_Serials.l0 k [] (numR s a e0 1 m).1 0 s (numR s a e0 1 m).2.1 (flt (numR s a e0 1 m).2.1 (numR s a e0 1 m).2.2) true) _
  rw [hn2]
  exact hh
theorem sersR_len {s : ByteArray} {a e m : Int} : (sersR s a e m).1.length ≤ 255 := by
  have hn := numR_nonneg (s := s) (a := a) (e0 := e) (m := m)
  unfold sersR sersG
  split
  · rw [sersL_len]; omega
  · exact Nat.zero_le _
theorem unrowL_len {s : ByteArray} {w : Int} : ∀ (n : Nat) (t : Int), (unrowL s w n t).1.length ≤ n
  | 0, t => Nat.zero_le _
  | n + 1, t => by
    have ih := unrowL_len (s := s) (w := w) n (getS s t w).2.1
    simp only [unrowL]
    split
    · split
      · simp only [List.length_cons]; omega
      · exact Nat.zero_le _
    · exact Nat.zero_le _
theorem rowR_len {s : ByteArray} {a e w m : Int} : (rowR s a e w m).1.length ≤ 1000 := by
  have h : (unrowS s a w m).1.length ≤ 1000 := by
    unfold unrowS
    split
    · exact Nat.zero_le _
    · split
      · split
        · exact Nat.zero_le _
        · rename_i h1
          have := unrowL_len (s := s) (w := w) (getS s a 2).1.toNat (getS s a 2).2.1
          omega
      · exact Nat.zero_le _
  unfold rowR pc
  split
  · split
    · exact h
    · exact Nat.zero_le _
  · exact Nat.zero_le _
end Go.Proofs.Ytakkhomjpflkbaa.Q
set_option linter.unusedVariables false
namespace Go.Proofs.Ytakkhomjpflkbaa.Pure
open Go.RowKit Go.Proofs.Ytakkhomjpflkbaa.F Go.Proofs.Ytakkhomjpflkbaa.Q Go.Proofs.YtakkhomjpflkbaaX Go.Proofs.YtakkhomjpflkbaaW.PrintWords Go.Proofs.YtakkhomjpflkbaaW.PrintLast Go.Proofs.YtakkhomjpflkbaaW.PrintMore
def Good (s out : ByteArray) (a e : Int) : Prop := e = 0 → 0 ≤ a ∧ a ≤ s.size ∧ out = s.extract 0 a.toNat
def StepOK (s : ByteArray) (a e : Int) (t : ByteArray) (a' e' : Int) : Prop := e' = 0 → e = 0 ∧ (t = s.extract a.toNat a'.toNat ∧ a ≤ a' ∧ a' ≤ s.size)
theorem Good.step {s out t : ByteArray} {a e a' e' : Int} (h : Good s out a e) (h1 : StepOK s a e t a' e') : Good s (out ++ t) a' e' := by
  intro he
  obtain ⟨h2, h3, h4, h5⟩ := h1 he
  obtain ⟨g1, g2, g3⟩ := h h2
  refine ⟨by omega, h5, ?_⟩
  rw [g3, h3, extract_append (by omega) (by omega)]
theorem pc_good {α : Type} {z : α} {a e0 : Int} {r : α × Int × Int} (h : (pc z a e0 r).2.2 = 0) : e0 = 0 ∧ r.2.2 = 0 ∧ pc z a e0 r = r := by
  by_cases h0 : e0 = 0
  · subst h0
    by_cases h1 : r.2.2 = 0
    · exact ⟨rfl, h1, pc_ok h1⟩
    · rw [pc_err h1] at h; exact absurd h h1
  · rw [pc_bad h0] at h; exact absurd h h0
theorem eta_ {α β : Type} {r : α × β × Int} (h : r.2.2 = 0) : r = (r.1, r.2.1, 0) := by
  rcases r with ⟨x, y, z⟩
  simp only at h
  subst h; rfl
theorem num_ok {s : ByteArray} {a e w m : Int} (h : (numR s a e w m).2.2 = 0) : e = 0 ∧ getS s a w = ((numR s a e w m).1, (numR s a e w m).2.1, 0) := by
  obtain ⟨h1, h2, h3⟩ := pc_good (r := bigR (getS s a w) m) h
  have hb : bigR (getS s a w) m = getS s a w := by
    unfold bigR at h2 ⊢
    split
    · rename_i x; rw [if_pos x] at h2; exact absurd h2 (by decide)
    · rfl
  refine ⟨h1, ?_⟩
  unfold numR
  rw [h3, hb]
  rw [hb] at h2
  exact eta_ h2
theorem num_max {s : ByteArray} {a e w m : Int} : (numR s a e w m).1 ≤ 9223372036854775807 := by
  by_cases h : (numR s a e w m).2.2 = 0
  · exact (getS_ok (num_ok h).2).2.2.2.2.2.1
  · have := (pc_stay (z := (0 : Int)) (a := a) (e0 := e) (r := bigR (getS s a w) m) h).1
    unfold numR
    rw [this]; decide
theorem num_step {s : ByteArray} {a e w m : Int} : StepOK s a e (putS (numR s a e w m).1 w).1 (numR s a e w m).2.1 (numR s a e w m).2.2 := by
  intro h
  obtain ⟨h1, h2⟩ := num_ok h
  obtain ⟨w1, w2, w3, w4, w5, w6, w7⟩ := getS_ok h2
  have hw := wide_nat w1
  refine ⟨h1, ?_, by omega, by omega⟩
  rw [put_of_get h2]
theorem text_step {s : ByteArray} {a e m : Int} : StepOK s a e (layS (textR s a e m).1).1 (textR s a e m).2.1 (textR s a e m).2.2 := by
  intro h
  obtain ⟨h1, h2, h3⟩ := pc_good (r := takeS s a m) h
  have e1 : textR s a e m = takeS s a m := h3
  obtain ⟨p1, p2, p3, p4⟩ := lay_of_take (eta_ h2)
  rw [e1]
  exact ⟨h1, by rw [p1], p2, p3⟩
theorem ser_ok {s : ByteArray} {a e : Int} (h : (serR s a e).2.2 = 0) : e = 0 ∧ takeS s a 16 = ((serR s a e).1, (serR s a e).2.1, 0) := by
  obtain ⟨h1, h2, h3⟩ := pc_good (r := serG (takeS s a 16)) h
  have e1 : serR s a e = serG (takeS s a 16) := h3
  refine ⟨h1, ?_⟩
  rw [e1]
  by_cases h4 : (takeS s a 16).2.2 = 0
  · unfold serG; rw [if_pos h4]; exact eta_ h4
  · unfold serG at h2; rw [if_neg h4] at h2; exact absurd h2 h4
theorem ser_step {s : ByteArray} {a e : Int} : StepOK s a e (layS (serR s a e).1).1 (serR s a e).2.1 (serR s a e).2.2 := by
  intro h
  obtain ⟨h1, h2⟩ := ser_ok h
  obtain ⟨p1, p2, p3, p4⟩ := lay_of_take h2
  exact ⟨h1, by rw [p1], p2, p3⟩
theorem row_step {s : ByteArray} {a e w m : Int} : StepOK s a e (rowS w (rowR s a e w m).1).1 (rowR s a e w m).2.1 (rowR s a e w m).2.2 := by
  intro h
  obtain ⟨h1, h2, h3⟩ := pc_good (r := unrowS s a w m) h
  have e1 : rowR s a e w m = unrowS s a w m := h3
  obtain ⟨p1, p2, p3, p4⟩ := row_of_unrow (eta_ h2)
  rw [e1]
  exact ⟨h1, by rw [p1], p2, p3⟩
def flagT (b : Bool) : ByteArray := bytesB [if b = true then 1 else 0]
theorem flag_step {s : ByteArray} {a e : Int} : StepOK s a e (flagT (flagR s a e).1) (flagR s a e).2.1 (flagR s a e).2.2 := by
  intro h
  obtain ⟨h1, h2, h3⟩ := pc_good (r := flagG (getS s a 1)) h
  have e1 : flagR s a e = flagG (getS s a 1) := h3
  rw [e1]
  by_cases h4 : (getS s a 1).2.2 = 0
  · by_cases h5 : (getS s a 1).1 > 1
    · unfold flagG at h2; rw [if_pos h4, if_pos h5] at h2; exact absurd h2 (by decide)
    · have e2 : flagG (getS s a 1) = ((getS s a 1).1 == 1, (getS s a 1).2.1, 0) := by unfold flagG; rw [if_pos h4, if_neg h5]
      rw [e2]
      have hg := eta_ h4
      obtain ⟨w1, w2, w3, w4, w5, w6, w7⟩ := getS_ok hg
      have hp := put_of_get hg
      refine ⟨h1, ?_, by show a ≤ (getS s a 1).2.1; omega, by show (getS s a 1).2.1 ≤ s.size; omega⟩
      show flagT ((getS s a 1).1 == 1) = s.extract a.toNat (getS s a 1).2.1.toNat
      have h01 : (getS s a 1).1 = 0 ∨ (getS s a 1).1 = 1 := by omega
      have e3 : (s.extract a.toNat (getS s a 1).2.1.toNat, (0 : Int)) = putS (getS s a 1).1 1 := hp.symm
      have e4 : s.extract a.toNat (getS s a 1).2.1.toNat = (putS (getS s a 1).1 1).1 := by rw [← e3]
      rw [e4]
      rcases h01 with h6 | h6
      · rw [h6]; rfl
      · rw [h6]; rfl
  · unfold flagG at h2; rw [if_neg h4] at h2; exact absurd h2 h4
def laysL : List ByteArray → ByteArray
  | [] => ⟨#[]⟩
  | x :: xs => (layS x).1 ++ laysL xs
theorem append_empty' (b : ByteArray) : b ++ (⟨#[]⟩ : ByteArray) = b := by
  apply ext_list; simp only [data_append, List.append_nil]
theorem sers_ok {s : ByteArray} : ∀ (n : Nat) (a e : Int), (sersL s n a e).2.2 = 0 → e = 0 ∧ (0 ≤ a → a ≤ s.size → laysL (sersL s n a e).1 = s.extract a.toNat (sersL s n a e).2.1.toNat ∧ a ≤ (sersL s n a e).2.1 ∧ (sersL s n a e).2.1 ≤ s.size)
  | 0, a, e, h => ⟨h, fun h0 h1 => ⟨by simp only [sersL, laysL]; rw [extract_self], by simp only [sersL]; omega, by simp only [sersL]; exact h1⟩⟩
  | n + 1, a, e, h => by
    simp only [sersL] at h ⊢
    obtain ⟨i1, i2⟩ := sers_ok n (serR s a e).2.1 (serR s a e).2.2 h
    obtain ⟨j1, j2, j3, j4⟩ := ser_step (s := s) (a := a) (e := e) i1
    refine ⟨j1, fun h0 h1 => ?_⟩
    obtain ⟨k1, k2, k3⟩ := i2 (by omega) j4
    refine ⟨?_, by omega, k3⟩
    simp only [laysL]
    rw [k1, j2, extract_append (by omega) (by omega)]
theorem sers_step {s : ByteArray} {a e m : Int} : StepOK s a e ((putS ((sersR s a e m).1.length : Int) 1).1 ++ laysL (sersR s a e m).1) (sersR s a e m).2.1 (sersR s a e m).2.2 := by
  intro h
  have hs : (sersL s (numR s a e 1 m).1.toNat (numR s a e 1 m).2.1 (numR s a e 1 m).2.2).2.2 = 0 := by
    unfold sersR sersG at h
    split at h
    · assumption
    · exact h
  have e1 : sersR s a e m = sersL s (numR s a e 1 m).1.toNat (numR s a e 1 m).2.1 (numR s a e 1 m).2.2 := by
    unfold sersR sersG; rw [if_pos hs]
  obtain ⟨i1, i2⟩ := sers_ok _ _ _ hs
  obtain ⟨j1, j2, j3, j4⟩ := num_step (s := s) (a := a) (e := e) (w := 1) (m := m) i1
  obtain ⟨_, hg⟩ := num_ok i1
  obtain ⟨w1, w2, w3, w4, w5, w6, w7⟩ := getS_ok hg
  obtain ⟨k1, k2, k3⟩ := i2 (by omega) j4
  rw [e1]
  refine ⟨j1, ?_, by omega, k3⟩
  rw [sersL_len, Int.toNat_of_nonneg w7, k1, j2, extract_append (by omega) (by omega)]
theorem lay_small {t : ByteArray} : (layS t).1.size ≤ 2 + t.size := by
  unfold layS
  split
  · exact Nat.zero_le _
  · simp only [ByteArray.size_append, bytesB_size, beL_length]; omega
theorem row_small {w : Int} {l : List Int} : (rowS w l).1.size ≤ 2 + 8 * l.length := by
  have h : ∀ l : List Int, (rowL w l).1.size ≤ 8 * l.length := by
    intro l
    induction l with
    | nil => exact Nat.zero_le _
    | cons x xs ih =>
      have h2 := put_size (n := x) (w := w)
      simp only [rowL, List.length_cons]
      split
      · split
        · simp only [ByteArray.size_append]; omega
        · exact Nat.zero_le _
      · exact Nat.zero_le _
  have := h l
  unfold rowS
  split
  · split
    · exact Nat.zero_le _
    · split
      · simp only [ByteArray.size_append, bytesB_size, beL_length]; omega
      · exact Nat.zero_le _
  · exact Nat.zero_le _
theorem text_small {s : ByteArray} {a e m : Int} : (textR s a e m).1.size ≤ s.size := by
  unfold textR pc
  (repeat' split) <;> first | exact takeS_small | exact Nat.zero_le _
theorem ser_small {s : ByteArray} {a e : Int} : (serR s a e).1.size ≤ s.size := by
  unfold serR serG pc
  (repeat' split) <;> first | exact takeS_small | exact Nat.zero_le _
theorem sersL_small {s : ByteArray} : ∀ (n : Nat) (a e : Int), ∀ x ∈ (sersL s n a e).1, x.size ≤ s.size
  | 0, a, e => by simp [sersL]
  | n + 1, a, e => by
    intro x hx
    simp only [sersL] at hx
    rcases List.mem_cons.1 hx with rfl | hx
    · exact ser_small
    · exact sersL_small n _ _ x hx
theorem sersR_small {s : ByteArray} {a e m : Int} : ∀ x ∈ (sersR s a e m).1, x.size ≤ s.size := by
  unfold sersR sersG
  split
  · exact sersL_small _ _ _
  · intro x hx; cases hx
theorem row_max {s : ByteArray} {a e w m : Int} : ∀ x ∈ (rowR s a e w m).1, x ≤ 9223372036854775807 := by
  have hl : ∀ (n : Nat) (t : Int), ∀ x ∈ (unrowL s w n t).1, x ≤ 9223372036854775807 := by
    intro n
    induction n with
    | zero => intro t x hx; simp [unrowL] at hx
    | succ n ih =>
      intro t x hx
      simp only [unrowL] at hx
      split at hx
      · rename_i h
        split at hx
        · rcases List.mem_cons.1 hx with rfl | hx
          · exact (getS_ok (eta_ h)).2.2.2.2.2.1
          · exact ih _ x hx
        · cases hx
      · cases hx
  have hu : ∀ x ∈ (unrowS s a w m).1, x ≤ 9223372036854775807 := by
    intro x hx
    unfold unrowS at hx
    (repeat' split at hx) <;> first | cases hx | exact hl _ _ x hx
  intro x hx
  unfold rowR pc at hx
  (repeat' split at hx) <;> first | cases hx | exact hu x hx
theorem flag_text (b : Bool) : octet_Flag.f b = some (flagT b) := by
  cases b <;> rfl
theorem whole_l1 {s : ByteArray} {l : List S51} {out : ByteArray} {x7 : Int} {ms : List ByteArray} {a e : Int} (hm : ms.length ≤ 255) (hs : s.size ≤ 2000) (hx : ∀ x ∈ ms, x.size ≤ 2000) (ho : out.size ≤ 100000000) (hx7 : 0 ≤ x7 ∧ x7 < 100) (d : Nat) : ∀ (i : Nat) (t : ByteArray), ms.length - i = d → i ≤ ms.length → t.size ≤ 1 + 2002 * i →
    Ev (fun k => backhaullaw06_StrictWhole.l0 k s l (out ++ (t ++ laysL (ms.drop i))) (x7 + 1) s a (flt a e) true) true → Ev (fun k => backhaullaw06_StrictWhole.l1 k s l out x7 t ms (i : Int) s a (flt a e) true) true := by
  induction d with
  | zero =>
    intro i t hd hi ht h
    refine Ev.step (fun k => by simp only [backhaullaw06_StrictWhole.l1]; rfl) ?_
    rw [wrap_eq (x := x7 + 1) (by omega) (by omega)]
    rw [List.drop_eq_nil_of_le (by omega)] at h
    simp only [laysL] at h
    rw [append_empty'] at h
    exact Q.Ev.neg (by omega) (Q.Ev.pos (by omega) h)
  | succ d ih =>
    intro i t hd hi ht h
    have hlt : i < ms.length := by omega
    refine Ev.step (fun k => by simp only [backhaullaw06_StrictWhole.l1]; rfl) ?_
    rw [wrap_eq (x := (i : Int) + 1) (by omega) (by omega), rdOf_nat hlt]
    have hz := hx _ (List.getElem_mem hlt)
    have hl := lay_small (t := ms[i])
    refine Q.Ev.pos (by omega) (Q.Ev.pos (by omega) (Q.Ev.bindc (ref05_lay_f (by omega)) (Q.Ev.pos (by omega) ?_)))
    refine ih (i + 1) _ (by omega) (by omega) (by rw [ByteArray.size_append]; omega) ?_
    rw [drop_cons hlt] at h
    simp only [laysL] at h
    rw [← ByteArray.append_assoc (a := t)] at h
    exact h
theorem laysL_small : ∀ ms : List ByteArray, (∀ x ∈ ms, x.size ≤ 2000) → (laysL ms).size ≤ 2002 * ms.length
  | [], _ => Nat.zero_le _
  | x :: xs, h => by
    have h1 := laysL_small xs (fun y hy => h y (List.mem_cons_of_mem _ hy))
    have h2 := lay_small (t := x)
    have h3 := h x List.mem_cons_self
    simp only [laysL, ByteArray.size_append, List.length_cons]
    omega
theorem whole_l0 {s : ByteArray} {l : List S51} (hs : s.size ≤ 2000) (hl : l.length ≤ 40) (d : Nat) : ∀ (i : Nat) (out : ByteArray) (a e : Int), l.length - i = d → i ≤ l.length → out.size ≤ 1000000 * i → Good s out a e → Ev (fun k => backhaullaw06_StrictWhole.l0 k s l out (i : Int) s a (flt a e) true) true := by
  induction d with
  | zero =>
    intro i out a e hd hi ho hg
    refine Ev.step (fun k => by simp only [backhaullaw06_StrictWhole.l0]; rfl) (Q.Ev.neg (by omega) ?_)
    refine Q.Ev.bindc (end_f s a e) (Q.Ev.bindc (err_f s a _) (Q.Ev.bindc (why_f a _) (Q.Ev.ite (fun h => ?_) (fun h => Q.Ev.const rfl))))
    have h' : endR s a e = 0 := h
    have he : e = 0 := by
      unfold endR at h'
      split at h'
      · exact absurd h' (by decide)
      · exact h'
    obtain ⟨g1, g2, g3⟩ := hg he
    have ha : a = s.size := by
      unfold endR at h'
      split at h'
      · exact absurd h' (by decide)
      · rename_i x
        have : ¬ a < s.size := fun y => x ⟨he, y⟩
        omega
    refine Q.Ev.pos ?_ (Q.Ev.const rfl)
    congr 1
    rw [g3, ha]
    apply ext_list
    rw [data_extract, Int.toNat_natCast, ← size_data s, List.take_length, List.drop_zero]
  | succ d ih =>
    intro i out a e hd hi ho hg
    have hlt : i < l.length := by omega
    have go : ∀ (t : ByteArray) (a' e' : Int), t.size ≤ 1000000 → StepOK s a e t a' e' → Ev (fun k => backhaullaw06_StrictWhole.l0 k s l (out ++ t) ((i : Int) + 1) s a' (flt a' e') true) true := by
      intro t a' e' ht hst
      exact ih (i + 1) (out ++ t) a' e' (by omega) (by omega) (by rw [ByteArray.size_append]; omega) (hg.step hst)
    refine Ev.step (fun k => by simp only [backhaullaw06_StrictWhole.l0]; rfl) (Q.Ev.pos (by omega) (Q.Ev.pos (by omega) ?_))
    rw [wrap_eq (x := (i : Int) + 1) (by omega) (by omega)]
    generalize (rd_T51 l (i : Int)).f0 = kd
    generalize (rd_T51 l (i : Int)).f1 = w
    generalize (rd_T51 l (i : Int)).f2 = m
    refine Q.Ev.ite (fun k0 => ?_) (fun k0 => Q.Ev.ite (fun k1 => ?_) (fun k1 => Q.Ev.ite (fun k2 => ?_) (fun k2 => Q.Ev.ite (fun k3 => ?_) (fun k3 => Q.Ev.ite (fun k4 => ?_) (fun k4 => Q.Ev.ite (fun k5 => ?_) (fun k5 => ?_))))))
    · have hp := put_size (n := (numR s a e w m).1) (w := w)
      exact Ev.bind (num_f (s := s) a e w m (by omega)) (Ev.bind (octet_put_f (n := (numR s a e w m).1) w num_max) (Q.Ev.pos (show out.size + (putS (numR s a e w m).1 w).1.size ≤ 9223372036854775807 by omega) (go _ _ _ (by omega) num_step)))
    · have h1 := text_small (s := s) (a := a) (e := e) (m := m)
      have h2 := lay_small (t := (textR s a e m).1)
      exact Ev.bind (text_f (s := s) a e m (by omega)) (Ev.bind (octet_lay_f (t := (textR s a e m).1) (by omega)) (Q.Ev.pos (show out.size + (layS (textR s a e m).1).1.size ≤ 9223372036854775807 by omega) (go _ _ _ (by omega) text_step)))
    · have h1 := ser_small (s := s) (a := a) (e := e)
      have h2 := lay_small (t := (serR s a e).1)
      exact Ev.bind (serial_f (s := s) a e (by omega)) (Ev.bind (octet_lay_f (t := (serR s a e).1) (by omega)) (Q.Ev.pos (show out.size + (layS (serR s a e).1).1.size ≤ 9223372036854775807 by omega) (go _ _ _ (by omega) ser_step)))
    · have h1 := rowR_len (s := s) (a := a) (e := e) (w := w) (m := m)
      have h2 := row_small (w := w) (l := (rowR s a e w m).1)
      exact Ev.bind (row_f (s := s) a e w m (by omega)) (Ev.bind (octet_row_f (l := (rowR s a e w m).1) w row_max) (Q.Ev.pos (show out.size + (rowS w (rowR s a e w m).1).1.size ≤ 9223372036854775807 by omega) (go _ _ _ (by omega) row_step)))
    · have h1 := sersR_len (s := s) (a := a) (e := e) (m := m)
      have h2 : ∀ x ∈ (sersR s a e m).1, x.size ≤ 2000 := fun x hx => by have := sersR_small (s := s) (a := a) (e := e) (m := m) x hx; omega
      have h3 := laysL_small _ h2
      have h4 : (putS ((sersR s a e m).1.length : Int) 1).1.size ≤ 1 := by
        unfold putS
        split
        · split
          · show (bytesB _).size ≤ 1
            rw [bytesB_size, beL_length]; exact Nat.le_refl _
          · exact Nat.zero_le _
        · exact Nat.zero_le _
      refine Ev.bind (serials_f (s := s) a e m (by omega)) (Ev.bind (octet_put_f (n := ((sersR s a e m).1.length : Int)) 1 (by omega)) ?_)
      refine whole_l1 (x7 := (i : Int)) h1 hs h2 (by omega) (by omega) (sersR s a e m).1.length 0 _ (by omega) (by omega) (by omega) ?_
      rw [List.drop_zero]
      exact go _ _ _ (by rw [ByteArray.size_append]; omega) sers_step
    · refine Ev.bind (flag_f (s := s) a e (by omega)) (Q.Ev.bindc (flag_text _) (Q.Ev.pos ?_ (go _ _ _ ?_ flag_step)))
      · show out.size + (bytesB _).size ≤ _
        rw [bytesB_size]; simp only [List.length_cons, List.length_nil]; omega
      · show (bytesB _).size ≤ _
        rw [bytesB_size]; simp only [List.length_cons, List.length_nil]; omega
    · refine Q.Ev.pos (by omega) ?_
      refine ih (i + 1) _ a e (by omega) (by omega) (by rw [append_empty']; omega) ?_
      rw [append_empty']; exact hg
theorem StrictWhole : backhaullaw06_StrictWhole.Pure := by
  intro s l hs hl
  refine Ev.rounds (r := true) ?_
  unfold backhaullaw06_StrictWhole.f
  have aw : Ev (fun k => backhaullaw06_StrictWhole.j0 k s l true) true := Ev.step (fun k => by simp only [backhaullaw06_StrictWhole.j0]; rfl) (Q.Ev.pos trivial (Q.Ev.const rfl))
  refine Q.Ev.ite (fun _ => aw) (fun h => ?_)
  by_cases h1 : (l.length : Int) > 40
  · rw [decide_eq_true h1]; exact aw
  · rw [decide_eq_false h1]
    refine Ev.step (fun k => by simp only [backhaullaw06_StrictWhole.j0]; rfl) (Q.Ev.neg Bool.false_ne_true (Q.Ev.bindc (show strict_New.f s = some (s, 0, none, true) from rfl) ?_))
    refine whole_l0 (s := s) (l := l) (by omega) (by omega) l.length 0 ⟨#[]⟩ 0 0 (by omega) (by omega) (Nat.zero_le _) ?_
    intro _
    refine ⟨by decide, by omega, ?_⟩
    rw [show (0 : Int).toNat = 0 from rfl, extract_self]
end Go.Proofs.Ytakkhomjpflkbaa.Pure
set_option linter.unusedVariables false
set_option linter.unusedSimpArgs false
namespace Go.Proofs.YtakkhomjpflkbaaX
open Go.RowKit Go.Proofs.YtakkhomjpflkbaaW.PrintWords Go.Proofs.YtakkhomjpflkbaaW.PrintLast Go.Proofs.YtakkhomjpflkbaaW.PrintMore
def Opens {α : Type} (P : Program) (t : TypeId) (k : Kd α) (Ok : α → Prop) : Prop :=
  ∀ {H : Type} {enc : TypeId × Value → H} {w : World} {base : Nat} {spare : Nat → Bool} {held : Bool} {fuel : Nat} {cs : List Value} {x : DataW H × List MemPlace},
    DataW.trod enc P w base spare held fuel t cs = some x → ∃ a : α, k.K w a cs ∧ Ok a
theorem Opens.int {P : Program} {t : TypeId} {k : IntKind} (ht : P.underlying t = some (.int k)) : Opens P t (Kd.int k) (fun a => (Lit.int k a).wf = true) := by
  intro H enc w base spare held fuel cs x h
  obtain ⟨n, rfl, _, hw⟩ := DataW.trod_int ht h
  exact ⟨n, rfl, hw⟩
theorem Opens.bool {P : Program} {t : TypeId} (ht : P.underlying t = some .bool) : Opens P t Kd.bool (fun _ => True) := by
  intro H enc w base spare held fuel cs x h
  obtain ⟨n, rfl, _⟩ := DataW.trod_bool ht h
  exact ⟨n, rfl, trivial⟩
theorem Opens.string {P : Program} {t : TypeId} (ht : P.underlying t = some .string) : Opens P t Kd.string (fun a => a.size ≤ maxLen) := by
  intro H enc w base spare held fuel cs x h
  obtain ⟨s, rfl, _, hw⟩ := DataW.trod_string ht h
  exact ⟨s, rfl, hw⟩
theorem list_of {α : Type} {p : Nat → α → Prop} : ∀ n, (∀ i, i < n → ∃ a, p i a) → ∃ xs : List α, xs.length = n ∧ ∀ i a, xs[i]? = some a → p i a
  | 0, _ => ⟨[], rfl, fun i a h => by simp at h⟩
  | n + 1, h => by
    obtain ⟨xs, hl, hx⟩ := list_of n (fun i hi => h i (by omega))
    obtain ⟨a, ha⟩ := h n (by omega)
    refine ⟨xs ++ [a], by simp [hl], fun i b hb => ?_⟩
    rcases Nat.lt_or_ge i xs.length with h1 | h1
    · rw [List.getElem?_append_left h1] at hb
      exact hx i b hb
    · rw [List.getElem?_append_right h1] at hb
      have h2 : i - xs.length = 0 := by
        have := (List.getElem?_eq_some_iff.1 hb).1
        simp at this; omega
      rw [h2] at hb
      have : a = b := by simpa using hb
      subst this
      have : i = n := by omega
      rw [this]; exact ha
theorem Opens.slice {α : Type} {P : Program} {t e : TypeId} {k : Kd α} {Ok : α → Prop} (ht : P.underlying t = some (.slice e)) (hc : P.cellsOf e = k.sz) (h : Opens P e k Ok) :
    Opens P t (Kd.slice e k) (fun xs => xs.length ≤ maxLen ∧ ∀ x ∈ xs, Ok x) := by
  intro H enc w base spare held fuel cs x hx
  rcases Go.Deep.open_slice ht hx with ⟨rfl, rfl⟩ | ⟨a, len, cap, m, n, D, Pl, rfl, hb, hl, hm, hmm, rfl, hel⟩
  · exact ⟨[], ⟨none, 0, rfl, by simp, rfl, by simp, fun h => absurd h (by simp)⟩, by simp [maxLen], by simp⟩
  · have hlm : len ≤ m := by rw [hmm]; split <;> omega
    obtain ⟨xs, hlen, hxs⟩ := list_of (p := fun i (a' : α) => ∃ cs', w.cells? base (a.add (i * P.cellsOf e)) (P.cellsOf e) = some cs' ∧ k.K w a' cs' ∧ Ok a') len (fun i hi => by
      obtain ⟨cs', h1, h2⟩ := hel i (by omega)
      obtain ⟨a', h3, h4⟩ := h h2
      exact ⟨a', cs', h1, h3, h4⟩)
    have hlm2 : len ≤ maxLen := by omega
    refine ⟨xs, ⟨some a, cap, by rw [hlen], by rw [hlen]; exact hl, rfl, by rw [hlen]; simpa [maxLen] using hlm2, fun _ => ⟨a, rfl, fun j p hj => ?_⟩⟩, by rw [hlen]; exact hlm2, fun y hy => ?_⟩
    · obtain ⟨cs', h1, h2, _⟩ := hxs j p hj
      refine ⟨cs', k.K_len h2, h2, fun i u hu => ?_⟩
      obtain ⟨_, _, h3⟩ := World.cells?_some h1
      have h4 := h3 i (by have := (List.getElem?_eq_some_iff.1 hu).1; have := k.K_len h2; omega)
      rw [← hc, ← Go.Proofs.YtakkhomjpflkbaaW.PrintWords.add_add]
      rw [← hu]; exact h4
    · obtain ⟨i, hi, rfl⟩ := List.mem_iff_getElem.1 hy
      obtain ⟨_, _, _, h3⟩ := hxs i _ (List.getElem?_eq_getElem hi)
      exact h3
theorem field_reads {H : Type} {enc : TypeId × Value → H} {P : Program} {w : World} {base : Nat} {spare : Nat → Bool} {held : Bool} {fuel : Nat} {t : TypeId} {cs : List Value} {x : DataW H × List MemPlace} {fs : Array Field}
    (ht : P.underlying t = some (.struct fs)) (h : DataW.trod enc P w base spare held fuel t cs = some x) :
    cs.length = P.cellsOf t ∧ ∃ n, ∀ (i : Nat) (f : Field), fs[i]? = some f → ∃ y, DataW.trod enc P w base spare held n f.type ((cs.drop f.offset).take (P.cellsOf f.type)) = some y := by
  obtain ⟨xs, n, _, _, hl, hx, hf⟩ := DataW.trod_struct ht h
  refine ⟨hl, n, fun i f hif => ?_⟩
  rw [hf i f hif]
  have hi := (Array.getElem?_eq_some_iff.1 hif).1
  exact ⟨_, List.getElem?_eq_getElem (by rw [hx]; exact hi)⟩
theorem slice_cells {α : Type} {k : Kd α} {e : Nat} {w : World} {xs : List α} {v : Value} (h : (Kd.slice e k).K w xs [v]) : ∃ A c, v = .slice A xs.length c ∧ xs.length ≤ c ∧ k.C w A xs.length xs := by
  obtain ⟨A, c, he, hl, hc⟩ := h
  injection he with he
  exact ⟨A, c, he, hl, hc⟩
theorem band {a b : Bool} (h1 : a = true) (h2 : b = true) : (a && b) = true := by rw [h1, h2]; rfl
theorem mayEnter_of {P : Program} {L c : List Char} {rest : List (List Char)} (h : P.initOrder.toList = L) (h1 : behindMainWord (wordsSigns L) = c :: rest) (h2 : ((stripLifts liftWords (c :: rest)).2.head? == some "cut".toList) = true) (h3 : P.laysLater = false) (h4 : P.bearsReflect = false) (h5 : (stripLifts liftWords (c :: rest)).1 = []) (h6 : P.doorFits [] = true) : P.mayEnter = true := by
  unfold Program.mayEnter
  rw [h, h1]
  dsimp only
  rw [h2, h3, h4, h5, h6]
  simp
theorem make_of {P : Program} {L : List Char} {rest : List (List Char)} (h : P.initOrder.toList = L) (h1 : behindMainWord (wordsSigns L) = "cut".toList :: rest) : P.make = some .cut := by
  unfold Program.make
  rw [h, h1]
  dsimp only
  rw [if_neg (by decide), if_pos (by simp)]
end Go.Proofs.YtakkhomjpflkbaaX
set_option maxRecDepth 10000
namespace Go.Proofs.Ytakkhomjpflkbaa.Join
open Go.Proofs.YtakkhomjpflkbaaX
def initSigns : List Char := ['h', 'a', 'r', 'n', 'e', 's', 's', ' ', '8', '5', '1', '9', '2', 'd', '7', '1', '7', '6', 'f', 'f', '5', '6', '1', '0', '2', '1', 'b', '4', '6', '6', '4', 'b', '6', 'a', '6', '7', 'a', '6', '8', '3', '4', '1', 'a', '9', 'f', 'e', '4', 'b', '6', 'c', 'b', '5', '5', '7', 'f', '5', 'c', 'e', '1', '9', '0', '4', '4', '3', 'f', '0', '1', 'b', '7', '6', 'a', '6', ' ', 'c', 'u', 't', ' ', 'a', 't', ' ', 'b', 'a', 'c', 'k', 'h', 'a', 'u', 'l', '/', 'b', 'a', 'c', 'k', 'h', 'a', 'u', 'l', 'l', 'a', 'w', '3', '1', '.', 'R', 'e', 'p', 'l', 'y', 'C', 'o', 'd', 'e', 's', ' ', 'b', 'a', 'c', 'k', 'h', 'a', 'u', 'l', '/', 'b', 'a', 'c', 'k', 'h', 'a', 'u', 'l', 'l', 'a', 'w', '3', '1', '.', 'R', 'e', 'p', 'l', 'y', 'B', 'a', 'c', 'k', ' ', 'b', 'a', 'c', 'k', 'h', 'a', 'u', 'l', '/', 'b', 'a', 'c', 'k', 'h', 'a', 'u', 'l', 'l', 'a', 'w', '3', '1', '.', 'R', 'e', 'p', 'l', 'y', 'O', 'n', 'l', 'y', ' ', 'b', 'a', 'c', 'k', 'h', 'a', 'u', 'l', '/', 'b', 'a', 'c', 'k', 'h', 'a', 'u', 'l', 'l', 'a', 'w', '0', '6', '.', 'S', 't', 'r', 'i', 'c', 't', 'R', 'e', 'a', 'd', 's', ' ', 'b', 'a', 'c', 'k', 'h', 'a', 'u', 'l', '/', 'b', 'a', 'c', 'k', 'h', 'a', 'u', 'l', 'l', 'a', 'w', '0', '6', '.', 'S', 't', 'r', 'i', 'c', 't', 'F', 'i', 'r', 's', 't', ' ', 'b', 'a', 'c', 'k', 'h', 'a', 'u', 'l', '/', 'b', 'a', 'c', 'k', 'h', 'a', 'u', 'l', 'l', 'a', 'w', '2', '7', '.', 'R', 'm', 'a', 'M', 'a', 'k', 'e', 's', ' ', 'b', 'a', 'c', 'k', 'h', 'a', 'u', 'l', '/', 'b', 'a', 'c', 'k', 'h', 'a', 'u', 'l', 'l', 'a', 'w', '2', '7', '.', 'R', 'm', 'a', 'M', 'o', 'v', 'e', 's', ' ', 'b', 'a', 'c', 'k', 'h', 'a', 'u', 'l', '/', 'b', 'a', 'c', 'k', 'h', 'a', 'u', 'l', 'l', 'a', 'w', '2', '7', '.', 'R', 'm', 'a', 'T', 'u', 'r', 'n', 's', ' ', 'b', 'a', 'c', 'k', 'h', 'a', 'u', 'l', '/', 'b', 'a', 'c', 'k', 'h', 'a', 'u', 'l', 'l', 'a', 'w', '2', '7', '.', 'R', 'm', 'a', 'B', 'o', 'u', 'n', 'd', 's', ' ', 'b', 'a', 'c', 'k', 'h', 'a', 'u', 'l', '/', 'b', 'a', 'c', 'k', 'h', 'a', 'u', 'l', 'l', 'a', 'w', '0', '6', '.', 'S', 't', 'r', 'i', 'c', 't', 'W', 'h', 'o', 'l', 'e', ' ', 'b', 'a', 'c', 'k', 'h', 'a', 'u', 'l', '/', 'b', 'a', 'c', 'k', 'h', 'a', 'u', 'l', 'l', 'a', 'w', '1', '4', '.', 'I', 'n', 'd', 'e', 'x', 'T', 'e', 'l', 'l', 's', ' ', 'b', 'a', 'c', 'k', 'h', 'a', 'u', 'l', '/', 'b', 'a', 'c', 'k', 'h', 'a', 'u', 'l', 'l', 'a', 'w', '1', '4', '.', 'I', 'n', 'd', 'e', 'x', 'A', 'd', 'd', 's', ' ', 'b', 'a', 'c', 'k', 'h', 'a', 'u', 'l', '/', 'b', 'a', 'c', 'k', 'h', 'a', 'u', 'l', 'l', 'a', 'w', '1', '4', '.', 'I', 'n', 'd', 'e', 'x', 'T', 'u', 'r', 'n', 's', ' ', 'b', 'a', 'c', 'k', 'h', 'a', 'u', 'l', '/', 'b', 'a', 'c', 'k', 'h', 'a', 'u', 'l', 'l', 'a', 'w', '1', '4', '.', 'I', 'n', 'd', 'e', 'x', 'W', 'h', 'o', 'l', 'e', ' ', 'b', 'a', 'c', 'k', 'h', 'a', 'u', 'l', '/', 'b', 'a', 'c', 'k', 'h', 'a', 'u', 'l', 'l', 'a', 'w', '1', '5', '.', 'B', 'a', 't', 'c', 'h', 'A', 'p', 'p', 'l', 'i', 'e', 's', ' ', 'b', 'a', 'c', 'k', 'h', 'a', 'u', 'l', '/', 'b', 'a', 'c', 'k', 'h', 'a', 'u', 'l', 'l', 'a', 'w', '1', '5', '.', 'B', 'a', 't', 'c', 'h', 'C', 'o', 'd', 'e', 's', ' ', 'b', 'a', 'c', 'k', 'h', 'a', 'u', 'l', '/', 'b', 'a', 'c', 'k', 'h', 'a', 'u', 'l', 'l', 'a', 'w', '1', '5', '.', 'B', 'a', 't', 'c', 'h', 'W', 'h', 'o', 'l', 'e', ' ', 'b', 'a', 'c', 'k', 'h', 'a', 'u', 'l', '/', 'b', 'a', 'c', 'k', 'h', 'a', 'u', 'l', 'l', 'a', 'w', '1', '5', '.', 'B', 'a', 't', 'c', 'h', 'U', 'n', 'd', 'o', ' ', 'b', 'a', 'c', 'k', 'h', 'a', 'u', 'l', '/', 'b', 'a', 'c', 'k', 'h', 'a', 'u', 'l', 'l', 'a', 'w', '1', '5', '.', 'B', 'a', 't', 'c', 'h', 'D', 'i', 'f', 'f', ' ', 'b', 'a', 'c', 'k', 'h', 'a', 'u', 'l', '/', 'b', 'a', 'c', 'k', 'h', 'a', 'u', 'l', 'l', 'a', 'w', '3', '0', '.', 'C', 'm', 'd', 'B', 'a', 'c', 'k', ' ', 'b', 'a', 'c', 'k', 'h', 'a', 'u', 'l', '/', 'b', 'a', 'c', 'k', 'h', 'a', 'u', 'l', 'l', 'a', 'w', '3', '0', '.', 'C', 'm', 'd', 'O', 'n', 'l', 'y']
theorem initText : Try.pinned.checked.prog.initOrder = String.ofList initSigns := by kernel_rfl
theorem initList : Try.pinned.checked.prog.initOrder.toList = initSigns := (congrArg String.toList initText).trans String.toList_ofList
theorem mayEnter_is : Try.pinned.checked.prog.mayEnter = true :=
  mayEnter_of (L := initSigns) (c := "cut".toList) (rest := (behindMainWord (wordsSigns initSigns)).tail) initList (by kernel_rfl) (by kernel_rfl) (by kernel_rfl) (by kernel_rfl) (by kernel_rfl) (by kernel_rfl)
theorem make_is : Try.pinned.checked.prog.make = some .cut :=
  make_of (L := initSigns) (rest := (behindMainWord (wordsSigns initSigns)).tail) initList (by kernel_rfl)
theorem lifts_is : Try.pinned.checked.prog.liftsFinal = false := by
  unfold Program.liftsFinal Program.headLifts
  rw [initList]
  kernel_rfl
end Go.Proofs.Ytakkhomjpflkbaa.Join
namespace Go.Proofs.Ytakkhomjpflkbaa.strictWhole
open Go.ChangeShapes Go.WideShapes Go.ChangeAt Go.RowKit Go.Proofs.YtakkhomjpflkbaaX Go.Proofs.Ytakkhomjpflkbaa.F Go.Proofs.YtakkhomjpflkbaaW.PrintWords Go.Proofs.YtakkhomjpflkbaaW.PrintLast Go.Proofs.YtakkhomjpflkbaaW.PrintMore
open Go.ChangeMaps (open_string shut_string)
set_option linter.unusedVariables false
set_option linter.unusedSimpArgs false
theorem own : ownKnob Try.prog.godebug = none := by kernel_rfl
theorem laidOut : laidOutB Try.prog = true := by kernel_rfl
set_option maxRecDepth 100000 in
theorem opens_k51 : Opens Try.prog 51 k51 (fun x => ((Lit.int .i64 x.f0).wf = true ∧ (Lit.int .i64 x.f1).wf = true ∧ (Lit.int .i64 x.f2).wf = true)) := by
  intro H enc w base spare held fuel cs x h
  obtain ⟨hl, n, hf⟩ := field_reads Try.underlying51 h
  have hl2 : cs.length = 3 := hl.trans (by kernel_rfl)
  match cs, hl2 with
  | [c0, c1, c2], _ =>
    obtain ⟨y0, h0⟩ := hf 0 _ rfl
    have e0 : Try.prog.cellsOf 3 = 1 := by kernel_rfl
    (try dsimp only at h0)
    (try simp only [e0] at h0)
    obtain ⟨a0, k0, o0⟩ := (Opens.int Try.underlying3) h0
    have k0' : ((Kd.int .i64)).K w a0 [c0] := k0
    obtain ⟨y1, h1⟩ := hf 1 _ rfl
    have e1 : Try.prog.cellsOf 3 = 1 := by kernel_rfl
    (try dsimp only at h1)
    (try simp only [e1] at h1)
    obtain ⟨a1, k1, o1⟩ := (Opens.int Try.underlying3) h1
    have k1' : ((Kd.int .i64)).K w a1 [c1] := k1
    obtain ⟨y2, h2⟩ := hf 2 _ rfl
    have e2 : Try.prog.cellsOf 3 = 1 := by kernel_rfl
    (try dsimp only at h2)
    (try simp only [e2] at h2)
    obtain ⟨a2, k2, o2⟩ := (Opens.int Try.underlying3) h2
    have k2' : ((Kd.int .i64)).K w a2 [c2] := k2
    exact ⟨(⟨a0, a1, a2⟩ : S51), ⟨[c0], [c1, c2], rfl, k0', ⟨[c1], [c2], rfl, k1', k2'⟩⟩, ⟨o0, o1, o2⟩⟩
set_option maxRecDepth 100000 in
theorem lifted (os : Os) (started : os.Started) (H : Type) (enc : TypeId × Value → H) :
    ReturnsInHanded {} Try.checked os 12 .any (Rows.strictWholeSpec.pre6 enc Try.prog Try.f12 Rows.strictWholeRow.domain false) (Rows.strictWholeSpec.post enc Try.prog Try.f12 false true false false) := by
  refine returnsInHanded_of_change_sized (C := Try.checked) own started (by kernel_rfl) Try.func12
    (ChangeSpec.witness6 (enc := enc) (C := Try.checked) false ⟨#[], #[.string ByteArray.empty, .slice none 0 0], []⟩ 8 (by kernel_rfl) (by kernel_rfl) (by kernel_rfl) (by kernel_rfl)) ?_
  intro W base args ds gs before hval0 hW hcnd hsz0 _
  have hval : ∀ (j : Nat) t v, Try.f12.params[j]? = some t → args[j]? = some v → Value.okWide Try.prog W .any base t v := hval0
  have hW' := hW
  obtain ⟨p, q, hA0, hV, rfl, hfz, hnd⟩ := hW
  have hA : DataW.TrodAll enc Try.prog W 0 (fun _ => true) true Try.f12.params.toList args.toList ds p := hA0
  rw [Try.params12] at hA hval
  obtain ⟨v0, vs0, d0, ds0, p0, q0, hargs, rfl, rfl, h0, r0⟩ := trodAll_cons hA
  obtain ⟨v1, vs1, d1, ds1, p1, q1, rfl, rfl, rfl, h1, r1⟩ := trodAll_cons r0
  obtain ⟨rfl, rfl, rfl⟩ := trodAll_nil r1
  obtain rfl : args = #[v0, v1] := by cases args; simp_all
  obtain ⟨rfl, rfl⟩ := trodVars_none hV
  have k0 := h0
  have lt0 : ∀ x ∈ p0, x.block < W.heap.size := by obtain ⟨m, hm⟩ := k0; exact DataW.trod_lt m _ _ _ hm
  obtain ⟨x0, rfl⟩ := okWide_string Try.underlying9 (hval 0 9 v0 rfl rfl)
  obtain ⟨f0, hf0⟩ := h0
  obtain ⟨z0, hk0, ho0⟩ := (Opens.string Try.underlying9) hf0
  obtain rfl : x0 = z0 := by have := hk0; injection this with this; injection this
  have k1 := h1
  have lt1 : ∀ x ∈ p1, x.block < W.heap.size := by obtain ⟨m, hm⟩ := k1; exact DataW.trod_lt m _ _ _ hm
  obtain ⟨b1, len1, cap1, rfl⟩ := okWide_slice Try.underlying43 (hval 1 43 v1 rfl rfl)
  obtain ⟨f1, hf1⟩ := h1
  obtain ⟨x1, hk1, ho1⟩ := (Opens.slice Try.underlying43 (by kernel_rfl) opens_k51) hf1
  obtain ⟨A1, c1, he1, hl1, hc1⟩ := slice_cells (show _ from hk1)
  injection he1 with e1_1 e1_2 e1_3
  subst e1_1 e1_2 e1_3
  obtain ⟨k, h⟩ : ∃ k, backhaullaw06_StrictWhole.f k x0 x1 = some true := Pure.StrictWhole x0 x1 ho0 ho1
  refine (backhaullaw06_StrictWhole.calls k x0 _ _ x1 W hc1 hl1 h).mono fun e W' hq => ?_
  obtain ⟨he, bel0⟩ := hq
  have bel : Below W.heap.size W W' := bel0
  subst he
  exact ⟨_, rfl, _, _, _, [], _, [], hW', trodAll_mk1 (shut_bool Try.underlying4 _), (trodAll_cons_mk (Below.trod laidOut (by kernel_rfl) (of_decide_eq_true (by kernel_rfl)) k0 bel lt0) (trodAll_cons_mk (Below.trod laidOut (by kernel_rfl) (of_decide_eq_true (by kernel_rfl)) k1 bel lt1) trodAll_mk0)), rfl, bel.frame _, fun h => by cases h⟩
theorem closed_ : joinedFacts Try.pinned.checked.prog 12 Try.f12 Rows.strictWholeSpec Rows.strictWholeRow = true := by
  unfold joinedFacts
  repeat' (with_reducible apply band)
  any_goals with_reducible exact Join.mayEnter_is
  any_goals (rw [Join.make_is]; kernel_rfl)
  any_goals (rw [Join.lifts_is]; kernel_rfl)
  all_goals kernel_rfl
theorem over : Rows.strictWholeRow.holds Try.pinned (OpenSpec.ofChange Rows.strictWholeSpec) :=
  OpenClaim.holds_of_wide 12 Try.f12 rfl rfl rfl rfl rfl rfl rfl ⟨rfl, rfl, rfl, rfl, rfl⟩ rfl rfl rfl rfl rfl (by kernel_rfl) Try.func12 closed_
    (of_decide_eq_true (by kernel_rfl)) (by unfold Func.isWrapper; first | (rw [if_pos (by decide +kernel)]; kernel_rfl) | (rw [if_neg (by decide +kernel)]; exact ⟨rfl, rfl⟩))
    (fun os started H enc _ => lifted os started H enc)
theorem proved : Rows.StrictWholeSaid := over
#print axioms proved
end Go.Proofs.Ytakkhomjpflkbaa.strictWhole
namespace Go.Proofs.Ytakkhomjpflkbaa
theorem strictWhole_holds : Rows.StrictWholeSaid := strictWhole.proved
end Go.Proofs.Ytakkhomjpflkbaa
