/- What octet's functions (and the document's) come to: numbers and texts put and got; condition: numbers are of 64 bits. -/
import Derived.Test.YtabapiofkipkoaaXPOct
import Derived.Test.YtabapiofkipkoaaF35
import Derived.Test.YtabapiofkipkoaaF37
import Derived.Test.YtabapiofkipkoaaF39
import Derived.Test.YtabapiofkipkoaaF41
import Derived.Test.YtabapiofkipkoaaF36
import Derived.Test.YtabapiofkipkoaaF38
import Derived.Test.YtabapiofkipkoaaF40
import Derived.Test.YtabapiofkipkoaaF42
set_option linter.unusedVariables false
namespace Go.Proofs.Ytabapiofkipkoaa.Q
open Go.RowKit Go.Proofs.Ytabapiofkipkoaa.F Go.Proofs.YtabapiofkipkoaaW.PrintWords Go.Proofs.YtabapiofkipkoaaW.PrintLast Go.Proofs.YtabapiofkipkoaaW.PrintMore

theorem wide_dec (w : Int) : (if w = 1 then some true else if w = 2 then some true else if w = 4 then some true else some (w == 8)) = some (decide (wide w)) := by
  unfold wide
  by_cases h1 : w = 1
  · rw [if_pos h1]; simp [h1]
  · rw [if_neg h1]
    by_cases h2 : w = 2
    · rw [if_pos h2]; simp [h2]
    · rw [if_neg h2]
      by_cases h4 : w = 4
      · rw [if_pos h4]; simp [h4]
      · rw [if_neg h4]
        by_cases h8 : w = 8
        · simp [h8]
        · simp [h1, h2, h4, h8]
theorem octet_wide_f (w : Int) : octet_wide.f w = some (decide (wide w)) := by
  unfold octet_wide.f
  exact wide_dec w
theorem ref05_wide_f (w : Int) : backhaulref05_wide.f w = some (decide (wide w)) := by
  unfold backhaulref05_wide.f
  exact wide_dec w
theorem octet_inside_f (s : ByteArray) (a : Int) : octet_inside.f s a = some (decide (0 ≤ a ∧ a ≤ s.size)) := by
  unfold octet_inside.f
  by_cases h : a ≥ 0
  · rw [if_pos h]; congr 1; exact decide_eq_decide.2 ⟨fun x => ⟨h, x⟩, fun x => x.2⟩
  · rw [if_neg h]; congr 1; exact (decide_eq_false (fun x => h x.1)).symm
def natI (l : List UInt8) : List Int := l.map (fun b => (b.toNat : Int))
theorem strOfNums_nat (l : List UInt8) : strOfNums (natI l) = bytesB l := by
  unfold strOfNums natI bytesB
  rw [List.map_map]
  congr 2
  exact (List.map_congr_left fun b _ => by simp).trans (List.map_id l)
theorem byte_mod (n : Int) (h : 0 ≤ n) : n % 256 = (((UInt8.ofNat n.toNat).toNat : Nat) : Int) := by
  rw [toNat_ofNat]; omega
theorem octet_put_l0 (d : Nat) : ∀ (n : Int) (t : List UInt8), 0 ≤ n → d ≤ 8 → Ev (fun k => octet_Put.l0 k n (List.replicate d 0 ++ natI t) ((d : Int) - 1)) (bytesB (beL d n.toNat ++ t), 0) := by
  induction d with
  | zero =>
    intro n t hn hd
    refine Ev.step (fun k => by simp only [octet_Put.l0]; rfl) ?_
    refine Ev.neg (by omega) (Ev.ok ?_)
    simp only [List.replicate_zero, List.nil_append, beL]
    rw [strOfNums_nat]
  | succ d ih =>
    intro n t hn hd
    refine Ev.step (fun k => by simp only [octet_Put.l0]; rfl) ?_
    refine Ev.pos (by omega) (Ev.pos (by omega) (Ev.pos (by simp only [List.length_append, List.length_replicate]; omega) ?_))
    have e1 : ((((d + 1 : Nat) : Int) - 1) : Int).toNat = d := by omega
    have e2 : wrap64 (((d + 1 : Nat) : Int) - 1 - 1) = (d : Int) - 1 := by rw [wrap_eq (by omega) (by omega)]; omega
    have e3 : (List.replicate (d + 1) 0 ++ natI t).set d (n % 256) = List.replicate d 0 ++ natI (UInt8.ofNat n.toNat :: t) := by
      rw [List.replicate_succ', List.append_assoc, List.set_append_right _ _ (by simp)]
      simp only [List.length_replicate, Nat.sub_self, List.cons_append, List.nil_append, List.set_cons_zero, natI, List.map_cons, byte_mod n hn]
    rw [e1, e2, e3]
    refine Ev.eq (ih (n / 256) (UInt8.ofNat n.toNat :: t) (by omega) (by omega)) ?_
    rw [beL, show (n / 256).toNat = n.toNat / 256 by omega, List.append_assoc]
    rfl
theorem octet_put_j0 {n w : Int} (hw : wide w) (hn : 0 ≤ n) (hlt : n < 256 ^ w.toNat) : Ev (fun k => octet_Put.j0 k n w false) (putS n w) := by
  have hw' := wide_nat hw
  refine Ev.step (fun k => by simp only [octet_Put.j0]; rfl) ?_
  refine Ev.neg (by decide) (Ev.pos (by omega) (Ev.pos (by omega) ?_))
  have h := octet_put_l0 w.toNat n [] hn (by omega)
  simp only [natI, List.map_nil, List.append_nil] at h
  rw [wrap_eq (by omega) (by omega), show w - 1 = ((w.toNat : Nat) : Int) - 1 by omega]
  refine Ev.eq h ?_
  unfold putS
  rw [if_pos hw, if_pos ⟨hn, hlt⟩]
theorem octet_put_t {n w : Int} (hw : wide w) (h : ¬ (0 ≤ n ∧ n < 256 ^ w.toNat)) : Ev (fun k => octet_Put.j0 k n w true) (putS n w) := by
  refine Ev.step (fun k => by simp only [octet_Put.j0]; rfl) ?_
  refine Ev.pos trivial (Ev.ok ?_)
  unfold putS
  rw [if_pos hw, if_neg h]
theorem octet_put_f {n : Int} (w : Int) (h1 : n ≤ 9223372036854775807) : Ev (fun k => octet_Put.f k n w) (putS n w) := by
  unfold octet_Put.f
  refine Ev.bindc (octet_wide_f w) ?_
  by_cases hw : wide w
  · refine Ev.pos (decide_eq_true hw) ?_
    refine Ev.ite (fun h => octet_put_t hw (by omega)) (fun h => ?_)
    have key : ∀ b : Bool, (b = true ↔ ¬ n < 256 ^ w.toNat) → Ev (fun k => octet_Put.j0 k n w b) (putS n w) := by
      intro b hb
      cases b with
      | true => exact octet_put_t hw (fun x => (hb.1 rfl) x.2)
      | false => exact octet_put_j0 hw (by omega) (Classical.byContradiction fun x => by have := hb.2 x; cases this)
    rcases hw with rfl | rfl | rfl | rfl
    · rw [show wrap64 (8 * 1) = 8 from wrap_eq (by decide) (by decide)]
      refine Ev.pos (by decide) (Ev.pos (by decide) (key _ ?_))
      rw [decide_eq_true_eq, show shr .i64 n 8 = n / 256 from rfl]
      show n / 256 > 0 ↔ ¬ n < 256
      omega
    · rw [show wrap64 (8 * 2) = 16 from wrap_eq (by decide) (by decide)]
      refine Ev.pos (by decide) (Ev.pos (by decide) (key _ ?_))
      rw [decide_eq_true_eq, show shr .i64 n 16 = n / 65536 from rfl]
      show n / 65536 > 0 ↔ ¬ n < 65536
      omega
    · rw [show wrap64 (8 * 4) = 32 from wrap_eq (by decide) (by decide)]
      refine Ev.pos (by decide) (Ev.pos (by decide) (key _ ?_))
      rw [decide_eq_true_eq, show shr .i64 n 32 = n / 4294967296 from rfl]
      show n / 4294967296 > 0 ↔ ¬ n < 4294967296
      omega
    · refine Ev.neg (by decide) (key false ?_)
      show false = true ↔ ¬ n < 18446744073709551616
      simp
      omega
  · refine Ev.neg (fun x => hw (of_decide_eq_true x)) (Ev.ok ?_)
    unfold putS
    rw [if_neg hw]
theorem ref05_put_l0 (d : Nat) : ∀ (n w : Int) (i : Nat) (t : List UInt8), 0 ≤ n → n ≤ 9223372036854775807 → w ≤ 8 → w - i = d → t.length ≤ i → Ev (fun k => backhaulref05_Put.l0 k n w (bytesB t) (i : Int)) (if n < 256 ^ d then (bytesB (beL d n.toNat ++ t), 0) else (⟨#[]⟩, 8)) := by
  induction d with
  | zero =>
    intro n w i t hn hn' hw hd ht
    refine Ev.step (fun k => by simp only [backhaulref05_Put.l0]; rfl) ?_
    refine Ev.neg (by omega) (Ev.ite (fun h => Ev.ok ?_) (fun h => Ev.ok ?_))
    · rw [if_neg (show ¬ n < 256 ^ 0 by show ¬ n < 1; omega)]
    · rw [if_pos (show n < 256 ^ 0 by show n < 1; omega)]; rfl
  | succ d ih =>
    intro n w i t hn hn' hw hd ht
    refine Ev.step (fun k => by simp only [backhaulref05_Put.l0]; rfl) ?_
    refine Ev.pos (by omega) (Ev.bindc rfl ?_)
    have e1 : strOfNums [(Int.tmod n 256) % 256] = bytesB [UInt8.ofNat n.toNat] := by
      rw [Int.tmod_eq_emod_of_nonneg hn, Int.emod_emod, byte_mod n hn]
      exact strOfNums_nat [UInt8.ofNat n.toNat]
    have e2 : wrap64 (Int.tdiv n 256) = n / 256 := by
      rw [Int.tdiv_eq_ediv_of_nonneg hn, wrap_eq (by omega) (by omega)]
    rw [e1, e2, wrap_eq (by omega) (by omega), bytesB_append]
    refine Ev.pos (by simp only [bytesB_size, List.length_cons, List.length_nil]; omega) ?_
    refine Ev.eq (ih (n / 256) w (i + 1) _ (by omega) (by omega) hw (by omega) (by simp only [List.length_append, List.length_cons, List.length_nil]; omega)) ?_
    have e3 : n / 256 < 256 ^ d ↔ n < 256 ^ (d + 1) := by
      rw [Int.pow_succ]
      generalize (256 : Int) ^ d = P
      omega
    by_cases h : n / 256 < 256 ^ d
    · rw [if_pos h, if_pos (e3.1 h), beL, show (n / 256).toNat = n.toNat / 256 by omega, List.append_assoc]
    · rw [if_neg h, if_neg (fun x => h (e3.2 x))]
theorem ref05_put_f {n : Int} (w : Int) (h1 : n ≤ 9223372036854775807) : Ev (fun k => backhaulref05_Put.f k n w) (putS n w) := by
  unfold backhaulref05_Put.f putS
  refine Ev.bindc (ref05_wide_f w) ?_
  by_cases hw : wide w
  · have hw' := wide_nat hw
    rw [if_pos hw]
    refine Ev.pos (decide_eq_true hw) (Ev.ite (fun h => Ev.ok ?_) (fun h => ?_))
    · rw [if_neg (by omega)]
    · refine Ev.eq (ref05_put_l0 w.toNat n w 0 [] (by omega) h1 (by omega) (by omega) (by simp)) ?_
      rw [List.append_nil]
      by_cases hlt : n < 256 ^ w.toNat
      · rw [if_pos hlt, if_pos ⟨by omega, hlt⟩]
      · rw [if_neg hlt, if_neg (fun x => hlt x.2)]
  · rw [if_neg hw]
    exact Ev.neg (fun x => hw (of_decide_eq_true x)) (Ev.ok rfl)
theorem numAt_succ {s : ByteArray} {a i : Nat} (h : a + i < s.size) : (numAt s a (i + 1) : Int) = 256 * (numAt s a i : Int) + bt s ((a + i : Nat) : Int) := by
  have hl : a + i < s.data.toList.length := by rw [size_data]; exact h
  unfold numAt
  rw [List.take_succ_eq_append_getElem (by rw [List.length_drop]; omega), beN_append, bt_data s (a + i) h, List.getElem_drop]
  omega
theorem numAt_lt' {s : ByteArray} {a i : Nat} (h : a + i ≤ s.size) : (numAt s a i : Int) < 256 ^ i := pow_cast (numAt_lt h)
theorem pow_le8 {i : Nat} (h : i ≤ 7) : (256 : Int) ^ i ≤ 72057594037927936 := by
  have : i = 0 ∨ i = 1 ∨ i = 2 ∨ i = 3 ∨ i = 4 ∨ i = 5 ∨ i = 6 ∨ i = 7 := by omega
  rcases this with rfl | rfl | rfl | rfl | rfl | rfl | rfl | rfl <;> decide
theorem bt_range (s : ByteArray) (i : Int) : 0 ≤ bt s i ∧ bt s i < 256 := by
  unfold bt
  split
  · rename_i h
    have := (s[i.toNat]'h).toNat_lt
    omega
  · omega
theorem or_byte {x y : Int} (h0 : 0 ≤ x) (h1 : x < 72057594037927936) (h2 : 0 ≤ y) (h3 : y < 256) : Go.bits .or .u64 (IntKind.u64.wrap (x * 256)) (IntKind.u64.wrap y) = 256 * x + y := by
  rw [u64_eq (x := x * 256) (by omega) (by omega), u64_eq (x := y) (by omega) (by omega)]
  rw [bits_join .u64 64 (by decide) (fun n h0 h1 => u64_eq h0 h1) 8 (x * 256) y (by omega) (by omega) (by omega) (by omega) (by omega) (by omega)]
  omega
theorem getS_in {s : ByteArray} {a w : Int} (hw : wide w) (h0 : 0 ≤ a) (h1 : a + w ≤ s.size) : getS s a w = if (numAt s a.toNat w.toNat : Int) > 9223372036854775807 then (0, 0, 8) else ((numAt s a.toNat w.toNat : Int), a + w, 0) := by
  have hw' := wide_nat hw
  unfold getS
  rw [if_pos ⟨hw, h0, by omega⟩, if_neg (by omega)]
theorem octet_get_l0 {s : ByteArray} {a w : Int} (hs : s.size ≤ 9223372036854775807) (hw : wide w) (h0 : 0 ≤ a) (h1 : a + w ≤ s.size) (d : Nat) : ∀ i : Nat, w - i = d → Ev (fun k => octet_Get.l0 k s a w (numAt s a.toNat i : Int) w (i : Int)) (getS s a w) := by
  have hw' := wide_nat hw
  induction d with
  | zero =>
    intro i hi
    refine Ev.step (fun k => by simp only [octet_Get.l0]; rfl) ?_
    refine Ev.neg (by omega) ?_
    rw [getS_in hw h0 h1, show w.toNat = i by omega]
    refine Ev.ite (fun h => ?_) (fun h => ?_)
    · rw [if_pos h]; exact Ev.ok rfl
    · rw [if_neg h, wrap_eq (x := (numAt s a.toNat i : Int)) (by omega) (by omega), wrap_eq (by omega) (by omega)]
      exact Ev.ok rfl
  | succ d ih =>
    intro i hi
    have hlt := numAt_lt' (s := s) (a := a.toNat) (i := i) (by omega)
    have hp := pow_le8 (i := i) (by omega)
    refine Ev.step (fun k => by simp only [octet_Get.l0]; rfl) ?_
    rw [wrap_eq (x := a + (i : Int)) (by omega) (by omega), wrap_eq (x := (i : Int) + 1) (by omega) (by omega)]
    refine Ev.pos (by omega) (Ev.pos (by omega) (Ev.pos (by omega) ?_))
    have hb := bt_range s (a + i)
    rw [or_byte (by omega) (by omega) hb.1 hb.2]
    have e := numAt_succ (s := s) (a := a.toNat) (i := i) (by omega)
    rw [show ((a.toNat + i : Nat) : Int) = a + i by omega] at e
    rw [← e]
    exact ih (i + 1) (by omega)
theorem octet_get_f {s : ByteArray} (a w : Int) (hs : s.size ≤ 9223372036854775807) : Ev (fun k => octet_Get.f k s a w) (getS s a w) := by
  have bad : ¬ (wide w ∧ 0 ≤ a ∧ a ≤ s.size) → Ev (fun k => octet_Get.j0 k s a w true) (getS s a w) := by
    intro h
    refine Ev.step (fun k => by simp only [octet_Get.j0]; rfl) ?_
    refine Ev.pos trivial (Ev.ok ?_)
    unfold getS
    rw [if_neg h]
  unfold octet_Get.f
  refine Ev.bindc (octet_wide_f w) ?_
  by_cases hw : wide w
  · have hw' := wide_nat hw
    refine Ev.pos (decide_eq_true hw) (Ev.bindc (octet_inside_f s a) ?_)
    by_cases ha : 0 ≤ a ∧ a ≤ s.size
    · rw [decide_eq_true ha]
      refine Ev.step (fun k => by simp only [octet_Get.j0]; rfl) ?_
      refine Ev.neg (by decide) ?_
      rw [wrap_eq (by omega) (by omega)]
      refine Ev.ite (fun h => Ev.ok ?_) (fun h => ?_)
      · unfold getS
        rw [if_pos ⟨hw, ha⟩, if_pos h]
      · exact octet_get_l0 hs hw ha.1 (by omega) w.toNat 0 (by omega)
    · rw [decide_eq_false ha]
      exact bad (fun x => ha x.2)
  · exact Ev.neg (fun x => hw (of_decide_eq_true x)) (bad (fun x => hw x.1))
theorem ref05_get_l0 {s : ByteArray} {a w : Int} (hs : s.size ≤ 9223372036854775807) (hw : wide w) (h0 : 0 ≤ a) (h1 : a + w ≤ s.size) (hm : (numAt s a.toNat w.toNat : Int) ≤ 9223372036854775807) (d : Nat) : ∀ i : Nat, w - i = d → (numAt s a.toNat i : Int) * 256 ^ d ≤ 9223372036854775807 → Ev (fun k => backhaulref05_Get.l0 k s a w (numAt s a.toNat i : Int) (a + i)) ((numAt s a.toNat w.toNat : Int), a + w, 0) := by
  have hw' := wide_nat hw
  induction d with
  | zero =>
    intro i hi hb
    refine Ev.step (fun k => by simp only [backhaulref05_Get.l0]; rfl) ?_
    rw [wrap_eq (x := a + w) (by omega) (by omega)]
    refine Ev.neg (by omega) (Ev.ok ?_)
    rw [show w.toNat = i by omega]
  | succ d ih =>
    intro i hi hb
    have hlt := numAt_lt' (s := s) (a := a.toNat) (i := i) (by omega)
    have hp := pow_le8 (i := i) (by omega)
    have hb' := bt_range s (a + i)
    have e := numAt_succ (s := s) (a := a.toNat) (i := i) (by omega)
    rw [show ((a.toNat + i : Nat) : Int) = a + i by omega] at e
    have hpos : (0 : Int) < 256 ^ d := Int.pow_pos (by decide)
    have hle : (numAt s a.toNat (i + 1) : Int) * 256 ^ d ≤ 9223372036854775807 := by
      have key := numAt_split (s := s) (a := a.toNat) (i := i + 1) (d := d) (by omega)
      rw [show i + 1 + d = w.toNat by omega] at key
      have h2 : (0 : Int) ≤ (numAt s (a.toNat + (i + 1)) d : Int) := by omega
      omega
    have hone : (numAt s a.toNat (i + 1) : Int) ≤ 9223372036854775807 := by
      have h3 : (numAt s a.toNat (i + 1) : Int) * 1 ≤ (numAt s a.toNat (i + 1) : Int) * 256 ^ d := Int.mul_le_mul_of_nonneg_left (by omega) (by omega)
      omega
    refine Ev.step (fun k => by simp only [backhaulref05_Get.l0]; rfl) ?_
    rw [wrap_eq (x := a + w) (by omega) (by omega), wrap_eq (x := 256 * (numAt s a.toNat i : Int)) (by omega) (by omega), wrap_eq (x := bt s (a + i)) (by omega) (by omega), wrap_eq (x := 256 * (numAt s a.toNat i : Int) + bt s (a + i)) (by omega) (by omega), wrap_eq (x := a + (i : Int) + 1) (by omega) (by omega)]
    refine Ev.pos (by omega) (Ev.pos (by omega) (Ev.pos (by omega) ?_))
    rw [← e, show a + (i : Int) + 1 = a + ((i + 1 : Nat) : Int) by omega]
    exact ih (i + 1) (by omega) hle
theorem ref05_get_f {s : ByteArray} (a w : Int) (hs : s.size ≤ 9223372036854775807) : Ev (fun k => backhaulref05_Get.f k s a w) (getS s a w) := by
  have bad : ¬ (wide w ∧ 0 ≤ a ∧ a ≤ s.size) → Ev (fun k => backhaulref05_Get.j0 k s a w true) (getS s a w) := by
    intro h
    refine Ev.step (fun k => by simp only [backhaulref05_Get.j0]; rfl) ?_
    refine Ev.pos trivial (Ev.ok ?_)
    unfold getS
    rw [if_neg h]
  unfold backhaulref05_Get.f
  refine Ev.bindc (ref05_wide_f w) ?_
  by_cases hw : wide w
  · have hw' := wide_nat hw
    refine Ev.pos (decide_eq_true hw) (Ev.ite (fun h => bad (by omega)) (fun h => ?_))
    by_cases h1 : a > s.size
    · rw [decide_eq_true (show a > (s.size : Int) from h1)]
      exact bad (by omega)
    · rw [decide_eq_false (show ¬ a > (s.size : Int) from h1)]
      refine Ev.step (fun k => by simp only [backhaulref05_Get.j0]; rfl) ?_
      refine Ev.neg (by decide) ?_
      rw [wrap_eq (by omega) (by omega)]
      refine Ev.ite (fun h2 => Ev.ok ?_) (fun h2 => ?_)
      · unfold getS
        rw [if_pos ⟨hw, by omega, by omega⟩, if_pos h2]
      · rw [getS_in hw (by omega) (by omega)]
        have fin : (numAt s a.toNat w.toNat : Int) ≤ 9223372036854775807 → Ev (fun k => backhaulref05_Get.j1 k s a w false) (if (numAt s a.toNat w.toNat : Int) > 9223372036854775807 then (0, 0, 8) else ((numAt s a.toNat w.toNat : Int), a + w, 0)) := by
          intro hm
          rw [if_neg (by omega)]
          refine Ev.step (fun k => by simp only [backhaulref05_Get.j1]; rfl) ?_
          refine Ev.neg (by decide) ?_
          have := ref05_get_l0 hs hw (by omega) (by omega) hm w.toNat 0 (by omega) (by show (0 : Int) * _ ≤ _; omega)
          rw [show a + ((0 : Nat) : Int) = a by omega] at this
          exact this
        refine Ev.ite (fun h3 => ?_) (fun h3 => ?_)
        · subst h3
          refine Ev.pos (by omega) (Ev.pos (by omega) ?_)
          have key : (numAt s a.toNat (Int.toNat 8) : Int) = (numAt s a.toNat 1 : Int) * 256 ^ 7 + (numAt s (a.toNat + 1) 7 : Int) := numAt_split (s := s) (a := a.toNat) (i := 1) (d := 7) (by omega)
          have hl := numAt_lt' (s := s) (a := a.toNat + 1) (i := 7) (by omega)
          have e : (numAt s a.toNat 1 : Int) = 256 * (numAt s a.toNat 0 : Int) + bt s ((a.toNat + 0 : Nat) : Int) := numAt_succ (s := s) (a := a.toNat) (i := 0) (by omega)
          have e0 : (numAt s a.toNat 0 : Int) = 0 := by unfold numAt; simp [beN]
          rw [e0, show ((a.toNat + 0 : Nat) : Int) = a by omega] at e
          have p7 : (256 : Int) ^ 7 = 72057594037927936 := by decide
          rw [p7] at key hl
          by_cases h4 : bt s a > 127
          · rw [decide_eq_true h4]
            refine Ev.step (fun k => by simp only [backhaulref05_Get.j1]; rfl) ?_
            refine Ev.pos trivial (Ev.ok ?_)
            rw [if_pos (by omega)]
          · rw [decide_eq_false h4]
            exact fin (by omega)
        · have hl := numAt_lt' (s := s) (a := a.toNat) (i := w.toNat) (by omega)
          have h4 : w.toNat ≤ 4 := by unfold wide at hw; omega
          have hp := pow_le8 (i := w.toNat) (by omega)
          exact fin (by omega)
  · exact Ev.neg (fun x => hw (of_decide_eq_true x)) (bad (fun x => hw x.1))
theorem getS2_lt {s : ByteArray} {a n tt : Int} (h : getS s a 2 = (n, tt, 0)) : n < 65536 := (putS_ok (put_of_get h)).2.2.1
theorem octet_lay_f {t : ByteArray} (ht : t.size ≤ 4611686018427387904) : Ev (fun k => octet_Lay.f k t) (layS t) := by
  unfold octet_Lay.f layS
  refine Ev.ite (fun h => Ev.ok ?_) (fun h => ?_)
  · rw [if_pos (by omega)]
  · rw [if_neg (by omega)]
    refine Ev.bind (octet_put_f 2 (by omega)) ?_
    rw [put2 (by omega)]
    refine Ev.pos ?_ (Ev.ok rfl)
    simp only [bytesB_size, beL_length]; omega
theorem ref05_lay_f {t : ByteArray} (ht : t.size ≤ 4611686018427387904) : backhaulref05_Lay.f t = some (layS t) := by
  unfold backhaulref05_Lay.f layS
  by_cases h : (t.size : Int) > 65535
  · rw [if_pos h, if_pos (by omega)]
  · rw [if_neg h, if_neg (by omega), Option.bind_some]
    have e : strOfNums [((t.size : Int) / 256) % 256, (t.size : Int) % 256] = bytesB (beL 2 t.size) := by
      rw [byte_mod _ (by omega), byte_mod (t.size : Int) (by omega)]
      rw [show ((t.size : Int) / 256).toNat = t.size / 256 by omega, Int.toNat_natCast]
      exact strOfNums_nat [UInt8.ofNat (t.size / 256), UInt8.ofNat t.size]
    rw [e, if_pos (by simp only [bytesB_size, beL_length]; omega)]
theorem octet_take_f {s : ByteArray} (a m : Int) (hs : s.size ≤ 4611686018427387904) : Ev (fun k => octet_Take.f k s a m) (takeS s a m) := by
  unfold octet_Take.f takeS
  refine Ev.ite (fun h => ?_) (fun h => ?_)
  · rw [if_pos h]; exact Ev.ok rfl
  · rw [if_neg h]
    refine Ev.bind (octet_get_f a 2 (by omega)) ?_
    refine Ev.ite (fun h1 => ?_) (fun h1 => ?_)
    · rw [if_pos h1]
      have hg : getS s a 2 = ((getS s a 2).1, (getS s a 2).2.1, 0) := by rw [← h1]
      obtain ⟨_, h2, h3, h4, h5, h6, h7⟩ := getS_ok hg
      refine Ev.ite (fun h8 => ?_) (fun h8 => ?_)
      · rw [if_pos h8]; exact Ev.ok rfl
      · rw [if_neg h8, wrap_eq (x := (s.size : Int) - (getS s a 2).2.1) (by omega) (by omega)]
        refine Ev.ite (fun h9 => ?_) (fun h9 => ?_)
        · rw [if_pos h9]; exact Ev.ok rfl
        · rw [if_neg h9, wrap_eq (by omega) (by omega)]
          exact Ev.pos (by omega) (Ev.pos (by omega) (Ev.pos (by omega) (Ev.ok rfl)))
    · rw [if_neg h1]; exact Ev.ok rfl
theorem ref05_take_f {s : ByteArray} (a m : Int) (hs : s.size ≤ 4611686018427387904) : Ev (fun k => backhaulref05_Take.f k s a m) (takeS s a m) := by
  have bad : m < 0 ∨ a < 0 ∨ a > s.size → Ev (fun k => backhaulref05_Take.j0 k s a m true) (takeS s a m) := by
    intro h
    refine Ev.step (fun k => by simp only [backhaulref05_Take.j0]; rfl) ?_
    refine Ev.pos trivial (Ev.ok ?_)
    unfold takeS
    by_cases hm : m < 0
    · rw [if_pos hm]
    · rw [if_neg hm]
      have e : getS s a 2 = (0, 0, 2) := by unfold getS; rw [if_neg (by omega)]
      rw [e]; rfl
  unfold backhaulref05_Take.f
  refine Ev.ite (fun h => bad (.inl h)) (fun h => Ev.ite (fun h1 => bad (.inr (.inl h1))) (fun h1 => ?_))
  by_cases h2 : a > (s.size : Int)
  · rw [decide_eq_true h2]; exact bad (.inr (.inr h2))
  · rw [decide_eq_false h2]
    refine Ev.step (fun k => by simp only [backhaulref05_Take.j0]; rfl) ?_
    refine Ev.neg (by decide) (Ev.bind (ref05_get_f a 2 (by omega)) ?_)
    unfold takeS
    rw [if_neg h]
    refine Ev.ite (fun h1 => ?_) (fun h1 => ?_)
    · rw [if_pos h1]
      have hg : getS s a 2 = ((getS s a 2).1, (getS s a 2).2.1, 0) := by rw [← h1]
      obtain ⟨_, h2, h3, h4, h5, h6, h7⟩ := getS_ok hg
      refine Ev.ite (fun h8 => ?_) (fun h8 => ?_)
      · rw [if_pos h8]; exact Ev.ok rfl
      · have h10 := getS2_lt hg
        rw [if_neg h8, wrap_eq (x := (getS s a 2).2.1 + (getS s a 2).1) (by omega) (by omega)]
        refine Ev.ite (fun h9 => ?_) (fun h9 => ?_)
        · rw [if_pos (by omega)]; exact Ev.ok rfl
        · rw [if_neg (show ¬ (getS s a 2).1 > (s.size : Int) - (getS s a 2).2.1 by omega)]
          exact Ev.pos (by omega) (Ev.pos (by omega) (Ev.pos (by omega) (Ev.ok rfl)))
    · rw [if_neg h1]; exact Ev.ok rfl
end Go.Proofs.Ytabapiofkipkoaa.Q
