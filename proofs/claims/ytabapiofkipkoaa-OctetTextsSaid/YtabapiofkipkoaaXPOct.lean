/- Numbers, texts and rows as bytes, plainly: what is put, got, laid, taken, told as a row; each comes back; no condition. -/
import Derived.Test.YtabapiofkipkoaaXPure
set_option linter.unusedVariables false
namespace Go.Proofs.Ytabapiofkipkoaa.Q
open Go.RowKit Go.Proofs.YtabapiofkipkoaaW.PrintWords Go.Proofs.YtabapiofkipkoaaW.PrintLast Go.Proofs.YtabapiofkipkoaaW.PrintMore

def beL : Nat → Nat → List UInt8
  | 0, _ => []
  | w + 1, n => beL w (n / 256) ++ [UInt8.ofNat n]
def beN (l : List UInt8) : Nat := l.foldl (fun a b => 256 * a + b.toNat) 0
theorem beL_length (w : Nat) : ∀ n, (beL w n).length = w := by
  induction w with
  | zero => intro n; rfl
  | succ w ih => intro n; simp [beL, ih]
theorem beN_append (a : List UInt8) (b : UInt8) : beN (a ++ [b]) = 256 * beN a + b.toNat := by
  simp [beN]
theorem toNat_ofNat (n : Nat) : (UInt8.ofNat n).toNat = n % 256 := by simp
theorem beN_beL (w : Nat) : ∀ n, beN (beL w n) = n % 256 ^ w := by
  induction w with
  | zero => intro n; simp [beL, beN, Nat.mod_one]
  | succ w ih =>
    intro n
    rw [beL, beN_append, ih, toNat_ofNat, Nat.pow_succ, Nat.mul_comm (256 ^ w) 256, Nat.mod_mul]
    omega
theorem snoc_cases {α : Type} (l : List α) : l = [] ∨ ∃ a b, l = a ++ [b] := by
  rcases List.eq_nil_or_concat l with h | ⟨a, b, h⟩
  · exact .inl h
  · exact .inr ⟨a, b, by simpa using h⟩
theorem beL_beN (w : Nat) : ∀ l : List UInt8, l.length = w → beL w (beN l) = l := by
  induction w with
  | zero => intro l h; rw [List.eq_nil_of_length_eq_zero h]; rfl
  | succ w ih =>
    intro l h
    rcases snoc_cases l with rfl | ⟨a, b, rfl⟩
    · simp at h
    · have hb := b.toNat_lt
      rw [beL, beN_append, show (256 * beN a + b.toNat) / 256 = beN a by omega, ih a (by simpa using h)]
      congr 2
      apply UInt8.toNat_inj.1
      rw [toNat_ofNat]
      omega
theorem beN_lt (w : Nat) : ∀ l : List UInt8, l.length = w → beN l < 256 ^ w := by
  induction w with
  | zero => intro l h; rw [List.eq_nil_of_length_eq_zero h]; simp [beN]
  | succ w ih =>
    intro l h
    rcases snoc_cases l with rfl | ⟨a, b, rfl⟩
    · simp at h
    · have hb := b.toNat_lt
      have := ih a (by simpa using h)
      rw [beN_append, Nat.pow_succ]
      omega
/-- Of one length, the lists stand as their numbers. -/
theorem less_irrefl (l : List UInt8) : Op.bytesLess l l = false := by
  induction l with
  | nil => rfl
  | cons a l ih => simp [Op.bytesLess, ih]
theorem less_snoc : ∀ (x y : List UInt8) (a b : UInt8), x.length = y.length → Op.bytesLess (x ++ [a]) (y ++ [b]) = (Op.bytesLess x y || (decide (x = y) && decide (a < b)))
  | [], [], a, b, _ => by simp [Op.bytesLess]
  | [], _ :: _, _, _, h => by simp at h
  | _ :: _, [], _, _, h => by simp at h
  | p :: x, q :: y, a, b, h => by
    have ih := less_snoc x y a b (by simpa using h)
    simp only [List.cons_append, Op.bytesLess, ih]
    by_cases hpq : p = q
    · subst hpq; simp
    · have : (p == q) = false := by simpa using hpq
      simp [this, hpq]
theorem less_beN (w : Nat) : ∀ x y : List UInt8, x.length = w → y.length = w → (Op.bytesLess x y = true ↔ beN x < beN y) := by
  induction w with
  | zero => intro x y hx hy; rw [List.eq_nil_of_length_eq_zero hx, List.eq_nil_of_length_eq_zero hy]; simp [Op.bytesLess]
  | succ w ih =>
    intro x y hx hy
    rcases snoc_cases x with rfl | ⟨x, a, rfl⟩
    · simp at hx
    rcases snoc_cases y with rfl | ⟨y, b, rfl⟩
    · simp at hy
    have hx' : x.length = w := by simpa using hx
    have hy' : y.length = w := by simpa using hy
    rw [less_snoc x y a b (by omega), beN_append, beN_append]
    have ih := ih x y hx' hy'
    have ha := a.toNat_lt
    have hb := b.toNat_lt
    have hl : a < b ↔ a.toNat < b.toNat := UInt8.lt_iff_toNat_lt
    rw [Bool.or_eq_true, Bool.and_eq_true, decide_eq_true_eq, decide_eq_true_eq, ih, hl]
    constructor
    · rintro (h | ⟨rfl, h⟩) <;> omega
    · intro h
      by_cases h1 : beN x < beN y
      · exact .inl h1
      · have h2 : beN x = beN y := by omega
        have : x = y := by rw [← beL_beN w x hx', ← beL_beN w y hy', h2]
        exact .inr ⟨this, by omega⟩
def bytesB (l : List UInt8) : ByteArray := ⟨l.toArray⟩
theorem bytesB_data (l : List UInt8) : (bytesB l).data.toList = l := rfl
theorem bytesB_size (l : List UInt8) : (bytesB l).size = l.length := by simp [bytesB, ByteArray.size]
theorem ext_list {a b : ByteArray} (h : a.data.toList = b.data.toList) : a = b := by
  cases a; cases b; simpa [Array.toList_inj] using h
theorem bytesB_append (a b : List UInt8) : bytesB a ++ bytesB b = bytesB (a ++ b) := by
  apply ext_list; simp [bytesB, ByteArray.data_append]
theorem toList_data' (s : ByteArray) : s.toList = s.data.toList := ByteArray.toList_eq s
theorem data_append (a b : ByteArray) : (a ++ b).data.toList = a.data.toList ++ b.data.toList := by simp [ByteArray.data_append]
theorem data_extract (a : ByteArray) (i j : Nat) : (a.extract i j).data.toList = (a.data.toList.take j).drop i := by
  rw [ByteArray.data_extract, Array.toList_extract, List.extract_eq_take_drop, List.drop_take]
theorem size_data (a : ByteArray) : a.data.toList.length = a.size := by rw [Array.length_toList]; rfl
theorem bt_data (s : ByteArray) (i : Nat) (h : i < s.size) : bt s (i : Int) = ((s.data.toList[i]'(by rw [size_data]; exact h)).toNat : Int) := by
  unfold bt
  rw [dif_pos (by simpa using h)]
  simp [ByteArray.getElem_eq_getElem_data]

def wide (w : Int) : Prop := w = 1 ∨ w = 2 ∨ w = 4 ∨ w = 8
instance (w : Int) : Decidable (wide w) := by unfold wide; infer_instance
def putS (n w : Int) : ByteArray × Int := if wide w then (if 0 ≤ n ∧ n < 256 ^ w.toNat then (bytesB (beL w.toNat n.toNat), 0) else (⟨#[]⟩, 8)) else (⟨#[]⟩, 2)
def numAt (s : ByteArray) (at_ w : Nat) : Nat := beN ((s.data.toList.drop at_).take w)
def getS (s : ByteArray) (at_ w : Int) : Int × Int × Int :=
  if wide w ∧ 0 ≤ at_ ∧ at_ ≤ s.size then
    (if s.size - at_ < w then (0, 0, 4) else if (numAt s at_.toNat w.toNat : Int) > 9223372036854775807 then (0, 0, 8) else ((numAt s at_.toNat w.toNat : Int), at_ + w, 0))
  else (0, 0, 2)
def layS (t : ByteArray) : ByteArray × Int := if t.size > 65535 then (⟨#[]⟩, 3) else (bytesB (beL 2 t.size) ++ t, 0)
def takeS (s : ByteArray) (at_ most : Int) : ByteArray × Int × Int :=
  if most < 0 then (⟨#[]⟩, 0, 2) else
  if (getS s at_ 2).2.2 = 0 then
    (if (getS s at_ 2).1 > most then (⟨#[]⟩, 0, 3) else if (getS s at_ 2).1 > s.size - (getS s at_ 2).2.1 then (⟨#[]⟩, 0, 4) else
      (s.extract (getS s at_ 2).2.1.toNat ((getS s at_ 2).2.1 + (getS s at_ 2).1).toNat, (getS s at_ 2).2.1 + (getS s at_ 2).1, 0))
  else (⟨#[]⟩, 0, (getS s at_ 2).2.2)
def rowL (w : Int) : List Int → ByteArray × Int
  | [] => (⟨#[]⟩, 0)
  | x :: xs => if (putS x w).2 = 0 then (if (rowL w xs).2 = 0 then ((putS x w).1 ++ (rowL w xs).1, 0) else (⟨#[]⟩, (rowL w xs).2)) else (⟨#[]⟩, (putS x w).2)
def rowS (w : Int) (l : List Int) : ByteArray × Int :=
  if wide w then (if l.length > 1000 then (⟨#[]⟩, 3) else if (rowL w l).2 = 0 then (bytesB (beL 2 l.length) ++ (rowL w l).1, 0) else (⟨#[]⟩, (rowL w l).2)) else (⟨#[]⟩, 2)
def unrowL (s : ByteArray) (w : Int) : Nat → Int → List Int × Int × Int
  | 0, tt => ([], tt, 0)
  | n + 1, tt => if (getS s tt w).2.2 = 0 then
      (if (unrowL s w n (getS s tt w).2.1).2.2 = 0 then ((getS s tt w).1 :: (unrowL s w n (getS s tt w).2.1).1, (unrowL s w n (getS s tt w).2.1).2) else ([], 0, (unrowL s w n (getS s tt w).2.1).2.2))
    else ([], 0, (getS s tt w).2.2)
def unrowS (s : ByteArray) (at_ w top : Int) : List Int × Int × Int :=
  if ¬ wide w ∨ at_ < 0 ∨ at_ > s.size ∨ top < 0 then ([], 0, 2) else
  if (getS s at_ 2).2.2 = 0 then
    (if (getS s at_ 2).1 > top ∨ (getS s at_ 2).1 > 1000 then ([], 0, 3) else unrowL s w (getS s at_ 2).1.toNat (getS s at_ 2).2.1)
  else ([], 0, (getS s at_ 2).2.2)

theorem wide_nat {w : Int} (h : wide w) : 0 < w ∧ w ≤ 8 := by unfold wide at h; omega
theorem pow_wide {w : Int} (h : wide w) : (256 : Int) ^ w.toNat ≤ 18446744073709551616 := by
  rcases h with rfl | rfl | rfl | rfl <;> decide
theorem pow_cast {a w : Nat} (h : a < 256 ^ w) : (a : Int) < 256 ^ w := by
  have := Int.ofNat_lt.2 h
  rw [Int.natCast_pow] at this
  exact this
theorem pow_cast' {a w : Nat} (h : (a : Int) < 256 ^ w) : a < 256 ^ w := by
  apply Int.ofNat_lt.1
  rw [Int.natCast_pow]
  exact h
theorem beN_from (y : List UInt8) : ∀ a : Nat, y.foldl (fun a b => 256 * a + b.toNat) a = a * 256 ^ y.length + beN y := by
  induction y with
  | nil => intro a; simp [beN]
  | cons b y ih =>
    intro a
    have h := ih (256 * 0 + b.toNat)
    unfold beN at h ⊢
    simp only [List.foldl_cons, List.length_cons]
    rw [ih, h, Nat.pow_succ, Nat.add_mul, Nat.mul_zero, Nat.zero_add]
    unfold beN
    rw [← Nat.add_assoc, Nat.mul_comm 256 a, Nat.mul_assoc, Nat.mul_comm 256 (256 ^ y.length)]
theorem numAt_split {s : ByteArray} {a i d : Nat} (h : a + i + d ≤ s.size) : (numAt s a (i + d) : Int) = (numAt s a i : Int) * 256 ^ d + (numAt s (a + i) d : Int) := by
  have e : numAt s a (i + d) = numAt s a i * 256 ^ d + numAt s (a + i) d := by
    unfold numAt
    rw [List.take_add, List.drop_drop]
    have := beN_from (((s.data.toList).drop (a + i)).take d) (beN (((s.data.toList).drop a).take i))
    rw [List.length_take, List.length_drop, size_data, Nat.min_eq_left (by omega)] at this
    rw [← this]
    unfold beN
    rw [List.foldl_append]
  rw [e, Int.natCast_add, Int.natCast_mul, Int.natCast_pow]
  rfl
theorem getS_ok {s : ByteArray} {a w n tt : Int} (h : getS s a w = (n, tt, 0)) : wide w ∧ 0 ≤ a ∧ a + w ≤ s.size ∧ tt = a + w ∧ n = (numAt s a.toNat w.toNat : Int) ∧ n ≤ 9223372036854775807 ∧ 0 ≤ n := by
  unfold getS at h
  by_cases h1 : wide w ∧ 0 ≤ a ∧ a ≤ s.size
  · rw [if_pos h1] at h
    by_cases h2 : s.size - a < w
    · rw [if_pos h2] at h; simp at h
    · rw [if_neg h2] at h
      by_cases h3 : (numAt s a.toNat w.toNat : Int) > 9223372036854775807
      · rw [if_pos h3] at h; simp at h
      · rw [if_neg h3] at h
        simp only [Prod.mk.injEq] at h
        obtain ⟨rfl, rfl, _⟩ := h
        exact ⟨h1.1, h1.2.1, by omega, rfl, rfl, by omega, by omega⟩
  · rw [if_neg h1] at h; simp at h
theorem putS_ok {n w : Int} {b : ByteArray} (h : putS n w = (b, 0)) : wide w ∧ 0 ≤ n ∧ n < 256 ^ w.toNat ∧ b = bytesB (beL w.toNat n.toNat) := by
  unfold putS at h
  by_cases h1 : wide w
  · rw [if_pos h1] at h
    by_cases h2 : 0 ≤ n ∧ n < 256 ^ w.toNat
    · rw [if_pos h2] at h
      exact ⟨h1, h2.1, h2.2, (Prod.mk.inj h).1.symm⟩
    · rw [if_neg h2] at h; exact absurd (Prod.mk.inj h).2 (by decide)
  · rw [if_neg h1] at h; exact absurd (Prod.mk.inj h).2 (by decide)
theorem numAt_lt {s : ByteArray} {a w : Nat} (h : a + w ≤ s.size) : numAt s a w < 256 ^ w := by
  apply beN_lt
  rw [List.length_take, List.length_drop, size_data]; omega
/-- What is taken was put. -/
theorem put_of_get {s : ByteArray} {a w n tt : Int} (h : getS s a w = (n, tt, 0)) : putS n w = (s.extract a.toNat tt.toNat, 0) := by
  obtain ⟨hw, ha, hs, rfl, rfl, hn, _⟩ := getS_ok h
  have hw' := wide_nat hw
  have hl := numAt_lt (s := s) (a := a.toNat) (w := w.toNat) (by omega)
  unfold putS
  rw [if_pos hw, if_pos ⟨by omega, pow_cast hl⟩]
  congr 1
  apply ext_list
  rw [bytesB_data, data_extract, Int.toNat_natCast, numAt, show (a + w).toNat = a.toNat + w.toNat by omega]
  rw [beL_beN]
  · rw [List.drop_take, Nat.add_sub_cancel_left]
  · rw [List.length_take, List.length_drop, size_data]; omega
/-- What was put is got, wherever it stands. -/
theorem get_of_put {n w : Int} {b x y : ByteArray} (h : putS n w = (b, 0)) (hn : n ≤ 9223372036854775807) : getS (x ++ b ++ y) x.size w = (n, x.size + w, 0) ∧ b.size = w.toNat := by
  obtain ⟨hw, h0, h1, rfl⟩ := putS_ok h
  have hw' := wide_nat hw
  have hsz : (bytesB (beL w.toNat n.toNat)).size = w.toNat := by rw [bytesB_size, beL_length]
  have hnum : (numAt (x ++ bytesB (beL w.toNat n.toNat) ++ y) x.size w.toNat : Int) = n := by
    unfold numAt
    rw [data_append, data_append, bytesB_data, List.append_assoc, List.drop_left' (size_data x), List.take_left' (beL_length _ _), beN_beL, Nat.mod_eq_of_lt]
    · omega
    · have : ((n.toNat : Nat) : Int) < 256 ^ w.toNat := by rw [Int.toNat_of_nonneg h0]; exact h1
      exact pow_cast' this
  refine ⟨?_, hsz⟩
  unfold getS
  rw [if_pos ⟨hw, by omega, by simp only [ByteArray.size_append, hsz]; omega⟩, if_neg (by simp only [ByteArray.size_append, hsz]; omega), Int.toNat_natCast, hnum, if_neg (by omega)]
theorem lay_ok {t b : ByteArray} (h : layS t = (b, 0)) : t.size ≤ 65535 ∧ b = bytesB (beL 2 t.size) ++ t := by
  unfold layS at h
  split at h
  · simp at h
  · simp only [Prod.mk.injEq] at h
    exact ⟨by omega, h.1.symm⟩
theorem put2 {n : Nat} (h : n < 65536) : putS n 2 = (bytesB (beL 2 n), 0) := by
  unfold putS
  rw [if_pos (by decide), if_pos ⟨by omega, by show (n : Int) < 256 ^ 2; omega⟩]; rfl
theorem take_of_lay {t b x y : ByteArray} {most : Int} (h : layS t = (b, 0)) (hm : (t.size : Int) ≤ most) : takeS (x ++ b ++ y) x.size most = (t, (x.size : Int) + b.size, 0) := by
  obtain ⟨hs, rfl⟩ := lay_ok h
  have hg := (get_of_put (x := x) (y := t ++ y) (put2 (n := t.size) (by omega)) (by omega)).1
  rw [show x ++ bytesB (beL 2 t.size) ++ (t ++ y) = x ++ (bytesB (beL 2 t.size) ++ t) ++ y by simp only [ByteArray.append_assoc]] at hg
  unfold takeS
  rw [if_neg (by omega), hg]
  simp only [if_true]
  rw [if_neg (by omega), if_neg (by simp only [ByteArray.size_append, bytesB_size, beL_length]; omega)]
  simp only [ByteArray.size_append, bytesB_size, beL_length, Prod.mk.injEq, and_true]
  refine ⟨?_, by omega⟩
  apply ext_list
  rw [data_extract, data_append, data_append, data_append, bytesB_data]
  rw [show ((x.size : Int) + 2).toNat = x.size + 2 by omega, show ((x.size : Int) + 2 + (t.size : Int)).toNat = x.size + 2 + t.size by omega]
  rw [List.take_append_of_le_length (by simp only [List.length_append, beL_length, size_data]; omega), List.take_of_length_le (by simp only [List.length_append, beL_length, size_data]; omega), ← List.append_assoc, List.drop_left' (by simp only [List.length_append, beL_length, size_data])]
theorem takeS_ok {s t : ByteArray} {a most tt : Int} (h : takeS s a most = (t, tt, 0)) : 0 ≤ most ∧ ∃ n, getS s a 2 = (n, a + 2, 0) ∧ n ≤ most ∧ a + 2 + n ≤ s.size ∧ t = s.extract (a + 2).toNat (a + 2 + n).toNat ∧ tt = a + 2 + n := by
  unfold takeS at h
  split at h
  · simp at h
  · split at h
    · split at h
      · simp at h
      · split at h
        · simp at h
        · rename_i h1 h2 h3 h4
          have hg : getS s a 2 = ((getS s a 2).1, (getS s a 2).2.1, 0) := by rw [← h2]
          obtain ⟨_, _, _, e, _⟩ := getS_ok hg
          simp only [Prod.mk.injEq] at h
          rw [e] at hg h4 h
          exact ⟨by omega, (getS s a 2).1, hg, by omega, by omega, h.1.symm, h.2.1.symm⟩
    · rename_i h1 h2
      simp only [Prod.mk.injEq] at h
      exact absurd h.2.2 h2
theorem lay_of_take {s t : ByteArray} {a most tt : Int} (h : takeS s a most = (t, tt, 0)) : layS t = (s.extract a.toNat tt.toNat, 0) ∧ a ≤ tt ∧ tt ≤ s.size ∧ 0 ≤ a := by
  obtain ⟨hm, n, hg, h1, h2, rfl, rfl⟩ := takeS_ok h
  obtain ⟨_, ha, hs, _, hn, _, h0⟩ := getS_ok hg
  have hp := put_of_get hg
  obtain ⟨_, _, hlt, hb⟩ := putS_ok hp
  have hlt' : n < 65536 := hlt
  refine ⟨?_, by omega, by omega, ha⟩
  have hsz : (s.extract (a + 2).toNat (a + 2 + n).toNat).size = n.toNat := by rw [ByteArray.size_extract]; omega
  unfold layS
  rw [hsz, if_neg (by omega)]
  congr 1
  have : bytesB (beL 2 n.toNat) = s.extract a.toNat (a + 2).toNat := hb.symm
  rw [this]
  apply ext_list
  rw [data_append, data_extract, data_extract, data_extract, List.drop_take, List.drop_take, List.drop_take]
  rw [show (a + 2).toNat - a.toNat = 2 by omega, show (a + 2 + n).toNat - (a + 2).toNat = n.toNat by omega, show (a + 2 + n).toNat - a.toNat = 2 + n.toNat by omega, show (a + 2).toNat = a.toNat + 2 by omega, List.take_add, List.drop_drop]
theorem extract_append {s : ByteArray} {i j k : Nat} (h1 : i ≤ j) (h2 : j ≤ k) : s.extract i j ++ s.extract j k = s.extract i k := by
  apply ext_list
  rw [data_append, data_extract, data_extract, data_extract, List.drop_take, List.drop_take, List.drop_take]
  rw [show k - i = (j - i) + (k - j) by omega, List.take_add, List.drop_drop, show i + (j - i) = j by omega]
theorem extract_self {s : ByteArray} {i : Nat} : s.extract i i = ⟨#[]⟩ := by
  apply ext_list
  rw [data_extract, List.drop_take, Nat.sub_self]; rfl
theorem rowL_cons {w n : Int} {l : List Int} {b : ByteArray} (h : rowL w (n :: l) = (b, 0)) : ∃ p q, putS n w = (p, 0) ∧ rowL w l = (q, 0) ∧ b = p ++ q := by
  simp only [rowL] at h
  by_cases h1 : (putS n w).2 = 0
  · rw [if_pos h1] at h
    by_cases h2 : (rowL w l).2 = 0
    · rw [if_pos h2] at h
      exact ⟨(putS n w).1, (rowL w l).1, by rw [← h1], by rw [← h2], (Prod.mk.inj h).1.symm⟩
    · rw [if_neg h2] at h; exact absurd (Prod.mk.inj h).2 h2
  · rw [if_neg h1] at h; exact absurd (Prod.mk.inj h).2 h1
theorem rowL_mk {w n : Int} {l : List Int} {p q : ByteArray} (h1 : putS n w = (p, 0)) (h2 : rowL w l = (q, 0)) : rowL w (n :: l) = (p ++ q, 0) := by
  simp only [rowL, h1, h2, if_true]
theorem unrowL_cons {s : ByteArray} {w : Int} {n : Nat} {a tt : Int} {l : List Int} (h : unrowL s w (n + 1) a = (l, tt, 0)) : ∃ v t ls, getS s a w = (v, t, 0) ∧ unrowL s w n t = (ls, tt, 0) ∧ l = v :: ls := by
  simp only [unrowL] at h
  by_cases h1 : (getS s a w).2.2 = 0
  · rw [if_pos h1] at h
    by_cases h2 : (unrowL s w n (getS s a w).2.1).2.2 = 0
    · rw [if_pos h2] at h
      obtain ⟨e1, e2⟩ := Prod.mk.inj h
      refine ⟨(getS s a w).1, (getS s a w).2.1, _, by rw [← h1], ?_, e1.symm⟩
      exact Prod.ext rfl e2
    · rw [if_neg h2] at h
      exact absurd (Prod.mk.inj (Prod.mk.inj h).2).2 h2
  · rw [if_neg h1] at h
    exact absurd (Prod.mk.inj (Prod.mk.inj h).2).2 h1
theorem unrowL_of_rowL {w : Int} {y : ByteArray} : ∀ (l : List Int) (b x : ByteArray), rowL w l = (b, 0) → (∀ n ∈ l, n ≤ 9223372036854775807) → unrowL (x ++ b ++ y) w l.length (x.size : Int) = (l, (x.size : Int) + b.size, 0)
  | [], b, x, h, _ => by
    simp only [rowL, Prod.mk.injEq] at h
    obtain ⟨rfl, _⟩ := h
    have e0 : ((⟨#[]⟩ : ByteArray).size : Int) = 0 := rfl
    exact congrArg (fun z => (([] : List Int), z, (0 : Int))) (show (x.size : Int) = (x.size : Int) + ((⟨#[]⟩ : ByteArray).size : Int) by rw [e0]; omega)
  | n :: l, b, x, h, hn => by
    obtain ⟨p, q, hp, hq, rfl⟩ := rowL_cons h
    obtain ⟨hg, hs⟩ := get_of_put (x := x) (y := q ++ y) hp (hn n List.mem_cons_self)
    have hw := wide_nat (putS_ok hp).1
    have ih := unrowL_of_rowL (y := y) l q (x ++ p) hq (fun m hm => hn m (List.mem_cons_of_mem _ hm))
    have e : x ++ p ++ (q ++ y) = x ++ (p ++ q) ++ y := by simp only [ByteArray.append_assoc]
    have e2 : x ++ p ++ q ++ y = x ++ (p ++ q) ++ y := by simp only [ByteArray.append_assoc]
    rw [e] at hg
    rw [e2, ByteArray.size_append, show ((x.size + p.size : Nat) : Int) = (x.size : Int) + w by omega] at ih
    simp only [List.length_cons, unrowL, hg, ih, if_true]
    rw [ByteArray.size_append]
    congr 2
    omega
theorem rowL_of_unrowL {s : ByteArray} {w : Int} : ∀ (n : Nat) (a tt : Int) (l : List Int), unrowL s w n a = (l, tt, 0) → 0 ≤ a → a ≤ s.size → rowL w l = (s.extract a.toNat tt.toNat, 0) ∧ a ≤ tt ∧ tt ≤ s.size ∧ l.length = n
  | 0, a, tt, l, h, h0, h1 => by
    simp only [unrowL, Prod.mk.injEq] at h
    obtain ⟨rfl, rfl, _⟩ := h
    exact ⟨by rw [extract_self]; rfl, Int.le_refl _, h1, rfl⟩
  | n + 1, a, tt, l, h, h0, h1 => by
    obtain ⟨v, t, ls, hg, hu, rfl⟩ := unrowL_cons h
    obtain ⟨hw, _, hs, rfl, _⟩ := getS_ok hg
    have hw' := wide_nat hw
    obtain ⟨ih, i1, i2, i3⟩ := rowL_of_unrowL n (a + w) tt ls hu (by omega) (by omega)
    refine ⟨?_, by omega, i2, by simp [i3]⟩
    rw [rowL_mk (put_of_get hg) ih, extract_append (by omega) (by omega)]
theorem rowS_ok {w : Int} {l : List Int} {b : ByteArray} (h : rowS w l = (b, 0)) : wide w ∧ l.length ≤ 1000 ∧ ∃ q, rowL w l = (q, 0) ∧ b = bytesB (beL 2 l.length) ++ q := by
  unfold rowS at h
  by_cases h1 : wide w
  · rw [if_pos h1] at h
    by_cases h2 : l.length > 1000
    · rw [if_pos h2] at h; exact absurd (Prod.mk.inj h).2 (by decide)
    · rw [if_neg h2] at h
      by_cases h3 : (rowL w l).2 = 0
      · rw [if_pos h3] at h
        exact ⟨h1, by omega, (rowL w l).1, by rw [← h3], (Prod.mk.inj h).1.symm⟩
      · rw [if_neg h3] at h; exact absurd (Prod.mk.inj h).2 h3
  · rw [if_neg h1] at h; exact absurd (Prod.mk.inj h).2 (by decide)
theorem unrow_of_row {w top : Int} {l : List Int} {b x y : ByteArray} (h : rowS w l = (b, 0)) (hn : ∀ n ∈ l, n ≤ 9223372036854775807) (ht : (l.length : Int) ≤ top) : unrowS (x ++ b ++ y) (x.size : Int) w top = (l, (x.size : Int) + b.size, 0) := by
  obtain ⟨hw, hl, q, hq, rfl⟩ := rowS_ok h
  have hg := (get_of_put (x := x) (y := q ++ y) (put2 (n := l.length) (by omega)) (by omega)).1
  have e : x ++ bytesB (beL 2 l.length) ++ (q ++ y) = x ++ (bytesB (beL 2 l.length) ++ q) ++ y := by simp only [ByteArray.append_assoc]
  rw [e] at hg
  have hu := unrowL_of_rowL (y := y) l q (x ++ bytesB (beL 2 l.length)) hq hn
  have e2 : x ++ bytesB (beL 2 l.length) ++ q ++ y = x ++ (bytesB (beL 2 l.length) ++ q) ++ y := by simp only [ByteArray.append_assoc]
  have e3 : (bytesB (beL 2 l.length)).size = 2 := by rw [bytesB_size, beL_length]
  rw [e2, ByteArray.size_append, e3] at hu
  unfold unrowS
  rw [if_neg (by simp only [ByteArray.size_append, e3]; intro h; rcases h with h | h | h | h; exact h hw; omega; omega; omega), hg]
  simp only [if_true]
  rw [if_neg (by omega), Int.toNat_natCast]
  rw [show ((x.size + 2 : Nat) : Int) = (x.size : Int) + 2 by omega] at hu
  rw [hu, ByteArray.size_append, e3]
  congr 2
  omega
theorem unrowS_ok {s : ByteArray} {a w top tt : Int} {l : List Int} (h : unrowS s a w top = (l, tt, 0)) : wide w ∧ 0 ≤ top ∧ ∃ n, getS s a 2 = (n, a + 2, 0) ∧ n ≤ top ∧ n ≤ 1000 ∧ unrowL s w n.toNat (a + 2) = (l, tt, 0) := by
  unfold unrowS at h
  by_cases h1 : ¬ wide w ∨ a < 0 ∨ a > s.size ∨ top < 0
  · rw [if_pos h1] at h; exact absurd (Prod.mk.inj (Prod.mk.inj h).2).2 (by decide)
  · rw [if_neg h1] at h
    by_cases h2 : (getS s a 2).2.2 = 0
    · rw [if_pos h2] at h
      by_cases h3 : (getS s a 2).1 > top ∨ (getS s a 2).1 > 1000
      · rw [if_pos h3] at h; exact absurd (Prod.mk.inj (Prod.mk.inj h).2).2 (by decide)
      · rw [if_neg h3] at h
        have hg : getS s a 2 = ((getS s a 2).1, (getS s a 2).2.1, 0) := by rw [← h2]
        obtain ⟨_, _, _, e, _⟩ := getS_ok hg
        rw [e] at h hg
        exact ⟨Classical.byContradiction fun x => h1 (.inl x), by omega, (getS s a 2).1, hg, by omega, by omega, h⟩
    · rw [if_neg h2] at h; exact absurd (Prod.mk.inj (Prod.mk.inj h).2).2 h2
theorem row_of_unrow {s : ByteArray} {a w top tt : Int} {l : List Int} (h : unrowS s a w top = (l, tt, 0)) : rowS w l = (s.extract a.toNat tt.toNat, 0) ∧ a ≤ tt ∧ tt ≤ s.size ∧ 0 ≤ a := by
  obtain ⟨hw, _, n, hg, _, hn, hu⟩ := unrowS_ok h
  obtain ⟨_, ha, hs, _, _, _, h0⟩ := getS_ok hg
  obtain ⟨hr, h1, h2, hl⟩ := rowL_of_unrowL _ _ _ _ hu (by omega) (by omega)
  have hp := put_of_get hg
  have hb := (putS_ok hp).2.2.2
  refine ⟨?_, by omega, h2, ha⟩
  unfold rowS
  rw [if_pos hw, if_neg (by omega), hr]
  simp only [if_true]
  rw [hl, show bytesB (beL 2 n.toNat) = s.extract a.toNat (a + 2).toNat from hb.symm, extract_append (by omega) (by omega)]
theorem put_order {a b w : Int} {x y : ByteArray} (h1 : putS a w = (x, 0)) (h2 : putS b w = (y, 0)) : (Op.bytesLess x.data.toList y.data.toList = true ↔ a < b) := by
  obtain ⟨_, ha, ha', rfl⟩ := putS_ok h1
  obtain ⟨_, hb, hb', rfl⟩ := putS_ok h2
  rw [bytesB_data, bytesB_data, less_beN w.toNat _ _ (beL_length _ _) (beL_length _ _), beN_beL, beN_beL, Nat.mod_eq_of_lt (pow_cast' (by rw [Int.toNat_of_nonneg ha]; exact ha')), Nat.mod_eq_of_lt (pow_cast' (by rw [Int.toNat_of_nonneg hb]; exact hb'))]
  omega
end Go.Proofs.Ytabapiofkipkoaa.Q
