/- What the functions of cents (and the document's) come to: sums, differences, products; no condition but the bounds of an int. -/
import Derived.Test.YtefhljhpcpajgaaXPure
import Derived.Test.YtefhljhpcpajgaaF25
import Derived.Test.YtefhljhpcpajgaaF26
import Derived.Test.YtefhljhpcpajgaaF27
import Derived.Test.YtefhljhpcpajgaaF28
import Derived.Test.YtefhljhpcpajgaaF29
import Derived.Test.YtefhljhpcpajgaaF30
set_option linter.unusedVariables false
namespace Go.Proofs.Ytefhljhpcpajgaa.Q
open Go.RowKit Go.Proofs.Ytefhljhpcpajgaa.F Go.Proofs.YtefhljhpcpajgaaW.PrintWords Go.Proofs.YtefhljhpcpajgaaW.PrintLast Go.Proofs.YtefhljhpcpajgaaW.PrintMore

/-- An amount. -/
def amt (n : Int) : Prop := -1000000000000 ≤ n ∧ n ≤ 1000000000000
instance (n : Int) : Decidable (amt n) := by unfold amt; infer_instance
def toldS (n : Int) : Int × Int := if amt n then (n, 0) else (0, 8)
def sumS : Int → List Int → Int × Int
  | n, [] => (n, 0)
  | n, x :: xs => if amt x ∧ amt (n + x) then sumS (n + x) xs else (0, 8)
def subS (a b : Int) : Int × Int := if amt a ∧ amt b ∧ amt (a - b) then (a - b, 0) else (0, 8)
def timesS (a b : Int) : Int × Int := if amt a ∧ amt b ∧ amt (a * b) then (a * b, 0) else (0, 8)

theorem in_f (n : Int) : cents_In.f n = some (decide (amt n)) := by
  unfold cents_In.f amt
  by_cases h : n ≥ -1000000000000
  · rw [if_pos h]; congr 1; exact decide_eq_decide.2 ⟨fun a => ⟨h, a⟩, fun a => a.2⟩
  · rw [if_neg h]; congr 1; exact (decide_eq_false (fun a => h a.1)).symm
theorem ref_in_f (n : Int) : backhaulref02_In.f n = some (decide (amt n)) := by
  unfold backhaulref02_In.f amt
  by_cases h : n ≥ -1000000000000
  · rw [if_pos h]; congr 1; exact decide_eq_decide.2 ⟨fun a => ⟨h, a⟩, fun a => a.2⟩
  · rw [if_neg h]; congr 1; exact (decide_eq_false (fun a => h a.1)).symm
theorem told_f (n : Int) : cents_told.f n = some (toldS n) := by
  unfold cents_told.f toldS
  rw [in_f]
  by_cases h : amt n
  · simp [h]
  · simp [h]
theorem cents_Add_l0 {l : List Int} (hl : l.length < 9223372036854775807) (d : Nat) : ∀ (i : Nat) (n : Int), l.length - i = d → i ≤ l.length → amt n →
    Ev (fun k => cents_Add.l0 k n l (l.length : Int) (i : Int)) (sumS n (l.drop i)) := by
  induction d with
  | zero =>
    intro i n hd hi hn
    refine Ev.step (fun k => by simp only [cents_Add.l0]; rfl) ?_
    refine Ev.neg (by omega) (Ev.ok ?_)
    rw [List.drop_eq_nil_of_le (by omega)]; rfl
  | succ d ih =>
    intro i n hd hi hn
    have h : i < l.length := by omega
    refine Ev.step (fun k => by simp only [cents_Add.l0]; rfl) ?_
    refine Ev.pos (by omega) (Ev.pos (by omega) (Ev.pos (by omega) ?_))
    rw [drop_cons h, rd_nat h]
    refine Q.Ev.bindc (in_f _) ?_
    by_cases h1 : amt l[i]
    · refine Ev.pos (decide_eq_true h1) ?_
      have hw : wrap64 (n + l[i]) = n + l[i] := by unfold amt at hn h1; exact wrap_eq (by omega) (by omega)
      rw [hw]
      refine Q.Ev.bindc (in_f _) ?_
      by_cases h2 : amt (n + l[i])
      · refine Ev.pos (decide_eq_true h2) ?_
        simp only [sumS]
        rw [if_pos ⟨h1, h2⟩, wrap_eq (by omega) (by omega)]
        exact ih (i + 1) _ (by omega) (by omega) h2
      · refine Ev.neg (by simp [h2]) (Ev.ok ?_)
        simp only [sumS]; rw [if_neg (fun a => h2 a.2)]
    · refine Ev.neg (by simp [h1]) (Ev.ok ?_)
      simp only [sumS]; rw [if_neg (fun a => h1 a.1)]
theorem amt0 : amt 0 := by unfold amt; omega
theorem cents_Add_f {l : List Int} (hl : l.length < 9223372036854775807) : Ev (fun k => cents_Add.f k l) (sumS 0 l) := by
  unfold cents_Add.f
  exact cents_Add_l0 hl l.length 0 0 (by omega) (by omega) amt0
theorem ref_Add_l0 {l : List Int} (hl : l.length < 9223372036854775807) (d : Nat) : ∀ (i : Nat) (n : Int), l.length - i = d → i ≤ l.length → amt n →
    Ev (fun k => backhaulref02_Add.l0 k l n (i : Int)) (sumS n (l.drop i)) := by
  induction d with
  | zero =>
    intro i n hd hi hn
    refine Ev.step (fun k => by simp only [backhaulref02_Add.l0]; rfl) ?_
    refine Ev.neg (by omega) (Ev.ok ?_)
    rw [List.drop_eq_nil_of_le (by omega)]; rfl
  | succ d ih =>
    intro i n hd hi hn
    have h : i < l.length := by omega
    refine Ev.step (fun k => by simp only [backhaulref02_Add.l0]; rfl) ?_
    refine Ev.pos (by omega) (Ev.pos (by omega) ?_)
    rw [drop_cons h, rd_nat h]
    refine Q.Ev.bindc (ref_in_f _) ?_
    by_cases h1 : amt l[i]
    · refine Ev.pos (decide_eq_true h1) ?_
      have hw : wrap64 (n + l[i]) = n + l[i] := by unfold amt at hn h1; exact wrap_eq (by omega) (by omega)
      rw [hw]
      refine Q.Ev.bindc (ref_in_f _) ?_
      by_cases h2 : amt (n + l[i])
      · refine Ev.pos (decide_eq_true h2) ?_
        simp only [sumS]
        rw [if_pos ⟨h1, h2⟩, wrap_eq (by omega) (by omega)]
        exact ih (i + 1) _ (by omega) (by omega) h2
      · refine Ev.neg (by simp [h2]) (Ev.ok ?_)
        simp only [sumS]; rw [if_neg (fun a => h2 a.2)]
    · refine Ev.neg (by simp [h1]) (Ev.ok ?_)
      simp only [sumS]; rw [if_neg (fun a => h1 a.1)]
theorem ref_Add_f {l : List Int} (hl : l.length < 9223372036854775807) : Ev (fun k => backhaulref02_Add.f k l) (sumS 0 l) := by
  unfold backhaulref02_Add.f
  exact ref_Add_l0 hl l.length 0 0 (by omega) (by omega) amt0
theorem sub_f (a b : Int) : cents_Sub.f a b = some (subS a b) := by
  unfold cents_Sub.f subS
  simp only [in_f, Option.bind_some, told_f]
  by_cases h1 : amt a
  · by_cases h2 : amt b
    · rw [wrap_eq (by unfold amt at h1 h2; omega) (by unfold amt at h1 h2; omega)]
      simp [h1, h2, toldS]
      try (split <;> rfl)
    · simp [h1, h2]
  · simp [h1]
theorem ref_sub_f (a b : Int) : backhaulref02_Sub.f a b = some (subS a b) := by
  unfold backhaulref02_Sub.f subS
  simp only [ref_in_f, Option.bind_some]
  by_cases h1 : amt a
  · by_cases h2 : amt b
    · rw [wrap_eq (by unfold amt at h1 h2; omega) (by unfold amt at h1 h2; omega)]
      simp [h1, h2]
      try (split <;> rfl)
    · simp [h1, h2]
  · simp [h1]

theorem and32 {x : Int} (h0 : 0 ≤ x) (h1 : x < 18446744073709551616) : Go.bits .and .u64 x 4294967295 = x % 4294967296 :=
  Go.bits_mask .u64 64 (by decide) (fun n h0 h1 => u64_eq h0 h1) 32 (by decide) x h0 h1
theorem mul64_f {a b : Int} (ha0 : 0 ≤ a) (ha : a < 18446744073709551616) (hb0 : 0 ≤ b) (hb : b < 18446744073709551616) :
    bits_Mul64.f a b = some (a * b / 18446744073709551616, a * b % 18446744073709551616) := by
  unfold bits_Mul64.f
  rw [and32 ha0 ha, and32 hb0 hb]
  obtain ⟨ah, hah⟩ : ∃ x, x = a / 4294967296 := ⟨_, rfl⟩
  obtain ⟨al, hal⟩ : ∃ x, x = a % 4294967296 := ⟨_, rfl⟩
  obtain ⟨bh, hbh⟩ : ∃ x, x = b / 4294967296 := ⟨_, rfl⟩
  obtain ⟨bl, hbl⟩ : ∃ x, x = b % 4294967296 := ⟨_, rfl⟩
  rw [← hah, ← hal, ← hbh, ← hbl]
  have ea : a = ah * 4294967296 + al := by omega
  have eb : b = bh * 4294967296 + bl := by omega
  have bnd : ∀ x y : Int, 0 ≤ x → x ≤ 4294967295 → 0 ≤ y → y ≤ 4294967295 → 0 ≤ x * y ∧ x * y ≤ 18446744065119617025 := by
    intro x y hx0 hx hy0 hy
    refine ⟨Int.mul_nonneg hx0 hy0, ?_⟩
    have := Int.mul_le_mul hx hy hy0 (by omega)
    omega
  obtain ⟨p, hp⟩ : ∃ x, x = ah * bh := ⟨_, rfl⟩
  obtain ⟨q, hq⟩ : ∃ x, x = ah * bl := ⟨_, rfl⟩
  obtain ⟨r, hr⟩ : ∃ x, x = al * bh := ⟨_, rfl⟩
  obtain ⟨s, hs⟩ : ∃ x, x = al * bl := ⟨_, rfl⟩
  have bp := bnd ah bh (by omega) (by omega) (by omega) (by omega)
  have bq := bnd ah bl (by omega) (by omega) (by omega) (by omega)
  have br := bnd al bh (by omega) (by omega) (by omega) (by omega)
  have bs := bnd al bl (by omega) (by omega) (by omega) (by omega)
  have e : a * b = p * 18446744073709551616 + (q + r) * 4294967296 + s := by
    rw [ea, eb, hp, hq, hr, hs]
    simp only [Int.add_mul, Int.mul_add]
    rw [show ah * 4294967296 * (bh * 4294967296) = ah * bh * 18446744073709551616 by rw [Int.mul_assoc, Int.mul_left_comm 4294967296 bh, Int.mul_assoc ah bh]; rfl, show ah * 4294967296 * bl = ah * bl * 4294967296 by rw [Int.mul_right_comm], show al * (bh * 4294967296) = al * bh * 4294967296 by rw [Int.mul_assoc]]
    omega
  rw [← hp] at bp
  rw [← hq] at bq
  rw [← hr] at br
  rw [← hs] at bs
  rw [← hp, ← hq, ← hr, ← hs, e]
  clear e hp hq hr hs ea eb hah hal hbh hbl
  rw [u64_eq (x := p) (by omega) (by omega), u64_eq (x := q) (by omega) (by omega), u64_eq (x := r) (by omega) (by omega), u64_eq (x := s) (by omega) (by omega)]
  rw [u64_eq (x := q + s / 4294967296) (by omega) (by omega)]
  rw [u64_eq (x := p + (q + s / 4294967296) / 4294967296) (by omega) (by omega)]
  rw [and32 (x := q + s / 4294967296) (by omega) (by omega)]
  rw [u64_eq (x := (q + s / 4294967296) % 4294967296 + r) (by omega) (by omega)]
  rw [u64_eq (x := p + (q + s / 4294967296) / 4294967296 + ((q + s / 4294967296) % 4294967296 + r) / 4294967296) (by omega) (by omega)]
  have hw : IntKind.u64.wrap (p * 18446744073709551616 + (q + r) * 4294967296 + s) = (p * 18446744073709551616 + (q + r) * 4294967296 + s) % 18446744073709551616 := by simp [IntKind.wrap, IntKind.signed, IntKind.bits]
  rw [hw]
  congr 2
  omega
theorem product_f {a b : Int} (ha0 : 0 ≤ a) (ha : a < 18446744073709551616) (hb0 : 0 ≤ b) (hb : b < 18446744073709551616) :
    cents_product.f a b = some (a * b / 18446744073709551616, a * b % 18446744073709551616) := by
  unfold cents_product.f
  rw [mul64_f ha0 ha hb0 hb]
  rfl
theorem above_f {x y : Int} (hx0 : 0 ≤ x) (hy0 : 0 ≤ y) : cents_wide_above.f (x / 18446744073709551616) (x % 18446744073709551616) (y / 18446744073709551616) (y % 18446744073709551616) = some (decide (x > y)) := by
  unfold cents_wide_above.f
  split
  · exact congrArg some (decide_eq_true (by omega)).symm
  · split
    · exact congrArg some (decide_eq_decide.2 (by omega))
    · exact congrArg some (decide_eq_false (by omega)).symm
theorem size_f {a : Int} (h : amt a) : cents_size.f a = some (a.natAbs : Int) := by
  unfold amt at h
  unfold cents_size.f
  split
  · rw [wrap_eq (by omega) (by omega), u64_eq (by omega) (by omega)]; congr 1; omega
  · rw [u64_eq (by omega) (by omega)]; congr 1; omega
theorem natAbs_amt {a b : Int} : (a.natAbs : Int) * (b.natAbs : Int) ≤ 1000000000000 ↔ amt (a * b) := by
  have h : (a.natAbs : Int) * (b.natAbs : Int) = ((a * b).natAbs : Int) := by rw [Int.natAbs_mul]; rfl
  rw [h]
  unfold amt
  omega
theorem times_f (a b : Int) : cents_Times.f a b = some (timesS a b) := by
  unfold cents_Times.f timesS
  simp only [in_f, Option.bind_some]
  by_cases h1 : amt a
  · by_cases h2 : amt b
    · simp only [h1, h2, decide_true, if_true, size_f h1, size_f h2, Option.bind_some, true_and]
      have h3 := h1; have h4 := h2
      unfold amt at h3 h4
      rw [product_f (by omega) (by omega) (by omega) (by omega)]
      simp only [Option.bind_some]
      have hab := above_f (x := (a.natAbs : Int) * (b.natAbs : Int)) (y := 1000000000000) (Int.mul_nonneg (by omega) (by omega)) (by omega)
      rw [show (1000000000000 : Int) / 18446744073709551616 = 0 from by decide, show (1000000000000 : Int) % 18446744073709551616 = 1000000000000 from by decide] at hab
      rw [hab]
      simp only [Option.bind_some]
      by_cases h5 : amt (a * b)
      · have := natAbs_amt.2 h5
        have h6 := h5
        unfold amt at h6
        rw [if_pos h5, if_neg (by simp; omega), wrap_eq (by omega) (by omega)]
      · have : ¬ _ := fun x => h5 (natAbs_amt.1 x)
        rw [if_neg h5, if_pos (by simp; omega)]
    · simp [h1, h2]
  · simp [h1]
theorem ref_times_j1 {a b : Int} (h1 : amt a) (h2 : amt b) : Ev (fun k => backhaulref02_Times.j1 k a b (a.natAbs : Int) b) (timesS a b) := by
  have h3 := h1; have h4 := h2
  unfold amt at h3 h4
  have hz : timesS a b = if amt (a * b) then (a * b, 0) else (0, 8) := by unfold timesS; simp [h1, h2]
  have key : ∀ y : Int, 0 < y → y = (b.natAbs : Int) → (((a.natAbs : Int) > wrap64 (Int.tdiv 1000000000000 y)) ↔ ¬ amt (a * b)) := by
    intro y hy e
    rw [Int.tdiv_eq_ediv_of_nonneg (by decide)]
    have hb := Int.ediv_le_self y (show (0 : Int) ≤ 1000000000000 by decide)
    have hb0 := Int.ediv_nonneg (show (0 : Int) ≤ 1000000000000 by decide) (show 0 ≤ y by omega)
    rw [wrap_eq (by omega) (by omega), ← natAbs_amt, ← e, ← Int.le_ediv_iff_mul_le hy]
    omega
  have fin : ∀ c : Prop, [Decidable c] → (c ↔ ¬ amt (a * b)) → Ev (fun k => if c then some ((0 : Int), (8 : Int)) else some (wrap64 (a * b), 0)) (timesS a b) := by
    intro c _ hc
    rw [hz]
    refine Ev.ite (fun h => Ev.ok ?_) (fun h => Ev.ok ?_)
    · rw [if_neg (hc.1 h)]
    · have h5 : amt (a * b) := Decidable.not_not.1 (fun x => h (hc.2 x))
      rw [if_pos h5]
      unfold amt at h5
      rw [wrap_eq (by omega) (by omega)]
  have zero : b = 0 → Ev (fun k => some (wrap64 (a * b), (0 : Int))) (timesS a b) := by
    intro e
    subst e
    rw [hz, Int.mul_zero, if_pos amt0]
    exact Ev.ok (by rw [wrap_eq (by decide) (by decide)])
  refine Ev.step (fun k => by simp only [backhaulref02_Times.j1]; rfl) ?_
  refine Ev.ite (fun h => ?_) (fun h => ?_)
  · rw [wrap_eq (by omega) (by omega)]
    exact Ev.pos (by omega) (Ev.neg (by omega) (fin _ (key _ (by omega) (by omega))))
  · refine Ev.ite (fun h5 => Ev.neg (by omega) (fin _ (key _ (by omega) (by omega)))) (fun h5 => zero (by omega))
theorem ref_times_f (a b : Int) : Ev (fun k => backhaulref02_Times.f k a b) (timesS a b) := by
  unfold backhaulref02_Times.f
  have bad : ¬ (amt a ∧ amt b) → Ev (fun k => backhaulref02_Times.j0 k a b true) (timesS a b) := by
    intro h
    refine Ev.step (fun k => by simp only [backhaulref02_Times.j0]; rfl) ?_
    refine Ev.pos (by first | trivial | rfl) (Ev.ok ?_)
    unfold timesS; rw [if_neg (fun x => h ⟨x.1, x.2.1⟩)]
  refine Q.Ev.bindc (ref_in_f _) ?_
  refine Ev.ite (fun h => ?_) (fun h => bad (fun x => h (by simpa using x.1)))
  refine Q.Ev.bindc (ref_in_f _) ?_
  have h1 : amt a := of_decide_eq_true h
  by_cases h2 : amt b
  · rw [decide_eq_true h2]
    refine Ev.step (fun k => by simp only [backhaulref02_Times.j0]; rfl) ?_
    refine Ev.neg (by decide) ?_
    have h3 := h1
    unfold amt at h3
    refine Ev.ite (fun h => ?_) (fun h => ?_)
    · have := ref_times_j1 h1 h2
      rw [wrap_eq (by omega) (by omega), show -a = (a.natAbs : Int) by omega]
      exact this
    · have := ref_times_j1 h1 h2
      rw [show (a.natAbs : Int) = a by omega] at this
      exact this
  · rw [decide_eq_false h2]
    exact bad (fun x => h2 x.2)
end Go.Proofs.Ytefhljhpcpajgaa.Q
