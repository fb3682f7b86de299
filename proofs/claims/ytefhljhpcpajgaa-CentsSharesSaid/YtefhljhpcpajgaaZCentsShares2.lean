-- merged by merge.py (the session's own program)
import Derived.Deep.Slices
import Derived.ChangeArms
import Derived.WideShapes
import Derived.OpenShut
import Derived.Test.YtefhljhpcpajgaaRows
import Derived.WalkKit
import Derived.ProofKit
import Derived.WideLaws
import Derived.ShutString
import Derived.ChangeOld
import Derived.Below
import Derived.SizedLaws
import Derived.Carry
import Derived.Test.YtefhljhpcpajgaaZCentsShares1
/- What math/bits.Div64 comes to: quotient and rest of a number of two words, if its upper word is below the divisor. -/
set_option linter.unusedVariables false
set_option maxRecDepth 4000
namespace Go.Proofs.Ytefhljhpcpajgaa.Q
open Go.RowKit Go.Proofs.Ytefhljhpcpajgaa.F Go.Proofs.YtefhljhpcpajgaaW.PrintWords Go.Proofs.YtefhljhpcpajgaaW.PrintLast Go.Proofs.YtefhljhpcpajgaaW.PrintMore

abbrev tab8 : ByteArray := (⟨#[0, 1, 2, 2, 3, 3, 3, 3, 4, 4, 4, 4, 4, 4, 4, 4, 5, 5, 5, 5, 5, 5, 5, 5, 5, 5, 5, 5, 5, 5, 5, 5, 6, 6, 6, 6, 6, 6, 6, 6, 6, 6, 6, 6, 6, 6, 6, 6, 6, 6, 6, 6, 6, 6, 6, 6, 6, 6, 6, 6, 6, 6, 6, 6, 7, 7, 7, 7, 7, 7, 7, 7, 7, 7, 7, 7, 7, 7, 7, 7, 7, 7, 7, 7, 7, 7, 7, 7, 7, 7, 7, 7, 7, 7, 7, 7, 7, 7, 7, 7, 7, 7, 7, 7, 7, 7, 7, 7, 7, 7, 7, 7, 7, 7, 7, 7, 7, 7, 7, 7, 7, 7, 7, 7, 7, 7, 7, 7, 8, 8, 8, 8, 8, 8, 8, 8, 8, 8, 8, 8, 8, 8, 8, 8, 8, 8, 8, 8, 8, 8, 8, 8, 8, 8, 8, 8, 8, 8, 8, 8, 8, 8, 8, 8, 8, 8, 8, 8, 8, 8, 8, 8, 8, 8, 8, 8, 8, 8, 8, 8, 8, 8, 8, 8, 8, 8, 8, 8, 8, 8, 8, 8, 8, 8, 8, 8, 8, 8, 8, 8, 8, 8, 8, 8, 8, 8, 8, 8, 8, 8, 8, 8, 8, 8, 8, 8, 8, 8, 8, 8, 8, 8, 8, 8, 8, 8, 8, 8, 8, 8, 8, 8, 8, 8, 8, 8, 8, 8, 8, 8, 8, 8, 8, 8, 8, 8, 8, 8, 8, 8, 8, 8, 8, 8, 8, 8]⟩ : ByteArray)
def len8ok (x : Nat) : Bool := let t := (bt tab8 (x : Int)).toNat; decide (bt tab8 (x : Int) = (t : Int)) && decide (t ≤ 8) && decide (x < 2 ^ t) && (x == 0 || (decide (1 ≤ t) && decide (2 ^ (t - 1) ≤ x)))
theorem len8_all : (List.range 256).all len8ok = true := by decide +kernel
theorem len8 {x : Int} (h0 : 0 ≤ x) (h1 : x < 256) : ∃ t : Nat, bt tab8 x = (t : Int) ∧ t ≤ 8 ∧ x < (2 : Int) ^ t ∧ (0 < x → 1 ≤ t ∧ (2 : Int) ^ (t - 1) ≤ x) := by
  obtain ⟨n, rfl⟩ := Int.eq_ofNat_of_zero_le h0
  have h := List.all_eq_true.1 len8_all n (List.mem_range.2 (by omega))
  unfold len8ok at h
  simp only [Bool.and_eq_true, decide_eq_true_eq, Bool.or_eq_true, beq_iff_eq] at h
  obtain ⟨⟨⟨ha, hb⟩, hc⟩, hd⟩ := h
  refine ⟨_, ha, hb, by exact_mod_cast hc, fun hp => ?_⟩
  rcases hd with hd | hd
  · omega
  · exact ⟨hd.1, by exact_mod_cast hd.2⟩
theorem up_pow {x : Int} {m t : Nat} (hx : 0 ≤ x) (ht : 1 ≤ t) (h1 : (2 : Int) ^ (t - 1) ≤ x / 2 ^ m) (h2 : x / 2 ^ m < (2 : Int) ^ t) : (2 : Int) ^ (m + t - 1) ≤ x ∧ x < (2 : Int) ^ (m + t) := by
  have hp : (0 : Int) < 2 ^ m := Int.pow_pos (by decide)
  constructor
  · rw [show m + t - 1 = (t - 1) + m by omega, Int.pow_add]
    exact (Int.le_ediv_iff_mul_le hp).1 h1
  · rw [Nat.add_comm, Int.pow_add]
    exact (Int.ediv_lt_iff_lt_mul hp).1 h2
theorem len64_j0 {x c : Int} (hx0 : 0 < x) (hx : x < 4294967296) (hc0 : 0 ≤ c) (hc : c ≤ 32) : ∃ n : Nat, Ev (fun k => bits_Len64.j0 k x c) (c + n) ∧ 1 ≤ n ∧ n ≤ 32 ∧ (2 : Int) ^ (n - 1) ≤ x ∧ x < (2 : Int) ^ n := by
  by_cases h1 : x ≥ 65536
  · by_cases h2 : x / 65536 ≥ 256
    · obtain ⟨t, e, ht, hlt, hpos⟩ := len8 (x := x / 65536 / 256 % 256) (by omega) (by omega)
      obtain ⟨h3, h4⟩ := hpos (by omega)
      have e2 : x / 65536 / 256 % 256 = x / 2 ^ 24 := by rw [show (2 : Int) ^ 24 = 16777216 by decide]; omega
      rw [e2] at hlt h4
      obtain ⟨h5, h6⟩ := up_pow (m := 24) (by omega) h3 h4 hlt
      refine ⟨24 + t, Ev.step (fun k => by simp only [bits_Len64.j0]; rfl) ?_, by omega, by omega, h5, h6⟩
      refine Ev.pos h1 (Ev.pos h2 (Ev.pos (by omega) (Ev.pos (by omega) (Ev.ok ?_))))
      rw [e, wrap_eq (x := c + 16) (by omega) (by omega), wrap_eq (x := (t : Int)) (by omega) (by omega), wrap_eq (x := c + 16 + 8) (by omega) (by omega), wrap_eq (by omega) (by omega)]
      omega
    · obtain ⟨t, e, ht, hlt, hpos⟩ := len8 (x := x / 65536 % 256) (by omega) (by omega)
      obtain ⟨h3, h4⟩ := hpos (by omega)
      have e2 : x / 65536 % 256 = x / 2 ^ 16 := by rw [show (2 : Int) ^ 16 = 65536 by decide]; omega
      rw [e2] at hlt h4
      obtain ⟨h5, h6⟩ := up_pow (m := 16) (by omega) h3 h4 hlt
      refine ⟨16 + t, Ev.step (fun k => by simp only [bits_Len64.j0]; rfl) ?_, by omega, by omega, h5, h6⟩
      refine Ev.pos h1 (Ev.neg h2 (Ev.pos (by omega) (Ev.pos (by omega) (Ev.ok ?_))))
      rw [e, wrap_eq (x := c + 16) (by omega) (by omega), wrap_eq (x := (t : Int)) (by omega) (by omega), wrap_eq (by omega) (by omega)]
      omega
  · by_cases h2 : x ≥ 256
    · obtain ⟨t, e, ht, hlt, hpos⟩ := len8 (x := x / 256 % 256) (by omega) (by omega)
      obtain ⟨h3, h4⟩ := hpos (by omega)
      have e2 : x / 256 % 256 = x / 2 ^ 8 := by rw [show (2 : Int) ^ 8 = 256 by decide]; omega
      rw [e2] at hlt h4
      obtain ⟨h5, h6⟩ := up_pow (m := 8) (by omega) h3 h4 hlt
      refine ⟨8 + t, Ev.step (fun k => by simp only [bits_Len64.j0]; rfl) ?_, by omega, by omega, h5, h6⟩
      refine Ev.neg h1 (Ev.pos h2 (Ev.pos (by omega) (Ev.pos (by omega) (Ev.ok ?_))))
      rw [e, wrap_eq (x := c + 8) (by omega) (by omega), wrap_eq (x := (t : Int)) (by omega) (by omega), wrap_eq (by omega) (by omega)]
      omega
    · obtain ⟨t, e, ht, hlt, hpos⟩ := len8 (x := x % 256) (by omega) (by omega)
      obtain ⟨h3, h4⟩ := hpos (by omega)
      have e2 : x % 256 = x := by omega
      rw [e2] at hlt h4
      refine ⟨t, Ev.step (fun k => by simp only [bits_Len64.j0]; rfl) ?_, by omega, by omega, h4, hlt⟩
      refine Ev.neg h1 (Ev.neg h2 (Ev.pos (by omega) (Ev.pos (by omega) (Ev.ok ?_))))
      rw [e, wrap_eq (x := (t : Int)) (by omega) (by omega), wrap_eq (by omega) (by omega)]
theorem len64_f {x : Int} (hx0 : 0 < x) (hx : x < 18446744073709551616) : ∃ n : Nat, Ev (fun k => bits_Len64.f k x) (n : Int) ∧ 1 ≤ n ∧ n ≤ 64 ∧ (2 : Int) ^ (n - 1) ≤ x ∧ x < (2 : Int) ^ n := by
  by_cases h : x ≥ 4294967296
  · obtain ⟨n, h1, h2, h3, h4, h5⟩ := len64_j0 (x := x / 4294967296) (c := 32) (by omega) (by omega) (by omega) (by omega)
    have e2 : (4294967296 : Int) = 2 ^ 32 := by decide
    obtain ⟨h6, h7⟩ := up_pow (m := 32) (x := x) (by omega) h2 (by rw [← e2]; exact h4) (by rw [← e2]; exact h5)
    refine ⟨32 + n, ?_, by omega, by omega, h6, h7⟩
    unfold bits_Len64.f
    refine Ev.pos h ?_
    have := h1
    rwa [show (32 : Int) + n = ((32 + n : Nat) : Int) by omega] at this
  · obtain ⟨n, h1, h2, h3, h4, h5⟩ := len64_j0 (x := x) (c := 0) (by omega) (by omega) (by omega) (by omega)
    refine ⟨n, ?_, by omega, by omega, h4, h5⟩
    unfold bits_Len64.f
    refine Ev.neg h ?_
    rwa [Int.zero_add] at h1
theorem u64_mod (x : Int) : IntKind.u64.wrap x = x % 18446744073709551616 := by simp [IntKind.wrap, IntKind.signed, IntKind.bits]

/-- One digit of the quotient, a round of its correction. -/
theorem digit {Y y1 y0 u d q r U Q : Int} (hY : Y = y1 * 4294967296 + y0) (h1 : 2147483648 ≤ y1) (h0 : 0 ≤ y0) (h0' : y0 < 4294967296) (hu0 : 0 ≤ u) (hu : u < Y) (hd0 : 0 ≤ d) (hd : d < 4294967296)
    (hU : U = u * 4294967296 + d) (hQ : Q = U / Y) (hqr : q * y1 + r = u) (hq0 : 0 ≤ q) (hq : q ≤ 4294967297) (hr0 : 0 ≤ r) (hr : r < 4294967296) (hge : Q ≤ q) :
    ((q ≥ 4294967296 ∨ q < 4294967296 ∧ 4294967296 * r + d < q * y0) ∧ Q ≤ q - 1 ∧ 1 ≤ q ∧ (r + y1 ≥ 4294967296 → q - 1 = Q)) ∨ (q < 4294967296 ∧ ¬ (4294967296 * r + d < q * y0) ∧ q = Q) := by
  have hYp : 0 < Y := by omega
  have eq : q * Y = (u - r) * 4294967296 + q * y0 := by
    rw [hY, Int.mul_add, ← Int.mul_assoc, show q * y1 = u - r by omega]
  have hlt : ∀ z : Int, Q < z ↔ U < z * Y := fun z => by rw [hQ]; exact Int.ediv_lt_iff_lt_mul hYp
  have hQ0 : 0 ≤ Q := by rw [hQ]; exact Int.ediv_nonneg (by omega) (by omega)
  have brk : Q ≤ q - 1 → r + y1 ≥ 4294967296 → q - 1 = Q := by
    intro h2 h3
    have h4 : ¬ (Q < q - 1) := by
      rw [hlt, Int.sub_mul, eq, hY, Int.one_mul]
      have : (q - 1) * y0 ≤ 4294967296 * y0 := Int.mul_le_mul_of_nonneg_right (by omega) h0
      rw [Int.sub_mul, Int.one_mul] at this
      omega
    omega
  by_cases h2 : q ≥ 4294967296
  · have h3 : Q < q := by
      have : Q < 4294967296 := by rw [hlt]; omega
      omega
    exact .inl ⟨.inl h2, by omega, by omega, brk (by omega)⟩
  · by_cases h3 : 4294967296 * r + d < q * y0
    · have h4 : Q < q := by rw [hlt, eq]; omega
      exact .inl ⟨.inr ⟨by omega, h3⟩, by omega, by omega, brk (by omega)⟩
    · have h4 : ¬ Q < q := by rw [hlt, eq]; omega
      exact .inr ⟨by omega, h3, by omega⟩
/-- What is left, in one word. -/
theorem rest_word {Y u d U Q : Int} (hY : 0 < Y) (hY' : Y < 18446744073709551616) (hU : U = u * 4294967296 + d) (hQ : Q = U / Y) : IntKind.u64.wrap (IntKind.u64.wrap (IntKind.u64.wrap (u * 4294967296) + d) - IntKind.u64.wrap (Q * Y)) = U % Y := by
  simp only [u64_mod]
  have h1 := Int.emod_nonneg U (show Y ≠ 0 by omega)
  have h2 := Int.emod_lt_of_pos U hY
  have h3 : U % Y = U - Q * Y := by rw [Int.emod_def, hQ, Int.mul_comm]
  rw [h3] at h1 h2 ⊢
  omega
structure Div1 (Y y1 y0 : Int) : Prop where
  eq : Y = y1 * 4294967296 + y0
  lo : 2147483648 ≤ y1
  hi : y1 < 4294967296
  z0 : 0 ≤ y0
  z1 : y0 < 4294967296
/-- The last digit's loop. -/
theorem div_l1 {Y y1 y0 u d s q1 U Q : Int} (D : Div1 Y y1 y0) (hu0 : 0 ≤ u) (hu : u < Y) (hd0 : 0 ≤ d) (hd : d < 4294967296) (hs : 0 ≤ s) (hU : U = u * 4294967296 + d) (hQ : Q = U / Y) (m : Nat) :
    ∀ q r : Int, q * y1 + r = u → 0 ≤ q → q ≤ 4294967297 → 0 ≤ r → r < 4294967296 → Q ≤ q → 4294967296 ≤ r + m * 2147483648 →
    Ev (fun k => bits_Div64.l1 k Y s y1 y0 d q1 r u q) (IntKind.u64.wrap (IntKind.u64.wrap (q1 * 4294967296) + Q), shr .u64 (U % Y) s) := by
  obtain ⟨hY, h1, h1', h0, h0'⟩ := D
  induction m with
  | zero => intro q r _ _ _ _ _ _ hm; omega
  | succ m ih =>
    intro q r hqr hq0 hq hr0 hr hge hm
    have H := digit hY h1 h0 h0' hu0 hu hd0 hd hU hQ hqr hq0 hq hr0 hr hge
    have rw_ := rest_word (show 0 < Y by omega) (by omega) hU hQ
    have yes : ((q ≥ 4294967296 ∨ q < 4294967296 ∧ 4294967296 * r + d < q * y0) ∧ Q ≤ q - 1 ∧ 1 ≤ q ∧ (r + y1 ≥ 4294967296 → q - 1 = Q)) → Ev (fun k => bits_Div64.j4 k Y s y1 y0 d q1 r u q true) (IntKind.u64.wrap (IntKind.u64.wrap (q1 * 4294967296) + Q), shr .u64 (U % Y) s) := by
      rintro ⟨_, h3, h4, h5⟩
      refine Ev.step (fun k => by simp only [bits_Div64.j4]; rfl) ?_
      refine Ev.pos (by first | trivial | rfl) ?_
      rw [u64_eq (x := r + y1) (by omega) (by omega), u64_eq (x := q - 1) (by omega) (by omega)]
      refine Ev.ite (fun h6 => Ev.pos hs (Ev.ok ?_)) (fun h6 => ?_)
      · rw [h5 h6, rw_]
      · exact ih (q - 1) (r + y1) (by rw [Int.sub_mul]; omega) (by omega) (by omega) (by omega) (by omega) h3 (by omega)
    have no : q = Q → Ev (fun k => bits_Div64.j4 k Y s y1 y0 d q1 r u q false) (IntKind.u64.wrap (IntKind.u64.wrap (q1 * 4294967296) + Q), shr .u64 (U % Y) s) := by
      rintro rfl
      refine Ev.step (fun k => by simp only [bits_Div64.j4]; rfl) ?_
      refine Ev.neg (by decide) (Ev.pos hs (Ev.ok ?_))
      rw [rw_]
    refine Ev.step (fun k => by simp only [bits_Div64.l1]; rfl) ?_
    refine Ev.ite (fun h6 => ?_) (fun h6 => ?_)
    · rcases H with H | H
      · exact yes H
      · omega
    · have hb : q * y0 ≤ 4294967295 * 4294967295 := Int.mul_le_mul (by omega) (by omega) h0 (by decide)
      have hb0 : 0 ≤ q * y0 := Int.mul_nonneg hq0 h0
      rw [u64_eq (x := q * y0) hb0 (by omega), u64_eq (x := 4294967296 * r) (by omega) (by omega), u64_eq (x := 4294967296 * r + d) (by omega) (by omega)]
      rcases H with H | H
      · rw [decide_eq_true (by omega)]; exact yes H
      · rw [decide_eq_false (by omega)]; exact no H.2.2
/-- The first digit's. -/
theorem div_l0 {Y y1 y0 u d d0 s U Q : Int} {R : Int × Int} (D : Div1 Y y1 y0) (hu0 : 0 ≤ u) (hu : u < Y) (hd0 : 0 ≤ d) (hd : d < 4294967296) (hU : U = u * 4294967296 + d) (hQ : Q = U / Y)
    (next : Ev (fun k => bits_Div64.j2 k Y s y1 y0 u d d0 Q) R) (m : Nat) :
    ∀ q r : Int, q * y1 + r = u → 0 ≤ q → q ≤ 4294967297 → 0 ≤ r → r < 4294967296 → Q ≤ q → 4294967296 ≤ r + m * 2147483648 →
    Ev (fun k => bits_Div64.l0 k Y s y1 y0 u d d0 q r) R := by
  obtain ⟨hY, h1, h1', h0, h0'⟩ := D
  induction m with
  | zero => intro q r _ _ _ _ _ _ hm; omega
  | succ m ih =>
    intro q r hqr hq0 hq hr0 hr hge hm
    have H := digit hY h1 h0 h0' hu0 hu hd0 hd hU hQ hqr hq0 hq hr0 hr hge
    have yes : ((q ≥ 4294967296 ∨ q < 4294967296 ∧ 4294967296 * r + d < q * y0) ∧ Q ≤ q - 1 ∧ 1 ≤ q ∧ (r + y1 ≥ 4294967296 → q - 1 = Q)) → Ev (fun k => bits_Div64.j1 k Y s y1 y0 u d d0 q r true) R := by
      rintro ⟨_, h3, h4, h5⟩
      refine Ev.step (fun k => by simp only [bits_Div64.j1]; rfl) ?_
      refine Ev.pos (by first | trivial | rfl) ?_
      rw [u64_eq (x := r + y1) (by omega) (by omega), u64_eq (x := q - 1) (by omega) (by omega)]
      refine Ev.ite (fun h6 => ?_) (fun h6 => ?_)
      · rw [h5 h6]; exact next
      · exact ih (q - 1) (r + y1) (by rw [Int.sub_mul]; omega) (by omega) (by omega) (by omega) (by omega) h3 (by omega)
    have no : q = Q → Ev (fun k => bits_Div64.j1 k Y s y1 y0 u d d0 q r false) R := by
      rintro rfl
      refine Ev.step (fun k => by simp only [bits_Div64.j1]; rfl) ?_
      exact Ev.neg (by decide) next
    refine Ev.step (fun k => by simp only [bits_Div64.l0]; rfl) ?_
    refine Ev.ite (fun h6 => ?_) (fun h6 => ?_)
    · rcases H with H | H
      · exact yes H
      · omega
    · have hb : q * y0 ≤ 4294967295 * 4294967295 := Int.mul_le_mul (by omega) (by omega) h0 (by decide)
      have hb0 : 0 ≤ q * y0 := Int.mul_nonneg hq0 h0
      rw [u64_eq (x := q * y0) hb0 (by omega), u64_eq (x := 4294967296 * r) (by omega) (by omega), u64_eq (x := 4294967296 * r + d) (by omega) (by omega)]
      rcases H with H | H
      · rw [decide_eq_true (by omega)]; exact yes H
      · rw [decide_eq_false (by omega)]; exact no H.2.2
/-- A digit's first guess. -/
theorem guess {Y y1 y0 u d U Q : Int} (D : Div1 Y y1 y0) (hu0 : 0 ≤ u) (hu : u < Y) (hd0 : 0 ≤ d) (hd : d < 4294967296) (hU : U = u * 4294967296 + d) (hQ : Q = U / Y) :
    ∃ q r : Int, IntKind.u64.wrap (Int.tdiv u y1) = q ∧ IntKind.u64.wrap (u - IntKind.u64.wrap (q * y1)) = r ∧ q * y1 + r = u ∧ 0 ≤ q ∧ q ≤ 4294967297 ∧ 0 ≤ r ∧ r < 4294967296 ∧ Q ≤ q := by
  obtain ⟨hY, h1, h1', h0, h0'⟩ := D
  have hq0 : 0 ≤ u / y1 := Int.ediv_nonneg hu0 (by omega)
  have hq : u / y1 < 4294967298 := by rw [Int.ediv_lt_iff_lt_mul (by omega)]; omega
  have hm := Int.emod_def u y1
  have hr0 := Int.emod_nonneg u (show y1 ≠ 0 by omega)
  have hr := Int.emod_lt_of_pos u (show 0 < y1 by omega)
  have hc : u / y1 * y1 = u - u % y1 := by rw [Int.mul_comm]; omega
  have hcp : 0 ≤ u / y1 * y1 := Int.mul_nonneg hq0 (by omega)
  refine ⟨u / y1, u % y1, ?_, ?_, by omega, hq0, by omega, hr0, by omega, ?_⟩
  · rw [Int.tdiv_eq_ediv_of_nonneg hu0, u64_eq hq0 (by omega)]
  · rw [hc, u64_eq (x := u - u % y1) (by omega) (by omega), show u - (u - u % y1) = u % y1 by omega, u64_eq (by omega) (by omega)]
  · have hlt : Q < u / y1 + 1 := by
      rw [hQ, Int.ediv_lt_iff_lt_mul (by omega), hY, Int.mul_add, ← Int.mul_assoc, Int.add_mul, hc, Int.one_mul]
      have : 0 ≤ (u / y1 + 1) * y0 := Int.mul_nonneg (by omega) h0
      omega
    omega

theorem shl_at {x y s : Int} {n : Nat} (hs : s = (n : Int)) (hn : n ≤ 64) (h : x * 2 ^ n = y) (h0 : 0 ≤ y) (h1 : y < 18446744073709551616) : shl .u64 x s = y := by
  unfold shl
  rw [hs, Int.toNat_natCast, Nat.min_eq_left (by simpa [IntKind.bits] using hn), h, u64_eq h0 h1]
theorem and32' {x : Int} (h0 : 0 ≤ x) (h1 : x < 18446744073709551616) : Go.bits .and .u64 x 4294967295 = x % 4294967296 :=
  Go.bits_mask .u64 64 (by decide) (fun n h0 h1 => u64_eq h0 h1) 32 (by decide) x h0 h1
theorem div64_f {a b c : Int} (ha0 : 0 ≤ a) (ha : a < c) (hb0 : 0 ≤ b) (hb : b < 18446744073709551616) (hc : c < 18446744073709551616) :
    Ev (fun k => bits_Div64.f k a b c) ((a * 18446744073709551616 + b) / c, (a * 18446744073709551616 + b) % c) := by
  have hc0 : 0 < c := by omega
  unfold bits_Div64.f
  refine Ev.neg (by omega) (Ev.neg (by omega) ?_)
  by_cases hz : a = 0
  · refine Ev.pos hz (Ev.ok ?_)
    subst hz
    rw [Int.zero_mul, Int.zero_add, Int.tdiv_eq_ediv_of_nonneg hb0, Int.tmod_eq_emod_of_nonneg hb0]
    have h1 := Int.ediv_nonneg hb0 (show 0 ≤ c by omega)
    have h2 := Int.ediv_le_self c hb0
    rw [u64_eq h1 (by omega)]
  refine Ev.neg hz ?_
  obtain ⟨n, hev, hn1, hn2, hlo, hhi⟩ := len64_f hc0 hc
  -- the shift
  obtain ⟨s, hs⟩ : ∃ s : Nat, s = 64 - n := ⟨_, rfl⟩
  have hsn : s + n = 64 := by omega
  have hs63 : s ≤ 63 := by omega
  obtain ⟨p, hp⟩ : ∃ p : Int, p = 2 ^ s := ⟨_, rfl⟩
  obtain ⟨r, hr⟩ : ∃ r : Int, r = 2 ^ n := ⟨_, rfl⟩
  have hp0 : 0 < p := by rw [hp]; exact Int.pow_pos (by decide)
  have hr0 : 0 < r := by rw [hr]; exact Int.pow_pos (by decide)
  have hpr : p * r = 18446744073709551616 := by rw [hp, hr, ← Int.pow_add, hsn]; decide
  have hY1 : c * p < 18446744073709551616 := by
    rw [← hpr, Int.mul_comm p r]
    exact Int.mul_lt_mul_of_pos_right (by rw [hr]; exact hhi) hp0
  have hY0 : 9223372036854775808 ≤ c * p := by
    have h1 : (2 : Int) ^ (n - 1) * p ≤ c * p := Int.mul_le_mul_of_nonneg_right hlo (by omega)
    have h2 : (2 : Int) ^ (n - 1) * p = 9223372036854775808 := by
      rw [hp, ← Int.pow_add, show n - 1 + s = 63 by omega]; decide
    omega
  obtain ⟨Y, hY⟩ : ∃ Y, Y = c * p := ⟨_, rfl⟩
  rw [← hY] at hY0 hY1
  have haY : a * p < Y := by rw [hY]; exact Int.mul_lt_mul_of_pos_right ha hp0
  have hap0 : 0 ≤ a * p := Int.mul_nonneg ha0 (by omega)
  have hbr0 : 0 ≤ b / r := Int.ediv_nonneg hb0 (by omega)
  have hbr : b / r < p := by rw [Int.ediv_lt_iff_lt_mul hr0, hpr]; exact hb
  -- the words, shifted
  have eY : shl .u64 c (s : Int) = Y := shl_at rfl (by omega) (by rw [hY, hp]) (by omega) hY1
  have ea : shl .u64 a (s : Int) = a * p := shl_at rfl (by omega) (by rw [hp]) hap0 (by omega)
  have eb : shr .u64 b (n : Int) = b / r := by
    unfold shr
    rw [Int.toNat_natCast, Nat.min_eq_left (by simpa [IntKind.bits] using hn2), hr]
  have eb2 : shl .u64 b (s : Int) = (b * p) % 18446744073709551616 := by
    unfold shl
    rw [Int.toNat_natCast, Nat.min_eq_left (by simp [IntKind.bits]; omega), u64_mod, hp]
  have hor : Go.bits .or .u64 (a * p) (b / r) = a * p + b / r := by
    refine Go.bits_join .u64 64 (by decide) (fun n h0 h1 => u64_eq h0 h1) s (a * p) (b / r) hap0 ?_ ?_ hbr0 ?_ ?_
    · rw [hp]; exact Int.mul_emod_left _ _
    · exact Int.lt_trans haY hY1
    · rw [← hp]; exact hbr
    · have : p ≤ 18446744073709551616 := by
        rw [← hpr]
        have := Int.mul_le_mul_of_nonneg_left (show (1 : Int) ≤ r by omega) (show 0 ≤ p by omega)
        omega
      exact Int.lt_of_lt_of_le hbr this
  obtain ⟨u, hu⟩ : ∃ u, u = a * p + b / r := ⟨_, rfl⟩
  rw [← hu] at hor
  have huY : u < Y := by
    have h1 : (a + 1) * p ≤ c * p := Int.mul_le_mul_of_nonneg_right (by omega) (by omega)
    rw [Int.add_mul, Int.one_mul, ← hY] at h1
    omega
  have hu0 : 0 ≤ u := by omega
  obtain ⟨v, hv⟩ : ∃ v, v = (b * p) % 18446744073709551616 := ⟨_, rfl⟩
  rw [← hv] at eb2
  have hv0 : 0 ≤ v := by omega
  have hv1 : v < 18446744073709551616 := by omega
  have hbp : b * p = (b / r) * 18446744073709551616 + v := by
    have h1 : b * p / 18446744073709551616 = b / r := by
      rw [← hpr, Int.mul_comm p r]
      exact Int.mul_ediv_mul_of_pos_left b r hp0
    have h2 := Int.mul_ediv_add_emod (b * p) 18446744073709551616
    rw [h1, ← hv] at h2
    omega
  have hN : (a * 18446744073709551616 + b) * p = u * 18446744073709551616 + v := by
    rw [Int.add_mul, hbp, hu, Int.add_mul, Int.mul_right_comm]
    omega
  have ew : IntKind.u64.wrap (wrap64 (64 - (n : Int))) = (s : Int) := by
    rw [wrap_eq (by omega) (by omega), u64_eq (by omega) (by omega)]; omega
  have ew2 : IntKind.u64.wrap (64 - (s : Int)) = (n : Int) := by rw [u64_eq (by omega) (by omega)]; omega
  have hlz : Ev (fun k => bits_LeadingZeros64.f k c) (wrap64 (64 - (n : Int))) := by
    unfold bits_LeadingZeros64.f
    exact Ev.bind hev (Ev.ok rfl)
  refine Ev.bind hlz ?_
  simp only [ew, ew2, eY, ea, eb, eb2, hor]
  have D : Div1 Y (Y / 4294967296) (Go.bits .and .u64 Y 4294967295) := by
    rw [and32' (by omega) hY1]
    exact ⟨by omega, by omega, by omega, by omega, by omega⟩
  rw [and32' hv0 hv1]
  refine Ev.pos (by omega) (Ev.pos (by omega) (Ev.neg (by have := D.lo; omega) ?_))
  obtain ⟨y1, hy1⟩ : ∃ x, x = Y / 4294967296 := ⟨_, rfl⟩
  obtain ⟨y0, hy0⟩ : ∃ x, x = Go.bits .and .u64 Y 4294967295 := ⟨_, rfl⟩
  rw [← hy1, ← hy0] at D ⊢
  obtain ⟨d1, hd1⟩ : ∃ x, x = v / 4294967296 := ⟨_, rfl⟩
  obtain ⟨d0, hd0⟩ : ∃ x, x = v % 4294967296 := ⟨_, rfl⟩
  rw [← hd1, ← hd0]
  obtain ⟨U1, hU1⟩ : ∃ x, x = u * 4294967296 + d1 := ⟨_, rfl⟩
  obtain ⟨Q1, hQ1⟩ : ∃ x, x = U1 / Y := ⟨_, rfl⟩
  obtain ⟨R1, hR1⟩ : ∃ x, x = U1 % Y := ⟨_, rfl⟩
  obtain ⟨U0, hU0⟩ : ∃ x, x = R1 * 4294967296 + d0 := ⟨_, rfl⟩
  obtain ⟨Q0, hQ0⟩ : ∃ x, x = U0 / Y := ⟨_, rfl⟩
  have hYp : 0 < Y := by omega
  have hR10 : 0 ≤ R1 := by rw [hR1]; exact Int.emod_nonneg _ (by omega)
  have hR1Y : R1 < Y := by rw [hR1]; exact Int.emod_lt_of_pos _ hYp
  have e1 : U1 = Q1 * Y + R1 := by rw [hQ1, hR1, Int.mul_comm]; exact (Int.mul_ediv_add_emod U1 Y).symm
  have hQ1lt : Q1 < 4294967296 := by rw [hQ1, Int.ediv_lt_iff_lt_mul hYp]; omega
  have hQ10 : 0 ≤ Q1 := by rw [hQ1]; exact Int.ediv_nonneg (by omega) (by omega)
  have hQ0lt : Q0 < 4294967296 := by rw [hQ0, Int.ediv_lt_iff_lt_mul hYp]; omega
  have hQ00 : 0 ≤ Q0 := by rw [hQ0]; exact Int.ediv_nonneg (by omega) (by omega)
  have hNU : (a * 18446744073709551616 + b) * p = U0 + (Q1 * 4294967296) * Y := by
    rw [hN, hU0, Int.mul_right_comm]
    have : Q1 * Y = U1 - R1 := by omega
    rw [this]
    omega
  have hq : (a * 18446744073709551616 + b) / c = Q1 * 4294967296 + Q0 := by
    rw [← Int.mul_ediv_mul_of_pos_left _ c hp0, ← hY, hNU, Int.add_mul_ediv_right _ _ (by omega), ← hQ0]
    omega
  have hm : (a * 18446744073709551616 + b) % c = (U0 % Y) / p := by
    have h1 : (a * 18446744073709551616 + b) * p % (c * p) = (a * 18446744073709551616 + b) % c * p := by
      rw [Int.mul_comm _ p, Int.mul_comm c p, Int.mul_emod_mul_of_pos _ _ hp0, Int.mul_comm]
    rw [← hY, hNU, Int.add_mul_emod_self_right] at h1
    rw [h1, Int.mul_ediv_cancel _ (by omega)]
  have last : shr .u64 (U0 % Y) (s : Int) = (a * 18446744073709551616 + b) % c := by
    rw [hm, hp]
    unfold shr
    rw [Int.toNat_natCast, Nat.min_eq_left (by simp [IntKind.bits]; omega)]
  have res : (IntKind.u64.wrap (IntKind.u64.wrap (Q1 * 4294967296) + Q0), shr .u64 (U0 % Y) (s : Int)) = ((a * 18446744073709551616 + b) / c, (a * 18446744073709551616 + b) % c) := by
    rw [last, hq, u64_eq (x := Q1 * 4294967296) (by omega) (by omega), u64_eq (by omega) (by omega)]
  rw [← res]
  obtain ⟨q, rr, g1, g2, g3, g4, g5, g6, g7, g8⟩ := guess D hu0 huY (by omega) (by omega) hU1 hQ1
  rw [g1, g2]
  refine div_l0 D hu0 huY (by omega) (by omega) hU1 hQ1 ?_ 2 q rr g3 g4 g5 g6 g7 g8 (by omega)
  refine Ev.step (fun k => by simp only [bits_Div64.j2]; rfl) ?_
  refine Ev.neg (by have := D.lo; omega) ?_
  rw [rest_word hYp hY1 hU1 hQ1, ← hR1]
  obtain ⟨q', r', g1, g2, g3, g4, g5, g6, g7, g8⟩ := guess D hR10 hR1Y (by omega) (by omega) hU0 hQ0
  rw [g1, g2]
  exact div_l1 D hR10 hR1Y (by omega) (by omega) (by omega) hU0 hQ0 2 q' r' g3 g4 g5 g6 g7 g8 (by omega)
end Go.Proofs.Ytefhljhpcpajgaa.Q

/- What the divisions of cents and of the document come to; no condition but the bounds of an int. -/
set_option linter.unusedVariables false
namespace Go.Proofs.Ytefhljhpcpajgaa.Q
open Go.RowKit Go.Proofs.Ytefhljhpcpajgaa.F Go.Proofs.YtefhljhpcpajgaaW.PrintWords Go.Proofs.YtefhljhpcpajgaaW.PrintLast Go.Proofs.YtefhljhpcpajgaaW.PrintMore

def may (a b c : Int) : Prop := 0 ≤ a ∧ a ≤ 1000000000000 ∧ 0 ≤ b ∧ b ≤ 1000000000000 ∧ c ≤ 1000000000000
instance (a b c : Int) : Decidable (may a b c) := by unfold may; infer_instance
def divS (a b c : Int) : Int × Int × Int := if c < 1 then (0, 0, 2) else if may a b c then (if a * b > c * 1000000000001 then (0, 0, 8) else (a * b / c, a * b % c, 0)) else (0, 0, 8)
def floorS (a b c : Int) : Int × Int := if c < 1 then (0, 2) else if may a b c then toldS (a * b / c) else (0, 8)
def halfS (a b c : Int) : Int × Int := if c < 1 then (0, 2) else if may a b c then (if a * b % c ≥ c - a * b % c then toldS (a * b / c + 1) else toldS (a * b / c)) else (0, 8)
def restS (a b c : Int) : Int × Int := if c < 1 then (0, 2) else if may a b c then (if amt (a * b / c) then (a * b % c, 0) else (0, 8)) else (0, 8)

theorem mul_bound {x y B C : Int} (hx0 : 0 ≤ x) (hx : x ≤ B) (hy0 : 0 ≤ y) (hy : y ≤ C) : 0 ≤ x * y ∧ x * y ≤ B * C :=
  ⟨Int.mul_nonneg hx0 hy0, Int.mul_le_mul hx hy hy0 (by omega)⟩
theorem divided_f (a b c : Int) (hc1 : -9223372036854775808 ≤ c) (hc2 : c ≤ 9223372036854775807) : Ev (fun k => cents_divided.f k a b c) (divS a b c) := by
  unfold cents_divided.f divS
  refine Ev.ite (fun h => Ev.ok (by rw [if_pos h])) (fun h => ?_)
  rw [if_neg h]
  have bad : ¬ may a b c → (if may a b c then (if a * b > c * 1000000000001 then (0, 0, 8) else (a * b / c, a * b % c, 0)) else ((0 : Int), (0 : Int), (8 : Int))) = (0, 0, 8) := fun h => if_neg h
  refine Ev.ite (fun h1 => Ev.ok (bad (by unfold may; omega)).symm) (fun h1 => ?_)
  refine Ev.ite (fun h2 => Ev.ok (bad (by unfold may; omega)).symm) (fun h2 => ?_)
  refine Ev.bindc (in_f _) (Ev.ite (fun h3 => ?_) (fun h3 => Ev.ok (bad (fun hm => h3 (decide_eq_true (by unfold may at hm; unfold amt; omega)))).symm))
  refine Ev.bindc (in_f _) (Ev.ite (fun h4 => ?_) (fun h4 => Ev.ok (bad (fun hm => h4 (decide_eq_true (by unfold may at hm; unfold amt; omega)))).symm))
  refine Ev.bindc (in_f _) (Ev.ite (fun h5 => ?_) (fun h5 => Ev.ok (bad (fun hm => h5 (decide_eq_true (by unfold may at hm; unfold amt; omega)))).symm))
  have hm : may a b c := by
    have := of_decide_eq_true h3; have := of_decide_eq_true h4; have := of_decide_eq_true h5
    unfold amt at *; unfold may; omega
  rw [if_pos hm]
  unfold may at hm
  rw [u64_eq (x := a) (by omega) (by omega), u64_eq (x := b) (by omega) (by omega), u64_eq (x := c) (by omega) (by omega)]
  obtain ⟨m0, m1⟩ := mul_bound (x := a) (y := b) (B := 1000000000000) (C := 1000000000000) (by omega) (by omega) (by omega) (by omega)
  refine Ev.bindc (product_f (by omega) (by omega) (by omega) (by omega)) ?_
  refine Ev.bindc (product_f (by omega) (by omega) (by omega) (by omega)) ?_
  refine Ev.bindc (above_f m0 (by omega)) ?_
  by_cases h6 : a * b > c * 1000000000001
  · rw [if_pos h6]
    exact Ev.pos (decide_eq_true h6) (Ev.ok rfl)
  · rw [if_neg h6]
    refine Ev.neg (by simp; omega) (Ev.neg (by dsimp only; omega) ?_)
    refine Ev.bind (div64_f (a := a * b / 18446744073709551616) (b := a * b % 18446744073709551616) (by omega) (by omega) (by omega) (by omega) (by omega)) ?_
    have e : a * b / 18446744073709551616 * 18446744073709551616 + a * b % 18446744073709551616 = a * b := by omega
    rw [e]
    have d0 : 0 ≤ a * b / c := Int.ediv_nonneg m0 (by omega)
    have d1 : a * b / c < 1000000000002 := by rw [Int.ediv_lt_iff_lt_mul (by omega)]; omega
    have r0 := Int.emod_nonneg (a * b) (show c ≠ 0 by omega)
    have r1 := Int.emod_lt_of_pos (a * b) (show 0 < c by omega)
    refine Ev.ok ?_
    dsimp only
    rw [wrap_eq (by omega) (by omega), wrap_eq (by omega) (by omega)]
/-- Where the quotient is above an amount by more than a rounding. -/
theorem divS_cases (a b c : Int) : (c < 1 ∧ divS a b c = (0, 0, 2)) ∨ (1 ≤ c ∧ ¬ may a b c ∧ divS a b c = (0, 0, 8)) ∨ (1 ≤ c ∧ may a b c ∧ a * b / c > 1000000000000 ∧ divS a b c = (0, 0, 8)) ∨ (1 ≤ c ∧ may a b c ∧ 0 ≤ a * b / c ∧ a * b / c ≤ 1000000000001 ∧ 0 ≤ a * b % c ∧ a * b % c < c ∧ divS a b c = (a * b / c, a * b % c, 0)) := by
  unfold divS
  by_cases h : c < 1
  · exact .inl ⟨h, if_pos h⟩
  · rw [if_neg h]
    by_cases h1 : may a b c
    · rw [if_pos h1]
      by_cases h2 : a * b > c * 1000000000001
      · refine .inr (.inr (.inl ⟨by omega, h1, ?_, if_pos h2⟩))
        have : 1000000000001 ≤ a * b / c := by rw [Int.le_ediv_iff_mul_le (by omega)]; omega
        omega
      · have h3 := h1
        unfold may at h3
        refine .inr (.inr (.inr ⟨by omega, h1, Int.ediv_nonneg (Int.mul_nonneg h3.1 h3.2.2.1) (by omega), ?_, Int.emod_nonneg _ (by omega), Int.emod_lt_of_pos _ (by omega), if_neg h2⟩))
        have : a * b / c < 1000000000002 := by rw [Int.ediv_lt_iff_lt_mul (by omega)]; omega
        omega
    · exact .inr (.inl ⟨by omega, h1, if_neg h1⟩)
theorem toldS_big {n : Int} (h : n > 1000000000000) : toldS n = (0, 8) := by unfold toldS; rw [if_neg (show ¬ amt n by unfold amt; omega)]
section
variable {a b c : Int} (hc1 : -9223372036854775808 ≤ c) (hc2 : c ≤ 9223372036854775807)
include hc1 hc2
theorem floor_f : Ev (fun k => cents_Floor.f k a b c) (floorS a b c) := by
  unfold cents_Floor.f
  refine Ev.bind (divided_f a b c hc1 hc2) ?_
  unfold floorS
  rcases divS_cases a b c with ⟨h, e⟩ | ⟨h, h1, e⟩ | ⟨h, h1, h2, e⟩ | ⟨h, h1, h2, h3, h4, h5, e⟩ <;> rw [e]
  · rw [if_pos h]; exact Ev.neg (by decide) (Ev.ok rfl)
  · rw [if_neg (show ¬ c < 1 by omega), if_neg h1]; exact Ev.neg (by decide) (Ev.ok rfl)
  · rw [if_neg (show ¬ c < 1 by omega), if_pos h1, toldS_big h2]; exact Ev.neg (by decide) (Ev.ok rfl)
  · rw [if_neg (show ¬ c < 1 by omega), if_pos h1]; exact Ev.pos (by first | trivial | rfl) (Ev.bindc (told_f _) (Ev.ok rfl))
theorem half_f : Ev (fun k => cents_Half.f k a b c) (halfS a b c) := by
  unfold cents_Half.f
  refine Ev.bind (divided_f a b c hc1 hc2) ?_
  unfold halfS
  rcases divS_cases a b c with ⟨h, e⟩ | ⟨h, h1, e⟩ | ⟨h, h1, h2, e⟩ | ⟨h, h1, h2, h3, h4, h5, e⟩ <;> rw [e]
  · rw [if_pos h]; exact Ev.neg (by decide) (Ev.ok rfl)
  · rw [if_neg (show ¬ c < 1 by omega), if_neg h1]; exact Ev.neg (by decide) (Ev.ok rfl)
  · rw [if_neg (show ¬ c < 1 by omega), if_pos h1, toldS_big h2, toldS_big (by omega)]; simp only [ite_self]; exact Ev.neg (by decide) (Ev.ok rfl)
  · rw [if_neg (show ¬ c < 1 by omega), if_pos h1]
    refine Ev.pos (by first | trivial | rfl) ?_
    have hm := h1
    unfold may at hm
    dsimp only
    rw [wrap_eq (x := c - a * b % c) (by omega) (by omega), wrap_eq (x := a * b / c + 1) (by omega) (by omega)]
    refine Ev.ite (fun h6 => ?_) (fun h6 => ?_)
    · rw [if_pos h6]; exact Ev.bindc (told_f _) (Ev.ok rfl)
    · rw [if_neg h6]; exact Ev.bindc (told_f _) (Ev.ok rfl)
theorem rest_f : Ev (fun k => cents_Rest.f k a b c) (restS a b c) := by
  unfold cents_Rest.f
  refine Ev.bind (divided_f a b c hc1 hc2) ?_
  unfold restS
  rcases divS_cases a b c with ⟨h, e⟩ | ⟨h, h1, e⟩ | ⟨h, h1, h2, e⟩ | ⟨h, h1, h2, h3, h4, h5, e⟩ <;> rw [e]
  · rw [if_pos h]; exact Ev.neg (by decide) (Ev.ok rfl)
  · rw [if_neg (show ¬ c < 1 by omega), if_neg h1]; exact Ev.neg (by decide) (Ev.ok rfl)
  · rw [if_neg (show ¬ c < 1 by omega), if_pos h1, if_neg (show ¬ amt (a * b / c) by unfold amt; omega)]; exact Ev.neg (by decide) (Ev.ok rfl)
  · rw [if_neg (show ¬ c < 1 by omega), if_pos h1]
    refine Ev.pos (by first | trivial | rfl) (Ev.bindc (told_f _) ?_)
    unfold toldS
    dsimp only
    by_cases h6 : amt (a * b / c)
    · simp only [if_pos h6]; exact Ev.pos (by first | trivial | rfl) (Ev.ok rfl)
    · simp only [if_neg h6]; exact Ev.neg (by decide) (Ev.ok rfl)
end
theorem ref_may_f (a b c : Int) : backhaulref02_may.f a b c = some (if c < 1 then 2 else if may a b c then 0 else 8) := by
  unfold backhaulref02_may.f
  by_cases h : c < 1
  · simp only [if_pos h]
  · simp only [if_neg h]
    by_cases hm : may a b c
    · simp only [if_pos hm]
      unfold may at hm
      rw [if_neg (by omega), if_neg (by omega), if_neg (by omega), if_neg (by omega), if_neg (by omega)]
    · simp only [if_neg hm]
      unfold may at hm
      (repeat' split) <;> first | rfl | omega
def divR (a b c : Int) : Int × Int := if a * b / c > 4000000000000 then (-1, 0) else (a * b / c, a * b % c)
theorem ref_l1 {a b c i : Int} {R : Int × Int} (hc : 1 ≤ c) (hc' : c ≤ 1000000000000) (d : Nat) : ∀ n rest : Int, rest.toNat ≤ d → 0 ≤ rest → rest ≤ 10000000000000 → 0 ≤ n → n + rest ≤ 100000000000000 →
    Ev (fun k => if n + rest / c > 4000000000000 then some (-1, 0) else backhaulref02_Div.l0 k a b c (n + rest / c) (rest % c) (wrap64 (i - 1))) R →
    Ev (fun k => backhaulref02_Div.l1 k a b c n rest i) R := by
  induction d with
  | zero =>
    intro n rest hd h0 h1 h2 h3 hR
    obtain rfl : rest = 0 := by omega
    refine Ev.step (fun k => by simp only [backhaulref02_Div.l1]; rfl) ?_
    refine Ev.neg (by omega) ?_
    rwa [Int.zero_ediv, Int.zero_emod, Int.add_zero] at hR
  | succ d ih =>
    intro n rest hd h0 h1 h2 h3 hR
    refine Ev.step (fun k => by simp only [backhaulref02_Div.l1]; rfl) ?_
    refine Ev.ite (fun h => ?_) (fun h => ?_)
    · rw [wrap_eq (x := n + 1) (by omega) (by omega), wrap_eq (x := rest - c) (by omega) (by omega)]
      have e1 : (rest - c) / c = rest / c - 1 := by
        have := Int.add_mul_ediv_right rest (-1) (show c ≠ 0 by omega)
        rw [show rest + -1 * c = rest - c by omega] at this
        omega
      have e2 : (rest - c) % c = rest % c := Int.sub_emod_right _ _
      refine ih (n + 1) (rest - c) (by omega) (by omega) (by omega) (by omega) (by omega) ?_
      rw [e1, e2, show n + 1 + (rest / c - 1) = n + rest / c by omega]
      exact hR
    · rw [Int.ediv_eq_zero_of_lt h0 (by omega), Int.emod_eq_of_lt h0 (by omega), Int.add_zero] at hR
      exact hR
theorem ref_l0 {a b c : Int} (hc : 1 ≤ c) (hc' : c ≤ 1000000000000) (ha : 0 ≤ a) (ha' : a ≤ 1000000000000) (hb : 0 ≤ b) (hb' : b ≤ 1000000000000) (d : Nat) (hd : d ≤ 41) : ∀ n rest : Int, 0 ≤ rest → rest < c → 0 ≤ n → n ≤ 4000000000000 → n * c + rest = a * (b / 2 ^ d) →
    Ev (fun k => backhaulref02_Div.l0 k a b c n rest ((d : Int) - 1)) (divR a b c) := by
  induction d with
  | zero =>
    intro n rest h0 h1 h2 h3 e
    refine Ev.step (fun k => by simp only [backhaulref02_Div.l0]; rfl) ?_
    refine Ev.neg (by omega) (Ev.ok ?_)
    rw [Int.pow_zero, Int.ediv_one] at e
    unfold divR
    have hq : a * b / c = n := by rw [← e, Int.add_comm, Int.add_mul_ediv_right _ _ (by omega), Int.ediv_eq_zero_of_lt h0 h1]; omega
    have hr : a * b % c = rest := by rw [← e, Int.add_comm, Int.add_mul_emod_self_right, Int.emod_eq_of_lt h0 h1]
    rw [hq, hr, if_neg (by omega)]
  | succ d ih =>
    intro n rest h0 h1 h2 h3 e
    rw [show ((d + 1 : Nat) : Int) - 1 = (d : Int) by omega]
    refine Ev.step (fun k => by simp only [backhaulref02_Div.l0]; rfl) ?_
    rw [u64_eq (x := (d : Int)) (by omega) (by omega)]
    refine Ev.pos (by omega) (Ev.pos (by omega) ?_)
    have hp : (0 : Int) < 2 ^ d := Int.pow_pos (by decide)
    have hs : shr .i64 b (d : Int) = b / 2 ^ d := by
      unfold shr
      rw [Int.toNat_natCast, Nat.min_eq_left (by simp [IntKind.bits]; omega)]
    rw [hs]
    obtain ⟨x, hx⟩ : ∃ x, x = b / 2 ^ d := ⟨_, rfl⟩
    rw [← hx]
    have hx0 : 0 ≤ x := by rw [hx]; exact Int.ediv_nonneg hb (by omega)
    have hxb : x ≤ b := by rw [hx]; exact Int.ediv_le_self _ hb
    have hx2 : b / 2 ^ (d + 1) = x / 2 := by rw [hx, Int.pow_succ, Int.ediv_ediv_of_nonneg (by omega)]
    rw [hx2] at e
    have hac0 : 0 ≤ a / c := Int.ediv_nonneg ha (by omega)
    have hac : a / c ≤ a := Int.ediv_le_self _ ha
    have har0 := Int.emod_nonneg a (show c ≠ 0 by omega)
    have har := Int.emod_lt_of_pos a (show 0 < c by omega)
    -- behind the bit
    have go : ∀ n0 rest0 : Int, 0 ≤ rest0 → rest0 ≤ 3000000000000 → 0 ≤ n0 → n0 ≤ 10000000000000 → n0 * c + rest0 = a * x → Ev (fun k => backhaulref02_Div.j1 k a b c n0 rest0 (d : Int)) (divR a b c) := by
      intro n0 rest0 g0 g1 g2 g3 ge
      refine Ev.step (fun k => by simp only [backhaulref02_Div.j1]; rfl) ?_
      refine ref_l1 hc hc' rest0.toNat n0 rest0 (Nat.le_refl _) g0 (by omega) g2 (by omega) ?_
      have hN : n0 + rest0 / c = a * x / c := by rw [← ge, Int.add_comm (n0 * c), Int.add_mul_ediv_right _ _ (by omega)]; omega
      have hR : rest0 % c = a * x % c := by rw [← ge, Int.add_comm (n0 * c), Int.add_mul_emod_self_right]
      have ax0 : 0 ≤ a * x := Int.mul_nonneg ha hx0
      refine Ev.ite (fun h4 => Ev.ok ?_) (fun h4 => ?_)
      · unfold divR
        have : a * x / c ≤ a * b / c := Int.ediv_le_ediv (by omega) (Int.mul_le_mul_of_nonneg_left hxb ha)
        rw [if_pos (by omega)]
      · rw [wrap_eq (x := (d : Int) - 1) (by omega) (by omega)]
        refine ih (by omega) _ _ (Int.emod_nonneg _ (by omega)) (Int.emod_lt_of_pos _ (by omega)) (by rw [hN]; exact Int.ediv_nonneg ax0 (by omega)) (by omega) ?_
        rw [hN, hR, ← hx, Int.mul_comm (a * x / c)]
        exact Int.mul_ediv_add_emod _ _
    have ex : x = 2 * (x / 2) + x % 2 := by omega
    have e2 : a * x = 2 * (a * (x / 2)) + a * (x % 2) := by
      conv => lhs; rw [ex]
      rw [Int.mul_add, Int.mul_left_comm]
    rw [Int.tmod_eq_emod_of_nonneg hx0]
    refine Ev.ite (fun h4 => ?_) (fun h4 => ?_)
    · refine Ev.neg (by omega) ?_
      rw [Int.tdiv_eq_ediv_of_nonneg ha, Int.tmod_eq_emod_of_nonneg ha, wrap_eq (x := 2 * n) (by omega) (by omega), wrap_eq (x := 2 * rest) (by omega) (by omega), wrap_eq (x := a / c) (by omega) (by omega), wrap_eq (x := 2 * n + a / c) (by omega) (by omega), wrap_eq (x := 2 * rest + a % c) (by omega) (by omega)]
      refine go _ _ (by omega) (by omega) (by omega) (by omega) ?_
      rw [e2, ← e, h4, Int.mul_one, Int.add_mul, Int.mul_assoc]
      have := Int.mul_ediv_add_emod a c
      rw [Int.mul_comm] at this
      omega
    · rw [wrap_eq (x := 2 * n) (by omega) (by omega), wrap_eq (x := 2 * rest) (by omega) (by omega)]
      refine go _ _ (by omega) (by omega) (by omega) (by omega) ?_
      rw [e2, ← e, show x % 2 = 0 by omega, Int.mul_zero, Int.mul_assoc]
      omega
theorem ref_div_f {a b c : Int} (hc : 1 ≤ c) (hm : may a b c) : Ev (fun k => backhaulref02_Div.f k a b c) (divR a b c) := by
  unfold may at hm
  unfold backhaulref02_Div.f
  have h2 : (2 : Int) ^ 41 = 2199023255552 := by decide
  exact ref_l0 hc hm.2.2.2.2 hm.1 hm.2.1 hm.2.2.1 hm.2.2.2.1 41 (by omega) 0 0 (by omega) (by omega) (by omega) (by omega) (by rw [h2, Int.ediv_eq_zero_of_lt hm.2.2.1 (by omega)]; omega)
theorem ref_floor_f (a b c : Int) : Ev (fun k => backhaulref02_Floor.f k a b c) (floorS a b c) := by
  unfold backhaulref02_Floor.f floorS
  refine Ev.bindc (ref_may_f a b c) ?_
  by_cases h : c < 1
  · simp only [if_pos h]; exact Ev.neg (by decide) (Ev.ok rfl)
  · simp only [if_neg h]
    by_cases h1 : may a b c
    · simp only [if_pos h1]
      refine Ev.pos (by first | trivial | rfl) (Ev.bind (ref_div_f (by omega) h1) ?_)
      have hm := h1
      unfold may at hm
      have h0 : 0 ≤ a * b / c := Int.ediv_nonneg (Int.mul_nonneg hm.1 hm.2.2.1) (by omega)
      unfold divR
      by_cases h2 : a * b / c > 4000000000000
      · rw [if_pos h2, toldS_big (by omega)]; exact Ev.pos (by decide) (Ev.ok rfl)
      · rw [if_neg h2]
        dsimp only
        refine Ev.neg (by omega) (Ev.ite (fun h3 => Ev.ok ?_) (fun h3 => Ev.ok ?_))
        · rw [toldS_big h3]
        · unfold toldS; rw [if_pos (show amt (a * b / c) by unfold amt; omega)]
    · simp only [if_neg h1]; exact Ev.neg (by decide) (Ev.ok rfl)
theorem ref_half_f (a b c : Int) : Ev (fun k => backhaulref02_Half.f k a b c) (halfS a b c) := by
  unfold backhaulref02_Half.f halfS
  refine Ev.bindc (ref_may_f a b c) ?_
  by_cases h : c < 1
  · simp only [if_pos h]; exact Ev.neg (by decide) (Ev.ok rfl)
  · simp only [if_neg h]
    by_cases h1 : may a b c
    · simp only [if_pos h1]
      refine Ev.pos (by first | trivial | rfl) (Ev.bind (ref_div_f (by omega) h1) ?_)
      have hm := h1
      unfold may at hm
      have h0 : 0 ≤ a * b / c := Int.ediv_nonneg (Int.mul_nonneg hm.1 hm.2.2.1) (by omega)
      have r0 := Int.emod_nonneg (a * b) (show c ≠ 0 by omega)
      have r1 := Int.emod_lt_of_pos (a * b) (show 0 < c by omega)
      have fin : ∀ n : Int, 0 ≤ n → Ev (fun k => if n < 1 then (if n = 0 then (if n > 1000000000000 then some (0, 8) else some (n, 0)) else some (0, 8)) else (if n > 1000000000000 then some ((0 : Int), (8 : Int)) else some (n, 0))) (toldS n) := by
        intro n hn
        unfold toldS
        refine Ev.ite (fun g => Ev.pos (by omega) (Ev.neg (by omega) (Ev.ok ?_))) (fun g => Ev.ite (fun g2 => Ev.ok ?_) (fun g2 => Ev.ok ?_))
        · rw [if_pos (show amt n by unfold amt; omega)]
        · rw [if_neg (show ¬ amt n by unfold amt; omega)]
        · rw [if_pos (show amt n by unfold amt; omega)]
      unfold divR
      by_cases h2 : a * b / c > 4000000000000
      · rw [if_pos h2, toldS_big (by omega), toldS_big (by omega)]
        simp only [ite_self]
        rw [wrap_eq (x := 2 * 0) (by omega) (by omega)]
        exact Ev.neg (by omega) (Ev.pos (by decide) (Ev.neg (by decide) (Ev.ok rfl)))
      · rw [if_neg h2]
        dsimp only
        rw [wrap_eq (x := 2 * (a * b % c)) (by omega) (by omega), wrap_eq (x := a * b / c + 1) (by omega) (by omega)]
        refine Ev.ite (fun h3 => ?_) (fun h3 => ?_)
        · rw [if_pos (show a * b % c ≥ c - a * b % c by omega)]; exact fin _ (by omega)
        · rw [if_neg (show ¬ a * b % c ≥ c - a * b % c by omega)]; exact fin _ (by omega)
    · simp only [if_neg h1]; exact Ev.neg (by decide) (Ev.ok rfl)
theorem ref_rest_f (a b c : Int) : Ev (fun k => backhaulref02_Rest.f k a b c) (restS a b c) := by
  unfold backhaulref02_Rest.f
  refine Ev.bind (ref_floor_f a b c) ?_
  unfold floorS restS
  by_cases h : c < 1
  · simp only [if_pos h]; exact Ev.neg (by decide) (Ev.ok rfl)
  · simp only [if_neg h]
    by_cases h1 : may a b c
    · simp only [if_pos h1]
      by_cases h2 : amt (a * b / c)
      · unfold toldS
        simp only [if_pos h2]
        refine Ev.pos (by first | trivial | rfl) (Ev.bind (ref_div_f (by omega) h1) (Ev.ok ?_))
        unfold divR
        unfold amt at h2
        rw [if_neg (show ¬ a * b / c > 4000000000000 by omega)]
      · unfold toldS
        simp only [if_neg h2]; exact Ev.neg (by decide) (Ev.ok rfl)
    · simp only [if_neg h1]; exact Ev.neg (by decide) (Ev.ok rfl)
end Go.Proofs.Ytefhljhpcpajgaa.Q

/- CentsShares: any product is divided as the document says, or refused; no condition. -/
namespace Go.Proofs.Ytefhljhpcpajgaa.Pure
open Go.RowKit Go.Proofs.Ytefhljhpcpajgaa.F Go.Proofs.Ytefhljhpcpajgaa.Q Go.Proofs.YtefhljhpcpajgaaW.PrintWords Go.Proofs.YtefhljhpcpajgaaW.PrintLast

theorem CentsShares : backhaullaw02_CentsShares.Pure := by
  intro a b c ha hb hc
  refine Ev.rounds (r := true) ?_
  unfold backhaullaw02_CentsShares.f
  have h := i64_bounds hc
  refine Ev.bind (floor_f h.1 h.2) (Ev.bind (ref_floor_f a b c) (Ev.bind (half_f h.1 h.2) (Ev.bind (ref_half_f a b c) (Ev.bind (rest_f h.1 h.2) (Ev.bind (ref_rest_f a b c) ?_)))))
  exact Q.Ev.pos rfl (Q.Ev.pos rfl (Q.Ev.pos rfl (Q.Ev.pos rfl (Q.Ev.pos rfl (Q.Ev.pos rfl (Q.Ev.const rfl))))))
end Go.Proofs.Ytefhljhpcpajgaa.Pure

-- What an argument's reading as data says of its cells, kind by kind: for the rows of laws. (A template: seat's name for Ytefhljhpcpajgaa.)
set_option linter.unusedVariables false
set_option linter.unusedSimpArgs false
namespace Go.Proofs.YtefhljhpcpajgaaX
open Go.RowKit Go.Proofs.YtefhljhpcpajgaaW.PrintWords Go.Proofs.YtefhljhpcpajgaaW.PrintLast Go.Proofs.YtefhljhpcpajgaaW.PrintMore

/-- Whatever reads as data of type t is of kind k, and is ok. -/
def Opens {α : Type} (P : Program) (t : TypeId) (k : Kd α) (Ok : α → Prop) : Prop :=
  ∀ {H : Type} {enc : TypeId × Value → H} {w : World} {base : Nat} {spare : Nat → Bool} {held : Bool} {fuel : Nat} {cs : List Value} {x : DataW H × List MemPlace},
    DataW.trod enc P w base spare held fuel t cs = some x → ∃ a : α, k.K w a cs ∧ Ok a

theorem Opens.int {P : Program} {t : TypeId} {k : IntKind} (ht : P.underlying t = some (.int k)) : Opens P t (Kd.int k) (fun a => (Lit.int k a).wf = true) := by
  intro H enc w base spare held fuel cs x h
  obtain ⟨n, rfl, _, hw⟩ := DataW.trod_int ht h
  exact ⟨n, rfl, hw⟩
theorem Opens.bool {P : Program} {t : TypeId} (ht : P.underlying t = some .bool) : Opens P t Kd.bool (fun _ => True) := by
  intro H enc w base spare held fuel cs x h
  obtain ⟨n, rfl, _⟩ := DataW.trod_bool ht h
  exact ⟨n, rfl, trivial⟩
theorem Opens.string {P : Program} {t : TypeId} (ht : P.underlying t = some .string) : Opens P t Kd.string (fun a => a.size ≤ maxLen) := by
  intro H enc w base spare held fuel cs x h
  obtain ⟨s, rfl, _, hw⟩ := DataW.trod_string ht h
  exact ⟨s, rfl, hw⟩
theorem list_of {α : Type} {p : Nat → α → Prop} : ∀ n, (∀ i, i < n → ∃ a, p i a) → ∃ xs : List α, xs.length = n ∧ ∀ i a, xs[i]? = some a → p i a
  | 0, _ => ⟨[], rfl, fun i a h => by simp at h⟩
  | n + 1, h => by
    obtain ⟨xs, hl, hx⟩ := list_of n (fun i hi => h i (by omega))
    obtain ⟨a, ha⟩ := h n (by omega)
    refine ⟨xs ++ [a], by simp [hl], fun i b hb => ?_⟩
    rcases Nat.lt_or_ge i xs.length with h1 | h1
    · rw [List.getElem?_append_left h1] at hb
      exact hx i b hb
    · rw [List.getElem?_append_right h1] at hb
      have h2 : i - xs.length = 0 := by
        have := (List.getElem?_eq_some_iff.1 hb).1
        simp at this; omega
      rw [h2] at hb
      have : a = b := by simpa using hb
      subst this
      have : i = n := by omega
      rw [this]; exact ha
theorem Opens.slice {α : Type} {P : Program} {t e : TypeId} {k : Kd α} {Ok : α → Prop} (ht : P.underlying t = some (.slice e)) (hc : P.cellsOf e = k.sz) (h : Opens P e k Ok) :
    Opens P t (Kd.slice e k) (fun xs => xs.length ≤ maxLen ∧ ∀ x ∈ xs, Ok x) := by
  intro H enc w base spare held fuel cs x hx
  rcases Go.Deep.open_slice ht hx with ⟨rfl, rfl⟩ | ⟨a, len, cap, m, n, D, Pl, rfl, hb, hl, hm, hmm, rfl, hel⟩
  · exact ⟨[], ⟨none, 0, rfl, by simp, rfl, by simp, fun h => absurd h (by simp)⟩, by simp [maxLen], by simp⟩
  · have hlm : len ≤ m := by rw [hmm]; split <;> omega
    obtain ⟨xs, hlen, hxs⟩ := list_of (p := fun i (a' : α) => ∃ cs', w.cells? base (a.add (i * P.cellsOf e)) (P.cellsOf e) = some cs' ∧ k.K w a' cs' ∧ Ok a') len (fun i hi => by
      obtain ⟨cs', h1, h2⟩ := hel i (by omega)
      obtain ⟨a', h3, h4⟩ := h h2
      exact ⟨a', cs', h1, h3, h4⟩)
    have hlm2 : len ≤ maxLen := by omega
    refine ⟨xs, ⟨some a, cap, by rw [hlen], by rw [hlen]; exact hl, rfl, by rw [hlen]; simpa [maxLen] using hlm2, fun _ => ⟨a, rfl, fun j p hj => ?_⟩⟩, by rw [hlen]; exact hlm2, fun y hy => ?_⟩
    · obtain ⟨cs', h1, h2, _⟩ := hxs j p hj
      refine ⟨cs', k.K_len h2, h2, fun i u hu => ?_⟩
      obtain ⟨_, _, h3⟩ := World.cells?_some h1
      have h4 := h3 i (by have := (List.getElem?_eq_some_iff.1 hu).1; have := k.K_len h2; omega)
      rw [← hc, ← Go.Proofs.YtefhljhpcpajgaaW.PrintWords.add_add]
      rw [← hu]; exact h4
    · obtain ⟨i, hi, rfl⟩ := List.mem_iff_getElem.1 hy
      obtain ⟨_, _, _, h3⟩ := hxs i _ (List.getElem?_eq_getElem hi)
      exact h3
theorem field_reads {H : Type} {enc : TypeId × Value → H} {P : Program} {w : World} {base : Nat} {spare : Nat → Bool} {held : Bool} {fuel : Nat} {t : TypeId} {cs : List Value} {x : DataW H × List MemPlace} {fs : Array Field}
    (ht : P.underlying t = some (.struct fs)) (h : DataW.trod enc P w base spare held fuel t cs = some x) :
    cs.length = P.cellsOf t ∧ ∃ n, ∀ (i : Nat) (f : Field), fs[i]? = some f → ∃ y, DataW.trod enc P w base spare held n f.type ((cs.drop f.offset).take (P.cellsOf f.type)) = some y := by
  obtain ⟨xs, n, _, _, hl, hx, hf⟩ := DataW.trod_struct ht h
  refine ⟨hl, n, fun i f hif => ?_⟩
  rw [hf i f hif]
  have hi := (Array.getElem?_eq_some_iff.1 hif).1
  exact ⟨_, List.getElem?_eq_getElem (by rw [hx]; exact hi)⟩
theorem cell_reads {H : Type} {enc : TypeId × Value → H} {P : Program} {w : World} {base : Nat} {spare : Nat → Bool} {held : Bool} {fuel : Nat} {t e : TypeId} {m : Nat} {cs : List Value} {x : DataW H × List MemPlace}
    (ht : P.underlying t = some (.array m e)) (h : DataW.trod enc P w base spare held fuel t cs = some x) :
    cs.length = P.cellsOf t ∧ ∃ n, ∀ (i : Nat), i < m → ∃ y, DataW.trod enc P w base spare held n e ((cs.drop (i * P.cellsOf e)).take (P.cellsOf e)) = some y := by
  obtain ⟨xs, n, _, _, hl, hx, hf⟩ := DataW.trod_array ht h
  refine ⟨hl, n, fun i hi => ?_⟩
  rw [hf i hi]
  exact ⟨_, List.getElem?_eq_getElem (by rw [hx]; exact hi)⟩
theorem okWide_array' {P : Program} {w : World} {r : Reach} {base : Nat} {t e : TypeId} {m : Nat} {v : Value} (ht : P.underlying t = some (.array m e)) (h : Value.okWide P w r base t v) : ∃ cs, v = .agg cs ∧ cs.size = P.cellsOf t := by
  simp only [Value.okWide, ht] at h
  obtain ⟨cs, h1, h2, _⟩ := h
  exact ⟨cs, h1, h2⟩
/-- The cells of a slice's value. -/
theorem slice_cells {α : Type} {k : Kd α} {e : Nat} {w : World} {xs : List α} {v : Value} (h : (Kd.slice e k).K w xs [v]) : ∃ A c, v = .slice A xs.length c ∧ xs.length ≤ c ∧ k.C w A xs.length xs := by
  obtain ⟨A, c, he, hl, hc⟩ := h
  injection he with he
  exact ⟨A, c, he, hl, hc⟩
/-! The program's head, read once: a long text's signs, told as a list. -/
theorem band {a b : Bool} (h1 : a = true) (h2 : b = true) : (a && b) = true := by rw [h1, h2]; rfl
theorem mayEnter_of {P : Program} {L c : List Char} {rest : List (List Char)} (h : P.initOrder.toList = L) (h1 : behindMainWord (wordsSigns L) = c :: rest) (h2 : ((stripLifts liftWords (c :: rest)).2.head? == some "cut".toList) = true) (h3 : P.laysLater = false) (h4 : P.bearsReflect = false) (h5 : (stripLifts liftWords (c :: rest)).1 = []) (h6 : P.doorFits [] = true) : P.mayEnter = true := by
  unfold Program.mayEnter
  rw [h, h1]
  dsimp only
  rw [h2, h3, h4, h5, h6]
  simp
theorem make_of {P : Program} {L : List Char} {rest : List (List Char)} (h : P.initOrder.toList = L) (h1 : behindMainWord (wordsSigns L) = "cut".toList :: rest) : P.make = some .cut := by
  unfold Program.make
  rw [h, h1]
  dsimp only
  rw [if_neg (by decide), if_pos (by simp)]
end Go.Proofs.YtefhljhpcpajgaaX

-- The program's head, as a list of signs. (A template.)
set_option maxRecDepth 10000
namespace Go.Proofs.Ytefhljhpcpajgaa.Join
open Go.Proofs.YtefhljhpcpajgaaX
def initSigns : List Char := ['h', 'a', 'r', 'n', 'e', 's', 's', ' ', '5', '6', '5', 'd', 'd', 'd', '3', '6', '6', '5', 'c', '5', '5', '9', 'c', '2', '4', '9', 'e', '2', 'e', '3', '7', '8', 'c', '7', '1', 'b', 'b', 'b', '4', '7', '4', '9', '6', '8', '7', '8', 'a', '7', '0', 'b', '1', 'c', '4', '8', '9', 'f', '4', '3', '5', '5', '6', 'b', 'b', '7', 'f', '7', 'f', '7', '4', '9', '2', 'f', ' ', 'c', 'u', 't', ' ', 'a', 't', ' ', 'b', 'a', 'c', 'k', 'h', 'a', 'u', 'l', '/', 'b', 'a', 'c', 'k', 'h', 'a', 'u', 'l', 'l', 'a', 'w', '0', '2', '.', 'C', 'e', 'n', 't', 's', 'S', 'u', 'm', 's', ' ', 'b', 'a', 'c', 'k', 'h', 'a', 'u', 'l', '/', 'b', 'a', 'c', 'k', 'h', 'a', 'u', 'l', 'l', 'a', 'w', '0', '2', '.', 'C', 'e', 'n', 't', 's', 'S', 'h', 'a', 'r', 'e', 's', ' ', 'b', 'a', 'c', 'k', 'h', 'a', 'u', 'l', '/', 'b', 'a', 'c', 'k', 'h', 'a', 'u', 'l', 'l', 'a', 'w', '0', '2', '.', 'C', 'e', 'n', 't', 's', 'O', 'v', 'e', 'r', ' ', 'b', 'a', 'c', 'k', 'h', 'a', 'u', 'l', '/', 'b', 'a', 'c', 'k', 'h', 'a', 'u', 'l', 'l', 'a', 'w', '0', '2', '.', 'C', 'e', 'n', 't', 's', 'D', 'i', 'v', 's', ' ', 'b', 'a', 'c', 'k', 'h', 'a', 'u', 'l', '/', 'b', 'a', 'c', 'k', 'h', 'a', 'u', 'l', 'l', 'a', 'w', '0', '4', '.', 'F', 'e', 'e', 'T', 'e', 'l', 'l', 's', ' ', 'b', 'a', 'c', 'k', 'h', 'a', 'u', 'l', '/', 'b', 'a', 'c', 'k', 'h', 'a', 'u', 'l', 'l', 'a', 'w', '0', '4', '.', 'F', 'e', 'e', 'B', 'o', 'u', 'n', 'd', 's', ' ', 'b', 'a', 'c', 'k', 'h', 'a', 'u', 'l', '/', 'b', 'a', 'c', 'k', 'h', 'a', 'u', 'l', 'l', 'a', 'w', '0', '4', '.', 'F', 'e', 'e', 'S', 't', 'e', 'p', 's', ' ', 'b', 'a', 'c', 'k', 'h', 'a', 'u', 'l', '/', 'b', 'a', 'c', 'k', 'h', 'a', 'u', 'l', 'l', 'a', 'w', '0', '3', '.', 'S', 'h', 'a', 'r', 'e', 'D', 'e', 'a', 'l', 's', ' ', 'b', 'a', 'c', 'k', 'h', 'a', 'u', 'l', '/', 'b', 'a', 'c', 'k', 'h', 'a', 'u', 'l', 'l', 'a', 'w', '0', '3', '.', 'S', 'h', 'a', 'r', 'e', 'A', 'l', 'l', ' ', 'b', 'a', 'c', 'k', 'h', 'a', 'u', 'l', '/', 'b', 'a', 'c', 'k', 'h', 'a', 'u', 'l', 'l', 'a', 'w', '0', '3', '.', 'S', 'h', 'a', 'r', 'e', 'F', 'a', 'i', 'r', ' ', 'b', 'a', 'c', 'k', 'h', 'a', 'u', 'l', '/', 'b', 'a', 'c', 'k', 'h', 'a', 'u', 'l', 'l', 'a', 'w', '2', '1', '.', 'L', 'i', 'n', 'e', 'D', 'e', 'a', 'l', 's', ' ', 'b', 'a', 'c', 'k', 'h', 'a', 'u', 'l', '/', 'b', 'a', 'c', 'k', 'h', 'a', 'u', 'l', 'l', 'a', 'w', '2', '1', '.', 'L', 'i', 'n', 'e', 'T', 'e', 'l', 'l', 's', ' ', 'b', 'a', 'c', 'k', 'h', 'a', 'u', 'l', '/', 'b', 'a', 'c', 'k', 'h', 'a', 'u', 'l', 'l', 'a', 'w', '2', '1', '.', 'L', 'i', 'n', 'e', 'A', 'l', 'l', ' ', 'b', 'a', 'c', 'k', 'h', 'a', 'u', 'l', '/', 'b', 'a', 'c', 'k', 'h', 'a', 'u', 'l', 'l', 'a', 'w', '2', '1', '.', 'L', 'i', 'n', 'e', 'U', 'n', 'i', 't', 's', ' ', 'b', 'a', 'c', 'k', 'h', 'a', 'u', 'l', '/', 'b', 'a', 'c', 'k', 'h', 'a', 'u', 'l', 'l', 'a', 'w', '2', '2', '.', 'V', 'a', 'l', 'u', 'e', 'T', 'e', 'l', 'l', 's', ' ', 'b', 'a', 'c', 'k', 'h', 'a', 'u', 'l', '/', 'b', 'a', 'c', 'k', 'h', 'a', 'u', 'l', 'l', 'a', 'w', '2', '2', '.', 'V', 'a', 'l', 'u', 'e', 'B', 'o', 'u', 'n', 'd', 's', ' ', 'b', 'a', 'c', 'k', 'h', 'a', 'u', 'l', '/', 'b', 'a', 'c', 'k', 'h', 'a', 'u', 'l', 'l', 'a', 'w', '2', '2', '.', 'V', 'a', 'l', 'u', 'e', 'W', 'h', 'o', 'l', 'e', ' ', 'b', 'a', 'c', 'k', 'h', 'a', 'u', 'l', '/', 'b', 'a', 'c', 'k', 'h', 'a', 'u', 'l', 'l', 'a', 'w', '2', '6', '.', 'O', 'r', 'd', 'e', 'r', 'M', 'a', 'k', 'e', 's', ' ', 'b', 'a', 'c', 'k', 'h', 'a', 'u', 'l', '/', 'b', 'a', 'c', 'k', 'h', 'a', 'u', 'l', 'l', 'a', 'w', '2', '6', '.', 'O', 'r', 'd', 'e', 'r', 'T', 'e', 'l', 'l', 's', ' ', 'b', 'a', 'c', 'k', 'h', 'a', 'u', 'l', '/', 'b', 'a', 'c', 'k', 'h', 'a', 'u', 'l', 'l', 'a', 'w', '2', '6', '.', 'O', 'r', 'd', 'e', 'r', 'D', 'e', 'a', 'l', 's', ' ', 'b', 'a', 'c', 'k', 'h', 'a', 'u', 'l', '/', 'b', 'a', 'c', 'k', 'h', 'a', 'u', 'l', 'l', 'a', 'w', '2', '6', '.', 'O', 'r', 'd', 'e', 'r', 'F', 'i', 'n', 'd', 's']
theorem initText : Try.pinned.checked.prog.initOrder = String.ofList initSigns := by kernel_rfl
theorem initList : Try.pinned.checked.prog.initOrder.toList = initSigns := (congrArg String.toList initText).trans String.toList_ofList
theorem mayEnter_is : Try.pinned.checked.prog.mayEnter = true :=
  mayEnter_of (L := initSigns) (c := "cut".toList) (rest := (behindMainWord (wordsSigns initSigns)).tail) initList (by kernel_rfl) (by kernel_rfl) (by kernel_rfl) (by kernel_rfl) (by kernel_rfl) (by kernel_rfl)
theorem make_is : Try.pinned.checked.prog.make = some .cut :=
  make_of (L := initSigns) (rest := (behindMainWord (wordsSigns initSigns)).tail) initList (by kernel_rfl)
theorem lifts_is : Try.pinned.checked.prog.liftsFinal = false := by
  unfold Program.liftsFinal Program.headLifts
  rw [initList]
  kernel_rfl
end Go.Proofs.Ytefhljhpcpajgaa.Join

namespace Go.Proofs.Ytefhljhpcpajgaa.centsShares
open Go.ChangeShapes Go.WideShapes Go.ChangeAt Go.RowKit Go.Proofs.YtefhljhpcpajgaaX Go.Proofs.Ytefhljhpcpajgaa.F Go.Proofs.YtefhljhpcpajgaaW.PrintWords Go.Proofs.YtefhljhpcpajgaaW.PrintLast Go.Proofs.YtefhljhpcpajgaaW.PrintMore
open Go.ChangeMaps (open_string shut_string)
set_option linter.unusedVariables false
set_option linter.unusedSimpArgs false
theorem own : ownKnob Try.prog.godebug = none := by kernel_rfl
theorem laidOut : laidOutB Try.prog = true := by kernel_rfl
set_option maxRecDepth 100000 in
theorem lifted (os : Os) (started : os.Started) (H : Type) (enc : TypeId × Value → H) :
    ReturnsInHanded {} Try.checked os 4 .any (Rows.centsSharesSpec.pre6 enc Try.prog Try.f4 Rows.centsSharesRow.domain false) (Rows.centsSharesSpec.post enc Try.prog Try.f4 false true false false) := by
  refine returnsInHanded_of_change_sized (C := Try.checked) own started (by kernel_rfl) Try.func4
    (ChangeSpec.witness6 (enc := enc) (C := Try.checked) false ⟨#[], #[.int .i64 0, .int .i64 0, .int .i64 0], []⟩ 8 (by kernel_rfl) (by kernel_rfl) (by kernel_rfl) (by kernel_rfl)) ?_
  intro W base args ds gs before hval0 hW hcnd hsz0 _
  have hval : ∀ (j : Nat) t v, Try.f4.params[j]? = some t → args[j]? = some v → Value.okWide Try.prog W .any base t v := hval0
  have hW' := hW
  obtain ⟨p, q, hA0, hV, rfl, hfz, hnd⟩ := hW
  have hA : DataW.TrodAll enc Try.prog W 0 (fun _ => true) true Try.f4.params.toList args.toList ds p := hA0
  rw [Try.params4] at hA hval
  obtain ⟨v0, vs0, d0, ds0, p0, q0, hargs, rfl, rfl, h0, r0⟩ := trodAll_cons hA
  obtain ⟨v1, vs1, d1, ds1, p1, q1, rfl, rfl, rfl, h1, r1⟩ := trodAll_cons r0
  obtain ⟨v2, vs2, d2, ds2, p2, q2, rfl, rfl, rfl, h2, r2⟩ := trodAll_cons r1
  obtain ⟨rfl, rfl, rfl⟩ := trodAll_nil r2
  obtain rfl : args = #[v0, v1, v2] := by cases args; simp_all
  obtain ⟨rfl, rfl⟩ := trodVars_none hV
  have k0 := h0
  have lt0 : ∀ x ∈ p0, x.block < W.heap.size := by obtain ⟨m, hm⟩ := k0; exact DataW.trod_lt m _ _ _ hm
  obtain ⟨x0, rfl⟩ := okWide_int Try.underlying3 (hval 0 3 v0 rfl rfl)
  obtain ⟨f0, hf0⟩ := h0
  obtain ⟨z0, hk0, ho0⟩ := (Opens.int Try.underlying3) hf0
  obtain rfl : x0 = z0 := by have := hk0; injection this with this; injection this
  have k1 := h1
  have lt1 : ∀ x ∈ p1, x.block < W.heap.size := by obtain ⟨m, hm⟩ := k1; exact DataW.trod_lt m _ _ _ hm
  obtain ⟨x1, rfl⟩ := okWide_int Try.underlying3 (hval 1 3 v1 rfl rfl)
  obtain ⟨f1, hf1⟩ := h1
  obtain ⟨z1, hk1, ho1⟩ := (Opens.int Try.underlying3) hf1
  obtain rfl : x1 = z1 := by have := hk1; injection this with this; injection this
  have k2 := h2
  have lt2 : ∀ x ∈ p2, x.block < W.heap.size := by obtain ⟨m, hm⟩ := k2; exact DataW.trod_lt m _ _ _ hm
  obtain ⟨x2, rfl⟩ := okWide_int Try.underlying3 (hval 2 3 v2 rfl rfl)
  obtain ⟨f2, hf2⟩ := h2
  obtain ⟨z2, hk2, ho2⟩ := (Opens.int Try.underlying3) hf2
  obtain rfl : x2 = z2 := by have := hk2; injection this with this; injection this
  obtain ⟨k, h⟩ : ∃ k, backhaullaw02_CentsShares.f k x0 x1 x2 = some true := Pure.CentsShares x0 x1 x2 ho0 ho1 ho2
  refine (backhaullaw02_CentsShares.calls k x0 x1 x2 W  h).mono fun e W' hq => ?_
  obtain ⟨he, bel0⟩ := hq
  have bel : Below W.heap.size W W' := bel0
  subst he
  exact ⟨_, rfl, _, _, _, [], _, [], hW', trodAll_mk1 (shut_bool Try.underlying4 _), (trodAll_cons_mk (Below.trod laidOut (by kernel_rfl) (of_decide_eq_true (by kernel_rfl)) k0 bel lt0) (trodAll_cons_mk (Below.trod laidOut (by kernel_rfl) (of_decide_eq_true (by kernel_rfl)) k1 bel lt1) (trodAll_cons_mk (Below.trod laidOut (by kernel_rfl) (of_decide_eq_true (by kernel_rfl)) k2 bel lt2) trodAll_mk0))), rfl, bel.frame _, fun h => by cases h⟩
theorem closed_ : joinedFacts Try.pinned.checked.prog 4 Try.f4 Rows.centsSharesSpec Rows.centsSharesRow = true := by
  unfold joinedFacts
  repeat' (with_reducible apply band)
  any_goals with_reducible exact Join.mayEnter_is
  any_goals (rw [Join.make_is]; kernel_rfl)
  any_goals (rw [Join.lifts_is]; kernel_rfl)
  all_goals kernel_rfl
theorem over : Rows.centsSharesRow.holds Try.pinned (OpenSpec.ofChange Rows.centsSharesSpec) :=
  OpenClaim.holds_of_wide 4 Try.f4 rfl rfl rfl rfl rfl rfl rfl ⟨rfl, rfl, rfl, rfl, rfl⟩ rfl rfl rfl rfl rfl (by kernel_rfl) Try.func4 closed_
    (of_decide_eq_true (by kernel_rfl)) (by unfold Func.isWrapper; first | (rw [if_pos (by decide +kernel)]; kernel_rfl) | (rw [if_neg (by decide +kernel)]; exact ⟨rfl, rfl⟩))
    (fun os started H enc _ => lifted os started H enc)
theorem proved : Rows.CentsSharesSaid := over
#print axioms proved
end Go.Proofs.Ytefhljhpcpajgaa.centsShares
namespace Go.Proofs.Ytefhljhpcpajgaa
/-- The row, under a short name, for the claim. -/
theorem centsShares_holds : Rows.CentsSharesSaid := centsShares.proved
end Go.Proofs.Ytefhljhpcpajgaa

