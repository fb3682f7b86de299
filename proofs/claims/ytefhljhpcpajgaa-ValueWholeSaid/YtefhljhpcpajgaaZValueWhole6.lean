-- by prune.py (own program), out of the print
import Derived.Deep.Slices
import Derived.ChangeArms
import Derived.WideShapes
import Derived.OpenShut
import Derived.Test.YtefhljhpcpajgaaRows
import Derived.ProofKit
import Derived.ShutString
import Derived.ChangeOld
import Derived.SizedLaws
import Derived.Test.YtefhljhpcpajgaaZValueWhole5
set_option linter.unusedVariables false
set_option linter.unusedSimpArgs false
namespace Go.Proofs.Ytefhljhpcpajgaa.Q
open Go.RowKit Ytefhljhpcpajgaa.F YtefhljhpcpajgaaX YtefhljhpcpajgaaW.PrintWords YtefhljhpcpajgaaW.PrintLast YtefhljhpcpajgaaW.PrintMore
theorem evenL_at {t : Int} {n i : Nat} (h : i < n) : (evenL t n).getD i 0 = outAt t (n : Int) (List.replicate n 1) i := by
  unfold evenL outL
  simp [List.getD_eq_getElem?_getD, h]
theorem evenL_pos {t : Int} {n i : Nat} (ht : 0 ≤ t) (hi : i < n) : 0 ≤ (evenL t n).getD i 0 := by
  rw [evenL_at hi]
  have hb := out_bounds (t := t) (s := (n : Int)) (l := List.replicate n 1) (i := i)
  have h1 : wt (List.replicate n 1) i = 1 := by
    unfold wt
    simp [List.getD_eq_getElem?_getD, hi]
  rw [h1] at hb
  have : 0 ≤ prt t (n : Int) 1 := by
    unfold prt
    exact Int.ediv_nonneg (by omega) (by omega)
  omega
theorem evenL_sum {t : Int} {n : Nat} (h1 : 1 ≤ n) : sumI (evenL t n) = t := out_sum (sumI_ones n) (by omega)
theorem take_sum {l : List Int} {i : Nat} (h : i < l.length) : sumI (l.take (i + 1)) = sumI (l.take i) + l.getD i 0 := by
  rw [List.take_succ_eq_append_getElem h, sumI_append]
  simp [sumI, List.getD_eq_getElem?_getD, h]
theorem take_le {l : List Int} (h : ∀ x ∈ l, 0 ≤ x) (i : Nat) : 0 ≤ sumI (l.take i) ∧ sumI (l.take i) ≤ sumI l := by
  have e : sumI l = sumI (l.take i) + sumI (l.drop i) := by rw [← sumI_append, List.take_append_drop]
  have := sumI_nonneg (l := l.take i) (fun x hx => h x (List.mem_of_mem_take hx))
  have := sumI_nonneg (l := l.drop i) (fun x hx => h x (List.mem_of_mem_drop hx))
  omega
theorem evenL_all {t : Int} {n : Nat} (ht : 0 ≤ t) : ∀ x ∈ evenL t n, 0 ≤ x := fun x hx => by
  obtain ⟨i, hi, rfl⟩ := List.mem_iff_getElem.1 hx
  have := evenL_pos (n := n) (i := i) ht (by rw [evenL_len] at hi; exact hi)
  simpa [List.getD_eq_getElem?_getD, hi] using this
theorem unit_at {a b c d : Int} {s : List ByteArray} (e : lineR a b c d s = 0) {i : Nat} (hi : i < s.length) : unitS a b c d s (i : Int) = ((evenL c s.length).getD i 0, (evenL d s.length).getD i 0, 0) := by
  unfold unitS
  rw [if_pos e, if_neg (by omega)]
  simp
theorem lessS_ok {a b : Int} (h : (lessS a b).2 = 0) : lessS a b = (a - feeR a b, 0) ∧ 0 ≤ b ∧ b ≤ 10000 ∧ 0 ≤ a ∧ a ≤ 1000000000000 := by
  unfold lessS ofS at h ⊢
  by_cases h1 : b < 0 ∨ b > 10000
  · rw [if_pos h1] at h; simp at h
  by_cases h2 : a < 0 ∨ a > 1000000000000
  · rw [if_neg h1, if_pos h2] at h; simp at h
  rw [if_neg h1, if_neg h2, if_pos rfl]
  exact ⟨rfl, by omega, by omega, by omega, by omega⟩
theorem feeR_mono {a a' b b' : Int} (ha : 0 ≤ a) (hb : 0 ≤ b) (h1 : a ≤ a') (h2 : b ≤ b') : feeR a b ≤ feeR a' b' := by
  unfold feeR
  have h3 : a * b ≤ a' * b' := Int.mul_le_mul h1 h2 hb (by omega)
  rw [Int.mul_assoc, Int.mul_assoc]
  omega
theorem chain_four {l : List Int} (h : fcheckS l = 0) : 0 ≤ rd l 0 ∧ rd l 0 ≤ rd l 1 ∧ rd l 1 ≤ rd l 2 ∧ rd l 2 ≤ rd l 3 ∧ rd l 3 ≤ 10000 := by
  have hl := fcheckS_len h
  match l, hl with
  | [p, q, r, s], _ =>
    unfold fcheckS at h
    rw [if_pos (show [p, q, r, s].length = 4 from rfl)] at h
    simp only [chainS] at h
    have e0 : rd [p, q, r, s] 0 = p := rfl
    have e1 : rd [p, q, r, s] 1 = q := rfl
    have e2 : rd [p, q, r, s] 2 = r := rfl
    have e3 : rd [p, q, r, s] 3 = s := rfl
    rw [e0, e1, e2, e3]
    split at h
    · simp at h
    split at h
    · simp at h
    split at h
    · simp at h
    split at h
    · simp at h
    omega
theorem evenL_le {t : Int} {n i : Nat} (ht : 0 ≤ t) (hi : i < n) : (evenL t n).getD i 0 ≤ t := by
  have h1 := take_sum (l := evenL t n) (i := i) (by rw [evenL_len]; exact hi)
  have h2 := take_le (evenL_all (n := n) ht) i
  have h3 := take_le (evenL_all (n := n) ht) (i + 1)
  rw [evenL_sum (show 1 ≤ n by omega)] at h3
  omega
theorem unit_ok {a b c d : Int} {s : List ByteArray} {i : Int} (h : (unitS a b c d s i).2.2 = 0) : lineR a b c d s = 0 ∧ 0 ≤ i ∧ i < (s.length : Int) ∧ unitS a b c d s i = ((evenL c s.length).getD i.toNat 0, (evenL d s.length).getD i.toNat 0, 0) := by
  unfold unitS at h ⊢
  by_cases e : lineR a b c d s = 0
  · rw [if_pos e] at h ⊢
    by_cases g : i < 0 ∨ (s.length : Int) ≤ i
    · rw [if_pos g] at h; simp at h
    rw [if_neg g]; exact ⟨e, by omega, by omega, rfl⟩
  rw [if_neg e] at h; exact absurd h e
theorem unit_sum {a b c d : Int} {s : List ByteArray} {i : Int} (h : (unitS a b c d s i).2.2 = 0) : 0 ≤ (unitS a b c d s i).1 ∧ 0 ≤ (unitS a b c d s i).2.1 ∧ (unitS a b c d s i).1 + (unitS a b c d s i).2.1 ≤ 1000000000000 := by
  obtain ⟨e, h1, h2, h3⟩ := unit_ok h
  have ho := lineR_ok e
  rw [h3]
  have hi : i.toNat < s.length := by omega
  have p1 := evenL_pos (t := c) (n := s.length) (by omega) hi
  have p2 := evenL_pos (t := d) (n := s.length) (by omega) hi
  have q1 := evenL_le (t := c) (n := s.length) (by omega) hi
  have q2 := evenL_le (t := d) (n := s.length) (by omega) hi
  dsimp only
  omega
def fullS (a b c d : Int) (s : List ByteArray) (i : Int) : Int × Int := if (unitS a b c d s i).2.2 = 0 then ((unitS a b c d s i).1 + (unitS a b c d s i).2.1, 0) else (0, (unitS a b c d s i).2.2)
theorem full_f {a b c d : Int} {s : List ByteArray} (h : fewX s) (i : Int) : Ev (fun k => value_Full.f k a b c d s i) (fullS a b c d s i) := by
  unfold value_Full.f fullS
  refine Ev.bind (unit_f h i) (Q.Ev.ite (fun e => ?_) (fun e => Ev.ok (by rw [if_neg e])))
  have hu := unit_sum e
  rw [if_pos e]
  refine Ev.bind (cents_Add_f (by simp)) (Ev.ok ?_)
  rw [add_two hu.1 hu.2.1, if_neg (by omega)]
theorem full_ok {a b c d : Int} {s : List ByteArray} {i : Int} (h : (fullS a b c d s i).2 = 0) : (unitS a b c d s i).2.2 = 0 ∧ fullS a b c d s i = ((unitS a b c d s i).1 + (unitS a b c d s i).2.1, 0) := by
  unfold fullS at h ⊢
  by_cases e : (unitS a b c d s i).2.2 = 0
  · rw [if_pos e]; exact ⟨e, rfl⟩
  rw [if_neg e] at h; exact absurd h e
theorem full_bounds (a b c d : Int) (s : List ByteArray) (i : Int) : 0 ≤ (fullS a b c d s i).1 ∧ (fullS a b c d s i).1 ≤ 1000000000000 := by
  unfold fullS
  by_cases e : (unitS a b c d s i).2.2 = 0
  · have hu := unit_sum e
    rw [if_pos e]; dsimp only; omega
  rw [if_neg e]; dsimp only; omega
def ofV (a b c d : Int) (s : List ByteArray) (i : Int) (l : List Int) (g : Int) : Int × Int := if (fullS a b c d s i).2 = 0 then gradeS (fullS a b c d s i).1 l g else (0, (fullS a b c d s i).2)
theorem terms_f (l : List Int) (x g : Int) : Ev (fun k => value_terms_left.f k l x g) (gradeS x l g) := by
  unfold value_terms_left.f
  exact Ev.bind (fee_grade_f x l g) (Ev.ok rfl)
theorem value_of_f {a b c d : Int} {s : List ByteArray} (h : fewX s) (i : Int) (l : List Int) (g : Int) : Ev (fun k => value_Of.f k a b c d s i l g) (ofV a b c d s i l g) := by
  unfold value_Of.f ofV
  refine Ev.bind (full_f h i) (Q.Ev.ite (fun e => ?_) (fun e => Ev.ok (by rw [if_neg e])))
  rw [if_pos e]
  exact Ev.bind (terms_f l _ g) (Ev.ok rfl)
theorem grade_ok {a : Int} {l : List Int} {g : Int} (h : (gradeS a l g).2 = 0) : fcheckS l = 0 ∧ 0 ≤ g ∧ g < 4 ∧ gradeS a l g = (a - feeR a (rd l g), 0) ∧ 0 ≤ rd l g ∧ rd l g ≤ 10000 ∧ 0 ≤ a := by
  unfold gradeS at h ⊢
  by_cases e : fcheckS l = 0
  · rw [if_pos e] at h ⊢
    by_cases q : g < 0 ∨ g ≥ 4
    · rw [if_pos q] at h; simp at h
    rw [if_neg q] at h ⊢
    have hl := lessS_ok h
    exact ⟨e, by omega, by omega, hl.1, hl.2.1, hl.2.2.1, hl.2.2.2.1⟩
  rw [if_neg e] at h; simp at h
theorem four_at {l : List Int} (h : fcheckS l = 0) {g : Nat} (hg : g < 4) : 0 ≤ rd l (g : Int) ∧ rd l (g : Int) ≤ 10000 ∧ (g + 1 < 4 → rd l (g : Int) ≤ rd l ((g + 1 : Nat) : Int)) := by
  obtain ⟨h0, h1, h2, h3, h4⟩ := chain_four h
  match g, hg with
  | 0, _ => exact ⟨h0, by show rd l 0 ≤ 10000; omega, fun _ => h1⟩
  | 1, _ => exact ⟨by show 0 ≤ rd l 1; omega, by show rd l 1 ≤ 10000; omega, fun _ => h2⟩
  | 2, _ => exact ⟨by show 0 ≤ rd l 2; omega, by show rd l 2 ≤ 10000; omega, fun _ => h3⟩
  | 3, _ => exact ⟨by show 0 ≤ rd l 3; omega, h4, fun q => absurd q (by omega)⟩
theorem grade_at {a : Int} {l : List Int} (ha : 0 ≤ a) (ha2 : a ≤ 1000000000000) (h : fcheckS l = 0) {g : Nat} (hg : g < 4) : gradeS a l (g : Int) = (a - feeR a (rd l (g : Int)), 0) := by
  have hf := four_at h hg
  have e : ofS a (rd l (g : Int)) = (feeR a (rd l (g : Int)), 0) := by
    unfold ofS
    rw [if_neg (by omega), if_neg (by omega)]
  unfold gradeS lessS
  rw [if_pos h, if_neg (show ¬ ((g : Int) < 0 ∨ (g : Int) ≥ 4) by omega), e]
  exact if_pos rfl
def goV (F : Nat → Int → Int × Int) : Nat → List Int → List Int → List Int × Int × Int
  | _, acc, [] => (acc, sumI acc, 0)
  | i, acc, g :: G => if (F i g).2 = 0 then goV F (i + 1) (acc ++ [(F i g).1]) G else ([], 0, (F i g).2)
theorem rdP {A B : List Int} {x : Int} : rd (A ++ x :: B) (A.length : Int) = x := by
  rw [rd_nat (by simp)]; simp
structure InvV (c d : Int) (n i : Nat) (acc : List Int) : Prop where
  few : acc.length ≤ i
  pos : ∀ x ∈ acc, 0 ≤ x
  sum : sumI acc ≤ sumI ((evenL c n).take i) + sumI ((evenL d n).take i)
section
variable {a b c d : Int} {s : List ByteArray} {l : List Int} (h : fewX s)
def atV (a b c d : Int) (s : List ByteArray) (l : List Int) (i : Nat) (g : Int) : Int × Int := ofV a b c d s (i : Int) l g
theorem atV_ok {i : Nat} {g : Int} (e : (atV a b c d s l i g).2 = 0) : i < s.length ∧ lineR a b c d s = 0 ∧ 0 ≤ (atV a b c d s l i g).1 ∧ (atV a b c d s l i g).1 ≤ (evenL c s.length).getD i 0 + (evenL d s.length).getD i 0 := by
  unfold atV ofV at e ⊢
  by_cases q : (fullS a b c d s (i : Int)).2 = 0
  · rw [if_pos q] at e ⊢
    obtain ⟨q1, q2⟩ := full_ok q
    obtain ⟨r1, r2, r3, r4⟩ := unit_ok q1
    obtain ⟨g1, g2, g3, g4, g5, g6, g7⟩ := grade_ok e
    have hf := feeR_bounds g7 g5 g6
    rw [g4]
    rw [q2, r4] at hf g7 ⊢
    simp only [Int.toNat_natCast] at hf g7 ⊢
    exact ⟨by omega, r1, by omega, by omega⟩
  rw [if_neg q] at e; exact absurd e q
theorem InvV.next {n i : Nat} {acc : List Int} (I : InvV c d n i acc) {v : Int} (hi : i < n) (h0 : 0 ≤ v) (h1 : v ≤ (evenL c n).getD i 0 + (evenL d n).getD i 0) : InvV c d n (i + 1) (acc ++ [v]) := by
  have h2 := take_sum (l := evenL c n) (i := i) (by rw [evenL_len]; exact hi)
  have h3 := take_sum (l := evenL d n) (i := i) (by rw [evenL_len]; exact hi)
  have h4 := I.sum
  have h5 := I.few
  refine ⟨by simp; omega, fun x hx => ?_, ?_⟩
  · rcases List.mem_append.1 hx with q | q
    · exact I.pos x q
    rw [List.mem_singleton] at q; omega
  rw [sumI_append, show sumI [v] = v by simp [sumI]]; omega
theorem InvV.top {n i : Nat} {acc : List Int} (I : InvV c d n i acc) (hn : 1 ≤ n) (hc : 0 ≤ c) (hd : 0 ≤ d) (hcd : c + d ≤ 1000000000000) : 0 ≤ sumI acc ∧ sumI acc ≤ 1000000000000 := by
  have h1 := take_le (evenL_all (n := n) hc) i
  have h2 := take_le (evenL_all (n := n) hd) i
  rw [evenL_sum hn] at h1 h2
  have h3 := I.sum
  have h4 := sumI_nonneg I.pos
  omega
theorem InvV.nil (n : Nat) : InvV c d n 0 [] := ⟨by simp, fun x hx => by simp at hx, by simp [sumI]⟩
include h
theorem value_all_l0 {G : List Int} (hG : G.length ≤ 100) (hr : lineR a b c d s = 0) : ∀ (R pre acc : List Int), G = pre ++ R → InvV c d s.length pre.length acc → Ev (fun k => value_All.l0 k l acc G (G.length : Int) (pre.length : Int) a b c d s) (goV (atV a b c d s l) pre.length acc R)
  | [], pre, acc, e, I => by
    have ho := lineR_ok hr
    have ht := I.top (by omega) (by omega) (by omega) (by omega)
    have hf := I.few
    have hlen : G.length = pre.length := by rw [e]; simp
    refine Ev.step (fun k => by simp only [value_All.l0]; rfl) (Ev.neg (by omega) (Ev.bind (cents_Add_f (by omega)) ?_))
    have e2 : sumS 0 acc = (sumI acc, 0) := by
      rw [sumS_nonneg (by omega) (by omega) I.pos, if_neg (show ¬ 1000000000000 < 0 + sumI acc by omega), Int.zero_add]
    rw [e2]
    exact Q.Ev.pos rfl (Ev.ok rfl)
  | g :: R, pre, acc, e, I => by
    have hlen : G.length = pre.length + (R.length + 1) := by rw [e]; simp
    have hf := I.few
    refine Ev.step (fun k => by simp only [value_All.l0]; rfl) (Ev.pos (by omega) (Ev.pos (by omega) (Ev.pos (by omega) ?_)))
    have hg : rd G (pre.length : Int) = g := by rw [e]; exact rdP
    rw [hg, wrap_eq (x := (pre.length : Int) + 1) (by omega) (by omega)]
    unfold goV
    refine Ev.bind (value_of_f h (pre.length : Int) l g) ?_
    refine Q.Ev.ite (fun q => ?_) (fun q => Ev.ok (by rw [if_neg (show ¬ (atV a b c d s l pre.length g).2 = 0 from q)]; rfl))
    rw [if_pos (show (atV a b c d s l pre.length g).2 = 0 from q)]
    obtain ⟨k1, k2, k3, k4⟩ := atV_ok (show (atV a b c d s l pre.length g).2 = 0 from q)
    have := value_all_l0 hG hr R (pre ++ [g]) (acc ++ [(atV a b c d s l pre.length g).1]) (by rw [e]; simp) (by rw [List.length_append]; exact I.next k1 k3 k4)
    rw [List.length_append, List.length_singleton] at this
    exact Ev.pos (by omega) this
def allV (a b c d : Int) (s : List ByteArray) (l G : List Int) : List Int × Int × Int := if lineR a b c d s = 0 then (if G.length = s.length then goV (atV a b c d s l) 0 [] G else ([], 0, 2)) else ([], 0, lineR a b c d s)
theorem value_all_f (l : List Int) {G : List Int} (hG : G.length ≤ 100) : Ev (fun k => value_All.f k a b c d s l G) (allV a b c d s l G) := by
  unfold value_All.f allV
  refine Ev.bind (line_check_f h.1 h.2) (Q.Ev.ite (fun e => ?_) (fun e => Ev.ok (by rw [if_neg e])))
  rw [if_pos e]
  refine Q.Ev.ite (fun q => ?_) (fun q => Ev.ok (by rw [if_neg (by omega)]))
  rw [if_pos (by omega)]
  exact value_all_l0 h hG e G [] [] rfl (InvV.nil _)
def mostV (a b c d : Int) (s : List ByteArray) (l : List Int) : Int × Int := if lineR a b c d s = 0 then (if fcheckS l = 0 then ((goV (atV a b c d s l) 0 [] (List.replicate s.length 0)).2.1, (goV (atV a b c d s l) 0 [] (List.replicate s.length 0)).2.2) else (0, fcheckS l)) else (0, lineR a b c d s)
include h
theorem value_most_f (l : List Int) : Ev (fun k => value_Most.f k a b c d s l) (mostV a b c d s l) := by
  have h40 := h.1
  unfold value_Most.f mostV
  refine Ev.bind (line_check_f h.1 h.2) (Q.Ev.ite (fun e => ?_) (fun e => Ev.ok (by rw [if_neg e])))
  rw [if_pos e]
  refine Ev.bind (fee_check_f l) (Q.Ev.ite (fun q => ?_) (fun q => Ev.ok (by rw [if_neg q])))
  rw [if_pos q]
  refine Ev.pos (by omega) (Ev.pos (by rw [Int.toNat_natCast]; omega) ?_)
  rw [Int.toNat_natCast]
  have hv := value_all_f (a := a) (b := b) (c := c) (d := d) h l (G := List.replicate s.length 0) (by simp; omega)
  rw [show allV a b c d s l (List.replicate s.length 0) = goV (atV a b c d s l) 0 [] (List.replicate s.length 0) by unfold allV; rw [if_pos e, if_pos (by simp)]] at hv
  exact Ev.bind hv (Ev.ok rfl)
omit h
theorem atV_zero (hr : lineR a b c d s = 0) (hq : fcheckS l = 0) {i : Nat} (hi : i < s.length) : (atV a b c d s l i 0).2 = 0 := by
  have hb := full_bounds a b c d s (i : Int)
  have hu : (unitS a b c d s (i : Int)).2.2 = 0 := by rw [unit_at hr hi]
  have hf : (fullS a b c d s (i : Int)).2 = 0 := by unfold fullS; rw [if_pos hu]
  unfold atV ofV
  rw [if_pos hf]
  have := grade_at hb.1 hb.2 hq (g := 0) (by omega)
  rw [show ((0 : Nat) : Int) = 0 from rfl] at this
  rw [this]
include h
end
end Go.Proofs.Ytefhljhpcpajgaa.Q
namespace Go.Proofs.Ytefhljhpcpajgaa.Pure
open Go.RowKit Ytefhljhpcpajgaa.F Ytefhljhpcpajgaa.Q YtefhljhpcpajgaaW.PrintWords YtefhljhpcpajgaaW.PrintLast
def outs (F : Nat → Int → Int × Int) : Nat → List Int → List Int
  | _, [] => []
  | i, g :: R => (F i g).1 :: outs F (i + 1) R
theorem outs_len (F : Nat → Int → Int × Int) : ∀ (R : List Int) (i : Nat), (outs F i R).length = R.length
  | [], _ => rfl
  | g :: R, i => by show (outs F (i + 1) R).length + 1 = _; rw [outs_len F R]; rfl
theorem goV_ok (F : Nat → Int → Int × Int) : ∀ (R : List Int) (i : Nat) (acc : List Int), (goV F i acc R).2.2 = 0 → goV F i acc R = (acc ++ outs F i R, sumI (acc ++ outs F i R), 0) ∧ ∀ j (h : j < R.length), (F (i + j) R[j]).2 = 0
  | [], i, acc, _ => by
    refine ⟨by simp [goV, outs], fun j h => absurd h (by simp)⟩
  | g :: R, i, acc, e => by
    unfold goV at e ⊢
    by_cases q : (F i g).2 = 0
    · rw [if_pos q] at e ⊢
      obtain ⟨h1, h2⟩ := goV_ok F R (i + 1) _ e
      refine ⟨?_, fun j h => ?_⟩
      · rw [h1]
        simp [outs]
      match j with
      | 0 => exact q
      | j + 1 =>
        have := h2 j (by simpa using h)
        rw [show i + (j + 1) = i + 1 + j by omega]
        exact this
    rw [if_neg q] at e; exact absurd e q
theorem goV_bad (F : Nat → Int → Int × Int) : ∀ (R : List Int) (i : Nat) (acc : List Int), (goV F i acc R).2.2 ≠ 0 → (goV F i acc R).1 = [] ∧ (goV F i acc R).2.1 = 0
  | [], i, acc, e => absurd rfl e
  | g :: R, i, acc, e => by
    unfold goV at e ⊢
    by_cases q : (F i g).2 = 0
    · rw [if_pos q] at e ⊢; exact goV_bad F R (i + 1) _ e
    rw [if_neg q]; exact ⟨rfl, rfl⟩
theorem goV_good (F : Nat → Int → Int × Int) : ∀ (R : List Int) (i : Nat) (acc : List Int), (∀ j (h : j < R.length), (F (i + j) R[j]).2 = 0) → (goV F i acc R).2.2 = 0
  | [], i, acc, _ => rfl
  | g :: R, i, acc, e => by
    unfold goV
    rw [if_pos (show (F i g).2 = 0 from e 0 (by simp))]
    refine goV_good F R (i + 1) _ (fun j h => ?_)
    have := e (j + 1) (by simpa using h)
    rw [show i + (j + 1) = i + 1 + j by omega] at this
    exact this
theorem outs_at (F : Nat → Int → Int × Int) : ∀ (R : List Int) (i j : Nat) (h : j < R.length), (outs F i R).getD j 0 = (F (i + j) R[j]).1
  | g :: R, i, 0, h => rfl
  | g :: R, i, j + 1, h => by
    have := outs_at F R (i + 1) j (by simpa using h)
    rw [show i + (j + 1) = i + 1 + j by omega]
    exact this
theorem outs_le (F : Nat → Int → Int × Int) : ∀ (R : List Int) (i : Nat), (∀ j (h : j < R.length), (F (i + j) R[j]).1 ≤ (F (i + j) 0).1) → sumI (outs F i R) ≤ sumI (outs F i (List.replicate R.length 0))
  | [], i, _ => Int.le_refl _
  | g :: R, i, e => by
    have h0 := e 0 (by simp)
    have ih := outs_le F R (i + 1) (fun j h => by
      have := e (j + 1) (by simpa using h)
      rw [show i + (j + 1) = i + 1 + j by omega] at this
      exact this)
    show (F i g).1 + sumI (outs F (i + 1) R) ≤ (F i 0).1 + sumI (outs F (i + 1) (List.replicate R.length 0))
    have h0 : (F i g).1 ≤ (F i 0).1 := h0
    omega
section
variable {a b c d : Int} {s : List ByteArray} {l : List Int}
theorem at_form {i : Nat} {g : Int} (e : (atV a b c d s l i g).2 = 0) : fcheckS l = 0 ∧ 0 ≤ g ∧ g < 4 ∧ (atV a b c d s l i g).1 = (fullS a b c d s (i : Int)).1 - feeR (fullS a b c d s (i : Int)).1 (rd l g) ∧ (fullS a b c d s (i : Int)).1 = (evenL c s.length).getD i 0 + (evenL d s.length).getD i 0 := by
  unfold atV ofV at e ⊢
  by_cases q : (fullS a b c d s (i : Int)).2 = 0
  · rw [if_pos q] at e ⊢
    obtain ⟨q1, q2⟩ := full_ok q
    obtain ⟨r1, r2, r3, r4⟩ := unit_ok q1
    obtain ⟨g1, g2, g3, g4, g5, g6, g7⟩ := grade_ok e
    refine ⟨g1, g2, g3, by rw [g4], ?_⟩
    rw [q2, r4]
    simp only [Int.toNat_natCast]
  rw [if_neg q] at e; exact absurd e q
theorem at_le {i : Nat} {g : Int} (e : (atV a b c d s l i g).2 = 0) : (atV a b c d s l i g).1 ≤ (atV a b c d s l i 0).1 := by
  obtain ⟨h1, h2, h3, h4, h5⟩ := at_form e
  obtain ⟨k1, k2, k3, k4⟩ := atV_ok e
  have e0 := atV_zero (a := a) (b := b) (c := c) (d := d) (l := l) k2 h1 k1
  obtain ⟨_, _, _, p4, _⟩ := at_form e0
  have hb := full_bounds a b c d s (i : Int)
  rw [h4, p4]
  have hf := chain_four h1
  have hr : rd l 0 ≤ rd l g := by
    have : g = 0 ∨ g = 1 ∨ g = 2 ∨ g = 3 := by omega
    rcases this with rfl | rfl | rfl | rfl <;> omega
  have := feeR_mono (a := (fullS a b c d s (i : Int)).1) (a' := (fullS a b c d s (i : Int)).1) hb.1 hf.1 (Int.le_refl _) hr
  omega
theorem outs_top (hc : 0 ≤ c) (hd : 0 ≤ d) : ∀ (R : List Int) (i : Nat), i + R.length = s.length → (∀ j (h : j < R.length), (atV a b c d s l (i + j) R[j]).2 = 0) →
    sumI (outs (atV a b c d s l) i R) + sumI ((evenL c s.length).take i) + sumI ((evenL d s.length).take i) ≤ sumI (evenL c s.length) + sumI (evenL d s.length)
  | [], i, h, _ => by
    have h1 := take_le (evenL_all (n := s.length) hc) i
    have h2 := take_le (evenL_all (n := s.length) hd) i
    show 0 + _ + _ ≤ _
    omega
  | g :: R, i, h, e => by
    have hl : i + (R.length + 1) = s.length := h
    obtain ⟨k1, k2, k3, k4⟩ := atV_ok (e 0 (by simp))
    have ih := outs_top hc hd R (i + 1) (by omega) (fun j q => by
      have := e (j + 1) (by simpa using q)
      rw [show i + (j + 1) = i + 1 + j by omega] at this
      exact this)
    have h2 := take_sum (l := evenL c s.length) (i := i) (by rw [evenL_len]; omega)
    have h3 := take_sum (l := evenL d s.length) (i := i) (by rw [evenL_len]; omega)
    show (atV a b c d s l i g).1 + sumI (outs (atV a b c d s l) (i + 1) R) + _ + _ ≤ _
    have k4 : (atV a b c d s l i g).1 ≤ (evenL c s.length).getD i 0 + (evenL d s.length).getD i 0 := k4
    omega
theorem fee_zero {x : Int} : feeR x 0 = 0 := by unfold feeR; simp
theorem whole_l0 {G : List Int} (hG : G.length ≤ 100) (hn : G.length = s.length) (hc : 0 ≤ c) (hd : 0 ≤ d) (hcd : c + d ≤ 1000000000000) (h1 : 1 ≤ s.length) (e : ∀ j (h : j < G.length), (atV a b c d s l (0 + j) G[j]).2 = 0) (haw : backhaullaw22_awake.f = some true) (m : Nat) : ∀ (i : Nat) (f : Bool), G.length - i = m → i ≤ G.length →
    (f = true → sumI ((outs (atV a b c d s l) 0 G).take i) = sumI ((evenL c s.length).take i) + sumI ((evenL d s.length).take i)) →
    Ev (fun k => backhaullaw22_ValueWhole.l0 k l G (outs (atV a b c d s l) 0 G) (sumI (outs (atV a b c d s l) 0 G)) (c + d) f (sumI ((outs (atV a b c d s l) 0 G).take i)) (i : Int)) true := by
  have hO := outs_len (atV a b c d s l) G 0
  have sc := evenL_sum (t := c) h1
  have sd := evenL_sum (t := d) h1
  have lc := evenL_len c s.length
  have ld := evenL_len d s.length
  have hp : ∀ x ∈ outs (atV a b c d s l) 0 G, 0 ≤ x := fun x hx => by
    obtain ⟨j, hj, rfl⟩ := List.mem_iff_getElem.1 hx
    have hj2 : j < G.length := by omega
    have := outs_at (atV a b c d s l) G 0 j hj2
    obtain ⟨k1, k2, k3, k4⟩ := atV_ok (e j hj2)
    rw [← this] at k3
    simpa [List.getD_eq_getElem?_getD, hj] using k3
  have top := outs_top (a := a) (b := b) (l := l) hc hd G 0 (by omega) e
  rw [sc, sd] at top
  have top : sumI (outs (atV a b c d s l) 0 G) + 0 + 0 ≤ c + d := top
  induction m with
  | zero =>
    intro i f hd hi hf
    refine Ev.step (fun k => by simp only [backhaullaw22_ValueWhole.l0]; rfl) (Ev.neg (by omega) ?_)
    have ei : i = G.length := by omega
    rw [List.take_of_length_le (by omega)] at hf ⊢
    rw [List.take_of_length_le (by omega), List.take_of_length_le (by omega), sc, sd] at hf
    refine Q.Ev.pos (by first | rfl | trivial) ?_
    refine Q.Ev.ite (fun q => Q.Ev.pos (hf q) (Q.Ev.bindc haw (Q.Ev.pos rfl (Q.Ev.const rfl)))) (fun _ => Q.Ev.bindc haw (Q.Ev.pos rfl (Q.Ev.const rfl)))
  | succ m ih =>
    intro i f hdd hi hf
    have h : i < G.length := by omega
    have ea := e i h
    rw [Nat.zero_add] at ea
    obtain ⟨g1, g2, g3, g4, g5⟩ := at_form ea
    have hl4 := fcheckS_len g1
    have hO2 := outs_at (atV a b c d s l) G 0 i h
    rw [Nat.zero_add] at hO2
    have ts := take_sum (l := outs (atV a b c d s l) 0 G) (i := i) (by omega)
    have tc := take_sum (l := evenL c s.length) (i := i) (by omega)
    have td := take_sum (l := evenL d s.length) (i := i) (by omega)
    have b1 := take_le hp i
    have b2 := take_le hp (i + 1)
    have hrd : rd G (i : Int) = G[i] := rd_nat h
    have hro : rd (outs (atV a b c d s l) 0 G) (i : Int) = (outs (atV a b c d s l) 0 G).getD i 0 := by rw [rd_getD, Int.toNat_natCast]
    refine Ev.step (fun k => by simp only [backhaullaw22_ValueWhole.l0]; rfl) (Ev.pos (by omega) (Ev.pos (by omega) ?_))
    rw [hrd, hro, wrap_eq (x := (i : Int) + 1) (by omega) (by omega), wrap_eq (x := sumI ((outs (atV a b c d s l) 0 G).take i) + (outs (atV a b c d s l) 0 G).getD i 0) (by omega) (by omega), ← ts]
    refine Q.Ev.neg (by omega) (Q.Ev.neg (by omega) ?_)
    cases f with
    | true =>
      refine Q.Ev.pos (by first | rfl | trivial) (Ev.pos (by omega) (Ev.pos (by omega) (Ev.pos (by omega) ?_)))
      refine ih (i + 1) _ (by omega) (by omega) (fun q => ?_)
      have q0 : rd l G[i] = 0 := by simpa using q
      have hf' := hf rfl
      rw [q0, fee_zero] at g4
      rw [ts, tc, td, hO2, g4, g5, hf']
      omega
    | false =>
      refine Q.Ev.neg (by decide) (Ev.pos (by omega) ?_)
      exact ih (i + 1) false (by omega) (by omega) (fun q => absurd q (by decide))
end
theorem whole_j0 {a b c d : Int} {s : List ByteArray} {l G : List Int} (hx : fewX s) (hG : G.length ≤ 100) (haw : backhaullaw22_awake.f = some true) : ∀ t : Bool, Ev (fun k => backhaullaw22_ValueWhole.j0 k l G t a b c d s) true := by
  intro t
  refine Ev.step (fun k => by simp only [backhaullaw22_ValueWhole.j0]; rfl) (Q.Ev.ite (fun _ => Q.Ev.bindc haw (Q.Ev.pos rfl (Q.Ev.const rfl))) (fun _ => Ev.bind (value_all_f hx l hG) ?_))
  by_cases e : (allV a b c d s l G).2.2 = 0
  · refine Q.Ev.pos e ?_
    have hr : lineR a b c d s = 0 := by
      unfold allV at e
      by_cases q : lineR a b c d s = 0
      · exact q
      rw [if_neg q] at e; exact absurd e q
    have hn : G.length = s.length := by
      unfold allV at e
      rw [if_pos hr] at e
      by_cases q : G.length = s.length
      · exact q
      rw [if_neg q] at e; simp at e
    have ho := lineR_ok hr
    have ea : allV a b c d s l G = goV (atV a b c d s l) 0 [] G := by unfold allV; rw [if_pos hr, if_pos hn]
    rw [ea] at e ⊢
    obtain ⟨h1, h2⟩ := goV_ok _ G 0 [] e
    rw [h1, List.nil_append]
    dsimp only
    have hz := h2 0 (by omega)
    have hk := (at_form hz).1
    have hm : ∀ j (h : j < (List.replicate s.length (0 : Int)).length), (atV a b c d s l (0 + j) (List.replicate s.length (0 : Int))[j]).2 = 0 := fun j h => by
      have hj : j < s.length := by simpa using h
      rw [List.getElem_replicate, Nat.zero_add]
      exact atV_zero hr hk hj
    have hmo := (goV_ok _ (List.replicate s.length 0) 0 [] (goV_good _ _ 0 [] hm)).1
    have em : mostV a b c d s l = (sumI (outs (atV a b c d s l) 0 (List.replicate s.length 0)), 0) := by
      unfold mostV
      rw [if_pos hr, if_pos hk, hmo, List.nil_append]
    have hv := value_most_f (a := a) (b := b) (c := c) (d := d) hx l
    rw [em] at hv
    have hp := paid_f (a := a) (b := b) (c := c) (d := d) hx
    rw [show paidS a b c d s = (c + d, 0) by unfold paidS; rw [if_pos hr]] at hp
    have hO := outs_len (atV a b c d s l) G 0
    have hpos : 0 ≤ sumI (outs (atV a b c d s l) 0 G) := sumI_nonneg fun x hx => by
      obtain ⟨j, hj, rfl⟩ := List.mem_iff_getElem.1 hx
      have hj2 : j < G.length := by omega
      have := outs_at (atV a b c d s l) G 0 j hj2
      obtain ⟨k1, k2, k3, k4⟩ := atV_ok (h2 j hj2)
      rw [← this] at k3
      simpa [List.getD_eq_getElem?_getD, hj] using k3
    have hle := outs_le (atV a b c d s l) G 0 (fun j h => at_le (h2 j h))
    rw [hn] at hle
    have htop := outs_top (a := a) (b := b) (c := c) (d := d) (l := l) (by omega) (by omega) (List.replicate s.length 0) 0 (by simp) hm
    rw [evenL_sum (by omega), evenL_sum (by omega)] at htop
    have htop : sumI (outs (atV a b c d s l) 0 (List.replicate s.length 0)) + 0 + 0 ≤ c + d := htop
    refine Ev.bind hp (Ev.bind hv ?_)
    dsimp only
    refine Q.Ev.pos (by first | rfl | trivial) (Q.Ev.pos (by first | rfl | trivial) ?_)
    refine Q.Ev.neg (by omega) (Q.Ev.neg (by omega) (Q.Ev.neg (by omega) ?_))
    have j1 : ∀ u : Bool, ¬ u = true → Ev (fun k => backhaullaw22_ValueWhole.j1 k l G (outs (atV a b c d s l) 0 G) (sumI (outs (atV a b c d s l) 0 G)) (c + d) u) true := fun u hu =>
      Ev.step (fun k => by simp only [backhaullaw22_ValueWhole.j1]; rfl) (Q.Ev.neg hu (whole_l0 hG hn (by omega) (by omega) (by omega) (by omega) h2 haw G.length 0 true (by omega) (by omega) (fun _ => rfl)))
    exact j1 _ (by rw [hO]; simp)
  refine Q.Ev.neg e ?_
  have hb : (allV a b c d s l G).1 = [] ∧ (allV a b c d s l G).2.1 = 0 := by
    unfold allV at e ⊢
    split at e
    · split at e
      · rename_i q1 q2
        rw [if_pos q1, if_pos q2]
        exact goV_bad _ G 0 [] e
      rename_i q1 q2
      rw [if_pos q1, if_neg q2]; exact ⟨rfl, rfl⟩
    rename_i q1
    rw [if_neg q1]; exact ⟨rfl, rfl⟩
  rw [hb.1, hb.2]
  exact Q.Ev.pos rfl (Q.Ev.pos rfl (Q.Ev.bindc haw (Q.Ev.pos rfl (Q.Ev.const rfl))))
theorem ValueWhole : backhaullaw22_ValueWhole.Pure := by
  intro a b c d s l G ha hb hc hd hs hl hG
  refine Ev.rounds (r := true) ?_
  have haw : backhaullaw22_awake.f = some true := rfl
  have j0 : ∀ t : Bool, t = true → Ev (fun k => backhaullaw22_ValueWhole.j0 k l G t a b c d s) true := fun t ht =>
    Ev.step (fun k => by simp only [backhaullaw22_ValueWhole.j0]; rfl) (Q.Ev.pos ht (Q.Ev.bindc haw (Q.Ev.pos rfl (Q.Ev.const rfl))))
  unfold backhaullaw22_ValueWhole.f
  refine Ev.bind (few_f _) (Q.Ev.ite (fun hf => ?_) (fun _ => j0 true rfl))
  refine Q.Ev.ite (fun _ => j0 true rfl) (fun _ => ?_)
  have hx : fewX s := fewX_of (few_p hf) (List.mem_singleton.2 rfl)
  by_cases g : (G.length : Int) > 100
  · exact j0 _ (decide_eq_true g)
  exact whole_j0 hx (by omega) haw _
end Go.Proofs.Ytefhljhpcpajgaa.Pure
namespace Go.Proofs.YtefhljhpcpajgaaX
open Go.RowKit YtefhljhpcpajgaaW.PrintWords YtefhljhpcpajgaaW.PrintLast YtefhljhpcpajgaaW.PrintMore
def Opens {α : Type} (P : Program) (t : TypeId) (k : Kd α) (Ok : α → Prop) : Prop :=
  ∀ {H : Type} {enc : TypeId × Value → H} {w : World} {base : Nat} {spare : Nat → Bool} {held : Bool} {fuel : Nat} {cs : List Value} {x : DataW H × List MemPlace},
    DataW.trod enc P w base spare held fuel t cs = some x → ∃ a : α, k.K w a cs ∧ Ok a
theorem Opens.int {P : Program} {t : TypeId} {k : IntKind} (ht : P.underlying t = some (.int k)) : Opens P t (Kd.int k) (fun a => (Lit.int k a).wf = true) := by
  intro H enc w base spare held fuel cs x h
  obtain ⟨n, rfl, _, hw⟩ := DataW.trod_int ht h
  exact ⟨n, rfl, hw⟩
theorem Opens.bool {P : Program} {t : TypeId} (ht : P.underlying t = some .bool) : Opens P t Kd.bool (fun _ => True) := by
  intro H enc w base spare held fuel cs x h
  obtain ⟨n, rfl, _⟩ := DataW.trod_bool ht h
  exact ⟨n, rfl, trivial⟩
theorem Opens.string {P : Program} {t : TypeId} (ht : P.underlying t = some .string) : Opens P t Kd.string (fun a => a.size ≤ maxLen) := by
  intro H enc w base spare held fuel cs x h
  obtain ⟨s, rfl, _, hw⟩ := DataW.trod_string ht h
  exact ⟨s, rfl, hw⟩
theorem list_of {α : Type} {p : Nat → α → Prop} : ∀ n, (∀ i, i < n → ∃ a, p i a) → ∃ xs : List α, xs.length = n ∧ ∀ i a, xs[i]? = some a → p i a
  | 0, _ => ⟨[], rfl, fun i a h => by simp at h⟩
  | n + 1, h => by
    obtain ⟨xs, hl, hx⟩ := list_of n (fun i hi => h i (by omega))
    obtain ⟨a, ha⟩ := h n (by omega)
    refine ⟨xs ++ [a], by simp [hl], fun i b hb => ?_⟩
    rcases Nat.lt_or_ge i xs.length with h1 | h1
    · rw [List.getElem?_append_left h1] at hb
      exact hx i b hb
    rw [List.getElem?_append_right h1] at hb
    have h2 : i - xs.length = 0 := by
      have := (List.getElem?_eq_some_iff.1 hb).1
      simp at this; omega
    rw [h2] at hb
    have : a = b := by simpa using hb
    subst this
    have : i = n := by omega
    rw [this]; exact ha
theorem Opens.slice {α : Type} {P : Program} {t e : TypeId} {k : Kd α} {Ok : α → Prop} (ht : P.underlying t = some (.slice e)) (hc : P.cellsOf e = k.sz) (h : Opens P e k Ok) :
    Opens P t (Kd.slice e k) (fun xs => xs.length ≤ maxLen ∧ ∀ x ∈ xs, Ok x) := by
  intro H enc w base spare held fuel cs x hx
  rcases Go.Deep.open_slice ht hx with ⟨rfl, rfl⟩ | ⟨a, len, cap, m, n, D, Pl, rfl, hb, hl, hm, hmm, rfl, hel⟩
  · exact ⟨[], ⟨none, 0, rfl, by simp, rfl, by simp, fun h => absurd h (by simp)⟩, by simp [maxLen], by simp⟩
  have hlm : len ≤ m := by rw [hmm]; split <;> omega
  obtain ⟨xs, hlen, hxs⟩ := list_of (p := fun i (a' : α) => ∃ cs', w.cells? base (a.add (i * P.cellsOf e)) (P.cellsOf e) = some cs' ∧ k.K w a' cs' ∧ Ok a') len (fun i hi => by
    obtain ⟨cs', h1, h2⟩ := hel i (by omega)
    obtain ⟨a', h3, h4⟩ := h h2
    exact ⟨a', cs', h1, h3, h4⟩)
  have hlm2 : len ≤ maxLen := by omega
  refine ⟨xs, ⟨some a, cap, by rw [hlen], by rw [hlen]; exact hl, rfl, by rw [hlen]; simpa [maxLen] using hlm2, fun _ => ⟨a, rfl, fun j p hj => ?_⟩⟩, by rw [hlen]; exact hlm2, fun y hy => ?_⟩
  · obtain ⟨cs', h1, h2, _⟩ := hxs j p hj
    refine ⟨cs', k.K_len h2, h2, fun i u hu => ?_⟩
    obtain ⟨_, _, h3⟩ := World.cells?_some h1
    have h4 := h3 i (by have := (List.getElem?_eq_some_iff.1 hu).1; have := k.K_len h2; omega)
    rw [← hc, ← Go.Proofs.YtefhljhpcpajgaaW.PrintWords.add_add]
    rw [← hu]; exact h4
  obtain ⟨i, hi, rfl⟩ := List.mem_iff_getElem.1 hy
  obtain ⟨_, _, _, h3⟩ := hxs i _ (List.getElem?_eq_getElem hi)
  exact h3
theorem field_reads {H : Type} {enc : TypeId × Value → H} {P : Program} {w : World} {base : Nat} {spare : Nat → Bool} {held : Bool} {fuel : Nat} {t : TypeId} {cs : List Value} {x : DataW H × List MemPlace} {fs : Array Field}
    (ht : P.underlying t = some (.struct fs)) (h : DataW.trod enc P w base spare held fuel t cs = some x) :
    cs.length = P.cellsOf t ∧ ∃ n, ∀ (i : Nat) (f : Field), fs[i]? = some f → ∃ y, DataW.trod enc P w base spare held n f.type ((cs.drop f.offset).take (P.cellsOf f.type)) = some y := by
  obtain ⟨xs, n, _, _, hl, hx, hf⟩ := DataW.trod_struct ht h
  refine ⟨hl, n, fun i f hif => ?_⟩
  rw [hf i f hif]
  have hi := (Array.getElem?_eq_some_iff.1 hif).1
  exact ⟨_, List.getElem?_eq_getElem (by rw [hx]; exact hi)⟩
theorem slice_cells {α : Type} {k : Kd α} {e : Nat} {w : World} {xs : List α} {v : Value} (h : (Kd.slice e k).K w xs [v]) : ∃ A c, v = .slice A xs.length c ∧ xs.length ≤ c ∧ k.C w A xs.length xs := by
  obtain ⟨A, c, he, hl, hc⟩ := h
  injection he with he
  exact ⟨A, c, he, hl, hc⟩
theorem band {a b : Bool} (h1 : a = true) (h2 : b = true) : (a && b) = true := by rw [h1, h2]; rfl
theorem mayEnter_of {P : Program} {L c : List Char} {rest : List (List Char)} (h : P.initOrder.toList = L) (h1 : behindMainWord (wordsSigns L) = c :: rest) (h2 : ((stripLifts liftWords (c :: rest)).2.head? == some "cut".toList) = true) (h3 : P.laysLater = false) (h4 : P.bearsReflect = false) (h5 : (stripLifts liftWords (c :: rest)).1 = []) (h6 : P.doorFits [] = true) : P.mayEnter = true := by
  unfold Program.mayEnter
  rw [h, h1]
  dsimp only
  rw [h2, h3, h4, h5, h6]
  simp
theorem make_of {P : Program} {L : List Char} {rest : List (List Char)} (h : P.initOrder.toList = L) (h1 : behindMainWord (wordsSigns L) = "cut".toList :: rest) : P.make = some .cut := by
  unfold Program.make
  rw [h, h1]
  dsimp only
  rw [if_neg (by decide), if_pos (by simp)]
end Go.Proofs.YtefhljhpcpajgaaX
set_option maxRecDepth 10000
namespace Go.Proofs.Ytefhljhpcpajgaa.Join
open YtefhljhpcpajgaaX
def initSigns : List Char := ['h', 'a', 'r', 'n', 'e', 's', 's', ' ', '5', '6', '5', 'd', 'd', 'd', '3', '6', '6', '5', 'c', '5', '5', '9', 'c', '2', '4', '9', 'e', '2', 'e', '3', '7', '8', 'c', '7', '1', 'b', 'b', 'b', '4', '7', '4', '9', '6', '8', '7', '8', 'a', '7', '0', 'b', '1', 'c', '4', '8', '9', 'f', '4', '3', '5', '5', '6', 'b', 'b', '7', 'f', '7', 'f', '7', '4', '9', '2', 'f', ' ', 'c', 'u', 't', ' ', 'a', 't', ' ', 'b', 'a', 'c', 'k', 'h', 'a', 'u', 'l', '/', 'b', 'a', 'c', 'k', 'h', 'a', 'u', 'l', 'l', 'a', 'w', '0', '2', '.', 'C', 'e', 'n', 't', 's', 'S', 'u', 'm', 's', ' ', 'b', 'a', 'c', 'k', 'h', 'a', 'u', 'l', '/', 'b', 'a', 'c', 'k', 'h', 'a', 'u', 'l', 'l', 'a', 'w', '0', '2', '.', 'C', 'e', 'n', 't', 's', 'S', 'h', 'a', 'r', 'e', 's', ' ', 'b', 'a', 'c', 'k', 'h', 'a', 'u', 'l', '/', 'b', 'a', 'c', 'k', 'h', 'a', 'u', 'l', 'l', 'a', 'w', '0', '2', '.', 'C', 'e', 'n', 't', 's', 'O', 'v', 'e', 'r', ' ', 'b', 'a', 'c', 'k', 'h', 'a', 'u', 'l', '/', 'b', 'a', 'c', 'k', 'h', 'a', 'u', 'l', 'l', 'a', 'w', '0', '2', '.', 'C', 'e', 'n', 't', 's', 'D', 'i', 'v', 's', ' ', 'b', 'a', 'c', 'k', 'h', 'a', 'u', 'l', '/', 'b', 'a', 'c', 'k', 'h', 'a', 'u', 'l', 'l', 'a', 'w', '0', '4', '.', 'F', 'e', 'e', 'T', 'e', 'l', 'l', 's', ' ', 'b', 'a', 'c', 'k', 'h', 'a', 'u', 'l', '/', 'b', 'a', 'c', 'k', 'h', 'a', 'u', 'l', 'l', 'a', 'w', '0', '4', '.', 'F', 'e', 'e', 'B', 'o', 'u', 'n', 'd', 's', ' ', 'b', 'a', 'c', 'k', 'h', 'a', 'u', 'l', '/', 'b', 'a', 'c', 'k', 'h', 'a', 'u', 'l', 'l', 'a', 'w', '0', '4', '.', 'F', 'e', 'e', 'S', 't', 'e', 'p', 's', ' ', 'b', 'a', 'c', 'k', 'h', 'a', 'u', 'l', '/', 'b', 'a', 'c', 'k', 'h', 'a', 'u', 'l', 'l', 'a', 'w', '0', '3', '.', 'S', 'h', 'a', 'r', 'e', 'D', 'e', 'a', 'l', 's', ' ', 'b', 'a', 'c', 'k', 'h', 'a', 'u', 'l', '/', 'b', 'a', 'c', 'k', 'h', 'a', 'u', 'l', 'l', 'a', 'w', '0', '3', '.', 'S', 'h', 'a', 'r', 'e', 'A', 'l', 'l', ' ', 'b', 'a', 'c', 'k', 'h', 'a', 'u', 'l', '/', 'b', 'a', 'c', 'k', 'h', 'a', 'u', 'l', 'l', 'a', 'w', '0', '3', '.', 'S', 'h', 'a', 'r', 'e', 'F', 'a', 'i', 'r', ' ', 'b', 'a', 'c', 'k', 'h', 'a', 'u', 'l', '/', 'b', 'a', 'c', 'k', 'h', 'a', 'u', 'l', 'l', 'a', 'w', '2', '1', '.', 'L', 'i', 'n', 'e', 'D', 'e', 'a', 'l', 's', ' ', 'b', 'a', 'c', 'k', 'h', 'a', 'u', 'l', '/', 'b', 'a', 'c', 'k', 'h', 'a', 'u', 'l', 'l', 'a', 'w', '2', '1', '.', 'L', 'i', 'n', 'e', 'T', 'e', 'l', 'l', 's', ' ', 'b', 'a', 'c', 'k', 'h', 'a', 'u', 'l', '/', 'b', 'a', 'c', 'k', 'h', 'a', 'u', 'l', 'l', 'a', 'w', '2', '1', '.', 'L', 'i', 'n', 'e', 'A', 'l', 'l', ' ', 'b', 'a', 'c', 'k', 'h', 'a', 'u', 'l', '/', 'b', 'a', 'c', 'k', 'h', 'a', 'u', 'l', 'l', 'a', 'w', '2', '1', '.', 'L', 'i', 'n', 'e', 'U', 'n', 'i', 't', 's', ' ', 'b', 'a', 'c', 'k', 'h', 'a', 'u', 'l', '/', 'b', 'a', 'c', 'k', 'h', 'a', 'u', 'l', 'l', 'a', 'w', '2', '2', '.', 'V', 'a', 'l', 'u', 'e', 'T', 'e', 'l', 'l', 's', ' ', 'b', 'a', 'c', 'k', 'h', 'a', 'u', 'l', '/', 'b', 'a', 'c', 'k', 'h', 'a', 'u', 'l', 'l', 'a', 'w', '2', '2', '.', 'V', 'a', 'l', 'u', 'e', 'B', 'o', 'u', 'n', 'd', 's', ' ', 'b', 'a', 'c', 'k', 'h', 'a', 'u', 'l', '/', 'b', 'a', 'c', 'k', 'h', 'a', 'u', 'l', 'l', 'a', 'w', '2', '2', '.', 'V', 'a', 'l', 'u', 'e', 'W', 'h', 'o', 'l', 'e', ' ', 'b', 'a', 'c', 'k', 'h', 'a', 'u', 'l', '/', 'b', 'a', 'c', 'k', 'h', 'a', 'u', 'l', 'l', 'a', 'w', '2', '6', '.', 'O', 'r', 'd', 'e', 'r', 'M', 'a', 'k', 'e', 's', ' ', 'b', 'a', 'c', 'k', 'h', 'a', 'u', 'l', '/', 'b', 'a', 'c', 'k', 'h', 'a', 'u', 'l', 'l', 'a', 'w', '2', '6', '.', 'O', 'r', 'd', 'e', 'r', 'T', 'e', 'l', 'l', 's', ' ', 'b', 'a', 'c', 'k', 'h', 'a', 'u', 'l', '/', 'b', 'a', 'c', 'k', 'h', 'a', 'u', 'l', 'l', 'a', 'w', '2', '6', '.', 'O', 'r', 'd', 'e', 'r', 'D', 'e', 'a', 'l', 's', ' ', 'b', 'a', 'c', 'k', 'h', 'a', 'u', 'l', '/', 'b', 'a', 'c', 'k', 'h', 'a', 'u', 'l', 'l', 'a', 'w', '2', '6', '.', 'O', 'r', 'd', 'e', 'r', 'F', 'i', 'n', 'd', 's']
theorem initText : Try.pinned.checked.prog.initOrder = String.ofList initSigns := by kernel_rfl
theorem initList : Try.pinned.checked.prog.initOrder.toList = initSigns := (congrArg String.toList initText).trans String.toList_ofList
theorem mayEnter_is : Try.pinned.checked.prog.mayEnter = true :=
  mayEnter_of (L := initSigns) (c := "cut".toList) (rest := (behindMainWord (wordsSigns initSigns)).tail) initList (by kernel_rfl) (by kernel_rfl) (by kernel_rfl) (by kernel_rfl) (by kernel_rfl) (by kernel_rfl)
theorem make_is : Try.pinned.checked.prog.make = some .cut :=
  make_of (L := initSigns) (rest := (behindMainWord (wordsSigns initSigns)).tail) initList (by kernel_rfl)
theorem lifts_is : Try.pinned.checked.prog.liftsFinal = false := by
  unfold Program.liftsFinal Program.headLifts
  rw [initList]
  kernel_rfl
end Go.Proofs.Ytefhljhpcpajgaa.Join
namespace Go.Proofs.Ytefhljhpcpajgaa.valueWhole
open Go.ChangeShapes Go.WideShapes Go.ChangeAt Go.RowKit YtefhljhpcpajgaaX Ytefhljhpcpajgaa.F YtefhljhpcpajgaaW.PrintWords YtefhljhpcpajgaaW.PrintLast YtefhljhpcpajgaaW.PrintMore
open Go.ChangeMaps (open_string shut_string)
theorem own : ownKnob Try.prog.godebug = none := by kernel_rfl
theorem laidOut : laidOutB Try.prog = true := by kernel_rfl
set_option maxRecDepth 100000 in
theorem opens_k71 : Opens Try.prog 71 k71 (fun x => ((Lit.int .i64 x.f0).wf = true ∧ (Lit.int .i64 x.f1).wf = true ∧ (Lit.int .i64 x.f2).wf = true ∧ (Lit.int .i64 x.f3).wf = true ∧ (x.f4.length ≤ maxLen ∧ ∀ y ∈ x.f4, y.size ≤ maxLen))) := by
  intro H enc w base spare held fuel cs x h
  obtain ⟨hl, n, hf⟩ := field_reads Try.underlying71 h
  have hl2 : cs.length = 5 := hl.trans (by kernel_rfl)
  match cs, hl2 with
  | [c0, c1, c2, c3, c4], _ =>
    obtain ⟨y0, h0⟩ := hf 0 _ rfl
    have e0 : Try.prog.cellsOf 3 = 1 := by kernel_rfl
    (try dsimp only at h0)
    (try simp only [e0] at h0)
    obtain ⟨a0, k0, o0⟩ := (Opens.int Try.underlying3) h0
    have k0' : ((Kd.int .i64)).K w a0 [c0] := k0
    obtain ⟨y1, h1⟩ := hf 1 _ rfl
    have e1 : Try.prog.cellsOf 3 = 1 := by kernel_rfl
    (try dsimp only at h1)
    (try simp only [e1] at h1)
    obtain ⟨a1, k1, o1⟩ := (Opens.int Try.underlying3) h1
    have k1' : ((Kd.int .i64)).K w a1 [c1] := k1
    obtain ⟨y2, h2⟩ := hf 2 _ rfl
    have e2 : Try.prog.cellsOf 3 = 1 := by kernel_rfl
    (try dsimp only at h2)
    (try simp only [e2] at h2)
    obtain ⟨a2, k2, o2⟩ := (Opens.int Try.underlying3) h2
    have k2' : ((Kd.int .i64)).K w a2 [c2] := k2
    obtain ⟨y3, h3⟩ := hf 3 _ rfl
    have e3 : Try.prog.cellsOf 3 = 1 := by kernel_rfl
    (try dsimp only at h3)
    (try simp only [e3] at h3)
    obtain ⟨a3, k3, o3⟩ := (Opens.int Try.underlying3) h3
    have k3' : ((Kd.int .i64)).K w a3 [c3] := k3
    obtain ⟨y4, h4⟩ := hf 4 _ rfl
    have e4 : Try.prog.cellsOf 69 = 1 := by kernel_rfl
    (try dsimp only at h4)
    (try simp only [e4] at h4)
    obtain ⟨a4, k4, o4⟩ := (Opens.slice Try.underlying69 (by kernel_rfl) (Opens.string Try.underlying9)) h4
    have k4' : ((Kd.slice 9 Kd.string)).K w a4 [c4] := k4
    exact ⟨(⟨a0, a1, a2, a3, a4⟩ : S71), ⟨[c0], [c1, c2, c3, c4], rfl, k0', ⟨[c1], [c2, c3, c4], rfl, k1', ⟨[c2], [c3, c4], rfl, k2', ⟨[c3], [c4], rfl, k3', k4'⟩⟩⟩⟩, ⟨o0, o1, o2, o3, o4⟩⟩
set_option maxRecDepth 100000 in
theorem lifted (os : Os) (started : os.Started) (H : Type) (enc : TypeId × Value → H) :
    ReturnsInHanded {} Try.checked os 19 .any (Rows.valueWholeSpec.pre6 enc Try.prog Try.f19 Rows.valueWholeRow.domain false) (Rows.valueWholeSpec.post enc Try.prog Try.f19 false true false false) := by
  refine returnsInHanded_of_change_sized (C := Try.checked) own started (by kernel_rfl) Try.func19
    (ChangeSpec.witness6 (enc := enc) (C := Try.checked) false ⟨#[], #[.agg #[.int .i64 0, .int .i64 0, .int .i64 0, .int .i64 0, .slice none 0 0], .slice none 0 0, .slice none 0 0], []⟩ 8 (by kernel_rfl) (by kernel_rfl) (by kernel_rfl) (by kernel_rfl)) ?_
  intro W base args ds gs before hval0 hW hcnd hsz0 _
  have hval : ∀ (j : Nat) t v, Try.f19.params[j]? = some t → args[j]? = some v → Value.okWide Try.prog W .any base t v := hval0
  have hW' := hW
  obtain ⟨p, q, hA0, hV, rfl, hfz, hnd⟩ := hW
  have hA : DataW.TrodAll enc Try.prog W 0 (fun _ => true) true Try.f19.params.toList args.toList ds p := hA0
  rw [Try.params19] at hA hval
  obtain ⟨v0, vs0, d0, ds0, p0, q0, hargs, rfl, rfl, h0, r0⟩ := trodAll_cons hA
  obtain ⟨v1, vs1, d1, ds1, p1, q1, rfl, rfl, rfl, h1, r1⟩ := trodAll_cons r0
  obtain ⟨v2, vs2, d2, ds2, p2, q2, rfl, rfl, rfl, h2, r2⟩ := trodAll_cons r1
  obtain ⟨rfl, rfl, rfl⟩ := trodAll_nil r2
  obtain rfl : args = #[v0, v1, v2] := by cases args; simp_all
  obtain ⟨rfl, rfl⟩ := trodVars_none hV
  have k0 := h0
  have lt0 : ∀ x ∈ p0, x.block < W.heap.size := by obtain ⟨m, hm⟩ := k0; exact DataW.trod_lt m _ _ _ hm
  obtain ⟨cs0, rfl, _⟩ := okWide_struct Try.underlying71 (hval 0 71 v0 rfl rfl)
  obtain ⟨f0, hf0⟩ := h0
  obtain ⟨x0, hk0, ho0⟩ := opens_k71 hf0
  obtain ⟨A0_4, c0_4, he0, hl0_4, hc0_4⟩ := k71_open hk0
  obtain rfl : cs0 = _ := Array.toList_inj.1 (he0.trans (List.toList_toArray).symm)
  have k1 := h1
  have lt1 : ∀ x ∈ p1, x.block < W.heap.size := by obtain ⟨m, hm⟩ := k1; exact DataW.trod_lt m _ _ _ hm
  obtain ⟨b1, len1, cap1, rfl⟩ := okWide_slice Try.underlying22 (hval 1 22 v1 rfl rfl)
  obtain ⟨f1, hf1⟩ := h1
  obtain ⟨x1, hk1, ho1⟩ := (Opens.slice Try.underlying22 (by kernel_rfl) (Opens.int Try.underlying3)) hf1
  obtain ⟨A1, c1, he1, hl1, hc1⟩ := slice_cells (show _ from hk1)
  injection he1 with e1_1 e1_2 e1_3
  subst e1_1 e1_2 e1_3
  have k2 := h2
  have lt2 : ∀ x ∈ p2, x.block < W.heap.size := by obtain ⟨m, hm⟩ := k2; exact DataW.trod_lt m _ _ _ hm
  obtain ⟨b2, len2, cap2, rfl⟩ := okWide_slice Try.underlying22 (hval 2 22 v2 rfl rfl)
  obtain ⟨f2, hf2⟩ := h2
  obtain ⟨x2, hk2, ho2⟩ := (Opens.slice Try.underlying22 (by kernel_rfl) (Opens.int Try.underlying3)) hf2
  obtain ⟨A2, c2, he2, hl2, hc2⟩ := slice_cells (show _ from hk2)
  injection he2 with e2_1 e2_2 e2_3
  subst e2_1 e2_2 e2_3
  obtain ⟨k, h⟩ : ∃ k, backhaullaw22_ValueWhole.f k x0.f0 x0.f1 x0.f2 x0.f3 x0.f4 x1 x2 = some true := Pure.ValueWhole x0.f0 x0.f1 x0.f2 x0.f3 x0.f4 x1 x2 ho0.1 ho0.2.1 ho0.2.2.1 ho0.2.2.2.1 ho0.2.2.2.2 ho1 ho2
  refine (backhaullaw22_ValueWhole.calls k x0.f0 x0.f1 x0.f2 x0.f3 (fun k_ => k_ < W.heap.size) _ _ x0.f4 _ _ x1 _ _ x2 W (Kd.V_mk hl0_4 (Kd.C_F Kd.heap_string hc0_4)) hc1 hl1 hc2 hl2 h).mono fun e W' hq => ?_
  obtain ⟨he, bel0⟩ := hq
  have bel : Below W.heap.size W W' := bel0
  subst he
  exact ⟨_, rfl, _, _, _, [], _, [], hW', trodAll_mk1 (shut_bool Try.underlying4 _), (trodAll_cons_mk (Below.trod laidOut (by kernel_rfl) (of_decide_eq_true (by kernel_rfl)) k0 bel lt0) (trodAll_cons_mk (Below.trod laidOut (by kernel_rfl) (of_decide_eq_true (by kernel_rfl)) k1 bel lt1) (trodAll_cons_mk (Below.trod laidOut (by kernel_rfl) (of_decide_eq_true (by kernel_rfl)) k2 bel lt2) trodAll_mk0))), rfl, bel.frame _, fun h => by cases h⟩
theorem closed_ : joinedFacts Try.pinned.checked.prog 19 Try.f19 Rows.valueWholeSpec Rows.valueWholeRow = true := by
  unfold joinedFacts
  repeat' (with_reducible apply band)
  any_goals with_reducible exact Join.mayEnter_is
  any_goals (rw [Join.make_is]; kernel_rfl)
  any_goals (rw [Join.lifts_is]; kernel_rfl)
  all_goals kernel_rfl
theorem over : Rows.valueWholeRow.holds Try.pinned (OpenSpec.ofChange Rows.valueWholeSpec) :=
  OpenClaim.holds_of_wide 19 Try.f19 rfl rfl rfl rfl rfl rfl rfl ⟨rfl, rfl, rfl, rfl, rfl⟩ rfl rfl rfl rfl rfl (by kernel_rfl) Try.func19 closed_
    (of_decide_eq_true (by kernel_rfl)) (by unfold Func.isWrapper; first | (rw [if_pos (by decide +kernel)]; kernel_rfl) | (rw [if_neg (by decide +kernel)]; exact ⟨rfl, rfl⟩))
    (fun os started H enc _ => lifted os started H enc)
theorem proved : Rows.ValueWholeSaid := over
#print axioms proved
end Go.Proofs.Ytefhljhpcpajgaa.valueWhole
namespace Go.Proofs.Ytefhljhpcpajgaa
theorem valueWhole_holds : Rows.ValueWholeSaid := valueWhole.proved
end Go.Proofs.Ytefhljhpcpajgaa
