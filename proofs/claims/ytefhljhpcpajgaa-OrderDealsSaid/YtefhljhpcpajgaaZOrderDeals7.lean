-- by prune.py (own program), out of the print
import Derived.Deep.Slices
import Derived.ChangeArms
import Derived.WideShapes
import Derived.OpenShut
import Derived.Test.YtefhljhpcpajgaaRows
import Derived.ProofKit
import Derived.ShutString
import Derived.ChangeOld
import Derived.SizedLaws
import Derived.Test.YtefhljhpcpajgaaZOrderDeals6
set_option linter.unusedVariables false
set_option linter.unusedSimpArgs false
namespace Go.Proofs.Ytefhljhpcpajgaa.Q
open Go.RowKit Ytefhljhpcpajgaa.F YtefhljhpcpajgaaX YtefhljhpcpajgaaW.PrintWords YtefhljhpcpajgaaW.PrintLast YtefhljhpcpajgaaW.PrintMore
def LR (x : LnT) : Int := lineR x.f0 x.f1 x.f2 x.f3 x.f4
def fewX (s : List ByteArray) : Prop := s.length ≤ 40 ∧ ∀ x ∈ s, x.size ≤ 100
theorem fewX_of {l : List LnT} (h : fewP l) {x : LnT} (hx : x ∈ l) : fewX x.f4 := h.2 x hx
theorem lineR_ok {a b c d : Int} {s : List ByteArray} (h : lineR a b c d s = 0) : 1 ≤ a ∧ a ≤ 999999 ∧ 0 ≤ b ∧ b ≤ 1000000000000 ∧ 0 ≤ c ∧ c ≤ b ∧ 0 ≤ d ∧ d ≤ 1000000000000 ∧ c + d ≤ 1000000000000 ∧ 1 ≤ s.length ∧ s.length ≤ 20 := by
  unfold lineR at h
  split at h
  · cases h
  split at h
  · rename_i g
    have := of_decide_eq_true g
    split at h
    · cases h
    omega
  cases h
theorem add_two {p q : Int} (hp : 0 ≤ p) (hq : 0 ≤ q) : sumS 0 [p, q] = if 1000000000000 < p + q then (0, 8) else (p + q, 0) := by
  rw [sumS_nonneg (by omega) (by omega) (fun x hx => by simp at hx; rcases hx with rfl | rfl <;> assumption)]
  simp [sumI]
def sumLS : Int → Int → Int → List LnT → Int × Int × Int × Int
  | a, b, c, [] => (a, b, c, 0)
  | a, b, c, x :: l => if LR x = 0 then (if 1000000000000 < a + x.f1 ∨ 1000000000000 < b + x.f2 ∨ 1000000000000 < c + x.f3 then (0, 0, 0, 8) else sumLS (a + x.f1) (b + x.f2) (c + x.f3) l) else (0, 0, 0, LR x)
theorem sum_l0 {l : List LnT} (hf : fewP l) (d : Nat) : ∀ (i : Nat) (a b c : Int), l.length - i = d → i ≤ l.length → 0 ≤ a → a ≤ 1000000000000 → 0 ≤ b → b ≤ 1000000000000 → 0 ≤ c → c ≤ 1000000000000 → Ev (fun k => line_Sum.l0 k a b c l (l.length : Int) (i : Int)) (sumLS a b c (l.drop i)) := by
  have hl := hf.1
  induction d with
  | zero =>
    intro i a b c hd hi ha ha2 hb hb2 hc hc2
    refine Ev.step (fun k => by simp only [line_Sum.l0]; rfl) (Ev.neg (by omega) (Ev.ok ?_))
    rw [List.drop_eq_nil_of_le (by omega)]; rfl
  | succ d ih =>
    intro i a b c hd hi ha ha2 hb hb2 hc hc2
    have h : i < l.length := by omega
    have hx := fewX_of hf (List.getElem_mem h)
    refine Ev.step (fun k => by simp only [line_Sum.l0]; rfl) (Ev.pos (by omega) (Ev.pos (by omega) (Ev.pos (by omega) ?_)))
    rw [rdL h, drop_cons h, wrap_eq (x := (i : Int) + 1) (by omega) (by omega)]
    unfold sumLS
    refine Ev.bind (line_check_f hx.1 hx.2) (Q.Ev.ite (fun e => ?_) (fun e => Ev.ok (by unfold LR; rw [if_neg e])))
    have ho := lineR_ok e
    rw [if_pos (show LR l[i] = 0 from e)]
    refine Ev.bind (cents_Add_f (by simp)) (Ev.bind (cents_Add_f (by simp)) (Ev.bind (cents_Add_f (by simp)) ?_))
    rw [add_two (by omega) (by omega), add_two (by omega) (by omega), add_two (by omega) (by omega)]
    by_cases c1 : 1000000000000 < a + l[i].f1
    · rw [if_pos (show 1000000000000 < a + l[i].f1 ∨ 1000000000000 < b + l[i].f2 ∨ 1000000000000 < c + l[i].f3 from .inl c1)]; simp only [if_pos c1]; exact Ev.neg (by decide) (Ev.const rfl)
    simp only [if_neg c1]
    refine Ev.pos (by first | rfl | trivial) ?_
    by_cases c2 : 1000000000000 < b + l[i].f2
    · rw [if_pos (show 1000000000000 < a + l[i].f1 ∨ 1000000000000 < b + l[i].f2 ∨ 1000000000000 < c + l[i].f3 from .inr (.inl c2))]; simp only [if_pos c2]; exact Ev.neg (by decide) (Ev.const rfl)
    simp only [if_neg c2]
    refine Ev.pos (by first | rfl | trivial) ?_
    by_cases c3 : 1000000000000 < c + l[i].f3
    · rw [if_pos (show 1000000000000 < a + l[i].f1 ∨ 1000000000000 < b + l[i].f2 ∨ 1000000000000 < c + l[i].f3 from .inr (.inr c3))]; simp only [if_pos c3]; exact Ev.neg (by decide) (Ev.const rfl)
    simp only [if_neg c3]
    rw [if_neg (show ¬ (1000000000000 < a + l[i].f1 ∨ 1000000000000 < b + l[i].f2 ∨ 1000000000000 < c + l[i].f3) by omega)]
    exact Ev.pos (by first | rfl | trivial) (ih (i + 1) _ _ _ (by omega) (by omega) (by omega) (by omega) (by omega) (by omega) (by omega) (by omega))
theorem sum_f {l : List LnT} (hf : fewP l) : Ev (fun k => line_Sum.f k l) (sumLS 0 0 0 l) := by
  unfold line_Sum.f
  exact sum_l0 hf l.length 0 0 0 0 (by omega) (by omega) (by omega) (by omega) (by omega) (by omega) (by omega) (by omega)
theorem rdA {A B : List LnT} {x : LnT} {i : Nat} (h : A.length = i) : rd_T71 (A ++ x :: B) (i : Int) = x := by
  subst h
  rw [rdL (by simp)]; simp
theorem setA {A B : List LnT} {x v : LnT} {i : Nat} (h : A.length = i) : (A ++ x :: B).set ((i : Int)).toNat v = A ++ v :: B := by
  subst h; simp
theorem rdI {A B : List Int} {x : Int} {i : Nat} (h : A.length = i) : rd (A ++ x :: B) (i : Int) = x := by
  subst h
  rw [rd_nat (by simp)]; simp
theorem setI {A B : List Int} {x v : Int} {i : Nat} (h : A.length = i) : (A ++ x :: B).set ((i : Int)).toNat v = A ++ v :: B := by
  subst h; simp
def zeroX (x : LnT) : LnT := ⟨x.f0, x.f1, 0, 0, x.f4⟩
def lessX (x : LnT) (q : Int) : LnT := ⟨x.f0, x.f1, x.f1 - q, x.f3, x.f4⟩
def taxX (x : LnT) (m : Int) : LnT := ⟨x.f0, x.f1, x.f2, m, x.f4⟩
def bareE : List LnT → Int
  | [] => 0
  | x :: l => if LR (zeroX x) = 0 then bareE l else LR (zeroX x)
def taxE : List LnT → List Int → Int
  | x :: l, m :: r => if LR (taxX x m) = 0 then taxE l r else LR (taxX x m)
  | _, _ => 0
def grossL (l : List LnT) : List Int := l.map fun x => x.f1
def netL (l : List LnT) : List Int := l.map fun x => x.f2
theorem bare_l0 {n : Int} (hn : n ≤ 20) : ∀ (B A : List LnT), ((A ++ B).length : Int) = n → (∀ x ∈ B, fewX x.f4) → Ev (fun k => line_bare.l0 k (A ++ B) n (A.length : Int)) (if bareE B = 0 then (A ++ B.map zeroX, 0) else ([], bareE B))
  | [], A, h, _ => by
    simp only [List.length_append, List.length_nil] at h
    refine Ev.step (fun k => by simp only [line_bare.l0]; rfl) (Ev.neg (by omega) (Ev.ok ?_))
    simp [bareE]
  | x :: B, A, h, hx => by
    have h2 := h
    simp only [List.length_append, List.length_cons] at h
    have hxx := hx x List.mem_cons_self
    refine Ev.step (fun k => by simp only [line_bare.l0]; rfl) (Ev.pos (by omega) (Ev.pos (by omega) (Ev.pos (by simp only [List.length_append, List.length_cons]; omega) ?_)))
    simp only [rdA rfl, setA rfl]
    refine Q.Ev.bindc rfl ?_
    simp only [rdA rfl, setA rfl]
    refine Q.Ev.bindc rfl ?_
    simp only [rdA rfl, setA rfl]
    rw [wrap_eq (by omega) (by omega)]
    refine Ev.bind (line_check_f hxx.1 hxx.2) ?_
    have e : lineR x.f0 x.f1 0 0 x.f4 = LR (zeroX x) := rfl
    rw [e]
    refine Q.Ev.ite (fun g => ?_) (fun g => Ev.ok (by have e2 : bareE (x :: B) = LR (zeroX x) := by simp only [bareE, if_neg g]
                                                      simp only [e2]; rw [if_neg g]))
    have e2 : bareE (x :: B) = bareE B := by simp only [bareE, if_pos g]
    simp only [e2]
    have := bare_l0 hn B (A ++ [zeroX x]) (by simp only [List.length_append, List.length_cons, List.length_nil] at h2 ⊢; omega) (fun y hy => hx y (List.mem_cons_of_mem _ hy))
    simp only [List.length_append, List.length_cons, List.length_nil, List.append_assoc, List.singleton_append, List.map_cons] at this ⊢
    exact this
theorem clone_f {l : List LnT} (h : l.length ≤ 20) : api_Line.f l = some l := by
  unfold api_Line.f
  rw [if_pos (by omega)]
def bareS (l : List LnT) : List LnT × Int := if l.length < 1 ∨ 8 < l.length then ([], 2) else if bareE l = 0 then (l.map zeroX, 0) else ([], bareE l)
theorem bare_f {l : List LnT} (hf : fewP l) : Ev (fun k => line_bare.f k l) (bareS l) := by
  have hl := hf.1
  unfold line_bare.f bareS
  have j0 : ∀ t : Bool, (t = true ↔ (l.length < 1 ∨ 8 < l.length)) → Ev (fun k => line_bare.j0 k l t) (if l.length < 1 ∨ 8 < l.length then ([], 2) else if bareE l = 0 then (l.map zeroX, 0) else ([], bareE l)) := by
    intro t ht
    refine Ev.step (fun k => by simp only [line_bare.j0]; rfl) (Q.Ev.ite (fun g => Ev.ok (by rw [if_pos (ht.1 g)])) (fun g => ?_))
    rw [if_neg (fun q => g (ht.2 q))]
    refine Q.Ev.bindc (clone_f hl) ?_
    have := bare_l0 (n := (l.length : Int)) (by omega) l [] (by simp) (fun x hx => hf.2 x hx)
    simpa using this
  exact Q.Ev.ite (fun g => j0 true ⟨fun _ => by omega, fun _ => rfl⟩) (fun g => j0 _ ⟨fun q => by have := of_decide_eq_true q; omega, fun q => decide_eq_true (by omega)⟩)
theorem bareE_good : ∀ {l : List LnT}, bareE l = 0 → ∀ x ∈ l, LR (zeroX x) = 0
  | [], _, x, hx => by cases hx
  | y :: l, h, x, hx => by
    simp only [bareE] at h
    by_cases g : LR (zeroX y) = 0
    · rw [if_pos g] at h
      rcases List.mem_cons.1 hx with rfl | hx
      · exact g
      exact bareE_good h x hx
    rw [if_neg g] at h; exact absurd h g
theorem lineR_amounts {a b c d c' d' : Int} {s : List ByteArray} (h : lineR a b c' d' s = 0) : lineR a b c d s = if mayB b c d = true then 0 else 8 := by
  have ho := lineR_ok h
  unfold lineR at h ⊢
  rw [if_neg (by omega)] at h ⊢
  by_cases g : mayB b c' d' = true
  · rw [if_pos g, if_neg (by omega)] at h
    by_cases g2 : mayB b c d = true
    · rw [if_pos g2, if_pos g2, if_neg (by omega)]
      exact h
    rw [if_neg g2, if_neg g2]
  rw [if_neg g] at h; cases h
theorem gross_l0 {n : Int} (hn : n ≤ 20) : ∀ (B A : List LnT), ((A ++ B).length : Int) = n → Ev (fun k => line_each_line_gross.l0 k (grossL A ++ List.replicate B.length 0) (A ++ B) n (A.length : Int)) (grossL (A ++ B))
  | [], A, h => by
    simp only [List.length_append, List.length_nil] at h
    refine Ev.step (fun k => by simp only [line_each_line_gross.l0]; rfl) (Ev.neg (by omega) (Ev.ok ?_))
    simp
  | x :: B, A, h => by
    have h2 := h
    simp only [List.length_append, List.length_cons] at h
    refine Ev.step (fun k => by simp only [line_each_line_gross.l0]; rfl) (Ev.pos (by omega) (Ev.pos (by omega) (Ev.pos (by simp only [List.length_append, List.length_cons]; omega) ?_)))
    simp only [rdA rfl]
    refine Q.Ev.bindc (show line_gross.f x.f0 x.f1 x.f2 x.f3 x.f4 = some x.f1 from rfl) (Ev.pos (by simp [grossL]; omega) ?_)
    rw [List.length_cons, List.replicate_succ, setI (show (grossL A).length = A.length by simp [grossL]), wrap_eq (by omega) (by omega)]
    have := gross_l0 hn B (A ++ [x]) (by simp only [List.length_append, List.length_cons, List.length_nil] at h2 ⊢; omega)
    simp only [List.length_append, List.length_cons, List.length_nil, List.append_assoc, List.singleton_append, grossL, List.map_append, List.map_cons, List.map_nil] at this ⊢
    exact this
theorem net_l0 {n : Int} (hn : n ≤ 20) : ∀ (B A : List LnT), ((A ++ B).length : Int) = n → Ev (fun k => line_each_line_net.l0 k (netL A ++ List.replicate B.length 0) (A ++ B) n (A.length : Int)) (netL (A ++ B))
  | [], A, h => by
    simp only [List.length_append, List.length_nil] at h
    refine Ev.step (fun k => by simp only [line_each_line_net.l0]; rfl) (Ev.neg (by omega) (Ev.ok ?_))
    simp
  | x :: B, A, h => by
    have h2 := h
    simp only [List.length_append, List.length_cons] at h
    refine Ev.step (fun k => by simp only [line_each_line_net.l0]; rfl) (Ev.pos (by omega) (Ev.pos (by omega) (Ev.pos (by simp only [List.length_append, List.length_cons]; omega) ?_)))
    simp only [rdA rfl]
    refine Q.Ev.bindc (show line_net.f x.f0 x.f1 x.f2 x.f3 x.f4 = some x.f2 from rfl) (Ev.pos (by simp [netL]; omega) ?_)
    rw [List.length_cons, List.replicate_succ, setI (show (netL A).length = A.length by simp [netL]), wrap_eq (by omega) (by omega)]
    have := net_l0 hn B (A ++ [x]) (by simp only [List.length_append, List.length_cons, List.length_nil] at h2 ⊢; omega)
    simp only [List.length_append, List.length_cons, List.length_nil, List.append_assoc, List.singleton_append, netL, List.map_append, List.map_cons, List.map_nil] at this ⊢
    exact this
theorem gross_f {l : List LnT} (h : l.length ≤ 20) : Ev (fun k => line_each_line_gross.f k l) (grossL l) := by
  unfold line_each_line_gross.f
  refine Ev.pos (by omega) (Ev.pos (by rw [Int.toNat_natCast]; omega) ?_)
  rw [Int.toNat_natCast]
  have := gross_l0 (n := (l.length : Int)) (by omega) l [] (by simp)
  simpa [grossL] using this
theorem net_f {l : List LnT} (h : l.length ≤ 20) : Ev (fun k => line_each_line_net.f k l) (netL l) := by
  unfold line_each_line_net.f
  refine Ev.pos (by omega) (Ev.pos (by rw [Int.toNat_natCast]; omega) ?_)
  rw [Int.toNat_natCast]
  have := net_l0 (n := (l.length : Int)) (by omega) l [] (by simp)
  simpa [netL] using this
theorem rest_last {t s : Int} {l : List Int} (hs : sumI l = s) (h0 : 0 < s) {i : Nat} (hr : rst t s (wt l i) = 0) : leftI t s l ≤ (rank (fun j => rst t s (wt l j)) l.length i : Int) := by
  obtain ⟨_, h1, _⟩ := left_bound (t := t) hs h0
  have hc : l.countP (fun w => decide (0 < rst t s w)) = (List.range l.length).countP (fun j => decide (0 < rst t s (wt l j))) := by
    have := congrArg (List.countP (fun w => decide (0 < rst t s w))) (range_map l 0)
    rw [List.countP_map] at this
    exact this.symm
  have hle : (List.range l.length).countP (fun j => decide (0 < rst t s (wt l j))) ≤ rank (fun j => rst t s (wt l j)) l.length i := by
    refine List.countP_mono_left fun j hj h => ?_
    rw [bef_iff]
    have h : 0 < rst t s (wt l j) := by simpa using h
    left
    show rst t s (wt l j) > rst t s (wt l i)
    omega
  omega
theorem out_le {t s : Int} {l : List Int} (hs : sumI l = s) (h0 : 0 < s) (ht : 0 ≤ t) (hts : t ≤ s) (hn : ∀ x ∈ l, 0 ≤ x) {i : Nat} (hi : i < l.length) : 0 ≤ outAt t s l i ∧ outAt t s l i ≤ wt l i := by
  have hw : wt l i = l[i] := by unfold wt; simp [List.getD_eq_getElem?_getD, hi]
  have hx := hn _ (List.getElem_mem hi)
  rw [← hw] at hx
  have h1 : t * wt l i ≤ s * wt l i := Int.mul_le_mul_of_nonneg_right hts hx
  have h2 := Int.emod_add_mul_ediv (t * wt l i) s
  have h3 : 0 ≤ prt t s (wt l i) := Int.ediv_nonneg (Int.mul_nonneg ht hx) (by omega)
  have h4 : prt t s (wt l i) ≤ wt l i := Int.ediv_le_of_le_mul h0 (by rw [Int.mul_comm (wt l i)]; exact h1)
  unfold outAt
  by_cases c : (rank (fun j => rst t s (wt l j)) l.length i : Int) < leftI t s l
  · rw [if_pos c]
    have hr : rst t s (wt l i) ≠ 0 := fun e => by have := rest_last hs h0 e; omega
    have hr0 : 0 ≤ rst t s (wt l i) := Int.emod_nonneg _ (by omega)
    have : prt t s (wt l i) ≠ wt l i := fun e => by
      unfold prt at e
      unfold rst at hr hr0
      rw [e] at h2
      omega
    omega
  rw [if_neg c]; omega
theorem out_of_nothing {s : Int} {l : List Int} {i : Nat} : outAt 0 s l i = 0 := by
  unfold outAt
  rw [left_zero, if_neg (by omega)]
  unfold prt; simp
theorem sumI_gross_nonneg {l : List LnT} (h : ∀ x ∈ l, 0 ≤ x.f1) : ∀ y ∈ grossL l, 0 ≤ y := fun y hy => by
  obtain ⟨x, hx, rfl⟩ := List.mem_map.1 hy
  exact h x hx
def netsOf (l : List LnT) (d : Int) : List LnT := List.zipWith lessX (l.map zeroX) (outS d (grossL l)).1
def finOf (l : List LnT) (d t : Int) : List LnT := List.zipWith taxX (netsOf l d) (outS t (netL (netsOf l d))).1
def dealS (l : List LnT) (d t : Int) : List LnT × Int :=
  if (bareS l).2 = 0 then (if 1000000000000 < sumI (grossL l) then ([], 8) else if d < 0 ∨ 1000000000000 < d ∨ t < 0 ∨ 1000000000000 < t then ([], 8) else if sumI (grossL l) < d then ([], 34) else if linesB (finOf l d t) = true then (finOf l d t, 0) else ([], 8)) else ([], (bareS l).2)
theorem bareS_ok {l : List LnT} (h : (bareS l).2 = 0) : 1 ≤ l.length ∧ l.length ≤ 8 ∧ bareE l = 0 ∧ bareS l = (l.map zeroX, 0) := by
  unfold bareS at h ⊢
  by_cases c : l.length < 1 ∨ 8 < l.length
  · rw [if_pos c] at h; cases h
  rw [if_neg c] at h ⊢
  by_cases e : bareE l = 0
  · rw [if_pos e]; exact ⟨by omega, by omega, e, rfl⟩
  rw [if_neg e] at h; exact absurd h e
theorem gross_zero (l : List LnT) : grossL (l.map zeroX) = grossL l := by
  unfold grossL; rw [List.map_map]; rfl
structure Deals (l : List LnT) (d t : Int) : Prop where
  few : l.length ≤ 8
  some : 1 ≤ l.length
  good : ∀ x ∈ l, LR (zeroX x) = 0
  pos : ∀ x ∈ l, 0 ≤ x.f1 ∧ x.f1 ≤ 1000000000000
  sum : sumI (grossL l) ≤ 1000000000000
  d0 : 0 ≤ d
  d1 : d ≤ sumI (grossL l)
  t0 : 0 ≤ t
  t1 : t ≤ 1000000000000
theorem deals_of {l : List LnT} {d t : Int} (h : (bareS l).2 = 0) (h1 : ¬ 1000000000000 < sumI (grossL l)) (h2 : ¬ (d < 0 ∨ 1000000000000 < d ∨ t < 0 ∨ 1000000000000 < t)) (h3 : ¬ sumI (grossL l) < d) : Deals l d t := by
  obtain ⟨a, b, c, _⟩ := bareS_ok h
  have hg := bareE_good c
  exact ⟨b, a, hg, fun x hx => by have := lineR_ok (hg x hx); exact ⟨this.2.2.1, this.2.2.2.1⟩, by omega, by omega, by omega, by omega, by omega⟩
section
variable {l : List LnT} {d t : Int} (D : Deals l d t)
theorem wholeG {g : List Int} (h1 : 1 ≤ g.length) (h2 : g.length ≤ 200) (hp : ∀ x ∈ g, 0 ≤ x) (hs : sumI g ≤ 1000000000000) : (wholeS g).2 = 0 ∧ (sumI g ≠ 0 → (wholeS g).1 = sumI g) := by
  unfold wholeS
  rw [if_neg (by omega), if_neg (by rw [negs_false.2 hp]; decide), if_neg (by omega)]
  by_cases c : sumI g = 0
  · rw [if_pos c]; exact ⟨rfl, fun h => absurd c h⟩
  rw [if_neg c]; exact ⟨rfl, fun _ => rfl⟩
theorem gross_len (l : List LnT) : (grossL l).length = l.length := by unfold grossL; simp
theorem net_len (l : List LnT) : (netL l).length = l.length := by unfold netL; simp
theorem outS_at {t : Int} {g : List Int} (hw : (wholeS g).2 = 0) (ht : 0 ≤ t) (ht2 : t ≤ 1000000000000) : outS t g = (outL t (wholeS g).1 (eff g), 0) := by
  unfold outS; rw [if_pos hw, if_neg (by omega)]
include D
theorem Deals.whole : (wholeS (grossL l)).2 = 0 := (wholeG (by rw [gross_len]; exact D.some) (by rw [gross_len]; have := D.few; omega) (sumI_gross_nonneg fun x hx => (D.pos x hx).1) D.sum).1
theorem Deals.less : outS d (grossL l) = (outL d (wholeS (grossL l)).1 (eff (grossL l)), 0) := outS_at D.whole D.d0 (by have := D.d1; have := D.sum; omega)
theorem Deals.less_len : (outS d (grossL l)).1.length = l.length := by rw [D.less]; unfold outL; simp [eff_len, gross_len]
theorem Deals.less_at {i : Nat} (hi : i < l.length) : 0 ≤ (outS d (grossL l)).1.getD i 0 ∧ (outS d (grossL l)).1.getD i 0 ≤ l[i].f1 := by
  have hp := sumI_gross_nonneg fun x hx => (D.pos x hx).1
  have hx := D.pos _ (List.getElem_mem hi)
  have e : (outS d (grossL l)).1.getD i 0 = outAt d (wholeS (grossL l)).1 (eff (grossL l)) i := by
    rw [D.less]
    unfold outL
    simp [List.getD_eq_getElem?_getD, eff_len, gross_len, hi]
  rw [e]
  by_cases c : sumI (grossL l) = 0
  · have d0 : d = 0 := by have := D.d0; have := D.d1; omega
    rw [d0, out_of_nothing]; omega
  have hs : sumI (eff (grossL l)) = (wholeS (grossL l)).1 := (whole_ok D.whole).2.2.2.2.2.2.1
  have he : eff (grossL l) = grossL l := by unfold eff; rw [if_neg c]
  have hw := (wholeG (by rw [gross_len]; exact D.some) (by rw [gross_len]; have := D.few; omega) hp D.sum).2 c
  have h0 := sumI_nonneg hp
  have := out_le (t := d) (s := (wholeS (grossL l)).1) (l := grossL l) hw.symm (by rw [hw]; omega) D.d0 (by rw [hw]; exact D.d1) hp (i := i) (by rw [gross_len]; exact hi)
  rw [he]
  have e2 : wt (grossL l) i = l[i].f1 := by unfold wt grossL; simp [List.getD_eq_getElem?_getD, hi]
  rw [e2] at this
  exact this
theorem Deals.nets_len : (netsOf l d).length = l.length := by unfold netsOf; rw [List.length_zipWith, List.length_map, D.less_len]; omega
theorem Deals.nets_at {i : Nat} (hi : i < l.length) : (netsOf l d)[i]'(by rw [D.nets_len]; exact hi) = ⟨l[i].f0, l[i].f1, l[i].f1 - (outS d (grossL l)).1.getD i 0, 0, l[i].f4⟩ := by
  unfold netsOf
  rw [List.getElem_zipWith]
  have h2 : i < (outS d (grossL l)).1.length := by rw [D.less_len]; exact hi
  simp [lessX, zeroX, List.getD_eq_getElem?_getD, h2]
theorem Deals.net_pos : ∀ y ∈ netL (netsOf l d), 0 ≤ y ∧ y ≤ 1000000000000 := fun y hy => by
  obtain ⟨x, hx, rfl⟩ := List.mem_map.1 hy
  obtain ⟨i, hi, rfl⟩ := List.mem_iff_getElem.1 hx
  have hi2 : i < l.length := by rw [D.nets_len] at hi; exact hi
  rw [D.nets_at hi2]
  have h1 := D.less_at hi2
  have h2 := D.pos _ (List.getElem_mem hi2)
  dsimp only
  omega
omit D in
theorem sumI_range (n : Nat) (f : Nat → Int) (l : List Int) (h : l.length = n) (hf : ∀ i (hi : i < l.length), l[i] = f i) : sumI l = sumI ((List.range n).map f) := by
  congr 1
  apply List.ext_getElem
  · simp [h]
  intro i h1 h2
  rw [hf i h1]; simp
omit D in
theorem sumI_sub (n : Nat) (f g : Nat → Int) : sumI ((List.range n).map fun i => f i - g i) = sumI ((List.range n).map f) - sumI ((List.range n).map g) := by
  have := sumI_add (List.range n) (fun i => f i - g i) g
  have e : (List.range n).map (fun i => f i - g i + g i) = (List.range n).map f := List.map_congr_left fun i _ => by omega
  rw [e] at this
  omega
theorem Deals.less_sum : sumI (outS d (grossL l)).1 = d := by
  rw [D.less]
  exact out_sum (whole_ok D.whole).2.2.2.2.2.2.1 (by have := (whole_ok D.whole).2.2.2.2.1; omega)
theorem Deals.net_sum : sumI (netL (netsOf l d)) = sumI (grossL l) - d := by
  have e1 := sumI_range l.length (fun i => (grossL l).getD i 0 - (outS d (grossL l)).1.getD i 0) (netL (netsOf l d)) (by rw [net_len, D.nets_len]) (fun i hi => by
    have hi2 : i < l.length := by rw [net_len, D.nets_len] at hi; exact hi
    rw [show (netL (netsOf l d))[i] = ((netsOf l d)[i]'(by rw [D.nets_len]; exact hi2)).f2 from List.getElem_map _, D.nets_at hi2]
    simp [grossL, List.getD_eq_getElem?_getD, hi2])
  have e2 := sumI_range l.length (fun i => (grossL l).getD i 0) (grossL l) (gross_len l) (fun i hi => by simp [List.getD_eq_getElem?_getD, hi])
  have e3 := sumI_range l.length (fun i => (outS d (grossL l)).1.getD i 0) (outS d (grossL l)).1 D.less_len (fun i hi => by simp [List.getD_eq_getElem?_getD, hi])
  rw [e1, sumI_sub, ← e2, ← e3, D.less_sum]
theorem Deals.whole2 : (wholeS (netL (netsOf l d))).2 = 0 := (wholeG (by rw [net_len, D.nets_len]; exact D.some) (by rw [net_len, D.nets_len]; have := D.few; omega) (fun y hy => (D.net_pos y hy).1) (by rw [D.net_sum]; have := D.sum; have := D.d0; omega)).1
theorem Deals.more : outS t (netL (netsOf l d)) = (outL t (wholeS (netL (netsOf l d))).1 (eff (netL (netsOf l d))), 0) := outS_at D.whole2 D.t0 D.t1
theorem Deals.more_len : (outS t (netL (netsOf l d))).1.length = l.length := by rw [D.more]; unfold outL; simp [eff_len, net_len, D.nets_len]
theorem Deals.fin_len : (finOf l d t).length = l.length := by unfold finOf; rw [List.length_zipWith, D.nets_len, D.more_len]; omega
theorem Deals.fin_at {i : Nat} (hi : i < l.length) : (finOf l d t)[i]'(by rw [D.fin_len]; exact hi) = ⟨l[i].f0, l[i].f1, l[i].f1 - (outS d (grossL l)).1.getD i 0, (outS t (netL (netsOf l d))).1.getD i 0, l[i].f4⟩ := by
  have h2 : i < (outS t (netL (netsOf l d))).1.length := by rw [D.more_len]; exact hi
  have h3 : i < (netsOf l d).length := by rw [D.nets_len]; exact hi
  have e := D.nets_at hi
  unfold finOf
  rw [List.getElem_zipWith, e]
  simp [taxX, List.getD_eq_getElem?_getD, h2]
theorem Deals.more_sum : sumI (outS t (netL (netsOf l d))).1 = t := by
  rw [D.more]
  exact out_sum (whole_ok D.whole2).2.2.2.2.2.2.1 (by have := (whole_ok D.whole2).2.2.2.2.1; omega)
theorem Deals.fin_few (hf : fewP l) : fewP (finOf l d t) := by
  refine ⟨by rw [D.fin_len]; exact hf.1, fun x hx => ?_⟩
  obtain ⟨i, hi, rfl⟩ := List.mem_iff_getElem.1 hx
  have hi2 : i < l.length := by rw [D.fin_len] at hi; exact hi
  rw [D.fin_at hi2]
  exact hf.2 l[i] (List.getElem_mem hi2)
end
theorem taxE_lines : ∀ {B : List LnT} {M : List Int}, B.length = M.length → (∀ x ∈ B, ∃ c d, lineR x.f0 x.f1 c d x.f4 = 0) → taxE B M = if linesB (List.zipWith taxX B M) = true then 0 else 8
  | [], [], _, _ => by simp [taxE, linesB]
  | x :: B, m :: M, h, hg => by
    obtain ⟨c, d, hx⟩ := hg x List.mem_cons_self
    have ih := taxE_lines (B := B) (M := M) (by simpa using h) (fun y hy => hg y (List.mem_cons_of_mem _ hy))
    have e : LR (taxX x m) = if mayB x.f1 x.f2 m = true then 0 else 8 := lineR_amounts hx
    simp only [taxE, List.zipWith_cons_cons, linesB, List.all_cons]
    by_cases g : mayB x.f1 x.f2 m = true
    · rw [if_pos g] at e
      rw [if_pos e, ih]
      have e2 : decide (lineR (taxX x m).f0 (taxX x m).f1 (taxX x m).f2 (taxX x m).f3 (taxX x m).f4 = 0) = true := decide_eq_true e
      simp only [e2, Bool.true_and]
      rfl
    rw [if_neg g] at e
    rw [if_neg (by omega), e]
    have e2 : decide (lineR (taxX x m).f0 (taxX x m).f1 (taxX x m).f2 (taxX x m).f3 (taxX x m).f4 = 0) = false := decide_eq_false (by show ¬ LR (taxX x m) = 0; omega)
    simp only [e2, Bool.false_and]
    rfl
theorem deal_l1 {n : Int} (hn : n ≤ 20) : ∀ (B A : List LnT) (M Ml : List Int), ((A ++ B).length : Int) = n → Ml.length = A.length → M.length = B.length → (∀ x ∈ B, fewX x.f4) → Ev (fun k => line_Deal.l1 k (A ++ B) (Ml ++ M) n (A.length : Int)) (if taxE B M = 0 then (A ++ List.zipWith taxX B M, 0) else ([], taxE B M))
  | [], A, M, Ml, h, hl, hm, _ => by
    simp only [List.length_append, List.length_nil] at h
    refine Ev.step (fun k => by simp only [line_Deal.l1]; rfl) (Ev.neg (by omega) (Ev.ok ?_))
    simp [taxE]
  | x :: B, A, [], Ml, h, hl, hm, _ => by simp at hm
  | x :: B, A, m :: M, Ml, h, hl, hm, hx => by
    have h2 := h
    simp only [List.length_append, List.length_cons] at h
    have hxx := hx x List.mem_cons_self
    refine Ev.step (fun k => by simp only [line_Deal.l1]; rfl) (Ev.pos (by omega) (Ev.pos (by omega) (Ev.pos (by simp; omega) (Ev.pos (by simp only [List.length_append, List.length_cons]; omega) ?_))))
    simp only [rdA rfl, setA rfl, rdI hl]
    refine Q.Ev.bindc rfl ?_
    simp only [rdA rfl, setA rfl]
    rw [wrap_eq (by omega) (by omega)]
    refine Ev.bind (line_check_f hxx.1 hxx.2) ?_
    have e : lineR x.f0 x.f1 x.f2 m x.f4 = LR (taxX x m) := rfl
    rw [e]
    refine Q.Ev.ite (fun g => ?_) (fun g => Ev.ok (by have e2 : taxE (x :: B) (m :: M) = LR (taxX x m) := by simp only [taxE, if_neg g]
                                                      simp only [e2]; rw [if_neg g]))
    have e2 : taxE (x :: B) (m :: M) = taxE B M := by simp only [taxE, if_pos g]
    simp only [e2]
    have := deal_l1 hn B (A ++ [taxX x m]) M (Ml ++ [m]) (by simp only [List.length_append, List.length_cons, List.length_nil] at h2 ⊢; omega) (by simp [hl]) (by simpa using hm) (fun y hy => hx y (List.mem_cons_of_mem _ hy))
    simp only [List.length_append, List.length_cons, List.length_nil, List.append_assoc, List.singleton_append, List.zipWith_cons_cons] at this ⊢
    exact this
theorem deal_l0 {n t : Int} {R : List LnT × Int} {F : List LnT} (hn : n ≤ 20) (hR : Ev (fun k => (line_each_line_net.f k F).bind fun t122 => (share_Out.f k t t122).bind fun bt125 => if bt125.2 = 0 then line_Deal.l1 k F bt125.1 (F.length : Int) 0 else some (([] : List LnT), bt125.2)) R) : ∀ (B A : List LnT) (Q Ql : List Int), ((A ++ B).length : Int) = n → Ql.length = A.length → Q.length = B.length → (∀ x ∈ B, 0 ≤ x.f1 ∧ x.f1 ≤ 1000000000000) → (∀ q ∈ Q, 0 ≤ q ∧ q ≤ 1000000000000) → A ++ List.zipWith lessX B Q = F → Ev (fun k => line_Deal.l0 k t (A ++ B) (Ql ++ Q) n (A.length : Int)) R
  | [], A, Q, Ql, h, hl, hm, _, _, hF => by
    simp only [List.length_append, List.length_nil] at h
    refine Ev.step (fun k => by simp only [line_Deal.l0]; rfl) (Ev.neg (by omega) ?_)
    simp only [List.zipWith_nil_left, List.append_nil] at hF ⊢
    rw [hF]
    exact hR
  | x :: B, A, [], Ql, h, hl, hm, _, _, _ => by simp at hm
  | x :: B, A, q :: Q, Ql, h, hl, hm, hx, hq, hF => by
    have h2 := h
    simp only [List.length_append, List.length_cons] at h
    have hxx := hx x List.mem_cons_self
    have hqq := hq q List.mem_cons_self
    refine Ev.step (fun k => by simp only [line_Deal.l0]; rfl) (Ev.pos (by omega) (Ev.pos (by omega) (Ev.pos (by simp only [List.length_append, List.length_cons]; omega) (Ev.pos (by simp; omega) ?_))))
    simp only [rdA rfl, setA rfl, rdI hl]
    rw [wrap_eq (x := (A.length : Int) + 1) (by omega) (by omega), wrap_eq (x := x.f1 - q) (by omega) (by omega)]
    have := deal_l0 hn hR B (A ++ [lessX x q]) Q (Ql ++ [q]) (by simp only [List.length_append, List.length_cons, List.length_nil] at h2 ⊢; omega) (by simp [hl]) (by simpa using hm) (fun y hy => hx y (List.mem_cons_of_mem _ hy)) (fun y hy => hq y (List.mem_cons_of_mem _ hy)) (by rw [← hF]; simp)
    simp only [List.length_append, List.length_cons, List.length_nil, List.append_assoc, List.singleton_append] at this ⊢
    exact this
theorem Deals.less_all {l : List LnT} {d t : Int} (D : Deals l d t) : ∀ q ∈ (outS d (grossL l)).1, 0 ≤ q ∧ q ≤ 1000000000000 := fun q hq => by
  obtain ⟨i, hi, rfl⟩ := List.mem_iff_getElem.1 hq
  have hi2 : i < l.length := by rw [D.less_len] at hi; exact hi
  have h1 := D.less_at hi2
  have h2 := D.pos _ (List.getElem_mem hi2)
  have e : (outS d (grossL l)).1.getD i 0 = (outS d (grossL l)).1[i] := by simp [List.getD_eq_getElem?_getD, hi]
  rw [e] at h1
  omega
theorem Deals.fin_tax {l : List LnT} {d t : Int} (D : Deals l d t) : taxE (netsOf l d) (outS t (netL (netsOf l d))).1 = if linesB (finOf l d t) = true then 0 else 8 := by
  refine taxE_lines (by rw [D.nets_len, D.more_len]) (fun x hx => ?_)
  obtain ⟨i, hi, rfl⟩ := List.mem_iff_getElem.1 hx
  have hi2 : i < l.length := by rw [D.nets_len] at hi; exact hi
  rw [D.nets_at hi2]
  exact ⟨0, 0, D.good _ (List.getElem_mem hi2)⟩
theorem Deals.nets_few {l : List LnT} {d t : Int} (D : Deals l d t) (hf : fewP l) : ∀ x ∈ netsOf l d, fewX x.f4 := fun x hx => by
  obtain ⟨i, hi, rfl⟩ := List.mem_iff_getElem.1 hx
  have hi2 : i < l.length := by rw [D.nets_len] at hi; exact hi
  rw [D.nets_at hi2]
  exact hf.2 l[i] (List.getElem_mem hi2)
theorem Deals.goes {l : List LnT} {d t : Int} (D : Deals l d t) (hf : fewP l) : Ev (fun k => (line_each_line_gross.f k (l.map zeroX)).bind fun t112 => (share_Out.f k d t112).bind fun bt115 => if bt115.2 = 0 then line_Deal.l0 k t (l.map zeroX) bt115.1 ((l.map zeroX).length : Int) 0 else Option.some (([] : List LnT), bt115.2)) (if linesB (finOf l d t) = true then (finOf l d t, 0) else ([], 8)) := by
  have hl := hf.1
  refine Ev.bind (gross_f (by simpa using hl)) ?_
  rw [gross_zero]
  refine Ev.bind (out_f (by rw [gross_len]; omega)) (Ev.pos (by rw [D.less]) ?_)
  have hx : ∀ x ∈ l.map zeroX, 0 ≤ x.f1 ∧ x.f1 ≤ 1000000000000 := fun x hx => by
    obtain ⟨y, hy, rfl⟩ := List.mem_map.1 hx
    exact D.pos y hy
  refine deal_l0 (n := ((l.map zeroX).length : Int)) (F := netsOf l d) (by simp; omega) ?_ (l.map zeroX) [] (outS d (grossL l)).1 [] (by simp) rfl (by rw [D.less_len]; simp) hx D.less_all (by simp [netsOf])
  refine Ev.bind (net_f (by rw [D.nets_len]; exact hl)) (Ev.bind (out_f (by rw [net_len, D.nets_len]; omega)) (Ev.pos (by rw [D.more]) ?_))
  have := deal_l1 (n := ((netsOf l d).length : Int)) (by rw [D.nets_len]; omega) (netsOf l d) [] (outS t (netL (netsOf l d))).1 [] (by simp) rfl (by rw [D.more_len, D.nets_len]) (D.nets_few hf)
  simp only [List.nil_append, List.length_nil, Int.natCast_zero] at this
  refine Ev.eq this ?_
  rw [D.fin_tax]
  by_cases g : linesB (finOf l d t) = true
  · rw [if_pos g, if_pos rfl, if_pos g]; rfl
  rw [if_neg g, if_neg (by decide), if_neg g]
theorem line_deal_f {l : List LnT} (hf : fewP l) (d t : Int) : Ev (fun k => line_Deal.f k l d t) (dealS l d t) := by
  have hl := hf.1
  unfold line_Deal.f dealS
  refine Ev.bind (bare_f hf) (Q.Ev.ite (fun e => ?_) (fun e => Ev.ok (by rw [if_neg e])))
  obtain ⟨h1, h2, h3, h4⟩ := bareS_ok e
  rw [if_pos e, h4]
  have hg := bareE_good h3
  have hp : ∀ y ∈ grossL l, 0 ≤ y := sumI_gross_nonneg fun x hx => (lineR_ok (hg x hx)).2.2.1
  dsimp only
  refine Ev.bind (gross_f (by simpa using hl)) ?_
  rw [gross_zero]
  refine Ev.bind (cents_Add_f (by rw [gross_len]; omega)) ?_
  rw [sumS_nonneg (by omega) (by omega) hp, show (0 : Int) + sumI (grossL l) = sumI (grossL l) by omega]
  by_cases c1 : 1000000000000 < sumI (grossL l)
  · rw [if_pos c1, if_pos c1]; exact Ev.neg (by decide) (Ev.const rfl)
  rw [if_neg c1, if_neg c1]
  refine Ev.pos rfl ?_
  have j0 : ∀ b : Bool, (b = true ↔ (d < 0 ∨ 1000000000000 < d ∨ t < 0 ∨ 1000000000000 < t)) → Ev (fun k => line_Deal.j0 k d t (l.map zeroX) (sumI (grossL l)) b) (if d < 0 ∨ 1000000000000 < d ∨ t < 0 ∨ 1000000000000 < t then ([], 8) else if sumI (grossL l) < d then ([], 34) else if linesB (finOf l d t) = true then (finOf l d t, 0) else ([], 8)) := by
    intro b hb
    refine Ev.step (fun k => by simp only [line_Deal.j0]; rfl) (Q.Ev.ite (fun g => Ev.ok (by rw [if_pos (hb.1 g)])) (fun g => ?_))
    have hn : ¬ (d < 0 ∨ 1000000000000 < d ∨ t < 0 ∨ 1000000000000 < t) := fun q => g (hb.2 q)
    rw [if_neg hn]
    refine Q.Ev.ite (fun c2 => Ev.ok (by rw [if_pos (by omega)])) (fun c2 => ?_)
    rw [if_neg (by omega)]
    exact (deals_of e c1 hn (by omega)).goes hf
  refine Q.Ev.bindc (paid_f3 d) (Q.Ev.ite (fun g => ?_) (fun g => j0 true ?_))
  · rw [decide_eq_true_eq] at g
    refine Q.Ev.bindc (paid_f3 t) (j0 _ ?_)
    simp; omega
  rw [decide_eq_true_eq] at g
  simp; omega
end Go.Proofs.Ytefhljhpcpajgaa.Q
namespace Go.Proofs.Ytefhljhpcpajgaa.Q
open Go.RowKit Ytefhljhpcpajgaa.F YtefhljhpcpajgaaX YtefhljhpcpajgaaW.PrintWords YtefhljhpcpajgaaW.PrintLast YtefhljhpcpajgaaW.PrintMore
def taxL (l : List LnT) : List Int := l.map fun x => x.f3
theorem sumLS_ok : ∀ (L : List LnT) (a b c : Int), 0 ≤ a → 0 ≤ b → 0 ≤ c → (∀ x ∈ L, LR x = 0) → a + sumI (grossL L) ≤ 1000000000000 → b + sumI (netL L) ≤ 1000000000000 → c + sumI (taxL L) ≤ 1000000000000 →
    sumLS a b c L = (a + sumI (grossL L), b + sumI (netL L), c + sumI (taxL L), 0)
  | [], a, b, c, _, _, _, _, _, _, _ => by
    simp [sumLS, grossL, netL, taxL, sumI]
  | x :: L, a, b, c, ha, hb, hc, h, h1, h2, h3 => by
    have hx := lineR_ok (h x List.mem_cons_self)
    have hp : ∀ y ∈ L, 0 ≤ y.f1 ∧ 0 ≤ y.f2 ∧ 0 ≤ y.f3 := fun y hy => by
      have := lineR_ok (h y (List.mem_cons_of_mem _ hy))
      exact ⟨this.2.2.1, this.2.2.2.2.1, this.2.2.2.2.2.2.1⟩
    have n1 : 0 ≤ sumI (grossL L) := sumI_nonneg fun z hz => by
      obtain ⟨y, hy, rfl⟩ := List.mem_map.1 hz
      exact (hp y hy).1
    have n2 : 0 ≤ sumI (netL L) := sumI_nonneg fun z hz => by
      obtain ⟨y, hy, rfl⟩ := List.mem_map.1 hz
      exact (hp y hy).2.1
    have n3 : 0 ≤ sumI (taxL L) := sumI_nonneg fun z hz => by
      obtain ⟨y, hy, rfl⟩ := List.mem_map.1 hz
      exact (hp y hy).2.2
    have e1 : sumI (grossL (x :: L)) = x.f1 + sumI (grossL L) := rfl
    have e2 : sumI (netL (x :: L)) = x.f2 + sumI (netL L) := rfl
    have e3 : sumI (taxL (x :: L)) = x.f3 + sumI (taxL L) := rfl
    rw [e1] at h1 ⊢
    rw [e2] at h2 ⊢
    rw [e3] at h3 ⊢
    unfold sumLS
    rw [if_pos (h x List.mem_cons_self), if_neg (show ¬ (1000000000000 < a + x.f1 ∨ 1000000000000 < b + x.f2 ∨ 1000000000000 < c + x.f3) by omega),
      sumLS_ok L (a + x.f1) (b + x.f2) (c + x.f3) (by omega) (by omega) (by omega) (fun y hy => h y (List.mem_cons_of_mem _ hy)) (by omega) (by omega) (by omega)]
    rw [show a + x.f1 + sumI (grossL L) = a + (x.f1 + sumI (grossL L)) by omega, show b + x.f2 + sumI (netL L) = b + (x.f2 + sumI (netL L)) by omega, show c + x.f3 + sumI (taxL L) = c + (x.f3 + sumI (taxL L)) by omega]
section
variable {l : List LnT} {d t : Int} (D : Deals l d t)
include D
theorem gross_fin : grossL (finOf l d t) = grossL l := by
  refine List.ext_getElem (by simp [grossL, D.fin_len]) (fun i h1 h2 => ?_)
  have hi : i < l.length := by simpa [grossL] using h2
  rw [show (grossL (finOf l d t))[i] = ((finOf l d t)[i]'(by rw [D.fin_len]; exact hi)).f1 from List.getElem_map _, D.fin_at hi]
  simp [grossL]
theorem net_fin : netL (finOf l d t) = netL (netsOf l d) := by
  refine List.ext_getElem (by simp [netL, D.fin_len, D.nets_len]) (fun i h1 h2 => ?_)
  have hi : i < l.length := by simpa [netL, D.nets_len] using h2
  rw [show (netL (finOf l d t))[i] = ((finOf l d t)[i]'(by rw [D.fin_len]; exact hi)).f2 from List.getElem_map _, D.fin_at hi,
    show (netL (netsOf l d))[i] = ((netsOf l d)[i]'(by rw [D.nets_len]; exact hi)).f2 from List.getElem_map _, D.nets_at hi]
theorem tax_fin : taxL (finOf l d t) = (outS t (netL (netsOf l d))).1 := by
  refine List.ext_getElem (by simp [taxL, D.fin_len, D.more_len]) (fun i h1 h2 => ?_)
  have hi : i < l.length := by simpa [D.more_len] using h2
  rw [show (taxL (finOf l d t))[i] = ((finOf l d t)[i]'(by rw [D.fin_len]; exact hi)).f3 from List.getElem_map _, D.fin_at hi]
  simp [List.getD_eq_getElem?_getD, h2]
theorem sums_fin (g : linesB (finOf l d t) = true) : sumLS 0 0 0 (finOf l d t) = (sumI (grossL l), sumI (grossL l) - d, t, 0) := by
  have s1 := D.sum
  have s2 := D.net_sum
  have s3 := D.more_sum
  have d0 := D.d0
  have t1 := D.t1
  rw [sumLS_ok (finOf l d t) 0 0 0 (by omega) (by omega) (by omega) (fun x hx => of_decide_eq_true (List.all_eq_true.1 g x hx)) (by rw [gross_fin D]; omega) (by rw [net_fin D]; omega) (by rw [tax_fin D]; omega), gross_fin D, net_fin D, tax_fin D, s2, s3]
  simp
end
theorem dealS_cases (l : List LnT) (d t : Int) : (Deals l d t ∧ linesB (finOf l d t) = true ∧ dealS l d t = (finOf l d t, 0)) ∨ ((dealS l d t).2 ≠ 0 ∧ (dealS l d t).1 = []) := by
  unfold dealS
  by_cases e : (bareS l).2 = 0
  · rw [if_pos e]
    by_cases c1 : 1000000000000 < sumI (grossL l)
    · rw [if_pos c1]; exact .inr ⟨by decide, rfl⟩
    rw [if_neg c1]
    by_cases c2 : d < 0 ∨ 1000000000000 < d ∨ t < 0 ∨ 1000000000000 < t
    · rw [if_pos c2]; exact .inr ⟨by decide, rfl⟩
    rw [if_neg c2]
    by_cases c3 : sumI (grossL l) < d
    · rw [if_pos c3]; exact .inr ⟨by decide, rfl⟩
    rw [if_neg c3]
    by_cases c4 : linesB (finOf l d t) = true
    · rw [if_pos c4]; exact .inl ⟨deals_of e c1 c2 c3, c4, rfl⟩
    rw [if_neg c4]; exact .inr ⟨by decide, rfl⟩
  rw [if_neg e]; exact .inr ⟨e, rfl⟩
theorem take_sum' {l : List Int} {i : Nat} (h : i < l.length) : sumI (l.take (i + 1)) = sumI (l.take i) + l[i] := by
  rw [List.take_succ_eq_append_getElem h, sumI_append]
  simp [sumI]
theorem take_le' {l : List Int} (h : ∀ x ∈ l, 0 ≤ x) (i : Nat) : 0 ≤ sumI (l.take i) ∧ sumI (l.take i) ≤ sumI l := by
  have e : sumI l = sumI (l.take i) + sumI (l.drop i) := by rw [← sumI_append, List.take_append_drop]
  have := sumI_nonneg (l := l.take i) (fun x hx => h x (List.mem_of_mem_take hx))
  have := sumI_nonneg (l := l.drop i) (fun x hx => h x (List.mem_of_mem_drop hx))
  omega
theorem totL_ok : ∀ (L : List LnT) (n : Int), (∀ x ∈ L, 0 ≤ x.f2 ∧ 0 ≤ x.f3) → n + sumI (netL L) + sumI (taxL L) ≤ 1000000000000 → totL n L = some (n + sumI (netL L) + sumI (taxL L))
  | [], n, _, _ => by simp [totL, netL, taxL, sumI]
  | x :: L, n, h, h1 => by
    have h0 := h x List.mem_cons_self
    have n2 : 0 ≤ sumI (netL L) := sumI_nonneg fun z hz => by
      obtain ⟨y, hy, rfl⟩ := List.mem_map.1 hz
      exact (h y (List.mem_cons_of_mem _ hy)).1
    have n3 : 0 ≤ sumI (taxL L) := sumI_nonneg fun z hz => by
      obtain ⟨y, hy, rfl⟩ := List.mem_map.1 hz
      exact (h y (List.mem_cons_of_mem _ hy)).2
    have e2 : sumI (netL (x :: L)) = x.f2 + sumI (netL L) := rfl
    have e3 : sumI (taxL (x :: L)) = x.f3 + sumI (taxL L) := rfl
    rw [e2, e3] at h1 ⊢
    unfold totL
    rw [if_neg (show ¬ n + x.f2 + x.f3 > 1000000000000 by omega), totL_ok L (n + x.f2 + x.f3) (fun y hy => h y (List.mem_cons_of_mem _ hy)) (by omega)]
    rw [show n + x.f2 + x.f3 + sumI (netL L) + sumI (taxL L) = n + (x.f2 + sumI (netL L)) + (x.f3 + sumI (taxL L)) by omega]
theorem time_o (b : Int) : policy_Time.f b = some (decide (0 ≤ b ∧ b ≤ 1000000)) := by
  unfold policy_Time.f policy_span_has.f
  by_cases h : 0 ≤ b
  · rw [if_pos (by omega)]; simp [h]
  rw [if_neg (by omega)]; simp [h]
end Go.Proofs.Ytefhljhpcpajgaa.Q
namespace Go.Proofs.Ytefhljhpcpajgaa.Pure
open Go.RowKit Ytefhljhpcpajgaa.F YtefhljhpcpajgaaX Ytefhljhpcpajgaa.Q YtefhljhpcpajgaaW.PrintWords YtefhljhpcpajgaaW.PrintLast
theorem gross_nonneg {l : List LnT} {d t : Int} (D : Deals l d t) : ∀ y ∈ grossL l, 0 ≤ y := sumI_gross_nonneg fun x hx => (D.pos x hx).1
theorem cost_fin {l : List LnT} {d t : Int} (D : Deals l d t) (g : linesB (finOf l d t) = true) (hf : fewP l) : Ev (fun k => order_cost.f k (finOf l d t)) (if 1000000000000 < sumI (grossL l) - d + t then (0, 8) else (sumI (grossL l) - d + t, 0)) := by
  have d1 := D.d1
  have t0 := D.t0
  have hs := sum_f (D.fin_few hf)
  rw [sums_fin D g] at hs
  unfold order_cost.f
  refine Ev.bind hs (Q.Ev.pos rfl (Ev.bind (cents_Add_f (by simp)) (Ev.ok ?_)))
  dsimp only
  rw [add_two (p := sumI (grossL l) - d) (q := t) (by omega) (by omega)]
def made (l : List LnT) (a b d t : Int) (r : Int × Int × List LnT × Int) : Prop :=
  (r.2.2.2 ≠ 0 ∧ r.2.2.1 = [] ∧ r.1 = 0) ∨ (r = (a, b, finOf l d t, 0) ∧ (1 ≤ a ∧ a ≤ 999999 ∧ 0 ≤ b ∧ b ≤ 1000000) ∧ Deals l d t ∧ linesB (finOf l d t) = true ∧ dupB [] (serialsOf (finOf l d t)) = false ∧ sumI (grossL l) - d + t ≤ 1000000000000)
theorem make_f {l : List LnT} (hf : fewP l) (a b d t : Int) : ∃ r, Ev (fun k => order_Make.f k a b l d t) r ∧ made l a b d t r := by
  have bad : ∀ u : Bool, u = true → Ev (fun k => order_Make.j0 k a b l d t u) (0, 0, [], 2) := fun u hu =>
    Ev.step (fun k => by simp only [order_Make.j0]; rfl) (Q.Ev.pos hu (Q.Ev.ok rfl))
  have bm : made l a b d t (0, 0, [], 2) := .inl ⟨by decide, rfl, rfl⟩
  unfold order_Make.f
  by_cases h1 : a < 1
  · exact ⟨_, Q.Ev.pos h1 (bad true rfl), bm⟩
  by_cases h2 : a > 999999
  · exact ⟨_, Q.Ev.neg h1 (Q.Ev.pos h2 (bad true rfl)), bm⟩
  by_cases h3 : 0 ≤ b ∧ b ≤ 1000000
  · have good : ∀ u : Bool, ¬ u = true → ∃ r, Ev (fun k => order_Make.j0 k a b l d t u) r ∧ made l a b d t r := by
      intro u hu
      rcases dealS_cases l d t with ⟨D, g, e⟩ | ⟨e1, e2⟩
      · have hd := line_deal_f hf d t
        rw [e] at hd
        by_cases c1 : dupB [] (serialsOf (finOf l d t)) = true
        · refine ⟨(0, 0, [], 32), ?_, .inl ⟨by decide, rfl, rfl⟩⟩
          exact Ev.step (fun k => by simp only [order_Make.j0]; rfl) (Q.Ev.neg hu (Ev.bind hd (Q.Ev.pos rfl (Q.Ev.bindc (order_twice_f (D.fin_few hf)) (Q.Ev.pos c1 (Q.Ev.ok rfl))))))
        have hc := cost_fin D g hf
        by_cases c2 : 1000000000000 < sumI (grossL l) - d + t
        · rw [if_pos c2] at hc
          refine ⟨(0, 0, [], 8), ?_, .inl ⟨by decide, rfl, rfl⟩⟩
          refine Ev.step (fun k => by simp only [order_Make.j0]; rfl) (Q.Ev.neg hu (Ev.bind hd (Q.Ev.pos rfl (Q.Ev.bindc (order_twice_f (D.fin_few hf)) (Q.Ev.neg c1 (Ev.bind hc ?_))))))
          exact Q.Ev.neg (show ¬ (8 : Int) = 0 by decide) (Q.Ev.ok rfl)
        rw [if_neg c2] at hc
        refine ⟨(a, b, finOf l d t, 0), ?_, .inr ⟨rfl, by omega, D, g, by simpa using c1, by omega⟩⟩
        exact Ev.step (fun k => by simp only [order_Make.j0]; rfl) (Q.Ev.neg hu (Ev.bind hd (Q.Ev.pos rfl (Q.Ev.bindc (order_twice_f (D.fin_few hf)) (Q.Ev.neg c1 (Ev.bind hc (Q.Ev.pos rfl (Q.Ev.ok rfl))))))))
      refine ⟨(0, 0, [], (dealS l d t).2), ?_, .inl ⟨e1, rfl, rfl⟩⟩
      exact Ev.step (fun k => by simp only [order_Make.j0]; rfl) (Q.Ev.neg hu (Ev.bind (line_deal_f hf d t) (Q.Ev.neg e1 (Q.Ev.ok rfl))))
    obtain ⟨r, hr, hm⟩ := good (!(decide (0 ≤ b ∧ b ≤ 1000000))) (by rw [decide_eq_true h3]; decide)
    exact ⟨r, Q.Ev.neg h1 (Q.Ev.neg h2 (Q.Ev.bindc (time_o b) hr)), hm⟩
  exact ⟨_, Q.Ev.neg h1 (Q.Ev.neg h2 (Q.Ev.bindc (time_o b) (bad _ (by rw [decide_eq_false h3]; rfl)))), bm⟩
section
variable {l : List LnT} {a b d t : Int} (D : Deals l d t) (g : linesB (finOf l d t) = true) (hf : fewP l) (hh : 1 ≤ a ∧ a ≤ 999999 ∧ 0 ≤ b ∧ b ≤ 1000000) (hu : dupB [] (serialsOf (finOf l d t)) = false) (hs : sumI (grossL l) - d + t ≤ 1000000000000)
include D g hf hh hu hs
theorem tot_fin : totL 0 (finOf l d t) = some (sumI (grossL l) - d + t) := by
  have _ := hf
  have _ := hh
  have _ := hu
  have h := lines_amounts g
  have e := totL_ok (finOf l d t) 0 (fun x hx => ⟨(h x hx).1, (h x hx).2.2.1⟩) (by rw [net_fin D, tax_fin D, D.net_sum, D.more_sum]; omega)
  rw [net_fin D, tax_fin D, D.net_sum, D.more_sum] at e
  rw [e]
  congr 1
  omega
theorem ord_fin : ordR a b (finOf l d t) = 0 := by
  have h1 := D.some
  have h2 := D.few
  unfold ordR finB
  rw [if_pos]
  refine ⟨⟨hh.1, hh.2.1, hh.2.2.1, hh.2.2.2, by rw [D.fin_len]; omega, by rw [D.fin_len]; omega⟩, g, ?_⟩
  rw [tot_fin D g hf hh hu hs, hu]
  rfl
theorem paid_fin : Ev (fun k => order_Paid.f k a b (finOf l d t)) (sumI (grossL l) - d + t, 0) := by
  have h2 := D.few
  have hc := order_check_f (a := a) (b := b) (D.fin_few hf)
  rw [ord_fin D g hf hh hu hs] at hc
  have ht := total_l0 (l := finOf l d t) (by rw [D.fin_len]; omega) (lines_amounts g) (finOf l d t).length 0 0 (by omega) (by omega) (by omega) (by omega)
  rw [List.drop_zero, tot_fin D g hf hh hu hs] at ht
  unfold order_Paid.f order_total.f
  exact Ev.bind hc (Q.Ev.pos rfl (Ev.bind ht (Q.Ev.ok rfl)))
theorem deals_l0 (haw : backhaullaw26_awake.f = some true) (m : Nat) : ∀ i : Nat, l.length - i = m → i ≤ l.length → Ev (fun k => backhaullaw26_OrderDeals.l0 k l (sumI ((grossL l).take i)) (i : Int) d t a b a b (finOf l d t)) true := by
  have hl := hf.1
  have hn := gross_nonneg D
  have hgl := gross_len l
  have hsum := D.sum
  have d0 := D.d0
  have d1 := D.d1
  have t0 := D.t0
  have t1 := D.t1
  induction m with
  | zero =>
    intro i hd hi
    have hc := order_check_f (a := a) (b := b) (D.fin_few hf)
    rw [ord_fin D g hf hh hu hs] at hc
    refine Ev.step (fun k => by simp only [backhaullaw26_OrderDeals.l0]; rfl) (Ev.neg (by omega) (Ev.bind (paid_fin D g hf hh hu hs) (Ev.bind hc ?_)))
    rw [List.take_of_length_le (by omega), wrap_eq (x := sumI (grossL l) - d) (by omega) (by omega), wrap_eq (x := sumI (grossL l) - d + t) (by omega) (by omega), D.fin_len]
    refine Q.Ev.pos (by first | rfl | trivial) (Q.Ev.pos (by first | rfl | trivial) (Q.Ev.pos (by first | rfl | trivial) ?_))
    refine Q.Ev.pos (by first | rfl | trivial) (Q.Ev.pos (by first | rfl | trivial) (Q.Ev.pos (by first | rfl | trivial) ?_))
    exact Q.Ev.bindc haw (Q.Ev.pos rfl (Q.Ev.const rfl))
  | succ m ih =>
    intro i hd hi
    have h : i < l.length := by omega
    have h3 := take_sum' (l := grossL l) (i := i) (by omega)
    have h4 := take_le' hn i
    have h5 := take_le' hn (i + 1)
    have h6 : (grossL l)[i]'(by omega) = l[i].f1 := List.getElem_map _
    rw [h6] at h3
    refine Ev.step (fun k => by simp only [backhaullaw26_OrderDeals.l0]; rfl) (Ev.pos (by omega) (Ev.pos (by omega) ?_))
    rw [rdL h, wrap_eq (x := (i : Int) + 1) (by omega) (by omega), wrap_eq (x := sumI ((grossL l).take i) + l[i].f1) (by omega) (by omega)]
    have := ih (i + 1) (by omega) (by omega)
    rw [h3] at this
    exact this
end
theorem OrderDeals : backhaullaw26_OrderDeals.Pure := by
  intro l d t a b hl hd ht ha hb
  refine Ev.rounds (r := true) ?_
  have haw : backhaullaw26_awake.f = some true := rfl
  unfold backhaullaw26_OrderDeals.f
  refine Ev.bind (few_f _) (Q.Ev.ite (fun q => ?_) (fun _ => Q.Ev.bindc haw (Q.Ev.pos rfl (Q.Ev.const rfl))))
  have hf := few_p q
  obtain ⟨r, hr, hm⟩ := make_f hf a b d t
  refine Ev.bind hr ?_
  rcases hm with ⟨h1, h2, h3⟩ | ⟨rfl, hh, D, g, hu, hs⟩
  · rw [h2, h3]
    exact Q.Ev.neg h1 (Q.Ev.pos rfl (Q.Ev.pos rfl (Q.Ev.bindc haw (Q.Ev.pos rfl (Q.Ev.const rfl)))))
  dsimp only
  exact Q.Ev.pos rfl (deals_l0 D g hf hh hu hs haw l.length 0 (by omega) (by omega))
end Go.Proofs.Ytefhljhpcpajgaa.Pure
namespace Go.Proofs.YtefhljhpcpajgaaX
open Go.RowKit YtefhljhpcpajgaaW.PrintWords YtefhljhpcpajgaaW.PrintLast YtefhljhpcpajgaaW.PrintMore
def Opens {α : Type} (P : Program) (t : TypeId) (k : Kd α) (Ok : α → Prop) : Prop :=
  ∀ {H : Type} {enc : TypeId × Value → H} {w : World} {base : Nat} {spare : Nat → Bool} {held : Bool} {fuel : Nat} {cs : List Value} {x : DataW H × List MemPlace},
    DataW.trod enc P w base spare held fuel t cs = some x → ∃ a : α, k.K w a cs ∧ Ok a
theorem Opens.int {P : Program} {t : TypeId} {k : IntKind} (ht : P.underlying t = some (.int k)) : Opens P t (Kd.int k) (fun a => (Lit.int k a).wf = true) := by
  intro H enc w base spare held fuel cs x h
  obtain ⟨n, rfl, _, hw⟩ := DataW.trod_int ht h
  exact ⟨n, rfl, hw⟩
theorem Opens.bool {P : Program} {t : TypeId} (ht : P.underlying t = some .bool) : Opens P t Kd.bool (fun _ => True) := by
  intro H enc w base spare held fuel cs x h
  obtain ⟨n, rfl, _⟩ := DataW.trod_bool ht h
  exact ⟨n, rfl, trivial⟩
theorem Opens.string {P : Program} {t : TypeId} (ht : P.underlying t = some .string) : Opens P t Kd.string (fun a => a.size ≤ maxLen) := by
  intro H enc w base spare held fuel cs x h
  obtain ⟨s, rfl, _, hw⟩ := DataW.trod_string ht h
  exact ⟨s, rfl, hw⟩
theorem list_of {α : Type} {p : Nat → α → Prop} : ∀ n, (∀ i, i < n → ∃ a, p i a) → ∃ xs : List α, xs.length = n ∧ ∀ i a, xs[i]? = some a → p i a
  | 0, _ => ⟨[], rfl, fun i a h => by simp at h⟩
  | n + 1, h => by
    obtain ⟨xs, hl, hx⟩ := list_of n (fun i hi => h i (by omega))
    obtain ⟨a, ha⟩ := h n (by omega)
    refine ⟨xs ++ [a], by simp [hl], fun i b hb => ?_⟩
    rcases Nat.lt_or_ge i xs.length with h1 | h1
    · rw [List.getElem?_append_left h1] at hb
      exact hx i b hb
    rw [List.getElem?_append_right h1] at hb
    have h2 : i - xs.length = 0 := by
      have := (List.getElem?_eq_some_iff.1 hb).1
      simp at this; omega
    rw [h2] at hb
    have : a = b := by simpa using hb
    subst this
    have : i = n := by omega
    rw [this]; exact ha
theorem Opens.slice {α : Type} {P : Program} {t e : TypeId} {k : Kd α} {Ok : α → Prop} (ht : P.underlying t = some (.slice e)) (hc : P.cellsOf e = k.sz) (h : Opens P e k Ok) :
    Opens P t (Kd.slice e k) (fun xs => xs.length ≤ maxLen ∧ ∀ x ∈ xs, Ok x) := by
  intro H enc w base spare held fuel cs x hx
  rcases Go.Deep.open_slice ht hx with ⟨rfl, rfl⟩ | ⟨a, len, cap, m, n, D, Pl, rfl, hb, hl, hm, hmm, rfl, hel⟩
  · exact ⟨[], ⟨none, 0, rfl, by simp, rfl, by simp, fun h => absurd h (by simp)⟩, by simp [maxLen], by simp⟩
  have hlm : len ≤ m := by rw [hmm]; split <;> omega
  obtain ⟨xs, hlen, hxs⟩ := list_of (p := fun i (a' : α) => ∃ cs', w.cells? base (a.add (i * P.cellsOf e)) (P.cellsOf e) = some cs' ∧ k.K w a' cs' ∧ Ok a') len (fun i hi => by
    obtain ⟨cs', h1, h2⟩ := hel i (by omega)
    obtain ⟨a', h3, h4⟩ := h h2
    exact ⟨a', cs', h1, h3, h4⟩)
  have hlm2 : len ≤ maxLen := by omega
  refine ⟨xs, ⟨some a, cap, by rw [hlen], by rw [hlen]; exact hl, rfl, by rw [hlen]; simpa [maxLen] using hlm2, fun _ => ⟨a, rfl, fun j p hj => ?_⟩⟩, by rw [hlen]; exact hlm2, fun y hy => ?_⟩
  · obtain ⟨cs', h1, h2, _⟩ := hxs j p hj
    refine ⟨cs', k.K_len h2, h2, fun i u hu => ?_⟩
    obtain ⟨_, _, h3⟩ := World.cells?_some h1
    have h4 := h3 i (by have := (List.getElem?_eq_some_iff.1 hu).1; have := k.K_len h2; omega)
    rw [← hc, ← Go.Proofs.YtefhljhpcpajgaaW.PrintWords.add_add]
    rw [← hu]; exact h4
  obtain ⟨i, hi, rfl⟩ := List.mem_iff_getElem.1 hy
  obtain ⟨_, _, _, h3⟩ := hxs i _ (List.getElem?_eq_getElem hi)
  exact h3
theorem field_reads {H : Type} {enc : TypeId × Value → H} {P : Program} {w : World} {base : Nat} {spare : Nat → Bool} {held : Bool} {fuel : Nat} {t : TypeId} {cs : List Value} {x : DataW H × List MemPlace} {fs : Array Field}
    (ht : P.underlying t = some (.struct fs)) (h : DataW.trod enc P w base spare held fuel t cs = some x) :
    cs.length = P.cellsOf t ∧ ∃ n, ∀ (i : Nat) (f : Field), fs[i]? = some f → ∃ y, DataW.trod enc P w base spare held n f.type ((cs.drop f.offset).take (P.cellsOf f.type)) = some y := by
  obtain ⟨xs, n, _, _, hl, hx, hf⟩ := DataW.trod_struct ht h
  refine ⟨hl, n, fun i f hif => ?_⟩
  rw [hf i f hif]
  have hi := (Array.getElem?_eq_some_iff.1 hif).1
  exact ⟨_, List.getElem?_eq_getElem (by rw [hx]; exact hi)⟩
theorem slice_cells {α : Type} {k : Kd α} {e : Nat} {w : World} {xs : List α} {v : Value} (h : (Kd.slice e k).K w xs [v]) : ∃ A c, v = .slice A xs.length c ∧ xs.length ≤ c ∧ k.C w A xs.length xs := by
  obtain ⟨A, c, he, hl, hc⟩ := h
  injection he with he
  exact ⟨A, c, he, hl, hc⟩
theorem band {a b : Bool} (h1 : a = true) (h2 : b = true) : (a && b) = true := by rw [h1, h2]; rfl
theorem mayEnter_of {P : Program} {L c : List Char} {rest : List (List Char)} (h : P.initOrder.toList = L) (h1 : behindMainWord (wordsSigns L) = c :: rest) (h2 : ((stripLifts liftWords (c :: rest)).2.head? == some "cut".toList) = true) (h3 : P.laysLater = false) (h4 : P.bearsReflect = false) (h5 : (stripLifts liftWords (c :: rest)).1 = []) (h6 : P.doorFits [] = true) : P.mayEnter = true := by
  unfold Program.mayEnter
  rw [h, h1]
  dsimp only
  rw [h2, h3, h4, h5, h6]
  simp
theorem make_of {P : Program} {L : List Char} {rest : List (List Char)} (h : P.initOrder.toList = L) (h1 : behindMainWord (wordsSigns L) = "cut".toList :: rest) : P.make = some .cut := by
  unfold Program.make
  rw [h, h1]
  dsimp only
  rw [if_neg (by decide), if_pos (by simp)]
end Go.Proofs.YtefhljhpcpajgaaX
set_option maxRecDepth 10000
namespace Go.Proofs.Ytefhljhpcpajgaa.Join
open YtefhljhpcpajgaaX
def initSigns : List Char := ['h', 'a', 'r', 'n', 'e', 's', 's', ' ', '5', '6', '5', 'd', 'd', 'd', '3', '6', '6', '5', 'c', '5', '5', '9', 'c', '2', '4', '9', 'e', '2', 'e', '3', '7', '8', 'c', '7', '1', 'b', 'b', 'b', '4', '7', '4', '9', '6', '8', '7', '8', 'a', '7', '0', 'b', '1', 'c', '4', '8', '9', 'f', '4', '3', '5', '5', '6', 'b', 'b', '7', 'f', '7', 'f', '7', '4', '9', '2', 'f', ' ', 'c', 'u', 't', ' ', 'a', 't', ' ', 'b', 'a', 'c', 'k', 'h', 'a', 'u', 'l', '/', 'b', 'a', 'c', 'k', 'h', 'a', 'u', 'l', 'l', 'a', 'w', '0', '2', '.', 'C', 'e', 'n', 't', 's', 'S', 'u', 'm', 's', ' ', 'b', 'a', 'c', 'k', 'h', 'a', 'u', 'l', '/', 'b', 'a', 'c', 'k', 'h', 'a', 'u', 'l', 'l', 'a', 'w', '0', '2', '.', 'C', 'e', 'n', 't', 's', 'S', 'h', 'a', 'r', 'e', 's', ' ', 'b', 'a', 'c', 'k', 'h', 'a', 'u', 'l', '/', 'b', 'a', 'c', 'k', 'h', 'a', 'u', 'l', 'l', 'a', 'w', '0', '2', '.', 'C', 'e', 'n', 't', 's', 'O', 'v', 'e', 'r', ' ', 'b', 'a', 'c', 'k', 'h', 'a', 'u', 'l', '/', 'b', 'a', 'c', 'k', 'h', 'a', 'u', 'l', 'l', 'a', 'w', '0', '2', '.', 'C', 'e', 'n', 't', 's', 'D', 'i', 'v', 's', ' ', 'b', 'a', 'c', 'k', 'h', 'a', 'u', 'l', '/', 'b', 'a', 'c', 'k', 'h', 'a', 'u', 'l', 'l', 'a', 'w', '0', '4', '.', 'F', 'e', 'e', 'T', 'e', 'l', 'l', 's', ' ', 'b', 'a', 'c', 'k', 'h', 'a', 'u', 'l', '/', 'b', 'a', 'c', 'k', 'h', 'a', 'u', 'l', 'l', 'a', 'w', '0', '4', '.', 'F', 'e', 'e', 'B', 'o', 'u', 'n', 'd', 's', ' ', 'b', 'a', 'c', 'k', 'h', 'a', 'u', 'l', '/', 'b', 'a', 'c', 'k', 'h', 'a', 'u', 'l', 'l', 'a', 'w', '0', '4', '.', 'F', 'e', 'e', 'S', 't', 'e', 'p', 's', ' ', 'b', 'a', 'c', 'k', 'h', 'a', 'u', 'l', '/', 'b', 'a', 'c', 'k', 'h', 'a', 'u', 'l', 'l', 'a', 'w', '0', '3', '.', 'S', 'h', 'a', 'r', 'e', 'D', 'e', 'a', 'l', 's', ' ', 'b', 'a', 'c', 'k', 'h', 'a', 'u', 'l', '/', 'b', 'a', 'c', 'k', 'h', 'a', 'u', 'l', 'l', 'a', 'w', '0', '3', '.', 'S', 'h', 'a', 'r', 'e', 'A', 'l', 'l', ' ', 'b', 'a', 'c', 'k', 'h', 'a', 'u', 'l', '/', 'b', 'a', 'c', 'k', 'h', 'a', 'u', 'l', 'l', 'a', 'w', '0', '3', '.', 'S', 'h', 'a', 'r', 'e', 'F', 'a', 'i', 'r', ' ', 'b', 'a', 'c', 'k', 'h', 'a', 'u', 'l', '/', 'b', 'a', 'c', 'k', 'h', 'a', 'u', 'l', 'l', 'a', 'w', '2', '1', '.', 'L', 'i', 'n', 'e', 'D', 'e', 'a', 'l', 's', ' ', 'b', 'a', 'c', 'k', 'h', 'a', 'u', 'l', '/', 'b', 'a', 'c', 'k', 'h', 'a', 'u', 'l', 'l', 'a', 'w', '2', '1', '.', 'L', 'i', 'n', 'e', 'T', 'e', 'l', 'l', 's', ' ', 'b', 'a', 'c', 'k', 'h', 'a', 'u', 'l', '/', 'b', 'a', 'c', 'k', 'h', 'a', 'u', 'l', 'l', 'a', 'w', '2', '1', '.', 'L', 'i', 'n', 'e', 'A', 'l', 'l', ' ', 'b', 'a', 'c', 'k', 'h', 'a', 'u', 'l', '/', 'b', 'a', 'c', 'k', 'h', 'a', 'u', 'l', 'l', 'a', 'w', '2', '1', '.', 'L', 'i', 'n', 'e', 'U', 'n', 'i', 't', 's', ' ', 'b', 'a', 'c', 'k', 'h', 'a', 'u', 'l', '/', 'b', 'a', 'c', 'k', 'h', 'a', 'u', 'l', 'l', 'a', 'w', '2', '2', '.', 'V', 'a', 'l', 'u', 'e', 'T', 'e', 'l', 'l', 's', ' ', 'b', 'a', 'c', 'k', 'h', 'a', 'u', 'l', '/', 'b', 'a', 'c', 'k', 'h', 'a', 'u', 'l', 'l', 'a', 'w', '2', '2', '.', 'V', 'a', 'l', 'u', 'e', 'B', 'o', 'u', 'n', 'd', 's', ' ', 'b', 'a', 'c', 'k', 'h', 'a', 'u', 'l', '/', 'b', 'a', 'c', 'k', 'h', 'a', 'u', 'l', 'l', 'a', 'w', '2', '2', '.', 'V', 'a', 'l', 'u', 'e', 'W', 'h', 'o', 'l', 'e', ' ', 'b', 'a', 'c', 'k', 'h', 'a', 'u', 'l', '/', 'b', 'a', 'c', 'k', 'h', 'a', 'u', 'l', 'l', 'a', 'w', '2', '6', '.', 'O', 'r', 'd', 'e', 'r', 'M', 'a', 'k', 'e', 's', ' ', 'b', 'a', 'c', 'k', 'h', 'a', 'u', 'l', '/', 'b', 'a', 'c', 'k', 'h', 'a', 'u', 'l', 'l', 'a', 'w', '2', '6', '.', 'O', 'r', 'd', 'e', 'r', 'T', 'e', 'l', 'l', 's', ' ', 'b', 'a', 'c', 'k', 'h', 'a', 'u', 'l', '/', 'b', 'a', 'c', 'k', 'h', 'a', 'u', 'l', 'l', 'a', 'w', '2', '6', '.', 'O', 'r', 'd', 'e', 'r', 'D', 'e', 'a', 'l', 's', ' ', 'b', 'a', 'c', 'k', 'h', 'a', 'u', 'l', '/', 'b', 'a', 'c', 'k', 'h', 'a', 'u', 'l', 'l', 'a', 'w', '2', '6', '.', 'O', 'r', 'd', 'e', 'r', 'F', 'i', 'n', 'd', 's']
theorem initText : Try.pinned.checked.prog.initOrder = String.ofList initSigns := by kernel_rfl
theorem initList : Try.pinned.checked.prog.initOrder.toList = initSigns := (congrArg String.toList initText).trans String.toList_ofList
theorem mayEnter_is : Try.pinned.checked.prog.mayEnter = true :=
  mayEnter_of (L := initSigns) (c := "cut".toList) (rest := (behindMainWord (wordsSigns initSigns)).tail) initList (by kernel_rfl) (by kernel_rfl) (by kernel_rfl) (by kernel_rfl) (by kernel_rfl) (by kernel_rfl)
theorem make_is : Try.pinned.checked.prog.make = some .cut :=
  make_of (L := initSigns) (rest := (behindMainWord (wordsSigns initSigns)).tail) initList (by kernel_rfl)
theorem lifts_is : Try.pinned.checked.prog.liftsFinal = false := by
  unfold Program.liftsFinal Program.headLifts
  rw [initList]
  kernel_rfl
end Go.Proofs.Ytefhljhpcpajgaa.Join
namespace Go.Proofs.Ytefhljhpcpajgaa.orderDeals
open Go.ChangeShapes Go.WideShapes Go.ChangeAt Go.RowKit YtefhljhpcpajgaaX Ytefhljhpcpajgaa.F YtefhljhpcpajgaaW.PrintWords YtefhljhpcpajgaaW.PrintLast YtefhljhpcpajgaaW.PrintMore
open Go.ChangeMaps (open_string shut_string)
theorem own : ownKnob Try.prog.godebug = none := by kernel_rfl
theorem laidOut : laidOutB Try.prog = true := by kernel_rfl
set_option maxRecDepth 100000 in
theorem opens_k71 : Opens Try.prog 71 k71 (fun x => ((Lit.int .i64 x.f0).wf = true ∧ (Lit.int .i64 x.f1).wf = true ∧ (Lit.int .i64 x.f2).wf = true ∧ (Lit.int .i64 x.f3).wf = true ∧ (x.f4.length ≤ maxLen ∧ ∀ y ∈ x.f4, y.size ≤ maxLen))) := by
  intro H enc w base spare held fuel cs x h
  obtain ⟨hl, n, hf⟩ := field_reads Try.underlying71 h
  have hl2 : cs.length = 5 := hl.trans (by kernel_rfl)
  match cs, hl2 with
  | [c0, c1, c2, c3, c4], _ =>
    obtain ⟨y0, h0⟩ := hf 0 _ rfl
    have e0 : Try.prog.cellsOf 3 = 1 := by kernel_rfl
    (try dsimp only at h0)
    (try simp only [e0] at h0)
    obtain ⟨a0, k0, o0⟩ := (Opens.int Try.underlying3) h0
    have k0' : ((Kd.int .i64)).K w a0 [c0] := k0
    obtain ⟨y1, h1⟩ := hf 1 _ rfl
    have e1 : Try.prog.cellsOf 3 = 1 := by kernel_rfl
    (try dsimp only at h1)
    (try simp only [e1] at h1)
    obtain ⟨a1, k1, o1⟩ := (Opens.int Try.underlying3) h1
    have k1' : ((Kd.int .i64)).K w a1 [c1] := k1
    obtain ⟨y2, h2⟩ := hf 2 _ rfl
    have e2 : Try.prog.cellsOf 3 = 1 := by kernel_rfl
    (try dsimp only at h2)
    (try simp only [e2] at h2)
    obtain ⟨a2, k2, o2⟩ := (Opens.int Try.underlying3) h2
    have k2' : ((Kd.int .i64)).K w a2 [c2] := k2
    obtain ⟨y3, h3⟩ := hf 3 _ rfl
    have e3 : Try.prog.cellsOf 3 = 1 := by kernel_rfl
    (try dsimp only at h3)
    (try simp only [e3] at h3)
    obtain ⟨a3, k3, o3⟩ := (Opens.int Try.underlying3) h3
    have k3' : ((Kd.int .i64)).K w a3 [c3] := k3
    obtain ⟨y4, h4⟩ := hf 4 _ rfl
    have e4 : Try.prog.cellsOf 69 = 1 := by kernel_rfl
    (try dsimp only at h4)
    (try simp only [e4] at h4)
    obtain ⟨a4, k4, o4⟩ := (Opens.slice Try.underlying69 (by kernel_rfl) (Opens.string Try.underlying9)) h4
    have k4' : ((Kd.slice 9 Kd.string)).K w a4 [c4] := k4
    exact ⟨(⟨a0, a1, a2, a3, a4⟩ : S71), ⟨[c0], [c1, c2, c3, c4], rfl, k0', ⟨[c1], [c2, c3, c4], rfl, k1', ⟨[c2], [c3, c4], rfl, k2', ⟨[c3], [c4], rfl, k3', k4'⟩⟩⟩⟩, ⟨o0, o1, o2, o3, o4⟩⟩
set_option maxRecDepth 100000 in
theorem opens_k97 : Opens Try.prog 97 k97 (fun x => ((Lit.int .i64 x.f0).wf = true ∧ (Lit.int .i64 x.f1).wf = true ∧ (Lit.int .i64 x.f2).wf = true ∧ (Lit.int .i64 x.f3).wf = true)) := by
  intro H enc w base spare held fuel cs x h
  obtain ⟨hl, n, hf⟩ := field_reads Try.underlying97 h
  have hl2 : cs.length = 4 := hl.trans (by kernel_rfl)
  match cs, hl2 with
  | [c0, c1, c2, c3], _ =>
    obtain ⟨y0, h0⟩ := hf 0 _ rfl
    have e0 : Try.prog.cellsOf 3 = 1 := by kernel_rfl
    (try dsimp only at h0)
    (try simp only [e0] at h0)
    obtain ⟨a0, k0, o0⟩ := (Opens.int Try.underlying3) h0
    have k0' : ((Kd.int .i64)).K w a0 [c0] := k0
    obtain ⟨y1, h1⟩ := hf 1 _ rfl
    have e1 : Try.prog.cellsOf 3 = 1 := by kernel_rfl
    (try dsimp only at h1)
    (try simp only [e1] at h1)
    obtain ⟨a1, k1, o1⟩ := (Opens.int Try.underlying3) h1
    have k1' : ((Kd.int .i64)).K w a1 [c1] := k1
    obtain ⟨y2, h2⟩ := hf 2 _ rfl
    have e2 : Try.prog.cellsOf 3 = 1 := by kernel_rfl
    (try dsimp only at h2)
    (try simp only [e2] at h2)
    obtain ⟨a2, k2, o2⟩ := (Opens.int Try.underlying3) h2
    have k2' : ((Kd.int .i64)).K w a2 [c2] := k2
    obtain ⟨y3, h3⟩ := hf 3 _ rfl
    have e3 : Try.prog.cellsOf 3 = 1 := by kernel_rfl
    (try dsimp only at h3)
    (try simp only [e3] at h3)
    obtain ⟨a3, k3, o3⟩ := (Opens.int Try.underlying3) h3
    have k3' : ((Kd.int .i64)).K w a3 [c3] := k3
    exact ⟨(⟨a0, a1, a2, a3⟩ : S97), ⟨[c0], [c1, c2, c3], rfl, k0', ⟨[c1], [c2, c3], rfl, k1', ⟨[c2], [c3], rfl, k2', k3'⟩⟩⟩, ⟨o0, o1, o2, o3⟩⟩
set_option maxRecDepth 100000 in
theorem lifted (os : Os) (started : os.Started) (H : Type) (enc : TypeId × Value → H) :
    ReturnsInHanded {} Try.checked os 22 .any (Rows.orderDealsSpec.pre6 enc Try.prog Try.f22 Rows.orderDealsRow.domain false) (Rows.orderDealsSpec.post enc Try.prog Try.f22 false true false false) := by
  refine returnsInHanded_of_change_sized (C := Try.checked) own started (by kernel_rfl) Try.func22
    (ChangeSpec.witness6 (enc := enc) (C := Try.checked) false ⟨#[], #[.slice none 0 0, .agg #[.int .i64 0, .int .i64 0, .int .i64 0, .int .i64 0]], []⟩ 8 (by kernel_rfl) (by kernel_rfl) (by kernel_rfl) (by kernel_rfl)) ?_
  intro W base args ds gs before hval0 hW hcnd hsz0 _
  have hval : ∀ (j : Nat) t v, Try.f22.params[j]? = some t → args[j]? = some v → Value.okWide Try.prog W .any base t v := hval0
  have hW' := hW
  obtain ⟨p, q, hA0, hV, rfl, hfz, hnd⟩ := hW
  have hA : DataW.TrodAll enc Try.prog W 0 (fun _ => true) true Try.f22.params.toList args.toList ds p := hA0
  rw [Try.params22] at hA hval
  obtain ⟨v0, vs0, d0, ds0, p0, q0, hargs, rfl, rfl, h0, r0⟩ := trodAll_cons hA
  obtain ⟨v1, vs1, d1, ds1, p1, q1, rfl, rfl, rfl, h1, r1⟩ := trodAll_cons r0
  obtain ⟨rfl, rfl, rfl⟩ := trodAll_nil r1
  obtain rfl : args = #[v0, v1] := by cases args; simp_all
  obtain ⟨rfl, rfl⟩ := trodVars_none hV
  have k0 := h0
  have lt0 : ∀ x ∈ p0, x.block < W.heap.size := by obtain ⟨m, hm⟩ := k0; exact DataW.trod_lt m _ _ _ hm
  obtain ⟨b0, len0, cap0, rfl⟩ := okWide_slice Try.underlying59 (hval 0 59 v0 rfl rfl)
  obtain ⟨f0, hf0⟩ := h0
  obtain ⟨x0, hk0, ho0⟩ := (Opens.slice Try.underlying59 (by kernel_rfl) opens_k71) hf0
  obtain ⟨A0, c0, he0, hl0, hc0⟩ := slice_cells (show _ from hk0)
  injection he0 with e0_1 e0_2 e0_3
  subst e0_1 e0_2 e0_3
  have k1 := h1
  have lt1 : ∀ x ∈ p1, x.block < W.heap.size := by obtain ⟨m, hm⟩ := k1; exact DataW.trod_lt m _ _ _ hm
  obtain ⟨cs1, rfl, _⟩ := okWide_struct Try.underlying97 (hval 1 97 v1 rfl rfl)
  obtain ⟨f1, hf1⟩ := h1
  obtain ⟨x1, hk1, ho1⟩ := opens_k97 hf1
  have he1 := k97_open hk1
  obtain rfl : cs1 = _ := Array.toList_inj.1 (he1.trans (List.toList_toArray).symm)
  obtain ⟨k, h⟩ : ∃ k, backhaullaw26_OrderDeals.f k x0 x1.f0 x1.f1 x1.f2 x1.f3 = some true := Pure.OrderDeals x0 x1.f0 x1.f1 x1.f2 x1.f3 ho0 ho1.1 ho1.2.1 ho1.2.2.1 ho1.2.2.2
  refine (backhaullaw26_OrderDeals.calls k _ _ x0 x1.f0 x1.f1 x1.f2 x1.f3 W hc0 hl0 h).mono fun e W' hq => ?_
  obtain ⟨he, bel0⟩ := hq
  have bel : Below W.heap.size W W' := bel0
  subst he
  exact ⟨_, rfl, _, _, _, [], _, [], hW', trodAll_mk1 (shut_bool Try.underlying4 _), (trodAll_cons_mk (Below.trod laidOut (by kernel_rfl) (of_decide_eq_true (by kernel_rfl)) k0 bel lt0) (trodAll_cons_mk (Below.trod laidOut (by kernel_rfl) (of_decide_eq_true (by kernel_rfl)) k1 bel lt1) trodAll_mk0)), rfl, bel.frame _, fun h => by cases h⟩
theorem closed_ : joinedFacts Try.pinned.checked.prog 22 Try.f22 Rows.orderDealsSpec Rows.orderDealsRow = true := by
  unfold joinedFacts
  repeat' (with_reducible apply band)
  any_goals with_reducible exact Join.mayEnter_is
  any_goals (rw [Join.make_is]; kernel_rfl)
  any_goals (rw [Join.lifts_is]; kernel_rfl)
  all_goals kernel_rfl
theorem over : Rows.orderDealsRow.holds Try.pinned (OpenSpec.ofChange Rows.orderDealsSpec) :=
  OpenClaim.holds_of_wide 22 Try.f22 rfl rfl rfl rfl rfl rfl rfl ⟨rfl, rfl, rfl, rfl, rfl⟩ rfl rfl rfl rfl rfl (by kernel_rfl) Try.func22 closed_
    (of_decide_eq_true (by kernel_rfl)) (by unfold Func.isWrapper; first | (rw [if_pos (by decide +kernel)]; kernel_rfl) | (rw [if_neg (by decide +kernel)]; exact ⟨rfl, rfl⟩))
    (fun os started H enc _ => lifted os started H enc)
theorem proved : Rows.OrderDealsSaid := over
#print axioms proved
end Go.Proofs.Ytefhljhpcpajgaa.orderDeals
namespace Go.Proofs.Ytefhljhpcpajgaa
theorem orderDeals_holds : Rows.OrderDealsSaid := orderDeals.proved
end Go.Proofs.Ytefhljhpcpajgaa
