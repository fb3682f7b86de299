/- The document's With, Set, Without and Last, and few, as plain lists; condition: lengths below 2^42. -/
import Derived.Test.YtabapiofkipkoaaXPTexts
import Derived.Test.YtabapiofkipkoaaF23
import Derived.Test.YtabapiofkipkoaaF25
import Derived.Test.YtabapiofkipkoaaF27
import Derived.Test.YtabapiofkipkoaaF29
import Derived.Test.YtabapiofkipkoaaF32
set_option linter.unusedVariables false
namespace Go.Proofs.Ytabapiofkipkoaa.Q
open Go.RowKit Go.Proofs.Ytabapiofkipkoaa.F Go.Proofs.YtabapiofkipkoaaW.PrintWords Go.Proofs.YtabapiofkipkoaaW.PrintLast Go.Proofs.YtabapiofkipkoaaW.PrintMore

def fewB (l : List ByteArray) : Bool := decide (l.length ≤ 200) && l.all (fun s => decide (s.size ≤ 200))
theorem few_l0 {l : List ByteArray} (hl : l.length < 9223372036854775807) (d : Nat) : ∀ i : Nat, l.length - i = d → i ≤ l.length →
    Ev (fun k => backhaullaw13_few.l0 k l (i : Int)) ((l.drop i).all (fun s => decide (s.size ≤ 200))) := by
  induction d with
  | zero =>
    intro i hd hi
    refine Ev.step (fun k => by simp only [backhaullaw13_few.l0]; rfl) ?_
    refine Ev.neg (by omega) (Ev.ok ?_)
    rw [List.drop_eq_nil_of_le (by omega)]; rfl
  | succ d ih =>
    intro i hd hi
    have h : i < l.length := by omega
    refine Ev.step (fun k => by simp only [backhaullaw13_few.l0]; rfl) ?_
    refine Ev.pos (by omega) (Ev.pos (by omega) ?_)
    rw [rdOf_nat h, drop_cons h, List.all_cons]
    refine Ev.ite (fun he => Ev.ok ?_) (fun he => ?_)
    · have : ¬ l[i].size ≤ 200 := by omega
      simp [this]
    · rw [wrap_eq (by omega) (by omega)]
      refine Ev.eq (ih (i + 1) (by omega) (by omega)) ?_
      have : l[i].size ≤ 200 := by omega
      simp [this]
theorem few_f (l : List ByteArray) : Ev (fun k => backhaullaw13_few.f k l) (fewB l) := by
  unfold backhaullaw13_few.f fewB
  refine Ev.ite (fun h => Ev.ok ?_) (fun h => ?_)
  · have : ¬ l.length ≤ 200 := by omega
    simp [this]
  · refine Ev.eq (few_l0 (l := l) (by omega) l.length 0 (by omega) (by omega)) ?_
    have : l.length ≤ 200 := by omega
    simp [this]

def restW (l : List ByteArray) (v : ByteArray) (n i : Nat) : List ByteArray := if i ≤ n then (l.take n).drop i ++ v :: l.drop n else l.drop i
theorem ref_With_l0 {l : List ByteArray} {v : ByteArray} {n : Nat} (hl : l.length < 1000000) (hn : n ≤ l.length) (d : Nat) : ∀ (i : Nat) (out : List ByteArray), l.length + 1 - i = d → i ≤ l.length + 1 → out.length ≤ 2 * i →
    Ev (fun k => backhaulref13_With.l0 k l (n : Int) v out (i : Int)) (out ++ restW l v n i, 0) := by
  induction d with
  | zero =>
    intro i out hd hi ho
    refine Ev.step (fun k => by simp only [backhaulref13_With.l0]; rfl) ?_
    refine Ev.neg (by omega) (Ev.ok ?_)
    unfold restW
    rw [if_neg (by omega), List.drop_eq_nil_of_le (by omega), List.append_nil]
  | succ d ih =>
    intro i out hd hi ho
    refine Ev.step (fun k => by simp only [backhaulref13_With.l0]; rfl) ?_
    refine Ev.pos (by omega) ?_
    rw [wrap_eq (by omega) (by omega)]
    refine Ev.ite (fun h1 => ?_) (fun h1 => ?_)
    · have h1' : i = n := by omega
      subst h1'
      refine Ev.pos (by omega) (Ev.bindc rfl ?_)
      refine Ev.ite (fun h2 => ?_) (fun h2 => ?_)
      · have h : i < l.length := by omega
        refine Ev.pos (by omega) (Ev.pos (by simp; omega) ?_)
        rw [rdOf_nat h]
        refine Ev.eq (ih (i + 1) _ (by omega) (by omega) (by simp; omega)) ?_
        unfold restW
        rw [if_neg (by omega), if_pos (Nat.le_refl _), drop_cons h, List.drop_eq_nil_of_le (show (l.take i).length ≤ i by rw [List.length_take]; omega)]
        simp
      · refine Ev.eq (ih (i + 1) _ (by omega) (by omega) (by simp; omega)) ?_
        unfold restW
        rw [if_neg (by omega), if_pos (Nat.le_refl _), List.drop_eq_nil_of_le (show l.length ≤ i + 1 by omega), List.drop_eq_nil_of_le (show l.length ≤ i by omega), List.drop_eq_nil_of_le (show (l.take i).length ≤ i by rw [List.length_take]; omega)]
        simp
    · refine Ev.ite (fun h2 => ?_) (fun h2 => ?_)
      · have h : i < l.length := by omega
        refine Ev.pos (by omega) (Ev.pos (by omega) ?_)
        rw [rdOf_nat h]
        refine Ev.eq (ih (i + 1) _ (by omega) (by omega) (by simp; omega)) ?_
        unfold restW
        by_cases h3 : i < n
        · rw [if_pos (by omega), if_pos (by omega)]
          have h4 : i < (l.take n).length := by rw [List.length_take]; omega
          rw [drop_cons h4, List.getElem_take]
          simp
        · rw [if_neg (by omega), if_neg (by omega), drop_cons h]
          simp
      · refine Ev.eq (ih (i + 1) _ (by omega) (by omega) (by omega)) ?_
        unfold restW
        rw [if_neg (by omega), if_neg (by omega), List.drop_eq_nil_of_le (show l.length ≤ i + 1 by omega), List.drop_eq_nil_of_le (show l.length ≤ i by omega)]
/-- A list with one more; with another one; with one less; or refused. -/
def withS (l : List ByteArray) (at_ : Int) (v : ByteArray) : List ByteArray × Int := if at_ < 0 ∨ at_ > (l.length : Int) then ([], 2) else (l.take at_.toNat ++ v :: l.drop at_.toNat, 0)
def setS (l : List ByteArray) (at_ : Int) (v : ByteArray) : List ByteArray × Int := if at_ < 0 ∨ at_ ≥ (l.length : Int) then ([], 2) else (l.take at_.toNat ++ v :: l.drop (at_.toNat + 1), 0)
def withoutS (l : List ByteArray) (at_ : Int) : List ByteArray × Int := if at_ < 0 ∨ at_ ≥ (l.length : Int) then ([], 2) else (l.take at_.toNat ++ l.drop (at_.toNat + 1), 0)
theorem ref_With_f {l : List ByteArray} {a : Int} {v : ByteArray} (hl : l.length < 1000000) : Ev (fun k => backhaulref13_With.f k l a v) (withS l a v) := by
  unfold backhaulref13_With.f withS
  refine Ev.ite (fun h => ?_) (fun h => ?_)
  · rw [if_pos (.inl h)]
    exact Ev.step (fun k => by simp only [backhaulref13_With.j0]; rfl) (Ev.pos (show true = true from rfl) (Ev.ok rfl))
  · refine Ev.step (fun k => by simp only [backhaulref13_With.j0]; rfl) ?_
    refine Ev.ite (fun h1 => Ev.ok ?_) (fun h1 => ?_)
    · rw [if_pos (.inr (by simpa using h1))]
    · have h1' : ¬ a > (l.length : Int) := by simpa using h1
      rw [if_neg (by omega)]
      obtain ⟨n, rfl⟩ := Int.eq_ofNat_of_zero_le (show 0 ≤ a by omega)
      refine Ev.eq (ref_With_l0 hl (by omega) (l.length + 1) 0 [] (by omega) (by omega) (by simp)) ?_
      simp [restW]
theorem ref_Without_l0 {l : List ByteArray} {n : Nat} (hl : l.length < 1000000) (d : Nat) : ∀ (i : Nat) (out : List ByteArray), l.length - i = d → i ≤ l.length → out.length ≤ i →
    Ev (fun k => backhaulref13_Without.l0 k l (n : Int) out (i : Int)) (out ++ (if i ≤ n then (l.take n).drop i ++ l.drop (n + 1) else l.drop i), 0) := by
  induction d with
  | zero =>
    intro i out hd hi ho
    refine Ev.step (fun k => by simp only [backhaulref13_Without.l0]; rfl) ?_
    refine Ev.neg (by omega) (Ev.ok ?_)
    by_cases h : i ≤ n
    · rw [if_pos h, List.drop_eq_nil_of_le (show l.length ≤ n + 1 by omega), List.drop_eq_nil_of_le (show (l.take n).length ≤ i by rw [List.length_take]; omega)]; simp
    · rw [if_neg h, List.drop_eq_nil_of_le (by omega)]; simp
  | succ d ih =>
    intro i out hd hi ho
    have h : i < l.length := by omega
    refine Ev.step (fun k => by simp only [backhaulref13_Without.l0]; rfl) ?_
    refine Ev.pos (by omega) ?_
    rw [wrap_eq (by omega) (by omega)]
    refine Ev.ite (fun h1 => ?_) (fun h1 => ?_)
    · have h1' : i = n := by omega
      subst h1'
      refine Ev.eq (ih (i + 1) _ (by omega) (by omega) (by omega)) ?_
      rw [if_neg (by omega), if_pos (Nat.le_refl _), List.drop_eq_nil_of_le (show (l.take i).length ≤ i by simp; omega)]
      simp
    · refine Ev.pos (by omega) (Ev.pos (by omega) ?_)
      rw [rdOf_nat h]
      refine Ev.eq (ih (i + 1) _ (by omega) (by omega) (by simp; omega)) ?_
      by_cases h3 : i < n
      · rw [if_pos (by omega), if_pos (by omega)]
        have h4 : i < (l.take n).length := by rw [List.length_take]; omega
        rw [drop_cons h4, List.getElem_take]
        simp
      · rw [if_neg (by omega), if_neg (by omega), drop_cons h]
        simp
theorem ref_Without_f {l : List ByteArray} {a : Int} (hl : l.length < 1000000) : Ev (fun k => backhaulref13_Without.f k l a) (withoutS l a) := by
  unfold backhaulref13_Without.f withoutS
  refine Ev.ite (fun h => ?_) (fun h => ?_)
  · rw [if_pos (.inl h)]
    exact Ev.step (fun k => by simp only [backhaulref13_Without.j0]; rfl) (Ev.pos (show true = true from rfl) (Ev.ok rfl))
  · refine Ev.step (fun k => by simp only [backhaulref13_Without.j0]; rfl) ?_
    refine Ev.ite (fun h1 => Ev.ok ?_) (fun h1 => ?_)
    · rw [if_pos (.inr (by simpa using h1))]
    · have h1' : ¬ a ≥ (l.length : Int) := by simpa using h1
      rw [if_neg (by omega)]
      obtain ⟨n, rfl⟩ := Int.eq_ofNat_of_zero_le (show 0 ≤ a by omega)
      refine Ev.eq (ref_Without_l0 hl l.length 0 [] (by omega) (by omega) (by simp)) ?_
      simp
theorem ref_Set_f {l : List ByteArray} {a : Int} {v : ByteArray} (hl : l.length < 1000000) : backhaulref13_Set.f l a v = some (setS l a v) := by
  unfold backhaulref13_Set.f setS
  by_cases h : a < 0
  · rw [if_pos h, if_pos (.inl h)]
  · rw [if_neg h]
    by_cases h1 : a ≥ (l.length : Int)
    · rw [if_pos h1, if_pos (.inr h1)]
    · rw [if_neg h1, if_neg (by omega)]
      obtain ⟨n, rfl⟩ := Int.eq_ofNat_of_zero_le (show 0 ≤ a by omega)
      simp only [Option.bind_some, List.nil_append, List.length_nil, Int.toNat_natCast]
      rw [if_pos (by omega), if_pos (by omega), if_pos (by omega), List.set_eq_take_append_cons_drop, if_pos (by omega)]
/-- The last ones of a list. -/
def lastS (l : List ByteArray) (n : Int) : List ByteArray := l.drop (l.length - n.toNat)
theorem ref_Last_l0 {l : List ByteArray} {n : Int} (hl : l.length < 1000000) (d : Nat) : ∀ (i : Nat) (out : List ByteArray), l.length - i = d → i ≤ l.length → out.length ≤ i →
    Ev (fun k => backhaulref13_Last.l0 k l n out (i : Int)) (out ++ l.drop (max i (l.length - n.toNat))) := by
  induction d with
  | zero =>
    intro i out hd hi ho
    refine Ev.step (fun k => by simp only [backhaulref13_Last.l0]; rfl) ?_
    refine Ev.neg (by omega) (Ev.ok ?_)
    rw [List.drop_eq_nil_of_le (by omega)]; simp
  | succ d ih =>
    intro i out hd hi ho
    have h : i < l.length := by omega
    refine Ev.step (fun k => by simp only [backhaulref13_Last.l0]; rfl) ?_
    refine Ev.pos (by omega) ?_
    rw [wrap_eq (x := (l.length : Int) - i) (by omega) (by omega), wrap_eq (x := (i : Int) + 1) (by omega) (by omega)]
    refine Ev.ite (fun h1 => ?_) (fun h1 => ?_)
    · refine Ev.pos (by omega) (Ev.pos (by omega) ?_)
      rw [rdOf_nat h]
      refine Ev.eq (ih (i + 1) _ (by omega) (by omega) (by simp; omega)) ?_
      rw [show max i (l.length - n.toNat) = i by omega, show max (i + 1) (l.length - n.toNat) = i + 1 by omega, drop_cons h]
      simp
    · refine Ev.eq (ih (i + 1) _ (by omega) (by omega) (by omega)) ?_
      rw [show max i (l.length - n.toNat) = max (i + 1) (l.length - n.toNat) by omega]
theorem ref_Last_f {l : List ByteArray} {n : Int} (hl : l.length < 1000000) : Ev (fun k => backhaulref13_Last.f k l n) (lastS l n) := by
  unfold backhaulref13_Last.f lastS
  refine Ev.eq (ref_Last_l0 hl l.length 0 [] (by omega) (by omega) (by simp)) ?_
  simp
end Go.Proofs.Ytabapiofkipkoaa.Q
