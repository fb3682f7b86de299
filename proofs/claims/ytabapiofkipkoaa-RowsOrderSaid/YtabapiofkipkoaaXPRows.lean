/- What the numbers' and rows' functions come to (rows.Rising, rows.Find and the document's): plain specifications. Condition: a list's length is below 2^63 - 1. -/
import Derived.Test.YtabapiofkipkoaaXPure
import Derived.Test.YtabapiofkipkoaaF21
import Derived.Test.YtabapiofkipkoaaF22
import Derived.Test.YtabapiofkipkoaaF19
import Derived.Test.YtabapiofkipkoaaF20
set_option linter.unusedVariables false
namespace Go.Proofs.Ytabapiofkipkoaa.Q
open Go.RowKit Go.Proofs.Ytabapiofkipkoaa.F Go.Proofs.YtabapiofkipkoaaW.PrintWords Go.Proofs.YtabapiofkipkoaaW.PrintLast Go.Proofs.YtabapiofkipkoaaW.PrintMore

def rising (last : Int) : List Int → Int
  | [] => 0
  | x :: xs => if x < 1 ∨ x > 999999 then 31 else if x ≤ last then 32 else rising x xs

theorem rows_Rising_l0 {l : List Int} (hl : l.length < 9223372036854775807) (d : Nat) : ∀ (i : Nat) (last : Int), l.length - i = d → i ≤ l.length →
    Ev (fun k => rows_Rising.l0 k last l (l.length : Int) (i : Int)) (rising last (l.drop i)) := by
  induction d with
  | zero =>
    intro i last hd hi
    refine Ev.step (fun k => by simp only [rows_Rising.l0]; rfl) ?_
    refine Ev.neg (by omega) (Ev.ok ?_)
    rw [List.drop_eq_nil_of_le (by omega)]; rfl
  | succ d ih =>
    intro i last hd hi
    have h : i < l.length := by omega
    refine Ev.step (fun k => by simp only [rows_Rising.l0]; rfl) ?_
    refine Ev.pos (by omega) (Ev.pos (by omega) (Ev.pos (by omega) ?_))
    rw [drop_cons h, rd_nat h]
    have hj : ∀ b : Bool, (b = true ↔ (l[i] < 1 ∨ l[i] > 999999)) → Ev (fun k => rows_Rising.j1 k last l[i] l (l.length : Int) (i : Int) b) (rising last (l[i] :: l.drop (i + 1))) := by
      intro b hb
      refine Ev.step (fun k => by simp only [rows_Rising.j1]; rfl) ?_
      simp only [rising]
      refine Ev.ite (fun h1 => ?_) (fun h1 => ?_)
      · rw [if_pos (hb.1 h1)]; exact Ev.ok rfl
      · rw [if_neg (fun h2 => h1 (hb.2 h2))]
        refine Ev.ite (fun h2 => ?_) (fun h2 => ?_)
        · rw [if_pos h2]; exact Ev.ok rfl
        · rw [if_neg h2, wrap_eq (by omega) (by omega)]
          exact ih (i + 1) l[i] (by omega) (by omega)
    refine Ev.ite (fun h1 => hj true (by simp [h1])) (fun h1 => hj _ (by simp; omega))
theorem rows_Rising_f {l : List Int} (hl : l.length < 9223372036854775807) : Ev (fun k => rows_Rising.f k l) (rising 0 l) := by
  unfold rows_Rising.f
  exact rows_Rising_l0 hl l.length 0 0 (by omega) (by omega)

theorem ref_Rising_l0 {l : List Int} (hl : l.length < 9223372036854775807) (d : Nat) : ∀ (i : Nat), l.length - i = d → i ≤ l.length →
    Ev (fun k => backhaulref13_Rising.l0 k l (i : Int)) (rising (if i = 0 then 0 else l.getD (i - 1) 0) (l.drop i)) := by
  induction d with
  | zero =>
    intro i hd hi
    refine Ev.step (fun k => by simp only [backhaulref13_Rising.l0]; rfl) ?_
    refine Ev.neg (by omega) (Ev.ok ?_)
    rw [List.drop_eq_nil_of_le (by omega)]; rfl
  | succ d ih =>
    intro i hd hi
    have h : i < l.length := by omega
    refine Ev.step (fun k => by simp only [backhaulref13_Rising.l0]; rfl) ?_
    refine Ev.pos (by omega) (Ev.pos (by omega) ?_)
    rw [drop_cons h, rd_nat h]
    have ih' := ih (i + 1) (by omega) (by omega)
    rw [if_neg (by omega), Nat.add_sub_cancel, List.getD_eq_getElem?_getD, List.getElem?_eq_getElem h, Option.getD_some] at ih'
    have hj : ∀ b : Bool, (b = true ↔ (l[i] < 1 ∨ l[i] > 999999)) → Ev (fun k => backhaulref13_Rising.j1 k l (i : Int) b) (rising (if i = 0 then 0 else l.getD (i - 1) 0) (l[i] :: l.drop (i + 1))) := by
      intro b hb
      refine Ev.step (fun k => by simp only [backhaulref13_Rising.j1]; rfl) ?_
      simp only [rising]
      refine Ev.ite (fun h1 => ?_) (fun h1 => ?_)
      · rw [if_pos (hb.1 h1)]; exact Ev.ok rfl
      · have hn : ¬ (l[i] < 1 ∨ l[i] > 999999) := fun h2 => h1 (hb.2 h2)
        rw [if_neg hn]
        refine Ev.ite (fun h2 => ?_) (fun h2 => ?_)
        · rw [wrap_eq (by omega) (by omega)]
          have hi1 : ((i : Int) - 1) = ((i - 1 : Nat) : Int) := by omega
          have hg : l.getD (i - 1) 0 = l[i - 1] := by simp [List.getD_eq_getElem?_getD, show i - 1 < l.length by omega]
          rw [if_neg (show ¬ i = 0 by omega), hi1, rd_nat (show i - 1 < l.length by omega), rd_nat h, hg]
          refine Ev.pos (by omega) (Ev.pos (by omega) (Ev.pos (by omega) (Ev.pos (by omega) ?_)))
          refine Ev.ite (fun h3 => ?_) (fun h3 => ?_)
          · rw [if_pos h3]; exact Ev.ok rfl
          · rw [if_neg h3, wrap_eq (by omega) (by omega)]; exact ih'
        · rw [if_pos (show i = 0 by omega), if_neg (by omega), wrap_eq (by omega) (by omega)]; exact ih'
    refine Ev.ite (fun h1 => hj true (by simp [h1])) (fun h1 => hj _ (by simp; omega))
theorem ref_Rising_f {l : List Int} (hl : l.length < 9223372036854775807) : Ev (fun k => backhaulref13_Rising.f k l) (rising 0 l) := by
  unfold backhaulref13_Rising.f
  exact ref_Rising_l0 hl l.length 0 (by omega) (by omega)
/-- Where a number stands; or, where it isn't there, where it would stand. -/
def find (l : List Int) (id : Int) : Int × Bool := if id ∈ l then ((l.idxOf id : Int), true) else (if rising 0 l = 0 then (l.countP (fun x => decide (x < id)) : Int) else l.length, false)

theorem rising_zero {last : Int} {l : List Int} (h : rising last l = 0) : (∀ x ∈ l, last < x ∧ 1 ≤ x ∧ x ≤ 999999) ∧ l.Pairwise (· < ·) := by
  induction l generalizing last with
  | nil => simp
  | cons x xs ih =>
    simp only [rising] at h
    split at h
    · cases h
    · split at h
      · cases h
      · obtain ⟨a, b⟩ := ih h
        refine ⟨fun y hy => ?_, List.pairwise_cons.2 ⟨fun y hy => (a y hy).1, b⟩⟩
        rcases List.mem_cons.1 hy with rfl | hy
        · omega
        · have := a y hy; omega
theorem rising_of {last : Int} {l : List Int} (h1 : ∀ x ∈ l, last < x ∧ 1 ≤ x ∧ x ≤ 999999) (h2 : l.Pairwise (· < ·)) : rising last l = 0 := by
  induction l generalizing last with
  | nil => rfl
  | cons x xs ih =>
    have hx := h1 x List.mem_cons_self
    obtain ⟨a, b⟩ := List.pairwise_cons.1 h2
    simp only [rising]
    rw [if_neg (by omega), if_neg (by omega)]
    exact ih (fun y hy => ⟨a y hy, (h1 y (List.mem_cons_of_mem _ hy)).2⟩) b
theorem sorted_get {l : List Int} (h : l.Pairwise (· < ·)) {i j : Nat} (hj : j < l.length) (hij : i < j) : l[i]'(by omega) < l[j] := List.pairwise_iff_getElem.1 h i j _ hj hij

theorem bs_l0 {l : List Int} {t : Int} (hl : l.length < 4611686018427387904) (hs : l.Pairwise (· < ·)) (d : Nat) : ∀ (lo hi : Nat), hi - lo = d → lo ≤ hi → hi ≤ l.length →
    (∀ j (h : j < l.length), j < lo → l[j] < t) → (∀ j (h : j < l.length), hi ≤ j → ¬ l[j] < t) →
    Ev (fun k => slices_BinarySearch_int_int.l0 k l t (l.length : Int) (lo : Int) (hi : Int)) ((l.countP (fun x => decide (x < t)) : Int), decide (t ∈ l)) := by
  induction d using Nat.strongRecOn with
  | _ d ih =>
    intro lo hi hd hlo hhi h1 h2
    refine Ev.step (fun k => by simp only [slices_BinarySearch_int_int.l0]; rfl) ?_
    by_cases hlt : lo < hi
    · have hw : wrap64 ((IntKind.u64.wrap (wrap64 ((lo : Int) + (hi : Int)))) / 2) = (((lo + hi) / 2 : Nat) : Int) := by
        rw [wrap_eq (x := (lo : Int) + (hi : Int)) (by omega) (by omega), u64_eq (x := (lo : Int) + (hi : Int)) (by omega) (by omega), wrap_eq (x := ((lo : Int) + (hi : Int)) / 2) (by omega) (by omega)]; omega
      have hm : (lo + hi) / 2 < l.length := by omega
      rw [hw]
      refine Ev.pos (by omega) (Ev.pos (by omega) (Ev.pos (by omega) ?_))
      rw [rd_nat hm]
      refine Ev.bindc (a := decide (l[(lo + hi) / 2] < t)) (by simp [cmp_Less_int.f, cmp_isNaN_int.f]) ?_
      refine Ev.ite (fun hc => ?_) (fun hc => ?_)
      · have hc' : l[(lo + hi) / 2] < t := by simpa using hc
        rw [wrap_eq (by omega) (by omega)]
        refine ih (hi - ((lo + hi) / 2 + 1)) (by omega) ((lo + hi) / 2 + 1) hi rfl (by omega) hhi (fun j hj hjl => ?_) h2
        rcases Nat.lt_or_ge j ((lo + hi) / 2) with hlt2 | hge
        · have := sorted_get hs hm hlt2; omega
        · have : j = (lo + hi) / 2 := by omega
          subst this; exact hc'
      · have hc' : ¬ l[(lo + hi) / 2] < t := by simpa using hc
        refine ih ((lo + hi) / 2 - lo) (by omega) lo ((lo + hi) / 2) rfl (by omega) (by omega) h1 (fun j hj hjl => ?_)
        rcases Nat.lt_or_ge ((lo + hi) / 2) j with hlt2 | hge
        · have := sorted_get hs hj hlt2; omega
        · have : j = (lo + hi) / 2 := by omega
          subst this; exact hc'
    · have he : lo = hi := by omega
      subst he
      have hcount : l.countP (fun x => decide (x < t)) = lo := countP_split hhi (fun j hj hjl => by simpa using h1 j hj hjl) (fun j hj hjl => by simpa using h2 j hj hjl)
      rw [hcount]
      refine Ev.neg (by omega) ?_
      refine Ev.ite (fun hc => ?_) (fun hc => ?_)
      · have hlo' : lo < l.length := by omega
        refine Ev.pos (by omega) (Ev.pos (by omega) ?_)
        rw [rd_nat hlo']
        refine Ev.ite (fun he => ?_) (fun he => ?_)
        · refine Ev.ok ?_
          have : t ∈ l := he ▸ List.getElem_mem hlo'
          simp [this]
        · refine Ev.bindc (a := false) (by simp [slices_isNaN_int.f]) ?_
          refine Ev.neg (by simp) (Ev.ok ?_)
          have : ¬ t ∈ l := by
            intro hmem
            obtain ⟨j, hj, hjt⟩ := List.mem_iff_getElem.1 hmem
            rcases Nat.lt_trichotomy j lo with h | h | h
            · have := h1 j hj h; omega
            · subst h; exact he hjt
            · have := sorted_get hs hj h; have := h2 lo hlo' (Nat.le_refl _); omega
          simp [this]
      · refine Ev.ok ?_
        have : ¬ t ∈ l := by
          intro hmem
          obtain ⟨j, hj, hjt⟩ := List.mem_iff_getElem.1 hmem
          have := h1 j hj (by omega); omega
        simp [this]
theorem bs_f {l : List Int} {t : Int} (hl : l.length < 4611686018427387904) (hs : l.Pairwise (· < ·)) :
    Ev (fun k => slices_BinarySearch_int_int.f k l t) ((l.countP (fun x => decide (x < t)) : Int), decide (t ∈ l)) := by
  unfold slices_BinarySearch_int_int.f
  exact bs_l0 hl hs l.length 0 l.length (by omega) (by omega) (by omega) (fun j hj h => by omega) (fun j hj h => by omega)

theorem index_l0 {l : List Int} {t : Int} (hl : l.length < 9223372036854775807) (d : Nat) : ∀ (i : Nat), l.length - i = d → i ≤ l.length → (∀ j (h : j < l.length), j < i → l[j] ≠ t) →
    Ev (fun k => slices_Index_int_int.l0 k l t (l.length : Int) (i : Int)) (if t ∈ l then (l.idxOf t : Int) else -1) := by
  induction d with
  | zero =>
    intro i hd hi h1
    refine Ev.step (fun k => by simp only [slices_Index_int_int.l0]; rfl) ?_
    refine Ev.neg (by omega) (Ev.ok ?_)
    have : ¬ t ∈ l := by
      intro hmem
      obtain ⟨j, hj, hjt⟩ := List.mem_iff_getElem.1 hmem
      exact h1 j hj (by omega) hjt
    rw [if_neg this]
  | succ d ih =>
    intro i hd hi h1
    have h : i < l.length := by omega
    refine Ev.step (fun k => by simp only [slices_Index_int_int.l0]; rfl) ?_
    refine Ev.pos (by omega) (Ev.pos (by omega) (Ev.pos (by omega) ?_))
    rw [rd_nat h]
    refine Ev.ite (fun he => Ev.ok ?_) (fun he => ?_)
    · rw [if_pos (he ▸ List.getElem_mem h)]
      rw [idxOf_first h he.symm h1]
    · rw [wrap_eq (by omega) (by omega)]
      exact ih (i + 1) (by omega) (by omega) (fun j hj hjl => by
        rcases Nat.lt_or_ge j i with h2 | h2
        · exact h1 j hj h2
        · have : j = i := by omega
          subst this; exact fun e => he e.symm)
theorem index_f {l : List Int} {t : Int} (hl : l.length < 9223372036854775807) : Ev (fun k => slices_Index_int_int.f k l t) (if t ∈ l then (l.idxOf t : Int) else -1) := by
  unfold slices_Index_int_int.f
  exact index_l0 hl l.length 0 (by omega) (by omega) (fun j hj h => by omega)

theorem idxOf_sorted {l : List Int} {t : Int} (hs : l.Pairwise (· < ·)) (hm : t ∈ l) : l.idxOf t = l.countP (fun x => decide (x < t)) := by
  obtain ⟨i, hi, he⟩ := List.mem_iff_getElem.1 hm
  have h1 : ∀ j (h : j < l.length), j < i → l[j] < t := fun j hj h => he ▸ sorted_get hs hi h
  rw [idxOf_first hi he (fun j hj h => by have := h1 j hj h; omega)]
  refine (countP_split (by omega) (fun j hj h => by simpa using h1 j hj h) (fun j hj h => ?_)).symm
  have : t ≤ l[j] := by
    rcases Nat.lt_or_ge i j with h2 | h2
    · have := sorted_get hs hj h2; omega
    · have : j = i := by omega
      subst this; omega
  simpa using this
theorem rows_Find_f {l : List Int} {id : Int} (hl : l.length < 4611686018427387904) : Ev (fun k => rows_Find.f k l id) (find l id) := by
  unfold rows_Find.f find
  refine Ev.bind (rows_Rising_f (by omega)) (Ev.ite (fun h => ?_) (fun h => ?_))
  · have hs := (rising_zero h).2
    refine Ev.bind (bs_f (by omega) hs) (Ev.ok ?_)
    by_cases hm : id ∈ l
    · simp [hm, idxOf_sorted hs hm]
    · simp [hm, h]
  · refine Ev.bind (index_f (by omega)) ?_
    by_cases hm : id ∈ l
    · rw [if_pos hm, if_pos hm]
      refine Ev.pos (by omega) (Ev.ok rfl)
    · rw [if_neg hm, if_neg hm, if_neg h]
      exact Ev.neg (by omega) (Ev.ok rfl)

theorem ref_Find_l1 {l : List Int} {id : Int} (hl : l.length < 9223372036854775807) (hs : l.Pairwise (· < ·)) (hm : ¬ id ∈ l) : ∀ (n : Nat), n ≤ l.length → (∀ j (h : j < l.length), n ≤ j → ¬ l[j] < id) →
    Ev (fun k => backhaulref13_Find.l1 k l id (n : Int)) ((l.countP (fun x => decide (x < id)) : Int), false) := by
  intro n
  induction n with
  | zero =>
    intro hn h1
    refine Ev.step (fun k => by simp only [backhaulref13_Find.l1]; rfl) ?_
    refine Ev.neg (by omega) (Ev.ok ?_)
    rw [countP_split (n := 0) (by omega) (fun j hj h => by omega) (fun j hj h => by simpa using h1 j hj h)]
  | succ n ih =>
    intro hn h1
    refine Ev.step (fun k => by simp only [backhaulref13_Find.l1]; rfl) ?_
    have e : wrap64 (((n + 1 : Nat) : Int) - 1) = (n : Int) := by rw [wrap_eq (by omega) (by omega)]; omega
    rw [e]
    refine Ev.pos (by omega) (Ev.pos (by omega) (Ev.pos (by omega) ?_))
    have h : n < l.length := by omega
    rw [rd_nat h]
    refine Ev.ite (fun hc => ih (by omega) (fun j hj hjl => ?_)) (fun hc => Ev.ok ?_)
    · rcases Nat.lt_or_ge n j with h2 | h2
      · exact h1 j hj h2
      · have : j = n := by omega
        subst this; omega
    · have hne : l[n] ≠ id := fun e => hm (e ▸ List.getElem_mem h)
      rw [countP_split (n := n + 1) (by omega) (fun j hj hjl => ?_) (fun j hj hjl => by simpa using h1 j hj hjl)]
      rcases Nat.lt_or_ge j n with h2 | h2
      · have := sorted_get hs h h2; simp; omega
      · have : j = n := by omega
        subst this; simp; omega
theorem ref_Find_l0 {l : List Int} {id : Int} (hl : l.length < 9223372036854775807) (d : Nat) : ∀ (i : Nat), l.length - i = d → i ≤ l.length → (∀ j (h : j < l.length), j < i → l[j] ≠ id) →
    Ev (fun k => backhaulref13_Find.l0 k l id (i : Int)) (find l id) := by
  induction d with
  | zero =>
    intro i hd hi h1
    refine Ev.step (fun k => by simp only [backhaulref13_Find.l0]; rfl) ?_
    have hm : ¬ id ∈ l := by
      intro hmem
      obtain ⟨j, hj, hjt⟩ := List.mem_iff_getElem.1 hmem
      exact h1 j hj (by omega) hjt
    unfold find
    rw [if_neg hm]
    refine Ev.neg (by omega) (Ev.bind (ref_Rising_f hl) (Ev.ite (fun h => ?_) (fun h => ?_)))
    · rw [if_pos h]
      exact ref_Find_l1 hl (rising_zero h).2 hm l.length (Nat.le_refl _) (fun j hj h => by omega)
    · rw [if_neg h]; exact Ev.ok rfl
  | succ d ih =>
    intro i hd hi h1
    have h : i < l.length := by omega
    refine Ev.step (fun k => by simp only [backhaulref13_Find.l0]; rfl) ?_
    refine Ev.pos (by omega) (Ev.pos (by omega) ?_)
    rw [rd_nat h]
    refine Ev.ite (fun he => Ev.ok ?_) (fun he => ?_)
    · unfold find
      rw [if_pos (he ▸ List.getElem_mem h), idxOf_first h he h1]
    · rw [wrap_eq (by omega) (by omega)]
      exact ih (i + 1) (by omega) (by omega) (fun j hj hjl => by
        rcases Nat.lt_or_ge j i with h2 | h2
        · exact h1 j hj h2
        · have : j = i := by omega
          subst this; exact he)
theorem ref_Find_f {l : List Int} {id : Int} (hl : l.length < 9223372036854775807) : Ev (fun k => backhaulref13_Find.f k l id) (find l id) := by
  unfold backhaulref13_Find.f
  exact ref_Find_l0 hl l.length 0 (by omega) (by omega) (fun j hj h => by omega)
end Go.Proofs.Ytabapiofkipkoaa.Q
