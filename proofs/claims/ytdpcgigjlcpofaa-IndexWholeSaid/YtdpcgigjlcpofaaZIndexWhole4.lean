-- by prune.py (own program), out of the print
import Derived.Maps.Own
import Derived.Maps.OwnOps
import Derived.Maps.Views
import Derived.StringKeys
import Derived.Carry
import Derived.Deep.Slices
import Derived.ChangeArms
import Derived.WideShapes
import Derived.OpenShut
import Derived.Test.YtdpcgigjlcpofaaRows
import Derived.ProofKit
import Derived.ShutString
import Derived.ChangeOld
import Derived.SizedLaws
import Derived.Test.YtdpcgigjlcpofaaZIndexWhole3
set_option linter.unusedVariables false
namespace Go.Proofs.Ytdpcgigjlcpofaa.Q
open Go.RowKit Ytdpcgigjlcpofaa.F YtdpcgigjlcpofaaW.PrintWords YtdpcgigjlcpofaaW.PrintLast YtdpcgigjlcpofaaW.PrintMore
def rising (last : Int) : List Int → Int
  | [] => 0
  | x :: xs => if x < 1 ∨ x > 999999 then 31 else if x ≤ last then 32 else rising x xs
theorem rows_Rising_l0 {l : List Int} (hl : l.length < 9223372036854775807) (d : Nat) : ∀ (i : Nat) (last : Int), l.length - i = d → i ≤ l.length →
    Ev (fun k => rows_Rising.l0 k last l (l.length : Int) (i : Int)) (rising last (l.drop i)) := by
  induction d with
  | zero =>
    intro i last hd hi
    refine Ev.step (fun k => by simp only [rows_Rising.l0]; rfl) ?_
    refine Ev.neg (by omega) (Ev.ok ?_)
    rw [List.drop_eq_nil_of_le (by omega)]; rfl
  | succ d ih =>
    intro i last hd hi
    have h : i < l.length := by omega
    refine Ev.step (fun k => by simp only [rows_Rising.l0]; rfl) ?_
    refine Ev.pos (by omega) (Ev.pos (by omega) (Ev.pos (by omega) ?_))
    rw [drop_cons h, rd_nat h]
    have hj : ∀ b : Bool, (b = true ↔ (l[i] < 1 ∨ l[i] > 999999)) → Ev (fun k => rows_Rising.j1 k last l[i] l (l.length : Int) (i : Int) b) (rising last (l[i] :: l.drop (i + 1))) := by
      intro b hb
      refine Ev.step (fun k => by simp only [rows_Rising.j1]; rfl) ?_
      simp only [rising]
      refine Ev.ite (fun h1 => ?_) (fun h1 => ?_)
      · rw [if_pos (hb.1 h1)]; exact Ev.ok rfl
      rw [if_neg (fun h2 => h1 (hb.2 h2))]
      refine Ev.ite (fun h2 => ?_) (fun h2 => ?_)
      · rw [if_pos h2]; exact Ev.ok rfl
      rw [if_neg h2, wrap_eq (by omega) (by omega)]
      exact ih (i + 1) l[i] (by omega) (by omega)
    refine Ev.ite (fun h1 => hj true (by simp [h1])) (fun h1 => hj _ (by simp; omega))
theorem rows_Rising_f {l : List Int} (hl : l.length < 9223372036854775807) : Ev (fun k => rows_Rising.f k l) (rising 0 l) := by
  unfold rows_Rising.f
  exact rows_Rising_l0 hl l.length 0 0 (by omega) (by omega)
def find (l : List Int) (id : Int) : Int × Bool := if id ∈ l then ((l.idxOf id : Int), true) else (if rising 0 l = 0 then (l.countP (fun x => decide (x < id)) : Int) else l.length, false)
theorem rising_zero {last : Int} {l : List Int} (h : rising last l = 0) : (∀ x ∈ l, last < x ∧ 1 ≤ x ∧ x ≤ 999999) ∧ l.Pairwise (· < ·) := by
  induction l generalizing last with
  | nil => simp
  | cons x xs ih =>
    simp only [rising] at h
    split at h
    · cases h
    split at h
    · cases h
    obtain ⟨a, b⟩ := ih h
    refine ⟨fun y hy => ?_, List.pairwise_cons.2 ⟨fun y hy => (a y hy).1, b⟩⟩
    rcases List.mem_cons.1 hy with rfl | hy
    · omega
    have := a y hy; omega
theorem sorted_get {l : List Int} (h : l.Pairwise (· < ·)) {i j : Nat} (hj : j < l.length) (hij : i < j) : l[i]'(by omega) < l[j] := List.pairwise_iff_getElem.1 h i j _ hj hij
theorem bs_l0 {l : List Int} {t : Int} (hl : l.length < 4611686018427387904) (hs : l.Pairwise (· < ·)) (d : Nat) : ∀ (lo hi : Nat), hi - lo = d → lo ≤ hi → hi ≤ l.length →
    (∀ j (h : j < l.length), j < lo → l[j] < t) → (∀ j (h : j < l.length), hi ≤ j → ¬ l[j] < t) →
    Ev (fun k => slices_BinarySearch_int_int.l0 k l t (l.length : Int) (lo : Int) (hi : Int)) ((l.countP (fun x => decide (x < t)) : Int), decide (t ∈ l)) := by
  induction d using Nat.strongRecOn with
  | _ d ih =>
    intro lo hi hd hlo hhi h1 h2
    refine Ev.step (fun k => by simp only [slices_BinarySearch_int_int.l0]; rfl) ?_
    by_cases hlt : lo < hi
    · have hw : wrap64 ((IntKind.u64.wrap (wrap64 ((lo : Int) + (hi : Int)))) / 2) = (((lo + hi) / 2 : Nat) : Int) := by
        rw [wrap_eq (x := (lo : Int) + (hi : Int)) (by omega) (by omega), u64_eq (x := (lo : Int) + (hi : Int)) (by omega) (by omega), wrap_eq (x := ((lo : Int) + (hi : Int)) / 2) (by omega) (by omega)]; omega
      have hm : (lo + hi) / 2 < l.length := by omega
      rw [hw]
      refine Ev.pos (by omega) (Ev.pos (by omega) (Ev.pos (by omega) ?_))
      rw [rd_nat hm]
      refine Ev.bindc (a := decide (l[(lo + hi) / 2] < t)) (by simp [cmp_Less_int.f, cmp_isNaN_int.f]) ?_
      refine Ev.ite (fun hc => ?_) (fun hc => ?_)
      · have hc' : l[(lo + hi) / 2] < t := by simpa using hc
        rw [wrap_eq (by omega) (by omega)]
        refine ih (hi - ((lo + hi) / 2 + 1)) (by omega) ((lo + hi) / 2 + 1) hi rfl (by omega) hhi (fun j hj hjl => ?_) h2
        rcases Nat.lt_or_ge j ((lo + hi) / 2) with hlt2 | hge
        · have := sorted_get hs hm hlt2; omega
        have : j = (lo + hi) / 2 := by omega
        subst this; exact hc'
      have hc' : ¬ l[(lo + hi) / 2] < t := by simpa using hc
      refine ih ((lo + hi) / 2 - lo) (by omega) lo ((lo + hi) / 2) rfl (by omega) (by omega) h1 (fun j hj hjl => ?_)
      rcases Nat.lt_or_ge ((lo + hi) / 2) j with hlt2 | hge
      · have := sorted_get hs hj hlt2; omega
      have : j = (lo + hi) / 2 := by omega
      subst this; exact hc'
    have he : lo = hi := by omega
    subst he
    have hcount : l.countP (fun x => decide (x < t)) = lo := countP_split hhi (fun j hj hjl => by simpa using h1 j hj hjl) (fun j hj hjl => by simpa using h2 j hj hjl)
    rw [hcount]
    refine Ev.neg (by omega) ?_
    refine Ev.ite (fun hc => ?_) (fun hc => ?_)
    · have hlo' : lo < l.length := by omega
      refine Ev.pos (by omega) (Ev.pos (by omega) ?_)
      rw [rd_nat hlo']
      refine Ev.ite (fun he => ?_) (fun he => ?_)
      · refine Ev.ok ?_
        have : t ∈ l := he ▸ List.getElem_mem hlo'
        simp [this]
      refine Ev.bindc (a := false) (by simp [slices_isNaN_int.f]) ?_
      refine Ev.neg (by simp) (Ev.ok ?_)
      have : ¬ t ∈ l := by
        intro hmem
        obtain ⟨j, hj, hjt⟩ := List.mem_iff_getElem.1 hmem
        rcases Nat.lt_trichotomy j lo with h | h | h
        · have := h1 j hj h; omega
        · subst h; exact he hjt
        have := sorted_get hs hj h; have := h2 lo hlo' (Nat.le_refl _); omega
      simp [this]
    refine Ev.ok ?_
    have : ¬ t ∈ l := by
      intro hmem
      obtain ⟨j, hj, hjt⟩ := List.mem_iff_getElem.1 hmem
      have := h1 j hj (by omega); omega
    simp [this]
theorem bs_f {l : List Int} {t : Int} (hl : l.length < 4611686018427387904) (hs : l.Pairwise (· < ·)) :
    Ev (fun k => slices_BinarySearch_int_int.f k l t) ((l.countP (fun x => decide (x < t)) : Int), decide (t ∈ l)) := by
  unfold slices_BinarySearch_int_int.f
  exact bs_l0 hl hs l.length 0 l.length (by omega) (by omega) (by omega) (fun j hj h => by omega) (fun j hj h => by omega)
theorem index_l0 {l : List Int} {t : Int} (hl : l.length < 9223372036854775807) (d : Nat) : ∀ (i : Nat), l.length - i = d → i ≤ l.length → (∀ j (h : j < l.length), j < i → l[j] ≠ t) →
    Ev (fun k => slices_Index_int_int.l0 k l t (l.length : Int) (i : Int)) (if t ∈ l then (l.idxOf t : Int) else -1) := by
  induction d with
  | zero =>
    intro i hd hi h1
    refine Ev.step (fun k => by simp only [slices_Index_int_int.l0]; rfl) ?_
    refine Ev.neg (by omega) (Ev.ok ?_)
    have : ¬ t ∈ l := by
      intro hmem
      obtain ⟨j, hj, hjt⟩ := List.mem_iff_getElem.1 hmem
      exact h1 j hj (by omega) hjt
    rw [if_neg this]
  | succ d ih =>
    intro i hd hi h1
    have h : i < l.length := by omega
    refine Ev.step (fun k => by simp only [slices_Index_int_int.l0]; rfl) ?_
    refine Ev.pos (by omega) (Ev.pos (by omega) (Ev.pos (by omega) ?_))
    rw [rd_nat h]
    refine Ev.ite (fun he => Ev.ok ?_) (fun he => ?_)
    · rw [if_pos (he ▸ List.getElem_mem h)]
      rw [idxOf_first h he.symm h1]
    rw [wrap_eq (by omega) (by omega)]
    exact ih (i + 1) (by omega) (by omega) (fun j hj hjl => by
      rcases Nat.lt_or_ge j i with h2 | h2
      · exact h1 j hj h2
      have : j = i := by omega
      subst this; exact fun e => he e.symm)
theorem index_f {l : List Int} {t : Int} (hl : l.length < 9223372036854775807) : Ev (fun k => slices_Index_int_int.f k l t) (if t ∈ l then (l.idxOf t : Int) else -1) := by
  unfold slices_Index_int_int.f
  exact index_l0 hl l.length 0 (by omega) (by omega) (fun j hj h => by omega)
theorem idxOf_sorted {l : List Int} {t : Int} (hs : l.Pairwise (· < ·)) (hm : t ∈ l) : l.idxOf t = l.countP (fun x => decide (x < t)) := by
  obtain ⟨i, hi, he⟩ := List.mem_iff_getElem.1 hm
  have h1 : ∀ j (h : j < l.length), j < i → l[j] < t := fun j hj h => he ▸ sorted_get hs hi h
  rw [idxOf_first hi he (fun j hj h => by have := h1 j hj h; omega)]
  refine (countP_split (by omega) (fun j hj h => by simpa using h1 j hj h) (fun j hj h => ?_)).symm
  have : t ≤ l[j] := by
    rcases Nat.lt_or_ge i j with h2 | h2
    · have := sorted_get hs hj h2; omega
    have : j = i := by omega
    subst this; omega
  simpa using this
theorem rows_Find_f {l : List Int} {id : Int} (hl : l.length < 4611686018427387904) : Ev (fun k => rows_Find.f k l id) (find l id) := by
  unfold rows_Find.f find
  refine Ev.bind (rows_Rising_f (by omega)) (Ev.ite (fun h => ?_) (fun h => ?_))
  · have hs := (rising_zero h).2
    refine Ev.bind (bs_f (by omega) hs) (Ev.ok ?_)
    by_cases hm : id ∈ l
    · simp [hm, idxOf_sorted hs hm]
    simp [hm, h]
  refine Ev.bind (index_f (by omega)) ?_
  by_cases hm : id ∈ l
  · rw [if_pos hm, if_pos hm]
    refine Ev.pos (by omega) (Ev.ok rfl)
  rw [if_neg hm, if_neg hm, if_neg h]
  exact Ev.neg (by omega) (Ev.ok rfl)
end Go.Proofs.Ytdpcgigjlcpofaa.Q
set_option linter.unusedSimpArgs false
namespace Go.Proofs.Ytdpcgigjlcpofaa.Q
open Go.RowKit Ytdpcgigjlcpofaa.F YtdpcgigjlcpofaaX YtdpcgigjlcpofaaW.PrintWords YtdpcgigjlcpofaaW.PrintLast YtdpcgigjlcpofaaW.PrintMore
abbrev PrT := S146
theorem prT_ext {p q : PrT} (h0 : p.f0 = q.f0) (h1 : p.f1 = q.f1) : p = q := by
  cases p; cases q
  simp only at h0 h1
  rw [h0, h1]
def pairsOf : List ByteArray → List (List Int) → List PrT
  | k :: ks, l :: is => l.map (fun i => (⟨k, i⟩ : PrT)) ++ pairsOf ks is
  | _, _ => []
def okI (ks : List ByteArray) (is : List (List Int)) : Prop := rowG none ks = 0 ∧ ks.length = is.length ∧ ∀ l ∈ is, l ≠ [] ∧ rising 0 l = 0
def sumL (is : List (List Int)) : Nat := (is.map List.length).sum
theorem pairs_append : ∀ (A : List ByteArray) (C : List (List Int)) {B : List ByteArray} {D : List (List Int)}, A.length = C.length → pairsOf (A ++ B) (C ++ D) = pairsOf A C ++ pairsOf B D
  | [], [], _, _, _ => rfl
  | [], _ :: _, _, _, h => by simp at h
  | _ :: _, [], _, _, h => by simp at h
  | a :: A, c :: C, B, D, h => by
    simp only [List.length_cons] at h
    simp only [List.cons_append, pairsOf, pairs_append A C (by omega), List.append_assoc]
theorem pairs_key {p : PrT} : ∀ (A : List ByteArray) (C : List (List Int)), p ∈ pairsOf A C → p.f0 ∈ A
  | [], _, h => by simp [pairsOf] at h
  | a :: A, [], h => by simp [pairsOf] at h
  | a :: A, c :: C, h => by
    simp only [pairsOf, List.mem_append, List.mem_map] at h
    rcases h with ⟨i, _, rfl⟩ | h
    · exact List.mem_cons_self
    exact List.mem_cons_of_mem _ (pairs_key A C h)
theorem pairs_len : ∀ (A : List ByteArray) (C : List (List Int)), A.length = C.length → (pairsOf A C).length = sumL C
  | [], [], _ => rfl
  | [], _ :: _, h => by simp at h
  | _ :: _, [], h => by simp at h
  | a :: A, c :: C, h => by
    simp only [List.length_cons] at h
    have := pairs_len A C (by omega)
    simp only [pairsOf, List.length_append, List.length_map, sumL, List.map_cons, List.sum_cons] at this ⊢
    omega
theorem ok_part {A B : List ByteArray} {C D : List (List Int)} {s : ByteArray} {l : List Int} (hl : A.length = C.length) (h : okI (A ++ s :: B) (C ++ l :: D)) :
    pairsOf (A ++ s :: B) (C ++ l :: D) = pairsOf A C ++ (l.map (fun i => (⟨s, i⟩ : PrT)) ++ pairsOf B D) ∧ s ∉ A ∧ s ∉ B := by
  refine ⟨pairs_append A C hl, fun g => ?_, fun g => ?_⟩
  · have := (rowG_zero h.1).2.1
    rw [List.pairwise_append] at this
    exact lt8_irrefl s (this.2.2 s g s List.mem_cons_self)
  have := (rowG_zero h.1).2.1
  rw [List.pairwise_append] at this
  exact lt8_irrefl s ((List.pairwise_cons.1 this.2.1).1 s g)
theorem serial_check_f (s : ByteArray) (hs : s.size < 9223372036854775807) : serial_Check.f s = some (checkS s) := by
  unfold serial_Check.f serial_Fold.f checkS
  rw [if_pos hs, Option.bind_some]
  have e : (foldS s).1.toList = s.toList ↔ (foldS s).1 = s := by
    constructor
    · intro h
      rw [ByteArray.toList_eq, ByteArray.toList_eq] at h
      generalize (foldS s).1 = a at *
      cases a; cases s
      simpa [Array.toList_inj] using h
    intro h; rw [h]
  by_cases h1 : (foldS s).2 = 0
  · rw [if_pos h1]
    by_cases h2 : (foldS s).1.toList = s.toList
    · rw [if_pos h2, if_pos ⟨h1, e.1 h2⟩]
    rw [if_neg h2, if_neg (fun x => h2 (e.2 x.2))]
  rw [if_neg h1, if_neg (fun x => h1 x.1)]
theorem serial_row_l0 {l : List ByteArray} (hl : l.length < 4611686018427387904) (hs : ∀ x ∈ l, x.size < 1099511627776) (d : Nat) : ∀ (i : Nat), l.length - i = d → i ≤ l.length → Ev (fun k => serial_Row.l0 k l l (l.length : Int) (i : Int)) (rowG (if i = 0 then none else l[i - 1]?) (l.drop i)) := by
  induction d with
  | zero =>
    intro i hd hi
    refine Ev.step (fun k => by simp only [serial_Row.l0]; rfl) ?_
    refine Ev.neg (by omega) (Ev.ok ?_)
    rw [List.drop_eq_nil_of_le (by omega)]; rfl
  | succ d ih =>
    intro i hd hi
    have h : i < l.length := by omega
    refine Ev.step (fun k => by simp only [serial_Row.l0]; rfl) ?_
    refine Ev.pos (by omega) (Ev.pos (by omega) (Ev.pos (by omega) ?_))
    rw [drop_cons h, rdOf_nat h, wrap_eq (x := (i : Int) + 1) (by omega) (by omega)]
    have ih' := ih (i + 1) (by omega) (by omega)
    rw [if_neg (by omega), Nat.add_sub_cancel, List.getElem?_eq_getElem h] at ih'
    refine Ev.bindc (serial_check_f _ (by have := hs _ (List.getElem_mem h); omega)) ?_
    simp only [rowG]
    refine Ev.ite (fun h1 => ?_) (fun h1 => ?_)
    · rw [if_pos h1]
      refine Ev.ite (fun h2 => ?_) (fun h2 => ?_)
      · have h' : i - 1 < l.length := by omega
        rw [wrap_eq (x := (i : Int) - 1) (by omega) (by omega), show (i : Int) - 1 = ((i - 1 : Nat) : Int) by omega, rdOf_nat h', if_neg (show ¬ i = 0 by omega), List.getElem?_eq_getElem h']
        refine Ev.pos (by omega) (Ev.pos (by omega) ?_)
        refine Ev.ite (fun h3 => ?_) (fun h3 => ?_)
        · rw [if_neg (by simp [notUp, h3])]; exact ih'
        rw [if_pos (by simp [notUp, h3])]; exact Ev.ok rfl
      rw [if_pos (show i = 0 by omega), if_neg (by simp [notUp])]; exact ih'
    rw [if_neg h1, (checkS_or _).resolve_left h1]; exact Ev.ok rfl
theorem serial_row_f {l : List ByteArray} (hl : l.length < 4611686018427387904) (hs : ∀ x ∈ l, x.size < 1099511627776) : Ev (fun k => serial_Row.f k l) (rowG none l) := by
  unfold serial_Row.f
  exact serial_row_l0 hl hs l.length 0 (by omega) (by omega)
theorem cmp_less_text (a b : ByteArray) : cmp_Less_string.f a b = some (Op.bytesLess a.toList b.toList) := by
  simp [cmp_Less_string.f, cmp_isNaN_string.f]
theorem bst_l0 {l : List ByteArray} {t : ByteArray} (hl : l.length < 4611686018427387904) (h0 : rowG none l = 0) (hs : l.Pairwise lt8) (d : Nat) : ∀ (lo hi : Nat), hi - lo = d → lo ≤ hi → hi ≤ l.length →
    (∀ j (h : j < l.length), j < lo → lt8 l[j] t) → (∀ j (h : j < l.length), hi ≤ j → ¬ lt8 l[j] t) →
    Ev (fun k => slices_BinarySearch_string_string.l0 k l t (l.length : Int) (lo : Int) (hi : Int)) (findT l t) := by
  induction d using Nat.strongRecOn with
  | _ d ih =>
    intro lo hi hd hlo hhi h1 h2
    refine Ev.step (fun k => by simp only [slices_BinarySearch_string_string.l0]; rfl) ?_
    by_cases hlt : lo < hi
    · have hw : wrap64 ((IntKind.u64.wrap (wrap64 ((lo : Int) + (hi : Int)))) / 2) = (((lo + hi) / 2 : Nat) : Int) := by
        rw [wrap_eq (x := (lo : Int) + (hi : Int)) (by omega) (by omega), u64_eq (x := (lo : Int) + (hi : Int)) (by omega) (by omega), wrap_eq (x := ((lo : Int) + (hi : Int)) / 2) (by omega) (by omega)]; omega
      have hm : (lo + hi) / 2 < l.length := by omega
      rw [hw]
      refine Ev.pos (by omega) (Ev.pos (by omega) (Ev.pos (by omega) ?_))
      rw [rdOf_nat hm]
      refine Ev.bindc (cmp_less_text _ _) ?_
      refine Ev.ite (fun hc => ?_) (fun hc => ?_)
      · have hc' : lt8 l[(lo + hi) / 2] t := hc
        rw [wrap_eq (by omega) (by omega)]
        refine ih (hi - ((lo + hi) / 2 + 1)) (by omega) ((lo + hi) / 2 + 1) hi rfl (by omega) hhi (fun j hj hjl => ?_) h2
        rcases Nat.lt_or_ge j ((lo + hi) / 2) with hlt2 | hge
        · exact lt8_trans (pair_get hs hm hlt2) hc'
        have : j = (lo + hi) / 2 := by omega
        subst this; exact hc'
      have hc' : ¬ lt8 l[(lo + hi) / 2] t := hc
      refine ih ((lo + hi) / 2 - lo) (by omega) lo ((lo + hi) / 2) rfl (by omega) (by omega) h1 (fun j hj hjl => ?_)
      rcases Nat.lt_or_ge ((lo + hi) / 2) j with hlt2 | hge
      · exact fun x => hc' (lt8_trans (pair_get hs hj hlt2) x)
      have : j = (lo + hi) / 2 := by omega
      subst this; exact hc'
    have he : lo = hi := by omega
    subst he
    rw [findT_sorted hs hhi h1 h2 h0]
    refine Ev.neg (by omega) ?_
    refine Ev.ite (fun hc => ?_) (fun hc => ?_)
    · have hlo' : lo < l.length := by omega
      refine Ev.pos (by omega) (Ev.pos (by omega) ?_)
      rw [rdOf_nat hlo']
      refine Ev.ite (fun he => ?_) (fun he => ?_)
      · refine Ev.ok ?_
        rw [decide_eq_true (⟨hlo', bytes_ext.1 he⟩ : ∃ h : lo < l.length, l[lo] = t)]
      refine Ev.bindc (a := false) (by simp [slices_isNaN_string.f]) ?_
      refine Ev.neg (by simp) (Ev.ok ?_)
      rw [decide_eq_false (fun x : ∃ h : lo < l.length, l[lo] = t => he (by rw [x.2]))]
    refine Ev.ok ?_
    rw [decide_eq_false (fun x : ∃ h : lo < l.length, l[lo] = t => by have := x.1; omega)]
theorem bst_f {l : List ByteArray} {t : ByteArray} (hl : l.length < 4611686018427387904) (h0 : rowG none l = 0) : Ev (fun k => slices_BinarySearch_string_string.f k l t) (findT l t) := by
  unfold slices_BinarySearch_string_string.f
  exact bst_l0 hl h0 (rowG_zero h0).2.1 l.length 0 l.length (by omega) (by omega) (by omega) (fun j hj h => by omega) (fun j hj h => by omega)
def idxI (l : List ByteArray) (t : ByteArray) : Int := match idxT l t with
  | some i => (i : Int)
  | none => -1
theorem indext_l0 {l : List ByteArray} {t : ByteArray} (hl : l.length < 4611686018427387904) (d : Nat) : ∀ (i : Nat), l.length - i = d → i ≤ l.length → (∀ j (h : j < l.length), j < i → l[j] ≠ t) →
    Ev (fun k => slices_Index_string_string.l0 k l t (l.length : Int) (i : Int)) (idxI l t) := by
  induction d with
  | zero =>
    intro i hd hi h1
    refine Ev.step (fun k => by simp only [slices_Index_string_string.l0]; rfl) ?_
    refine Ev.neg (by omega) (Ev.ok ?_)
    unfold idxI
    rw [idxT_none (fun j hj => h1 j hj (by omega))]
  | succ d ih =>
    intro i hd hi h1
    have h : i < l.length := by omega
    refine Ev.step (fun k => by simp only [slices_Index_string_string.l0]; rfl) ?_
    refine Ev.pos (by omega) (Ev.pos (by omega) (Ev.pos (by omega) ?_))
    rw [rdOf_nat h]
    refine Ev.ite (fun he => Ev.ok ?_) (fun he => ?_)
    · unfold idxI
      rw [idxT_some h (bytes_ext.1 he).symm h1]
    rw [wrap_eq (by omega) (by omega)]
    exact ih (i + 1) (by omega) (by omega) (fun j hj hjl => by
      rcases Nat.lt_or_ge j i with h2 | h2
      · exact h1 j hj h2
      have : j = i := by omega
      subst this; exact fun e => he (by rw [e]))
theorem serial_find_f {l : List ByteArray} {t : ByteArray} (hl : l.length < 4611686018427387904) (hs : ∀ x ∈ l, x.size < 1099511627776) : Ev (fun k => serial_Find.f k l t) (findT l t) := by
  unfold serial_Find.f
  refine Ev.bind (serial_row_f hl hs) (Ev.ite (fun h => Ev.bind (bst_f hl h) (Ev.ok rfl)) (fun h => ?_))
  have hi : Ev (fun k => slices_Index_string_string.f k l t) (idxI l t) := by
    unfold slices_Index_string_string.f
    exact indext_l0 hl l.length 0 (by omega) (by omega) (fun j hj h => by omega)
  refine Ev.bind hi (Ev.ok ?_)
  unfold idxI findT
  cases e : idxT l t with
  | none => simp only [if_neg h]; rfl
  | some i =>
    have : mx (i : Int) 0 = i := by unfold mx; split <;> omega
    simp [this]
theorem rdI {is : List (List Int)} {i : Nat} (h : i < is.length) : rd_L14 is (i : Int) = is[i] := by
  unfold rd_L14; simp [List.getD_eq_getElem?_getD, h]
structure Small (ks : List ByteArray) (is : List (List Int)) : Prop where
  k1 : ks.length ≤ 5000
  k2 : is.length ≤ 5000
  k3 : ∀ x ∈ ks, x.size ≤ 1000
  k4 : ∀ l ∈ is, l.length ≤ 5000
theorem sumL_cons (l : List Int) (is : List (List Int)) : sumL (l :: is) = l.length + sumL is := by unfold sumL; simp
theorem sumL_le : ∀ (is : List (List Int)), (∀ l ∈ is, l.length ≤ 5000) → sumL is ≤ 5000 * is.length
  | [], _ => by simp [sumL]
  | l :: is, h => by
    have h1 := h l List.mem_cons_self
    have h2 := sumL_le is fun x hx => h x (List.mem_cons_of_mem _ hx)
    rw [sumL_cons, List.length_cons]
    omega
section
variable {ks : List ByteArray} {is : List (List Int)} (S : Small ks is)
include S
theorem pairs_l0 (d : Nat) : ∀ (i : Nat) (n : Nat), is.length - i = d → i ≤ is.length → n + sumL (is.drop i) ≤ 25000000 → Ev (fun k => index_pairs.l0 k (n : Int) is (is.length : Int) (i : Int)) ((n + sumL (is.drop i) : Nat) : Int) := by
  have h2 := S.k2
  induction d with
  | zero =>
    intro i n hd hi hn
    refine Ev.step (fun k => by simp only [index_pairs.l0]; rfl) (Ev.neg (by omega) (Ev.ok ?_))
    rw [List.drop_eq_nil_of_le (by omega)]
    simp [sumL]
  | succ d ih =>
    intro i n hd hi hn
    have h : i < is.length := by omega
    rw [drop_cons h, sumL_cons] at hn ⊢
    refine Ev.step (fun k => by simp only [index_pairs.l0]; rfl) (Ev.pos (by omega) (Ev.pos (by omega) (Ev.pos (by omega) ?_)))
    rw [rdI h, wrap_eq (x := (i : Int) + 1) (by omega) (by omega), wrap_eq (x := (n : Int) + (is[i].length : Int)) (by omega) (by omega)]
    have := ih (i + 1) (n + is[i].length) (by omega) (by omega) (by omega)
    rw [Nat.add_assoc] at this
    exact this
theorem pairs_f : Ev (fun k => index_pairs.f k ks is) (sumL is : Int) := by
  unfold index_pairs.f
  have h2 := S.k2
  have h3 := sumL_le is S.k4
  have := pairs_l0 S is.length 0 0 (by omega) (by omega) (by rw [List.drop_zero]; omega)
  rw [List.drop_zero, Nat.zero_add] at this
  exact this
end
def badB (l : List Int) : Bool := decide (l.length = 0) || (rising 0 l != 0)
theorem badB_iff {l : List Int} : badB l = false ↔ l ≠ [] ∧ rising 0 l = 0 := by
  unfold badB
  rw [Bool.or_eq_false_iff, decide_eq_false_iff_not, bne_eq_false_iff_eq, List.length_eq_zero_iff]
theorem wrong_f {l : List Int} (hl : l.length ≤ 5000) : Ev (fun k => index_Check_1.f k l) (badB l) := by
  unfold index_Check_1.f badB
  refine Q.Ev.ite (fun c => Ev.ok ?_) (fun c => ?_)
  · rw [decide_eq_true (by omega), Bool.true_or]
  rw [decide_eq_false (by omega), Bool.false_or]
  exact Ev.bind (rows_Rising_f (by omega)) (Ev.ok rfl)
def idxB : Nat → List (List Int) → Int
  | _, [] => -1
  | i, l :: r => if badB l = true then (i : Int) else idxB (i + 1) r
theorem idxB_any : ∀ (is : List (List Int)) (i : Nat), decide (idxB i is ≥ 0) = is.any badB
  | [], i => rfl
  | l :: r, i => by
    unfold idxB
    rw [List.any_cons]
    by_cases c : badB l = true
    · rw [if_pos c, c, Bool.true_or]
      exact decide_eq_true (by omega)
    rw [if_neg c, Bool.eq_false_iff.2 c, Bool.false_or]
    exact idxB_any r (i + 1)
theorem idxfunc_l0 {is : List (List Int)} (h2 : is.length ≤ 5000) (h4 : ∀ l ∈ is, l.length ≤ 5000) (d : Nat) : ∀ i : Nat, is.length - i = d → i ≤ is.length → Ev (fun k => slices_IndexFunc_index_Check_1.l0 k is (is.length : Int) (i : Int)) (idxB i (is.drop i)) := by
  induction d with
  | zero =>
    intro i hd hi
    refine Ev.step (fun k => by simp only [slices_IndexFunc_index_Check_1.l0]; rfl) (Ev.neg (by omega) (Ev.ok ?_))
    rw [List.drop_eq_nil_of_le (by omega)]
    rfl
  | succ d ih =>
    intro i hd hi
    have h : i < is.length := by omega
    refine Ev.step (fun k => by simp only [slices_IndexFunc_index_Check_1.l0]; rfl) (Ev.pos (by omega) (Ev.pos (by omega) (Ev.pos (by omega) ?_)))
    rw [rdI h, wrap_eq (x := (i : Int) + 1) (by omega) (by omega), drop_cons h]
    refine Ev.bind (wrong_f (h4 _ (List.getElem_mem h))) (Q.Ev.ite (fun c => Ev.ok ?_) (fun c => ?_))
    · unfold idxB
      rw [if_pos c]
    unfold idxB
    rw [if_neg c]
    exact ih (i + 1) (by omega) (by omega)
theorem contains_f {is : List (List Int)} (h2 : is.length ≤ 5000) (h4 : ∀ l ∈ is, l.length ≤ 5000) : Ev (fun k => slices_ContainsFunc_index_Check_1.f k is) (is.any badB) := by
  unfold slices_ContainsFunc_index_Check_1.f slices_IndexFunc_index_Check_1.f
  have := idxfunc_l0 h2 h4 is.length 0 (by omega) (by omega)
  rw [List.drop_zero] at this
  exact Ev.bind this (Ev.ok (idxB_any is 0))
def okB (ks : List ByteArray) (is : List (List Int)) : Bool := decide (rowG none ks = 0) && (decide (ks.length = is.length) && !is.any badB)
theorem okB_iff {ks : List ByteArray} {is : List (List Int)} : okB ks is = true ↔ okI ks is := by
  unfold okB okI
  rw [Bool.and_eq_true, Bool.and_eq_true, decide_eq_true_eq, decide_eq_true_eq, Bool.not_eq_true', List.any_eq_false]
  refine and_congr Iff.rfl (and_congr Iff.rfl ⟨fun h l hl => badB_iff.1 (Bool.eq_false_iff.2 (h l hl)), fun h l hl => by rw [badB_iff.2 (h l hl)]; decide⟩)
def chkI (ks : List ByteArray) (is : List (List Int)) : Int := if okB ks is = true ∧ sumL is ≤ 2000 then 0 else 40
section
variable {ks : List ByteArray} {is : List (List Int)} (S : Small ks is)
include S
theorem sizes_k : ks.length < 4611686018427387904 ∧ ∀ x ∈ ks, x.size < 1099511627776 := by
  have := S.k1
  exact ⟨by omega, fun x hx => by have := S.k3 x hx; omega⟩
theorem icheck_f : Ev (fun k => index_Check.f k ks is) (chkI ks is) := by
  have hz := sizes_k S
  have j0 : ∀ u : Bool, u = true → ¬ (okB ks is = true ∧ sumL is ≤ 2000) → Ev (fun k => index_Check.j0 k u ks is) (chkI ks is) := fun u hu hn =>
    Ev.step (fun k => by simp only [index_Check.j0]; rfl) (Q.Ev.pos hu (Ev.ok (by unfold chkI; rw [if_neg hn])))
  unfold index_Check.f
  refine Ev.bind (serial_row_f hz.1 hz.2) (Q.Ev.ite (fun c1 => Q.Ev.ite (fun c2 => ?_) (fun c2 => j0 true rfl ?_)) (fun c1 => j0 true rfl ?_))
  · refine Ev.bind (pairs_f S) ?_
    by_cases c3 : (sumL is : Int) > 2000
    · rw [decide_eq_true c3]
      exact j0 true rfl (fun h => by omega)
    rw [decide_eq_false c3]
    refine Ev.step (fun k => by simp only [index_Check.j0]; rfl) (Q.Ev.neg (by decide) (Ev.bind (contains_f S.k2 S.k4) (Q.Ev.ite (fun c4 => Ev.ok ?_) (fun c4 => Ev.ok ?_))))
    · unfold chkI okB
      rw [if_neg (by rw [c4]; simp)]
    have e : okB ks is = true := by
      unfold okB
      rw [decide_eq_true c1, decide_eq_true (show ks.length = is.length by omega), Bool.eq_false_iff.2 c4]
      rfl
    unfold chkI
    rw [if_pos ⟨e, by omega⟩]
  · intro h
    have := (okB_iff.1 h.1).2.1
    omega
  intro h
  exact c1 (okB_iff.1 h.1).1
end
end Go.Proofs.Ytdpcgigjlcpofaa.Q
namespace Go.Proofs.Ytdpcgigjlcpofaa.Q
open Go.RowKit Ytdpcgigjlcpofaa.F YtdpcgigjlcpofaaX YtdpcgigjlcpofaaW.PrintWords YtdpcgigjlcpofaaW.PrintLast YtdpcgigjlcpofaaW.PrintMore
theorem chk_zero {ks : List ByteArray} {is : List (List Int)} : chkI ks is = 0 ↔ okI ks is ∧ sumL is ≤ 2000 := by
  unfold chkI
  split
  · rename_i h
    exact ⟨fun _ => ⟨okB_iff.1 h.1, h.2⟩, fun _ => rfl⟩
  rename_i h
  exact ⟨fun g => (by cases g), fun g => (h ⟨okB_iff.2 g.1, g.2⟩).elim⟩
def ofP (l : List PrT) (s : ByteArray) : List Int := (l.filter fun p => decide (p.f0 = s)).map fun p => p.f1
def underP (l : List PrT) (id : Int) : List ByteArray := (l.filter fun p => decide (p.f1 = id)).map fun p => p.f0
theorem find_split {ks : List ByteArray} {is : List (List Int)} {s : ByteArray} {j : Nat} (hk : ks.length = is.length) (h : ks[j]? = some s) : ∃ hj : j < is.length, ks = ks.take j ++ s :: ks.drop (j + 1) ∧ is = is.take j ++ is[j] :: is.drop (j + 1) ∧ (ks.take j).length = (is.take j).length := by
  obtain ⟨h1, rfl⟩ := List.getElem?_eq_some_iff.1 h
  refine ⟨by omega, ?_, ?_, by simp; omega⟩
  · rw [← List.drop_eq_getElem_cons h1, List.take_append_drop]
  rw [← List.drop_eq_getElem_cons (by omega), List.take_append_drop]
theorem ofP_append (l m : List PrT) (s : ByteArray) : ofP (l ++ m) s = ofP l s ++ ofP m s := by unfold ofP; rw [List.filter_append, List.map_append]
theorem ofP_none {l : List PrT} {s : ByteArray} (h : ∀ p ∈ l, p.f0 ≠ s) : ofP l s = [] := by
  unfold ofP
  rw [List.filter_eq_nil_iff.2 (fun p hp => by simpa using h p hp)]
  rfl
theorem ofP_all (l : List Int) (s : ByteArray) : ofP (l.map fun i => (⟨s, i⟩ : PrT)) s = l := by
  unfold ofP
  rw [List.filter_eq_self.2 (fun p hp => by
    obtain ⟨i, _, rfl⟩ := List.mem_map.1 hp
    simp), List.map_map]
  exact List.map_id _
theorem of_at {ks : List ByteArray} {is : List (List Int)} {s : ByteArray} {j : Nat} (h : okI ks is) (hj : ks[j]? = some s) : ∃ hj : j < is.length, ofP (pairsOf ks is) s = is[j] := by
  obtain ⟨h1, e1, e2, e3⟩ := find_split h.2.1 hj
  refine ⟨h1, ?_⟩
  have h' := h
  rw [e1, e2] at h'
  obtain ⟨q, hA, hB⟩ := ok_part e3 h'
  have q' : pairsOf ks is = pairsOf (ks.take j ++ s :: ks.drop (j + 1)) (is.take j ++ is[j] :: is.drop (j + 1)) := by rw [← e1, ← e2]
  have n1 : ofP (pairsOf (ks.take j) (is.take j)) s = [] := ofP_none fun p hp e => hA (by rw [← e]; exact pairs_key _ _ hp)
  have n2 : ofP (pairsOf (ks.drop (j + 1)) (is.drop (j + 1))) s = [] := ofP_none fun p hp e => hB (by rw [← e]; exact pairs_key _ _ hp)
  rw [q', q, ofP_append, ofP_append, n1, ofP_all, n2]
  rw [List.nil_append, List.append_nil]
theorem of_absent {ks : List ByteArray} {is : List (List Int)} {s : ByteArray} (hs : s ∉ ks) : ofP (pairsOf ks is) s = [] := ofP_none fun p hp e => hs (by rw [← e]; exact pairs_key _ _ hp)
section
variable {ks : List ByteArray} {is : List (List Int)} (S : Small ks is)
include S
theorem index_of_f (s : ByteArray) : Ev (fun k => index_Of.f k ks is s) (if chkI ks is = 0 then ofP (pairsOf ks is) s else []) := by
  have hz := sizes_k S
  unfold index_Of.f
  refine Ev.bind (icheck_f S) (Q.Ev.ite (fun c => ?_) (fun c => Ev.ok (by rw [if_neg c])))
  rw [if_pos c]
  obtain ⟨ho, _⟩ := chk_zero.1 c
  refine Ev.bind (serial_find_f hz.1 hz.2) ?_
  cases e : idxT ks s with
  | none =>
    have e2 : (findT ks s).2 = false := by unfold findT; rw [e]
    have hs : s ∉ ks := fun hm => by
      unfold idxT at e
      rw [List.findIdx?_eq_none_iff] at e
      have := e s hm
      simp at this
    rw [of_absent hs]
    exact Q.Ev.neg (by rw [e2]; decide) (Ev.ok rfl)
  | some j =>
    obtain ⟨hj, hjs, _⟩ := idxT_get e
    have e2 : findT ks s = ((j : Int), true) := by unfold findT; rw [e]
    obtain ⟨hji, hof⟩ := of_at (s := s) ho (by rw [List.getElem?_eq_getElem hj, hjs])
    have h4 := S.k4 _ (List.getElem_mem hji)
    rw [e2, hof]
    refine Q.Ev.pos rfl (Ev.pos (by omega) (Ev.pos (by omega) ?_))
    rw [rdI hji]
    refine Q.Ev.bindc (a := is[j]) (by unfold slices_Clone_int_int_86.f; rw [if_pos (by omega)]) (Ev.ok rfl)
theorem index_count_f : Ev (fun k => index_Count.f k ks is) (if chkI ks is = 0 then (sumL is : Int) else 0) := by
  unfold index_Count.f
  refine Ev.bind (icheck_f S) (Q.Ev.ite (fun c => Ev.bind (pairs_f S) (Ev.ok (by rw [if_pos c]))) (fun c => Ev.ok (by rw [if_neg c])))
def under1 (id : Int) : List ByteArray → List (List Int) → List ByteArray
  | k :: ks, l :: is => if id ∈ l then k :: under1 id ks is else under1 id ks is
  | _, _ => []
omit S in
theorem under1_eq {id : Int} : ∀ (ks : List ByteArray) (is : List (List Int)), (∀ l ∈ is, l.Pairwise (· < ·)) → underP (pairsOf ks is) id = under1 id ks is
  | [], _, _ => by simp [pairsOf, underP, under1]
  | _ :: _, [], _ => by simp [pairsOf, underP, under1]
  | k :: ks, l :: is, h => by
    have ih := under1_eq (id := id) ks is fun x hx => h x (List.mem_cons_of_mem _ hx)
    have hl := h l List.mem_cons_self
    have key : ∀ (l : List Int), l.Pairwise (· < ·) → underP (l.map fun i => (⟨k, i⟩ : PrT)) id = if id ∈ l then [k] else [] := by
      intro l
      induction l with
      | nil => intro _; simp [underP]
      | cons x r ihl =>
        intro hp
        obtain ⟨p1, p2⟩ := List.pairwise_cons.1 hp
        have i2 := ihl p2
        unfold underP at i2 ⊢
        rw [List.map_cons]
        by_cases e : x = id
        · subst e
          have hn : x ∉ r := fun q => Int.lt_irrefl _ (p1 x q)
          rw [if_neg hn] at i2
          rw [List.filter_cons_of_pos (by simp), List.map_cons, i2, if_pos List.mem_cons_self]
        rw [List.filter_cons_of_neg (by simpa using e), i2]
        have : id ∈ x :: r ↔ id ∈ r := by rw [List.mem_cons]; exact ⟨fun q => q.resolve_left (fun q => e q.symm), .inr⟩
        simp only [this]
    simp only [pairsOf, under1]
    rw [show underP (l.map (fun i => (⟨k, i⟩ : PrT)) ++ pairsOf ks is) id = underP (l.map fun i => (⟨k, i⟩ : PrT)) id ++ underP (pairsOf ks is) id by unfold underP; rw [List.filter_append, List.map_append], key l hl, ih]
    split <;> rfl
theorem iunder_l0 (ho : okI ks is) {id : Int} (m : Nat) : ∀ (i : Nat) (out : List ByteArray), is.length - i = m → i ≤ is.length → out.length ≤ i → Ev (fun k => index_Under.l0 k id out is (is.length : Int) (i : Int) ks is) (out ++ under1 id (ks.drop i) (is.drop i)) := by
  have h2 := S.k2
  have hk := ho.2.1
  induction m with
  | zero =>
    intro i out hd hi hout
    refine Ev.step (fun k => by simp only [index_Under.l0]; rfl) (Ev.neg (by omega) (Ev.ok ?_))
    rw [List.drop_eq_nil_of_le (by omega : is.length ≤ i), List.drop_eq_nil_of_le (by omega : ks.length ≤ i)]
    simp [under1]
  | succ m ih =>
    intro i out hd hi hout
    have h : i < is.length := by omega
    have hki : i < ks.length := by omega
    have h4 := S.k4 _ (List.getElem_mem h)
    refine Ev.step (fun k => by simp only [index_Under.l0]; rfl) (Ev.pos (by omega) (Ev.pos (by omega) (Ev.pos (by omega) ?_)))
    rw [rdI h, rdOf_nat hki, wrap_eq (x := (i : Int) + 1) (by omega) (by omega), drop_cons h, drop_cons hki]
    refine Ev.bind (rows_Find_f (by omega)) ?_
    have e : (find is[i] id).2 = decide (id ∈ is[i]) := by
      unfold find
      split
      · rename_i g; exact (decide_eq_true g).symm
      rename_i g; exact (decide_eq_false g).symm
    rw [e]
    simp only [under1]
    refine Q.Ev.ite (fun c => ?_) (fun c => ?_)
    · rw [if_pos (of_decide_eq_true c)]
      refine Ev.pos (by omega) (Ev.pos (by omega) (Ev.eq (ih (i + 1) _ (by omega) (by omega) (by simp; omega)) ?_))
      rw [List.append_assoc, List.singleton_append]
    rw [if_neg (fun q => c (decide_eq_true q))]
    exact ih (i + 1) _ (by omega) (by omega) (by omega)
theorem index_under_f (id : Int) : Ev (fun k => index_Under.f k ks is id) (if chkI ks is = 0 then underP (pairsOf ks is) id else []) := by
  unfold index_Under.f
  refine Ev.bind (icheck_f S) (Q.Ev.ite (fun c => ?_) (fun c => Ev.ok (by rw [if_neg c])))
  obtain ⟨ho, _⟩ := chk_zero.1 c
  rw [if_pos c, under1_eq ks is (fun l hl => (rising_zero (ho.2.2 l hl).2).2)]
  have := iunder_l0 S ho (id := id) is.length 0 [] (by omega) (by omega) (by simp)
  rw [List.drop_zero, List.drop_zero, List.nil_append] at this
  exact this
end
end Go.Proofs.Ytdpcgigjlcpofaa.Q
namespace Go.Proofs.Ytdpcgigjlcpofaa.Q
open Go.RowKit Ytdpcgigjlcpofaa.F YtdpcgigjlcpofaaX YtdpcgigjlcpofaaW.PrintWords YtdpcgigjlcpofaaW.PrintLast YtdpcgigjlcpofaaW.PrintMore
def fewI (ks : List ByteArray) (is : List (List Int)) : Bool := decide (ks.length ≤ 100) && (decide (is.length ≤ 100) && ((is.all fun l => decide (l.length ≤ 2100)) && ks.all fun x => decide (x.size ≤ 100)))
theorem ifew_l1 {ks : List ByteArray} {is : List (List Int)} (h1 : ks.length ≤ 100) (m : Nat) : ∀ i : Nat, ks.length - i = m → i ≤ ks.length → Ev (fun k => backhaullaw14_Few.l1 k (i : Int) ks is) ((ks.drop i).all fun x => decide (x.size ≤ 100)) := by
  induction m with
  | zero =>
    intro i hd hi
    refine Ev.step (fun k => by simp only [backhaullaw14_Few.l1]; rfl) (Ev.neg (by omega) (Ev.ok ?_))
    rw [List.drop_eq_nil_of_le (by omega)]
    rfl
  | succ m ih =>
    intro i hd hi
    have h : i < ks.length := by omega
    refine Ev.step (fun k => by simp only [backhaullaw14_Few.l1]; rfl) (Ev.pos (by omega) (Ev.pos (by omega) ?_))
    rw [rdOf_nat h, wrap_eq (x := (i : Int) + 1) (by omega) (by omega), drop_cons h, List.all_cons]
    refine Q.Ev.ite (fun c => Ev.ok ?_) (fun c => ?_)
    · rw [decide_eq_false (by omega), Bool.false_and]
    rw [decide_eq_true (by omega), Bool.true_and]
    exact ih (i + 1) (by omega) (by omega)
theorem ifew_l0 {ks : List ByteArray} {is : List (List Int)} (h1 : ks.length ≤ 100) (h2 : is.length ≤ 100) (m : Nat) : ∀ i : Nat, is.length - i = m → i ≤ is.length → Ev (fun k => backhaullaw14_Few.l0 k (i : Int) ks is) (((is.drop i).all fun l => decide (l.length ≤ 2100)) && ks.all fun x => decide (x.size ≤ 100)) := by
  induction m with
  | zero =>
    intro i hd hi
    have := ifew_l1 (is := is) h1 ks.length 0 (by omega) (by omega)
    rw [List.drop_zero] at this
    refine Ev.step (fun k => by simp only [backhaullaw14_Few.l0]; rfl) (Ev.neg (by omega) ?_)
    rw [List.drop_eq_nil_of_le (by omega)]
    exact this
  | succ m ih =>
    intro i hd hi
    have h : i < is.length := by omega
    refine Ev.step (fun k => by simp only [backhaullaw14_Few.l0]; rfl) (Ev.pos (by omega) (Ev.pos (by omega) ?_))
    rw [rdI h, wrap_eq (x := (i : Int) + 1) (by omega) (by omega), drop_cons h, List.all_cons]
    refine Q.Ev.ite (fun c => Ev.ok ?_) (fun c => ?_)
    · rw [decide_eq_false (by omega), Bool.false_and, Bool.false_and]
    rw [decide_eq_true (by omega), Bool.true_and]
    exact ih (i + 1) (by omega) (by omega)
theorem ifew_f (ks : List ByteArray) (is : List (List Int)) : Ev (fun k => backhaullaw14_Few.f k ks is) (fewI ks is) := by
  unfold backhaullaw14_Few.f fewI
  have bad : ∀ u : Bool, u = true → Ev (fun k => backhaullaw14_Few.j0 k u ks is) false := fun u hu =>
    Ev.step (fun k => by simp only [backhaullaw14_Few.j0]; rfl) (Q.Ev.pos hu (Ev.ok rfl))
  refine Q.Ev.ite (fun c => ?_) (fun c => ?_)
  · rw [decide_eq_false (show ¬ ks.length ≤ 100 by omega), Bool.false_and]
    exact bad true rfl
  rw [decide_eq_true (show ks.length ≤ 100 by omega), Bool.true_and]
  by_cases c2 : (is.length : Int) > 100
  · rw [decide_eq_true c2, decide_eq_false (show ¬ is.length ≤ 100 by omega), Bool.false_and]
    exact bad true rfl
  rw [decide_eq_false c2, decide_eq_true (show is.length ≤ 100 by omega), Bool.true_and]
  refine Ev.step (fun k => by simp only [backhaullaw14_Few.j0]; rfl) (Q.Ev.neg (by decide) ?_)
  have := ifew_l0 (ks := ks) (is := is) (by omega) (by omega) is.length 0 (by omega) (by omega)
  rw [List.drop_zero] at this
  exact this
theorem few_small {ks : List ByteArray} {is : List (List Int)} (h : fewI ks is = true) : Small ks is := by
  unfold fewI at h
  simp only [Bool.and_eq_true, decide_eq_true_eq, List.all_eq_true] at h
  exact ⟨by omega, by omega, fun x hx => by have := h.2.2.2 x hx; omega, fun l hl => by have := h.2.2.1 l hl; omega⟩
theorem ofP_le (l : List PrT) (s : ByteArray) : (ofP l s).length ≤ l.length := by
  unfold ofP
  rw [List.length_map]
  exact List.length_filter_le _ _
theorem underP_le (l : List PrT) (id : Int) : (underP l id).length ≤ l.length := by
  unfold underP
  rw [List.length_map]
  exact List.length_filter_le _ _
theorem small_sum {ks : List ByteArray} {is : List (List Int)} (S : Small ks is) : sumL is ≤ 25000000 := by
  have := sumL_le is S.k4
  have := S.k2
  omega
theorem mem_of {l : List PrT} {s : ByteArray} {id : Int} : id ∈ ofP l s ↔ (⟨s, id⟩ : PrT) ∈ l := by
  unfold ofP
  simp only [List.mem_map, List.mem_filter, decide_eq_true_eq]
  exact ⟨fun ⟨p, ⟨h1, h2⟩, h3⟩ => by rwa [← prT_ext (p := p) (q := ⟨s, id⟩) h2 h3], fun h => ⟨_, ⟨h, rfl⟩, rfl⟩⟩
theorem mem_under {l : List PrT} {s : ByteArray} {id : Int} : s ∈ underP l id ↔ (⟨s, id⟩ : PrT) ∈ l := by
  unfold underP
  simp only [List.mem_map, List.mem_filter, decide_eq_true_eq]
  exact ⟨fun ⟨p, ⟨h1, h2⟩, h3⟩ => by rwa [← prT_ext (p := p) (q := ⟨s, id⟩) h3 h2], fun h => ⟨_, ⟨h, rfl⟩, rfl⟩⟩
end Go.Proofs.Ytdpcgigjlcpofaa.Q
namespace Go.Proofs.YtdpcgigjlcpofaaX
open Go.RowKit Go.WideMaps
def memB (S : List ByteArray) (s : ByteArray) : Bool := S.any fun x => decide (x = s)
theorem memB_iff {S : List ByteArray} {s : ByteArray} : memB S s = true ↔ s ∈ S := by
  unfold memB
  rw [List.any_eq_true]
  exact ⟨fun ⟨x, h, e⟩ => (of_decide_eq_true e) ▸ h, fun h => ⟨s, h, decide_eq_true rfl⟩⟩
def Seen (P : Program) (k e : TypeId) (w : World) (b : Nat) (S : List ByteArray) : Prop :=
  ∃ (n : Nat) (D : DataW Unit), w.ownsMap P k (plainElem P e) b n D ∧ n ≤ S.length ∧ Maps.IsMap D ∧ ∀ s : ByteArray, s.size ≤ maxLen → D.atKey (.string s.data.toList) (.lit (.bool false)) = .lit (.bool (memB S s))
section
variable {P : Program} {k e t : TypeId} {w w' : World} {b : Nat} {S : List ByteArray}
theorem Seen.grown (h : Seen P k e w b S) {row : Option Nat} (hg : w.grownBy w' row) (hne : some b ≠ row) : Seen P k e w' b S := by
  obtain ⟨n, D, h1, h2, h3, h4⟩ := h
  exact ⟨n, D, h1.kept hg hne, h2, h3, h4⟩
theorem Seen.below (h : Seen P k e w b S) (hb : Below w.heap.size w w') : Seen P k e w' b S :=
  h.grown (row := none) ⟨hb.os, hb.tape, hb.output, hb.size, fun k hk _ => hb.block k hk⟩ (by simp)
theorem Seen.set (h : Seen P k e w b S) {p : Addr} (hne : b ≠ p.block) (u : Value) : Seen P k e (w.setCell p u) b S :=
  h.grown (row := some p.block) ⟨rfl, rfl, rfl, by simp, fun k _ hk => Below.heap_setCell w p u k (fun e => hk (by rw [e]))⟩ (fun e => hne (by injection e))
theorem Seen.put (h : Seen P k e w b S) (hk : P.underlying k = some .string) (ht : P.underlying t = some (.map k e)) (he : P.underlying e = some .bool) (hn : S.length < maxLen) {s : ByteArray} (hs : s.size ≤ maxLen) :
    ∃ w', (Instr.mapUpdate t (.map (some b)) (.string s) (.bool true)).run P w = .ok () w' ∧ Seen P k e w' b (S ++ [s]) ∧ w.grownBy w' (some b) := by
  obtain ⟨n, D, h1, h2, h3, h4⟩ := h
  obtain ⟨w', hrun, r1, r2⟩ := h1.update (Maps.string_keyed hk) ht (Nat.lt_of_le_of_lt h2 hn) (keyOf_string_mk hk hs) (plainElem_bool he true)
  refine ⟨w', hrun, ⟨n + 1, _, r1, by rw [List.length_append]; simp; omega, ?_, fun s' hs' => ?_⟩, r2⟩
  · obtain ⟨es, rfl⟩ := h3
    exact ⟨_, rfl⟩
  by_cases e : s' = s
  · subst e
    rw [Maps.atKey_put_same h3 (by trivial)]
    have h1 : memB (S ++ [s']) s' = true := memB_iff.2 (by simp)
    rw [h1]
  rw [Maps.atKey_put_other (by intro h; injection h with h; exact e (by cases s'; cases s; congr 1; exact Array.toList_inj.1 h)), h4 s' hs']
  have h1 : memB (S ++ [s]) s' = memB S s' := by
    rw [Bool.eq_iff_iff, memB_iff, memB_iff, List.mem_append, List.mem_singleton]
    exact ⟨fun h => h.resolve_right e, .inl⟩
  rw [h1]
end
end Go.Proofs.YtdpcgigjlcpofaaX
namespace Go.Proofs.Ytdpcgigjlcpofaa.Pure
open Go.RowKit Ytdpcgigjlcpofaa.F YtdpcgigjlcpofaaX Ytdpcgigjlcpofaa.Q YtdpcgigjlcpofaaW.PrintWords YtdpcgigjlcpofaaW.PrintLast
section
variable {ks : List ByteArray} {is : List (List Int)} (S : Small ks is) (c : chkI ks is = 0) (haw : backhaullaw14_awake.f = some true)
include S c haw
theorem whole_l2 {a b : Bool} (hab : a = b) (m : Nat) : ∀ i : Nat, is.length - i = m → i ≤ is.length → Ev (fun k => backhaullaw14_IndexWhole.l2 k a b ((sumL (is.take i) : Nat) : Int) (i : Int) ks is) true := by
  obtain ⟨ho, h2⟩ := chk_zero.1 c
  have hk := ho.2.1
  have hk1 := S.k1
  have hle : ∀ i, sumL (is.take i) ≤ sumL is := fun i => by
    conv => rhs; rw [← List.take_append_drop i is]
    unfold sumL
    rw [List.map_append, List.sum_append]
    omega
  induction m with
  | zero =>
    intro i hd hi
    refine Ev.step (fun k => by simp only [backhaullaw14_IndexWhole.l2]; rfl) (Ev.neg (by omega) (Q.Ev.pos (by rw [hab]; exact beq_self_eq_true b) (Ev.bind (index_count_f S) ?_)))
    rw [if_pos c, List.take_of_length_le (by omega)]
    exact Q.Ev.pos rfl (Q.Ev.bindc haw (Q.Ev.pos rfl (Q.Ev.const rfl)))
  | succ m ih =>
    intro i hd hi
    have h : i < is.length := by omega
    have h' : i < ks.length := by omega
    have e := hle (i + 1)
    have e2 : sumL (is.take (i + 1)) = sumL (is.take i) + is[i].length := by
      rw [List.take_succ_eq_append_getElem h]
      unfold sumL
      rw [List.map_append, List.sum_append]
      simp
    obtain ⟨_, hof⟩ := of_at (s := ks[i]) ho (List.getElem?_eq_getElem h')
    refine Ev.step (fun k => by simp only [backhaullaw14_IndexWhole.l2]; rfl) (Ev.pos (by omega) (Ev.pos (by omega) ?_))
    rw [rdOf_nat h']
    refine Ev.bind (index_of_f S ks[i]) ?_
    rw [if_pos c, hof, wrap_eq (x := (i : Int) + 1) (by omega) (by omega), wrap_eq (x := ((sumL (is.take i) : Nat) : Int) + (is[i].length : Int)) (by omega) (by omega)]
    have := ih (i + 1) (by omega) (by omega)
    rw [e2] at this
    exact this
theorem whole_l1 {a : Bool} {s : ByteArray} {u : List ByteArray} (hu : u.length ≤ 25000000) (hab : a = memB u s) (m : Nat) : ∀ (i : Nat) (b : Bool), u.length - i = m → i ≤ u.length → (b || memB (u.drop i) s) = memB u s → Ev (fun k => backhaullaw14_IndexWhole.l1 k s u a b (i : Int) ks is) true := by
  induction m with
  | zero =>
    intro i b hd hi hb
    refine Ev.step (fun k => by simp only [backhaullaw14_IndexWhole.l1]; rfl) (Ev.neg (by omega) ?_)
    have e : memB (u.drop i) s = false := by rw [List.drop_eq_nil_of_le (by omega)]; rfl
    rw [e, Bool.or_false] at hb
    exact whole_l2 S c haw (hab.trans hb.symm) is.length 0 (by omega) (by omega)
  | succ m ih =>
    intro i b hd hi hb
    have h : i < u.length := by omega
    have hm : memB (u.drop i) s = (decide (u[i] = s) || memB (u.drop (i + 1)) s) := by rw [drop_cons h]; rfl
    refine Ev.step (fun k => by simp only [backhaullaw14_IndexWhole.l1]; rfl) (Ev.pos (by omega) ?_)
    rw [wrap_eq (x := (i : Int) + 1) (by omega) (by omega)]
    refine Q.Ev.ite (fun g => ?_) (fun g => Ev.pos (by omega) ?_)
    · refine ih (i + 1) true (by omega) (by omega) ?_
      rw [← hb, g, Bool.true_or, Bool.true_or]
    rw [rdOf_nat h]
    refine ih (i + 1) _ (by omega) (by omega) ?_
    have e : (u[i].toList == s.toList) = decide (u[i] = s) := by rw [Bool.eq_iff_iff, beq_iff_eq, decide_eq_true_eq, bytes_ext]
    rw [← hb, Bool.eq_false_iff.2 g, Bool.false_or, hm, e]
theorem whole_l0 {s : ByteArray} {id : Int} {u : List ByteArray} {o : List Int} (hu : u.length ≤ 25000000) (hol : o.length ≤ 25000000) (hab : decide (id ∈ o) = memB u s) (m : Nat) : ∀ (i : Nat) (a : Bool), o.length - i = m → i ≤ o.length → (a || decide (id ∈ o.drop i)) = decide (id ∈ o) → Ev (fun k => backhaullaw14_IndexWhole.l0 k s id o u a false (i : Int) ks is) true := by
  induction m with
  | zero =>
    intro i a hd hi ha
    refine Ev.step (fun k => by simp only [backhaullaw14_IndexWhole.l0]; rfl) (Ev.neg (by omega) ?_)
    rw [List.drop_eq_nil_of_le (by omega)] at ha
    have ha' : a = decide (id ∈ o) := by simpa using ha
    exact whole_l1 S c haw hu (ha'.trans hab) u.length 0 false (by omega) (by omega) rfl
  | succ m ih =>
    intro i a hd hi ha
    have h : i < o.length := by omega
    refine Ev.step (fun k => by simp only [backhaullaw14_IndexWhole.l0]; rfl) (Ev.pos (by omega) ?_)
    rw [wrap_eq (x := (i : Int) + 1) (by omega) (by omega)]
    refine Q.Ev.ite (fun g => ?_) (fun g => Ev.pos (by omega) ?_)
    · refine ih (i + 1) true (by omega) (by omega) ?_
      rw [← ha, g, Bool.true_or, Bool.true_or]
    rw [rd_nat h]
    refine ih (i + 1) _ (by omega) (by omega) ?_
    rw [← ha, Bool.eq_false_iff.2 g, Bool.false_or, drop_cons h, Bool.eq_iff_iff, Bool.or_eq_true, beq_iff_eq, decide_eq_true_eq, decide_eq_true_eq, List.mem_cons]
    exact or_congr eq_comm Iff.rfl
end
theorem IndexWhole : backhaullaw14_IndexWhole.Pure := by
  intro ks is s id hk hi hs hid
  refine Ev.rounds (r := true) ?_
  have haw : backhaullaw14_awake.f = some true := rfl
  have out : ∀ u : Bool, u = true → Ev (fun k => backhaullaw14_IndexWhole.j0 k s id u ks is) true := fun u hu =>
    Ev.step (fun k => by simp only [backhaullaw14_IndexWhole.j0]; rfl) (Q.Ev.pos hu (Q.Ev.bindc haw (Q.Ev.pos rfl (Q.Ev.const rfl))))
  unfold backhaullaw14_IndexWhole.f
  refine Ev.bind (ifew_f _ _) (Q.Ev.ite (fun q => ?_) (fun _ => out true rfl))
  have S := few_small q
  refine Q.Ev.ite (fun _ => out true rfl) (fun _ => Ev.bind (icheck_f S) ?_)
  by_cases c : chkI ks is = 0
  · have e : (chkI ks is != 0) = false := by rw [c]; rfl
    rw [e]
    have hsum := small_sum S
    have hlen := pairs_len ks is (chk_zero.1 c).1.2.1
    have l1 := ofP_le (pairsOf ks is) s
    have l2 := underP_le (pairsOf ks is) id
    refine Ev.step (fun k => by simp only [backhaullaw14_IndexWhole.j0]; rfl) (Q.Ev.neg (by decide) (Ev.bind (index_of_f S s) (Ev.bind (index_under_f S id) ?_)))
    rw [if_pos c, if_pos c]
    refine whole_l0 S c haw (by omega) (by omega) ?_ (ofP (pairsOf ks is) s).length 0 false (by omega) (by omega) ?_
    · rw [Bool.eq_iff_iff, decide_eq_true_eq, memB_iff, mem_of, mem_under]
    rw [List.drop_zero, Bool.false_or]
  exact out _ (by simpa using c)
end Go.Proofs.Ytdpcgigjlcpofaa.Pure
namespace Go.Proofs.YtdpcgigjlcpofaaX
open Go.RowKit YtdpcgigjlcpofaaW.PrintWords YtdpcgigjlcpofaaW.PrintLast YtdpcgigjlcpofaaW.PrintMore
def Opens {α : Type} (P : Program) (t : TypeId) (k : Kd α) (Ok : α → Prop) : Prop :=
  ∀ {H : Type} {enc : TypeId × Value → H} {w : World} {base : Nat} {spare : Nat → Bool} {held : Bool} {fuel : Nat} {cs : List Value} {x : DataW H × List MemPlace},
    DataW.trod enc P w base spare held fuel t cs = some x → ∃ a : α, k.K w a cs ∧ Ok a
theorem Opens.int {P : Program} {t : TypeId} {k : IntKind} (ht : P.underlying t = some (.int k)) : Opens P t (Kd.int k) (fun a => (Lit.int k a).wf = true) := by
  intro H enc w base spare held fuel cs x h
  obtain ⟨n, rfl, _, hw⟩ := DataW.trod_int ht h
  exact ⟨n, rfl, hw⟩
theorem Opens.bool {P : Program} {t : TypeId} (ht : P.underlying t = some .bool) : Opens P t Kd.bool (fun _ => True) := by
  intro H enc w base spare held fuel cs x h
  obtain ⟨n, rfl, _⟩ := DataW.trod_bool ht h
  exact ⟨n, rfl, trivial⟩
theorem Opens.string {P : Program} {t : TypeId} (ht : P.underlying t = some .string) : Opens P t Kd.string (fun a => a.size ≤ maxLen) := by
  intro H enc w base spare held fuel cs x h
  obtain ⟨s, rfl, _, hw⟩ := DataW.trod_string ht h
  exact ⟨s, rfl, hw⟩
theorem list_of {α : Type} {p : Nat → α → Prop} : ∀ n, (∀ i, i < n → ∃ a, p i a) → ∃ xs : List α, xs.length = n ∧ ∀ i a, xs[i]? = some a → p i a
  | 0, _ => ⟨[], rfl, fun i a h => by simp at h⟩
  | n + 1, h => by
    obtain ⟨xs, hl, hx⟩ := list_of n (fun i hi => h i (by omega))
    obtain ⟨a, ha⟩ := h n (by omega)
    refine ⟨xs ++ [a], by simp [hl], fun i b hb => ?_⟩
    rcases Nat.lt_or_ge i xs.length with h1 | h1
    · rw [List.getElem?_append_left h1] at hb
      exact hx i b hb
    rw [List.getElem?_append_right h1] at hb
    have h2 : i - xs.length = 0 := by
      have := (List.getElem?_eq_some_iff.1 hb).1
      simp at this; omega
    rw [h2] at hb
    have : a = b := by simpa using hb
    subst this
    have : i = n := by omega
    rw [this]; exact ha
theorem Opens.slice {α : Type} {P : Program} {t e : TypeId} {k : Kd α} {Ok : α → Prop} (ht : P.underlying t = some (.slice e)) (hc : P.cellsOf e = k.sz) (h : Opens P e k Ok) :
    Opens P t (Kd.slice e k) (fun xs => xs.length ≤ maxLen ∧ ∀ x ∈ xs, Ok x) := by
  intro H enc w base spare held fuel cs x hx
  rcases Go.Deep.open_slice ht hx with ⟨rfl, rfl⟩ | ⟨a, len, cap, m, n, D, Pl, rfl, hb, hl, hm, hmm, rfl, hel⟩
  · exact ⟨[], ⟨none, 0, rfl, by simp, rfl, by simp, fun h => absurd h (by simp)⟩, by simp [maxLen], by simp⟩
  have hlm : len ≤ m := by rw [hmm]; split <;> omega
  obtain ⟨xs, hlen, hxs⟩ := list_of (p := fun i (a' : α) => ∃ cs', w.cells? base (a.add (i * P.cellsOf e)) (P.cellsOf e) = some cs' ∧ k.K w a' cs' ∧ Ok a') len (fun i hi => by
    obtain ⟨cs', h1, h2⟩ := hel i (by omega)
    obtain ⟨a', h3, h4⟩ := h h2
    exact ⟨a', cs', h1, h3, h4⟩)
  have hlm2 : len ≤ maxLen := by omega
  refine ⟨xs, ⟨some a, cap, by rw [hlen], by rw [hlen]; exact hl, rfl, by rw [hlen]; simpa [maxLen] using hlm2, fun _ => ⟨a, rfl, fun j p hj => ?_⟩⟩, by rw [hlen]; exact hlm2, fun y hy => ?_⟩
  · obtain ⟨cs', h1, h2, _⟩ := hxs j p hj
    refine ⟨cs', k.K_len h2, h2, fun i u hu => ?_⟩
    obtain ⟨_, _, h3⟩ := World.cells?_some h1
    have h4 := h3 i (by have := (List.getElem?_eq_some_iff.1 hu).1; have := k.K_len h2; omega)
    rw [← hc, ← Go.Proofs.YtdpcgigjlcpofaaW.PrintWords.add_add]
    rw [← hu]; exact h4
  obtain ⟨i, hi, rfl⟩ := List.mem_iff_getElem.1 hy
  obtain ⟨_, _, _, h3⟩ := hxs i _ (List.getElem?_eq_getElem hi)
  exact h3
theorem field_reads {H : Type} {enc : TypeId × Value → H} {P : Program} {w : World} {base : Nat} {spare : Nat → Bool} {held : Bool} {fuel : Nat} {t : TypeId} {cs : List Value} {x : DataW H × List MemPlace} {fs : Array Field}
    (ht : P.underlying t = some (.struct fs)) (h : DataW.trod enc P w base spare held fuel t cs = some x) :
    cs.length = P.cellsOf t ∧ ∃ n, ∀ (i : Nat) (f : Field), fs[i]? = some f → ∃ y, DataW.trod enc P w base spare held n f.type ((cs.drop f.offset).take (P.cellsOf f.type)) = some y := by
  obtain ⟨xs, n, _, _, hl, hx, hf⟩ := DataW.trod_struct ht h
  refine ⟨hl, n, fun i f hif => ?_⟩
  rw [hf i f hif]
  have hi := (Array.getElem?_eq_some_iff.1 hif).1
  exact ⟨_, List.getElem?_eq_getElem (by rw [hx]; exact hi)⟩
theorem band {a b : Bool} (h1 : a = true) (h2 : b = true) : (a && b) = true := by rw [h1, h2]; rfl
theorem mayEnter_of {P : Program} {L c : List Char} {rest : List (List Char)} (h : P.initOrder.toList = L) (h1 : behindMainWord (wordsSigns L) = c :: rest) (h2 : ((stripLifts liftWords (c :: rest)).2.head? == some "cut".toList) = true) (h3 : P.laysLater = false) (h4 : P.bearsReflect = false) (h5 : (stripLifts liftWords (c :: rest)).1 = []) (h6 : P.doorFits [] = true) : P.mayEnter = true := by
  unfold Program.mayEnter
  rw [h, h1]
  dsimp only
  rw [h2, h3, h4, h5, h6]
  simp
theorem make_of {P : Program} {L : List Char} {rest : List (List Char)} (h : P.initOrder.toList = L) (h1 : behindMainWord (wordsSigns L) = "cut".toList :: rest) : P.make = some .cut := by
  unfold Program.make
  rw [h, h1]
  dsimp only
  rw [if_neg (by decide), if_pos (by simp)]
end Go.Proofs.YtdpcgigjlcpofaaX
set_option maxRecDepth 10000
namespace Go.Proofs.Ytdpcgigjlcpofaa.Join
open YtdpcgigjlcpofaaX
def initSigns : List Char := ['h', 'a', 'r', 'n', 'e', 's', 's', ' ', 'c', 'e', 'c', 'b', '8', '6', 'd', '2', '2', '8', '2', 'f', '6', '6', '6', '7', 'a', '3', 'b', '2', '0', 'd', '3', 'e', 'a', 'd', '2', 'c', 'f', 'e', '3', '7', '7', '5', 'b', '7', 'b', '3', 'd', '0', 'c', '6', '0', '2', '6', '1', '5', 'c', 'f', '5', '2', '5', '6', '6', 'c', '6', '0', '2', '7', '8', '5', 'c', '9', '9', ' ', 'c', 'u', 't', ' ', 'a', 't', ' ', 'b', 'a', 'c', 'k', 'h', 'a', 'u', 'l', '/', 'b', 'a', 'c', 'k', 'h', 'a', 'u', 'l', 'l', 'a', 'w', '0', '6', '.', 'S', 't', 'r', 'i', 'c', 't', 'F', 'i', 'r', 's', 't', ' ', 'b', 'a', 'c', 'k', 'h', 'a', 'u', 'l', '/', 'b', 'a', 'c', 'k', 'h', 'a', 'u', 'l', 'l', 'a', 'w', '1', '4', '.', 'I', 'n', 'd', 'e', 'x', 'T', 'e', 'l', 'l', 's', ' ', 'b', 'a', 'c', 'k', 'h', 'a', 'u', 'l', '/', 'b', 'a', 'c', 'k', 'h', 'a', 'u', 'l', 'l', 'a', 'w', '1', '4', '.', 'I', 'n', 'd', 'e', 'x', 'A', 'd', 'd', 's', ' ', 'b', 'a', 'c', 'k', 'h', 'a', 'u', 'l', '/', 'b', 'a', 'c', 'k', 'h', 'a', 'u', 'l', 'l', 'a', 'w', '1', '4', '.', 'I', 'n', 'd', 'e', 'x', 'T', 'u', 'r', 'n', 's', ' ', 'b', 'a', 'c', 'k', 'h', 'a', 'u', 'l', '/', 'b', 'a', 'c', 'k', 'h', 'a', 'u', 'l', 'l', 'a', 'w', '1', '4', '.', 'I', 'n', 'd', 'e', 'x', 'W', 'h', 'o', 'l', 'e', ' ', 'b', 'a', 'c', 'k', 'h', 'a', 'u', 'l', '/', 'b', 'a', 'c', 'k', 'h', 'a', 'u', 'l', 'l', 'a', 'w', '1', '5', '.', 'B', 'a', 't', 'c', 'h', 'A', 'p', 'p', 'l', 'i', 'e', 's', ' ', 'b', 'a', 'c', 'k', 'h', 'a', 'u', 'l', '/', 'b', 'a', 'c', 'k', 'h', 'a', 'u', 'l', 'l', 'a', 'w', '1', '5', '.', 'B', 'a', 't', 'c', 'h', 'C', 'o', 'd', 'e', 's', ' ', 'b', 'a', 'c', 'k', 'h', 'a', 'u', 'l', '/', 'b', 'a', 'c', 'k', 'h', 'a', 'u', 'l', 'l', 'a', 'w', '1', '5', '.', 'B', 'a', 't', 'c', 'h', 'W', 'h', 'o', 'l', 'e', ' ', 'b', 'a', 'c', 'k', 'h', 'a', 'u', 'l', '/', 'b', 'a', 'c', 'k', 'h', 'a', 'u', 'l', 'l', 'a', 'w', '1', '5', '.', 'B', 'a', 't', 'c', 'h', 'U', 'n', 'd', 'o', ' ', 'b', 'a', 'c', 'k', 'h', 'a', 'u', 'l', '/', 'b', 'a', 'c', 'k', 'h', 'a', 'u', 'l', 'l', 'a', 'w', '1', '5', '.', 'B', 'a', 't', 'c', 'h', 'D', 'i', 'f', 'f']
theorem initText : Try.pinned.checked.prog.initOrder = String.ofList initSigns := by kernel_rfl
theorem initList : Try.pinned.checked.prog.initOrder.toList = initSigns := (congrArg String.toList initText).trans String.toList_ofList
theorem mayEnter_is : Try.pinned.checked.prog.mayEnter = true :=
  mayEnter_of (L := initSigns) (c := "cut".toList) (rest := (behindMainWord (wordsSigns initSigns)).tail) initList (by kernel_rfl) (by kernel_rfl) (by kernel_rfl) (by kernel_rfl) (by kernel_rfl) (by kernel_rfl)
theorem make_is : Try.pinned.checked.prog.make = some .cut :=
  make_of (L := initSigns) (rest := (behindMainWord (wordsSigns initSigns)).tail) initList (by kernel_rfl)
theorem lifts_is : Try.pinned.checked.prog.liftsFinal = false := by
  unfold Program.liftsFinal Program.headLifts
  rw [initList]
  kernel_rfl
end Go.Proofs.Ytdpcgigjlcpofaa.Join
namespace Go.Proofs.Ytdpcgigjlcpofaa.indexWhole
open Go.ChangeShapes Go.WideShapes Go.ChangeAt Go.RowKit YtdpcgigjlcpofaaX Ytdpcgigjlcpofaa.F YtdpcgigjlcpofaaW.PrintWords YtdpcgigjlcpofaaW.PrintLast YtdpcgigjlcpofaaW.PrintMore
open Go.ChangeMaps (open_string shut_string)
theorem own : ownKnob Try.prog.godebug = none := by kernel_rfl
theorem laidOut : laidOutB Try.prog = true := by kernel_rfl
set_option maxRecDepth 100000 in
theorem opens_k51 : Opens Try.prog 51 k51 (fun x => ((x.f0.length ≤ maxLen ∧ ∀ y ∈ x.f0, y.size ≤ maxLen) ∧ (x.f1.length ≤ maxLen ∧ ∀ y ∈ x.f1, (y.length ≤ maxLen ∧ ∀ x ∈ y, (Lit.int .i64 x).wf = true)))) := by
  intro H enc w base spare held fuel cs x h
  obtain ⟨hl, n, hf⟩ := field_reads Try.underlying51 h
  have hl2 : cs.length = 2 := hl.trans (by kernel_rfl)
  match cs, hl2 with
  | [c0, c1], _ =>
    obtain ⟨y0, h0⟩ := hf 0 _ rfl
    have e0 : Try.prog.cellsOf 46 = 1 := by kernel_rfl
    (try dsimp only at h0)
    (try simp only [e0] at h0)
    obtain ⟨a0, k0, o0⟩ := (Opens.slice Try.underlying46 (by kernel_rfl) (Opens.string Try.underlying9)) h0
    have k0' : ((Kd.slice 9 Kd.string)).K w a0 [c0] := k0
    obtain ⟨y1, h1⟩ := hf 1 _ rfl
    have e1 : Try.prog.cellsOf 49 = 1 := by kernel_rfl
    (try dsimp only at h1)
    (try simp only [e1] at h1)
    obtain ⟨a1, k1, o1⟩ := (Opens.slice Try.underlying49 (by kernel_rfl) (Opens.slice Try.underlying44 (by kernel_rfl) (Opens.int Try.underlying3))) h1
    have k1' : ((Kd.slice 44 (Kd.slice 3 (Kd.int .i64)))).K w a1 [c1] := k1
    exact ⟨(⟨a0, a1⟩ : S51), ⟨[c0], [c1], rfl, k0', k1'⟩, ⟨o0, o1⟩⟩
set_option maxRecDepth 100000 in
theorem lifted (os : Os) (started : os.Started) (H : Type) (enc : TypeId × Value → H) :
    ReturnsInHanded {} Try.checked os 7 .any (Rows.indexWholeSpec.pre6 enc Try.prog Try.f7 Rows.indexWholeRow.domain false) (Rows.indexWholeSpec.post enc Try.prog Try.f7 false true false false) := by
  refine returnsInHanded_of_change_sized (C := Try.checked) own started (by kernel_rfl) Try.func7
    (ChangeSpec.witness6 (enc := enc) (C := Try.checked) false ⟨#[], #[.agg #[.slice none 0 0, .slice none 0 0], .string ByteArray.empty, .int .i64 0], []⟩ 8 (by kernel_rfl) (by kernel_rfl) (by kernel_rfl) (by kernel_rfl)) ?_
  intro W base args ds gs before hval0 hW hcnd hsz0 _
  have hval : ∀ (j : Nat) t v, Try.f7.params[j]? = some t → args[j]? = some v → Value.okWide Try.prog W .any base t v := hval0
  have hW' := hW
  obtain ⟨p, q, hA0, hV, rfl, hfz, hnd⟩ := hW
  have hA : DataW.TrodAll enc Try.prog W 0 (fun _ => true) true Try.f7.params.toList args.toList ds p := hA0
  rw [Try.params7] at hA hval
  obtain ⟨v0, vs0, d0, ds0, p0, q0, hargs, rfl, rfl, h0, r0⟩ := trodAll_cons hA
  obtain ⟨v1, vs1, d1, ds1, p1, q1, rfl, rfl, rfl, h1, r1⟩ := trodAll_cons r0
  obtain ⟨v2, vs2, d2, ds2, p2, q2, rfl, rfl, rfl, h2, r2⟩ := trodAll_cons r1
  obtain ⟨rfl, rfl, rfl⟩ := trodAll_nil r2
  obtain rfl : args = #[v0, v1, v2] := by cases args; simp_all
  obtain ⟨rfl, rfl⟩ := trodVars_none hV
  have k0 := h0
  have lt0 : ∀ x ∈ p0, x.block < W.heap.size := by obtain ⟨m, hm⟩ := k0; exact DataW.trod_lt m _ _ _ hm
  obtain ⟨cs0, rfl, _⟩ := okWide_struct Try.underlying51 (hval 0 51 v0 rfl rfl)
  obtain ⟨f0, hf0⟩ := h0
  obtain ⟨x0, hk0, ho0⟩ := opens_k51 hf0
  obtain ⟨A0_0, c0_0, A0_1, c0_1, he0, hl0_0, hc0_0, hl0_1, hc0_1⟩ := k51_open hk0
  obtain rfl : cs0 = _ := Array.toList_inj.1 (he0.trans (List.toList_toArray).symm)
  have k1 := h1
  have lt1 : ∀ x ∈ p1, x.block < W.heap.size := by obtain ⟨m, hm⟩ := k1; exact DataW.trod_lt m _ _ _ hm
  obtain ⟨x1, rfl⟩ := okWide_string Try.underlying9 (hval 1 9 v1 rfl rfl)
  obtain ⟨f1, hf1⟩ := h1
  obtain ⟨z1, hk1, ho1⟩ := (Opens.string Try.underlying9) hf1
  obtain rfl : x1 = z1 := by have := hk1; injection this with this; injection this
  have k2 := h2
  have lt2 : ∀ x ∈ p2, x.block < W.heap.size := by obtain ⟨m, hm⟩ := k2; exact DataW.trod_lt m _ _ _ hm
  obtain ⟨x2, rfl⟩ := okWide_int Try.underlying3 (hval 2 3 v2 rfl rfl)
  obtain ⟨f2, hf2⟩ := h2
  obtain ⟨z2, hk2, ho2⟩ := (Opens.int Try.underlying3) hf2
  obtain rfl : x2 = z2 := by have := hk2; injection this with this; injection this
  obtain ⟨k, h⟩ : ∃ k, backhaullaw14_IndexWhole.f k x0.f0 x0.f1 x1 x2 = some true := Pure.IndexWhole x0.f0 x0.f1 x1 x2 ho0.1 ho0.2 ho1 ho2
  refine (backhaullaw14_IndexWhole.calls k _ _ x0.f0 _ _ x0.f1 x1 x2 W hc0_0 hl0_0 hc0_1 hl0_1 h).mono fun e W' hq => ?_
  obtain ⟨he, bel0⟩ := hq
  have bel : Below W.heap.size W W' := bel0
  subst he
  exact ⟨_, rfl, _, _, _, [], _, [], hW', trodAll_mk1 (shut_bool Try.underlying4 _), (trodAll_cons_mk (Below.trod laidOut (by kernel_rfl) (of_decide_eq_true (by kernel_rfl)) k0 bel lt0) (trodAll_cons_mk (Below.trod laidOut (by kernel_rfl) (of_decide_eq_true (by kernel_rfl)) k1 bel lt1) (trodAll_cons_mk (Below.trod laidOut (by kernel_rfl) (of_decide_eq_true (by kernel_rfl)) k2 bel lt2) trodAll_mk0))), rfl, bel.frame _, fun h => by cases h⟩
theorem closed_ : joinedFacts Try.pinned.checked.prog 7 Try.f7 Rows.indexWholeSpec Rows.indexWholeRow = true := by
  unfold joinedFacts
  repeat' (with_reducible apply band)
  any_goals with_reducible exact Join.mayEnter_is
  any_goals (rw [Join.make_is]; kernel_rfl)
  any_goals (rw [Join.lifts_is]; kernel_rfl)
  all_goals kernel_rfl
theorem over : Rows.indexWholeRow.holds Try.pinned (OpenSpec.ofChange Rows.indexWholeSpec) :=
  OpenClaim.holds_of_wide 7 Try.f7 rfl rfl rfl rfl rfl rfl rfl ⟨rfl, rfl, rfl, rfl, rfl⟩ rfl rfl rfl rfl rfl (by kernel_rfl) Try.func7 closed_
    (of_decide_eq_true (by kernel_rfl)) (by unfold Func.isWrapper; first | (rw [if_pos (by decide +kernel)]; kernel_rfl) | (rw [if_neg (by decide +kernel)]; exact ⟨rfl, rfl⟩))
    (fun os started H enc _ => lifted os started H enc)
theorem proved : Rows.IndexWholeSaid := over
#print axioms proved
end Go.Proofs.Ytdpcgigjlcpofaa.indexWhole
namespace Go.Proofs.Ytdpcgigjlcpofaa
theorem indexWhole_holds : Rows.IndexWholeSaid := indexWhole.proved
end Go.Proofs.Ytdpcgigjlcpofaa
