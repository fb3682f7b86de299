-- by prune.py (own program), out of the print
import Derived.Deep.Slices
import Derived.ChangeArms
import Derived.WideShapes
import Derived.OpenShut
import Derived.Test.YtdpcgigjlcpofaaRows
import Derived.ProofKit
import Derived.ShutString
import Derived.ChangeOld
import Derived.SizedLaws
import Derived.Carry
import Derived.Test.YtdpcgigjlcpofaaZIndexAdds6
set_option linter.unusedVariables false
set_option linter.unusedSimpArgs false
namespace Go.Proofs.Ytdpcgigjlcpofaa.Q
open Go.RowKit Ytdpcgigjlcpofaa.F YtdpcgigjlcpofaaX YtdpcgigjlcpofaaW.PrintWords YtdpcgigjlcpofaaW.PrintLast YtdpcgigjlcpofaaW.PrintMore
theorem sumL_append (A B : List (List Int)) : sumL (A ++ B) = sumL A + sumL B := by unfold sumL; rw [List.map_append, List.sum_append]
theorem idxT_absent {ks : List ByteArray} {s : ByteArray} (e : idxT ks s = none) : s ∉ ks := fun hm => by
  unfold idxT at e
  rw [List.findIdx?_eq_none_iff] at e
  have := e s hm
  simp at this
theorem place_at {ks : List ByteArray} {s : ByteArray} (h : ks.Pairwise lt8) (hn : s ∉ ks) : (∀ x ∈ ks.take (ks.countP fun x => decide (lt8 x s)), lt8 x s) ∧ (∀ x ∈ ks.drop (ks.countP fun x => decide (lt8 x s)), lt8 s x) := by
  induction ks with
  | nil => simp
  | cons a r ih =>
    obtain ⟨h1, h2⟩ := List.pairwise_cons.1 h
    have hr : s ∉ r := fun g => hn (List.mem_cons_of_mem _ g)
    by_cases c : lt8 a s
    · rw [List.countP_cons_of_pos (by exact decide_eq_true c), List.take_succ_cons, List.drop_succ_cons]
      obtain ⟨g1, g2⟩ := ih h2 hr
      exact ⟨fun x hx => (List.mem_cons.1 hx).elim (fun e => e ▸ c) (g1 x), g2⟩
    have hsa : lt8 s a := Classical.byContradiction fun g => hn (by rw [lt8_total g c]; exact List.mem_cons_self)
    have e : (a :: r).countP (fun x => decide (lt8 x s)) = 0 := by
      rw [List.countP_eq_zero]
      intro x hx g
      have g' := of_decide_eq_true g
      rcases List.mem_cons.1 hx with rfl | hx
      · exact c g'
      exact lt8_irrefl s (lt8_trans (lt8_trans hsa (h1 x hx)) g')
    rw [e, List.take_zero, List.drop_zero]
    exact ⟨fun x hx => by simp at hx, fun x hx => (List.mem_cons.1 hx).elim (fun e => e ▸ hsa) (fun g => lt8_trans hsa (h1 x g))⟩
section
variable {ks : List ByteArray} {is : List (List Int)} (h : chkI ks is = 0) {s : ByteArray}
include h
theorem chk_len : ks.length ≤ 2000 ∧ is.length ≤ 2000 ∧ ks.length = is.length ∧ sumL is ≤ 2000 ∧ (pairsOf ks is).length = sumL is := by
  obtain ⟨ho, h2⟩ := chk_zero.1 h
  have h3 := sum_len fun l hl => (ho.2.2 l hl).1
  have h4 := ho.2.1
  exact ⟨by omega, by omega, h4, h2, pairs_len ks is h4⟩
theorem set_pairs {j : Nat} (hj : idxT ks s = some j) {l' : List Int} (h' : l' ≠ [] ∧ rising 0 l' = 0) : ∃ hji : j < is.length, okI ks (is.take j ++ l' :: is.drop (j + 1)) ∧ sumL (is.take j ++ l' :: is.drop (j + 1)) + is[j].length = sumL is + l'.length ∧ (∀ p, p ∈ pairsOf ks (is.take j ++ l' :: is.drop (j + 1)) ↔ (p.f0 = s ∧ p.f1 ∈ l') ∨ (p.f0 ≠ s ∧ p ∈ pairsOf ks is)) ∧ (∀ p, p ∈ pairsOf ks is → p.f0 = s → p.f1 ∈ is[j]) ∧ ∀ x ∈ is[j], (⟨s, x⟩ : PrT) ∈ pairsOf ks is := by
  obtain ⟨ho, h2⟩ := chk_zero.1 h
  obtain ⟨hjk, hjs, _⟩ := idxT_get hj
  obtain ⟨hji, e1, e2, e3⟩ := find_split (s := s) ho.2.1 (by rw [List.getElem?_eq_getElem hjk, hjs])
  refine ⟨hji, ?_⟩
  have ho' := ho
  rw [e1, e2] at ho'
  have hok := ok_set ho' h'
  have m1 := fun p => mem_part e3 ho' p
  have m2 := fun p => mem_part e3 hok p
  rw [← e1, ← e2] at m1
  rw [← e1] at hok m2
  refine ⟨hok, ?_, fun p => ?_, fun p hp hs => ?_, fun x hx => (m1 _).2 (.inl ⟨rfl, hx⟩)⟩
  · conv => rhs; rw [e2]
    rw [sumL_append, sumL_append, sumL_cons, sumL_cons]
    omega
  · rw [m2, m1]
    constructor
    · rintro (g | g)
      · exact .inl g
      exact .inr ⟨g.1, .inr g⟩
    rintro (g | ⟨g1, g⟩)
    · exact .inl g
    exact .inr (g.resolve_left fun q => g1 q.1)
  exact ((m1 p).1 hp).elim (fun g => g.2) (fun g => (g.1 hs).elim)
theorem new_pairs (hn : s ∉ ks) (hs : checkS s = 0) {l' : List Int} (h' : l' ≠ [] ∧ rising 0 l' = 0) {n : Nat} (e : n = ks.countP fun x => decide (lt8 x s)) : okI (ks.take n ++ s :: ks.drop n) (is.take n ++ l' :: is.drop n) ∧ sumL (is.take n ++ l' :: is.drop n) = sumL is + l'.length ∧ ∀ p, p ∈ pairsOf (ks.take n ++ s :: ks.drop n) (is.take n ++ l' :: is.drop n) ↔ (p.f0 = s ∧ p.f1 ∈ l') ∨ p ∈ pairsOf ks is := by
  obtain ⟨ho, h2⟩ := chk_zero.1 h
  have e3 : (ks.take n).length = (is.take n).length := by
    have := ho.2.1
    rw [List.length_take, List.length_take]
    omega
  obtain ⟨p1, p2⟩ := place_at (rowG_zero ho.1).2.1 hn
  rw [← e] at p1 p2
  have ho' : okI (ks.take n ++ ks.drop n) (is.take n ++ is.drop n) := by rw [List.take_append_drop, List.take_append_drop]; exact ho
  have hok := ok_new ho' hs p1 p2 h'
  refine ⟨hok, ?_, fun p => ?_⟩
  · conv => rhs; rw [← List.take_append_drop n is]
    rw [sumL_append, sumL_append, sumL_cons]
    omega
  have m := mem_cut (B := ks.drop n) (D := is.drop n) e3 p
  rw [List.take_append_drop, List.take_append_drop] at m
  rw [mem_part e3 hok p, ← m]
  constructor
  · rintro (g | g)
    · exact .inl g
    exact .inr g.2
  rintro (g | g)
  · exact .inl g
  exact .inr ⟨fun q => hn (by rw [← q]; exact pairs_key _ _ g), g⟩
theorem cut_pairs {j : Nat} (hj : idxT ks s = some j) : okI (ks.take j ++ ks.drop (j + 1)) (is.take j ++ is.drop (j + 1)) ∧ sumL (is.take j ++ is.drop (j + 1)) ≤ sumL is ∧ ∀ p, p ∈ pairsOf (ks.take j ++ ks.drop (j + 1)) (is.take j ++ is.drop (j + 1)) ↔ p.f0 ≠ s ∧ p ∈ pairsOf ks is := by
  obtain ⟨ho, h2⟩ := chk_zero.1 h
  obtain ⟨hjk, hjs, _⟩ := idxT_get hj
  obtain ⟨hji, e1, e2, e3⟩ := find_split (s := s) ho.2.1 (by rw [List.getElem?_eq_getElem hjk, hjs])
  have ho' := ho
  rw [e1, e2] at ho'
  have m1 := fun p => mem_part e3 ho' p
  obtain ⟨_, hA, hB⟩ := ok_part e3 ho'
  rw [← e1, ← e2] at m1
  refine ⟨ok_cut ho', ?_, fun p => ?_⟩
  · conv => rhs; rw [e2]
    rw [sumL_append, sumL_append, sumL_cons]
    omega
  rw [mem_cut e3, m1]
  constructor
  · rintro (g | g)
    · exact ⟨fun q => hA (by rw [← q]; exact pairs_key _ _ g), .inr ⟨fun q => hA (by rw [← q]; exact pairs_key _ _ g), .inl g⟩⟩
    exact ⟨fun q => hB (by rw [← q]; exact pairs_key _ _ g), .inr ⟨fun q => hB (by rw [← q]; exact pairs_key _ _ g), .inr g⟩⟩
  rintro ⟨g1, g | g⟩
  · exact (g1 g.1).elim
  exact g.2
theorem add_one (hs : checkS s = 0) (id : Int) : ∃ ks' is' e, Ev (fun k => index_add.f k ks is s id) (ks', is', e) ∧
    ((e ≠ 0 ∧ ks' = [] ∧ ∀ r, addR s (pairsOf ks is) (id :: r) = ([], e)) ∨ (e = 0 ∧ chkI ks' is' = 0 ∧ ∀ r, addR s (pairsOf ks is) (id :: r) = addR s (pairsOf ks' is') r)) := by
  obtain ⟨ho, h2⟩ := chk_zero.1 h
  obtain ⟨n1, n2, n3, n4, n5⟩ := chk_len h
  have S := chk_small h
  have hz := sizes_k S
  have bad : (id < 1 ∨ id > 999999) → ∃ ks' is' e, Ev (fun k => index_add.f k ks is s id) (ks', is', e) ∧
    ((e ≠ 0 ∧ ks' = [] ∧ ∀ r, addR s (pairsOf ks is) (id :: r) = ([], e)) ∨ (e = 0 ∧ chkI ks' is' = 0 ∧ ∀ r, addR s (pairsOf ks is) (id :: r) = addR s (pairsOf ks' is') r)) := fun c => by
    refine ⟨[], [], 31, ?_, .inl ⟨by decide, rfl, fun r => by unfold addR; rw [if_pos c]⟩⟩
    unfold index_add.f
    by_cases c1 : id < 1
    · exact Q.Ev.pos c1 (Ev.ok rfl)
    exact Q.Ev.neg c1 (Q.Ev.pos (c.resolve_left c1) (Ev.ok rfl))
  by_cases c : id < 1 ∨ id > 999999
  · exact bad c
  have c1 : ¬ id < 1 := fun g => c (.inl g)
  have c2 : ¬ id > 999999 := fun g => c (.inr g)
  have dup : hasB (pairsOf ks is) s id = true → ∀ r, addR s (pairsOf ks is) (id :: r) = ([], 32) := fun q r => by unfold addR; rw [if_neg c, if_pos q]
  have full : ¬ hasB (pairsOf ks is) s id = true → sumL is ≥ 2000 → ∀ r, addR s (pairsOf ks is) (id :: r) = ([], 37) := fun q g r => by unfold addR; rw [if_neg c, if_neg q, if_pos (by omega)]
  have good : ¬ hasB (pairsOf ks is) s id = true → ¬ sumL is ≥ 2000 → ∀ (ks' : List ByteArray) (is' : List (List Int)), okI ks' is' → (∀ p, p ∈ pairsOf ks' is' ↔ p = ⟨s, id⟩ ∨ p ∈ pairsOf ks is) → ∀ r, addR s (pairsOf ks is) (id :: r) = addR s (pairsOf ks' is') r := fun q g ks' is' hok hm r => by
    have e : pairsOf ks' is' = insP ⟨s, id⟩ (pairsOf ks is) := sorted_ext _ _ (ok_sorted hok) (insP_sorted _ (ok_sorted ho) fun x => q (hasB_iff.2 x)) fun p => by rw [hm, mem_insP]
    conv => lhs; unfold addR
    rw [if_neg c, if_neg q, if_neg (by omega), e]
  cases ej : idxT ks s with
  | none =>
    have hn := idxT_absent ej
    have q : ¬ hasB (pairsOf ks is) s id = true := fun g => hn (pairs_key _ _ (hasB_iff.1 g))
    have ef : findT ks s = ((ks.countP (fun x => decide (lt8 x s)) : Int), false) := by unfold findT; rw [ej]; simp only [if_pos ho.1]
    have er : find ([] : List Int) id = (0, false) := rfl
    obtain ⟨n, en⟩ : ∃ n, n = ks.countP fun x => decide (lt8 x s) := ⟨_, rfl⟩
    have hnl : n ≤ ks.length := by rw [en]; exact List.countP_le_length
    rw [← en] at ef
    by_cases c3 : sumL is ≥ 2000
    · refine ⟨[], [], 37, ?_, .inl ⟨by decide, rfl, full q c3⟩⟩
      unfold index_add.f
      refine Q.Ev.neg c1 (Q.Ev.neg c2 (Ev.bind (serial_find_f hz.1 hz.2) ?_))
      rw [ef]
      refine Q.Ev.neg Bool.false_ne_true (Ev.bind (rows_Find_f (by simp)) ?_)
      rw [er]
      exact Q.Ev.neg Bool.false_ne_true (Ev.bind (pairs_f S) (Q.Ev.pos (by omega) (Ev.ok rfl)))
    obtain ⟨g1, g2, g3⟩ := new_pairs h hn hs (l' := [id]) ⟨by simp, rising_of (fun x hx => by rw [List.mem_singleton] at hx; omega) (by simp)⟩ en
    refine ⟨_, _, 0, ?_, .inr ⟨rfl, chk_zero.2 ⟨g1, by rw [g2]; simp; omega⟩, good q c3 _ _ g1 fun p => ?_⟩⟩
    · unfold index_add.f
      refine Q.Ev.neg c1 (Q.Ev.neg c2 (Ev.bind (serial_find_f hz.1 hz.2) ?_))
      rw [ef]
      refine Q.Ev.neg Bool.false_ne_true (Ev.bind (rows_Find_f (by simp)) ?_)
      rw [er]
      refine Q.Ev.neg Bool.false_ne_true (Ev.bind (pairs_f S) (Q.Ev.neg (by omega) (Q.Ev.bindc (a := ([id], 0)) rfl (Q.Ev.pos rfl (Q.Ev.bindc (a := (ks.take n ++ s :: ks.drop n, is.take n ++ [id] :: is.drop n)) ?_ (Ev.ok rfl))))))
      unfold index_put.f
      rw [if_pos (by first | omega | (simp only; omega)), if_neg (fun g => by simp at g), if_neg (by simp), if_pos (by first | omega | (simp only; omega))]
      simp only [Int.toNat_natCast]
    rw [g3 p, List.mem_singleton]
    exact or_congr ⟨fun g => prT_ext g.1 g.2, fun g => by rw [g]; exact ⟨rfl, rfl⟩⟩ Iff.rfl
  | some j =>
    obtain ⟨hjk, hjs, _⟩ := idxT_get ej
    have ef : findT ks s = ((j : Int), true) := by unfold findT; rw [ej]
    obtain ⟨n', en'⟩ : ∃ n', n' = (is[j]'(by omega)).countP fun x => decide (x < id) := ⟨_, rfl⟩
    have hr := ho.2.2 (is[j]'(by omega)) (List.getElem_mem _)
    have hle := S.k4 (is[j]'(by omega)) (List.getElem_mem _)
    by_cases cm : id ∈ (is[j]'(by omega))
    · have q : hasB (pairsOf ks is) s id = true := by
        obtain ⟨_, _, _, _, _, g⟩ := set_pairs h ej hr
        exact hasB_iff.2 (g id cm)
      refine ⟨[], [], 32, ?_, .inl ⟨by decide, rfl, dup q⟩⟩
      unfold index_add.f
      refine Q.Ev.neg c1 (Q.Ev.neg c2 (Ev.bind (serial_find_f hz.1 hz.2) ?_))
      rw [ef]
      refine Q.Ev.pos rfl (Ev.pos (by first | omega | (simp only; omega)) (Ev.pos (by first | omega | (simp only; omega)) ?_))
      simp only [rdI (show j < is.length by omega)]
      refine Ev.bind (rows_Find_f (by omega)) (Q.Ev.pos ?_ (Ev.ok rfl))
      unfold find
      rw [if_pos cm]
    have er : find (is[j]'(by omega)) id = ((n' : Int), false) := by unfold find; rw [if_neg cm, if_pos hr.2, en']
    have hnl : n' ≤ (is[j]'(by omega)).length := by rw [en']; exact List.countP_le_length
    obtain ⟨hji, g1, g2, g3, g4, g5⟩ := set_pairs h ej (l' := (is[j]'(by omega)).take n' ++ id :: (is[j]'(by omega)).drop n') ⟨by simp, by rw [en']; exact rising_put hr.2 cm (by omega)⟩
    have q : ¬ hasB (pairsOf ks is) s id = true := fun g => cm (g4 _ (hasB_iff.1 g) rfl)
    by_cases c3 : sumL is ≥ 2000
    · refine ⟨[], [], 37, ?_, .inl ⟨by decide, rfl, full q c3⟩⟩
      unfold index_add.f
      refine Q.Ev.neg c1 (Q.Ev.neg c2 (Ev.bind (serial_find_f hz.1 hz.2) ?_))
      rw [ef]
      refine Q.Ev.pos rfl (Ev.pos (by first | omega | (simp only; omega)) (Ev.pos (by first | omega | (simp only; omega)) ?_))
      simp only [rdI hji]
      refine Ev.bind (rows_Find_f (by omega)) ?_
      rw [er]
      exact Q.Ev.neg Bool.false_ne_true (Ev.bind (pairs_f S) (Q.Ev.pos (by omega) (Ev.ok rfl)))
    have hlen : (is[j].take n' ++ id :: is[j].drop n').length = is[j].length + 1 := by
      simp
      omega
    refine ⟨_, _, 0, ?_, .inr ⟨rfl, chk_zero.2 ⟨g1, by omega⟩, good q c3 _ _ g1 fun p => ?_⟩⟩
    · unfold index_add.f
      refine Q.Ev.neg c1 (Q.Ev.neg c2 (Ev.bind (serial_find_f hz.1 hz.2) ?_))
      rw [ef]
      refine Q.Ev.pos rfl (Ev.pos (by first | omega | (simp only; omega)) (Ev.pos (by first | omega | (simp only; omega)) ?_))
      simp only [rdI hji]
      refine Ev.bind (rows_Find_f (by omega)) ?_
      rw [er]
      refine Q.Ev.neg Bool.false_ne_true (Ev.bind (pairs_f S) (Q.Ev.neg (by omega) (Q.Ev.bindc (a := (is[j].take n' ++ id :: is[j].drop n', 0)) ?_ (Q.Ev.pos rfl (Q.Ev.bindc (a := (ks, is.take j ++ (is[j].take n' ++ id :: is[j].drop n') :: is.drop (j + 1))) ?_ (Ev.ok rfl))))))
      · unfold rows_With_int.f
        rw [if_neg (by first | omega | (simp only; omega)), if_neg (by first | omega | (simp only; omega)), if_pos (by omega)]
        simp only [Int.toNat_natCast]
      unfold index_put.f
      rw [if_pos (by first | omega | (simp only; omega)), if_neg (fun g => by simp at g), if_pos rfl, if_pos (by first | omega | (simp only; omega))]
      simp only [Int.toNat_natCast]
    rw [g3 p, mem_put]
    constructor
    · rintro (⟨q1, q2 | q2⟩ | ⟨q1, q2⟩)
      · exact .inl (prT_ext q1 q2)
      · refine .inr ?_
        rw [show p = (⟨s, p.f1⟩ : PrT) from prT_ext q1 rfl]
        exact g5 _ q2
      exact .inr q2
    rintro (rfl | q2)
    · exact .inl ⟨rfl, .inl rfl⟩
    by_cases q1 : p.f0 = s
    · exact .inl ⟨q1, .inr (g4 p q2 q1)⟩
    exact .inr ⟨q1, q2⟩
theorem drop_one (id : Int) : ∃ ks' is' e, Ev (fun k => index_Drop.f k ks is s id) (ks', is', e) ∧
    ((e = 31 ∧ ks' = [] ∧ hasB (pairsOf ks is) s id = false) ∨ (e = 0 ∧ hasB (pairsOf ks is) s id = true ∧ chkI ks' is' = 0 ∧ pairsOf ks' is' = dropP (pairsOf ks is) s id)) := by
  obtain ⟨ho, h2⟩ := chk_zero.1 h
  obtain ⟨n1, n2, n3, n4, n5⟩ := chk_len h
  have S := chk_small h
  have hz := sizes_k S
  cases ej : idxT ks s with
  | none =>
    have hn := idxT_absent ej
    have ef : (findT ks s).2 = false := by unfold findT; rw [ej]
    refine ⟨[], [], 31, ?_, .inl ⟨rfl, rfl, Bool.eq_false_iff.2 fun g => hn (pairs_key _ _ (hasB_iff.1 g))⟩⟩
    unfold index_Drop.f
    exact Ev.bind (icheck_f S) (Q.Ev.pos h (Ev.bind (serial_find_f hz.1 hz.2) (Q.Ev.neg (by rw [ef]; decide) (Ev.ok rfl))))
  | some j =>
    obtain ⟨hjk, hjs, _⟩ := idxT_get ej
    have ef : findT ks s = ((j : Int), true) := by unfold findT; rw [ej]
    have hji : j < is.length := by omega
    have hr := ho.2.2 is[j] (List.getElem_mem _)
    have hle := S.k4 is[j] (List.getElem_mem _)
    obtain ⟨_, _, _, _, g4, g5⟩ := set_pairs h ej hr
    by_cases cm : id ∈ is[j]
    · have q : hasB (pairsOf ks is) s id = true := hasB_iff.2 (g5 id cm)
      obtain ⟨n', en'⟩ : ∃ n', n' = is[j].idxOf id := ⟨_, rfl⟩
      have hnl : n' < is[j].length := by rw [en']; exact List.idxOf_lt_length_of_mem cm
      have hat : is[j][n'] = id := by
        subst en'
        exact List.getElem_idxOf hnl
      have er : find is[j] id = ((n' : Int), true) := by unfold find; rw [if_pos cm, en']
      have hm := fun x => mem_cutI hr.2 hnl x
      rw [hat] at hm
      have hlen : (is[j].take n' ++ is[j].drop (n' + 1)).length + 1 = is[j].length := by
        rw [List.length_append, List.length_take, List.length_drop]
        omega
      have ew : rows_Without_int.f is[j] (n' : Int) = some (is[j].take n' ++ is[j].drop (n' + 1), 0) := by
        unfold rows_Without_int.f
        rw [if_neg (by omega), if_neg (by omega), if_pos (by omega)]
        simp only [Int.toNat_natCast]
      have walk : ∀ R, index_put.f ks is (j : Int) true s (is[j].take n' ++ is[j].drop (n' + 1)) = some R → Ev (fun k => index_Drop.f k ks is s id) (R.1, R.2, 0) := fun R hR => by
        unfold index_Drop.f
        refine Ev.bind (icheck_f S) (Q.Ev.pos h (Ev.bind (serial_find_f hz.1 hz.2) ?_))
        rw [ef]
        refine Q.Ev.pos rfl (Ev.pos (by first | omega | (simp only; omega)) (Ev.pos (by first | omega | (simp only; omega)) ?_))
        simp only [rdI hji]
        refine Ev.bind (rows_Find_f (by omega)) ?_
        rw [er]
        exact Q.Ev.pos rfl (Q.Ev.bindc ew (Q.Ev.pos rfl (Q.Ev.bindc hR (Ev.ok rfl))))
      have fin : ∀ (ks' : List ByteArray) (is' : List (List Int)), okI ks' is' → (∀ p, p ∈ pairsOf ks' is' ↔ p ∈ pairsOf ks is ∧ ¬ (p.f0 = s ∧ p.f1 = id)) → pairsOf ks' is' = dropP (pairsOf ks is) s id := fun ks' is' hok hmm =>
        sorted_ext _ _ (ok_sorted hok) (dropP_sorted (ok_sorted ho)) fun p => by rw [hmm, mem_dropP]
      by_cases cz : is[j].take n' ++ is[j].drop (n' + 1) = []
      · obtain ⟨k1, k2, k3⟩ := cut_pairs h ej
        refine ⟨_, _, 0, walk (ks.take j ++ ks.drop (j + 1), is.take j ++ is.drop (j + 1)) ?_, .inr ⟨rfl, q, chk_zero.2 ⟨k1, by simp only; omega⟩, fin _ _ k1 fun p => ?_⟩⟩
        · unfold index_put.f
          rw [if_pos (by omega), if_pos ⟨rfl, cz⟩, if_pos (by omega)]
          simp only [Int.toNat_natCast]
        rw [k3]
        constructor
        · rintro ⟨a, b⟩
          exact ⟨b, fun g => a g.1⟩
        rintro ⟨a, b⟩
        refine ⟨fun g => ?_, a⟩
        have hx := (hm p.f1).2 ⟨g4 p a g, fun q => b ⟨g, q⟩⟩
        rw [cz] at hx
        simp at hx
      obtain ⟨_, k1, k2, k3, _, _⟩ := set_pairs h ej (l' := is[j].take n' ++ is[j].drop (n' + 1)) ⟨cz, rising_cut n' hr.2⟩
      refine ⟨_, _, 0, walk (ks, is.take j ++ (is[j].take n' ++ is[j].drop (n' + 1)) :: is.drop (j + 1)) ?_, .inr ⟨rfl, q, chk_zero.2 ⟨k1, by simp only; omega⟩, fin _ _ k1 fun p => ?_⟩⟩
      · unfold index_put.f
        rw [if_pos (by omega), if_neg (fun g => cz g.2), if_pos rfl, if_pos (by omega)]
        simp only [Int.toNat_natCast]
      rw [k3, hm]
      constructor
      · rintro (⟨a, b, c⟩ | ⟨a, b⟩)
        · refine ⟨?_, fun g => c g.2⟩
          rw [show p = (⟨s, p.f1⟩ : PrT) from prT_ext a rfl]
          exact g5 _ b
        exact ⟨b, fun g => a g.1⟩
      rintro ⟨a, b⟩
      by_cases c : p.f0 = s
      · exact .inl ⟨c, g4 p a c, fun g => b ⟨c, g⟩⟩
      exact .inr ⟨c, a⟩
    refine ⟨[], [], 31, ?_, .inl ⟨rfl, rfl, Bool.eq_false_iff.2 fun g => cm (g4 _ (hasB_iff.1 g) rfl)⟩⟩
    unfold index_Drop.f
    refine Ev.bind (icheck_f S) (Q.Ev.pos h (Ev.bind (serial_find_f hz.1 hz.2) ?_))
    rw [ef]
    refine Q.Ev.pos rfl (Ev.pos (by first | omega | (simp only; omega)) (Ev.pos (by first | omega | (simp only; omega)) ?_))
    simp only [rdI hji]
    refine Ev.bind (rows_Find_f (by omega)) (Q.Ev.neg ?_ (Ev.ok rfl))
    unfold find
    rw [if_neg cm]
    exact Bool.false_ne_true
end
theorem iadd_l0 {s : ByteArray} {ids : List Int} (hs : checkS s = 0) (h2 : ids.length ≤ 5000) (m : Nat) : ∀ (i : Nat) (ks : List ByteArray) (is : List (List Int)), chkI ks is = 0 → ids.length - i = m → i ≤ ids.length →
    ∃ ks' is' e, Ev (fun k => index_Add.l0 k s ids (ids.length : Int) (i : Int) ks is) (ks', is', e) ∧ ((e ≠ 0 ∧ ks' = [] ∧ addR s (pairsOf ks is) (ids.drop i) = ([], e)) ∨ (e = 0 ∧ chkI ks' is' = 0 ∧ addR s (pairsOf ks is) (ids.drop i) = (pairsOf ks' is', 0))) := by
  induction m with
  | zero =>
    intro i ks is h hd hi
    refine ⟨ks, is, 0, Ev.step (fun k => by simp only [index_Add.l0]; rfl) (Ev.neg (by omega) (Ev.ok rfl)), .inr ⟨rfl, h, ?_⟩⟩
    rw [List.drop_eq_nil_of_le (by omega)]
    rfl
  | succ m ih =>
    intro i ks is h hd hi
    have hi' : i < ids.length := by omega
    rw [drop_cons hi']
    obtain ⟨k1, i1, e1, w1, r1⟩ := add_one h hs ids[i]
    rcases r1 with ⟨a, b, c⟩ | ⟨a, b, c⟩
    · refine ⟨[], [], e1, Ev.step (fun k => by simp only [index_Add.l0]; rfl) (Ev.pos (by omega) (Ev.pos (by omega) (Ev.pos (by omega) ?_))), .inl ⟨a, rfl, c _⟩⟩
      rw [rd_nat hi']
      exact Ev.bind w1 (Q.Ev.neg a (Ev.ok rfl))
    obtain ⟨k2, i2, e2, w2, r2⟩ := ih (i + 1) k1 i1 b (by omega) (by omega)
    refine ⟨k2, i2, e2, Ev.step (fun k => by simp only [index_Add.l0]; rfl) (Ev.pos (by omega) (Ev.pos (by omega) (Ev.pos (by omega) ?_))), by rw [c]; exact r2⟩
    rw [rd_nat hi', wrap_eq (x := (i : Int) + 1) (by omega) (by omega)]
    exact Ev.bind w1 (Q.Ev.pos a w2)
theorem iadd_f {s : ByteArray} {ids : List Int} (hz : s.size < 1099511627776) (h2 : ids.length ≤ 5000) {ks : List ByteArray} {is : List (List Int)} (h : chkI ks is = 0) :
    ∃ ks' is' e, Ev (fun k => index_Add.f k ks is s ids) (ks', is', e) ∧ ((e ≠ 0 ∧ ks' = [] ∧ (if checkS s = 0 then addR s (pairsOf ks is) ids else ([], 9)) = ([], e)) ∨ (e = 0 ∧ checkS s = 0 ∧ chkI ks' is' = 0 ∧ addR s (pairsOf ks is) ids = (pairsOf ks' is', 0))) := by
  have S := chk_small h
  by_cases c : checkS s = 0
  · obtain ⟨k1, i1, e1, w1, r1⟩ := iadd_l0 c h2 ids.length 0 ks is h (by omega) (by omega)
    rw [List.drop_zero] at r1
    refine ⟨k1, i1, e1, ?_, ?_⟩
    · unfold index_Add.f
      exact Ev.bind (icheck_f S) (Q.Ev.pos h (Q.Ev.bindc (serial_check_f s (by omega)) (Q.Ev.pos c w1)))
    rw [if_pos c]
    exact r1.imp id fun g => ⟨g.1, c, g.2⟩
  refine ⟨[], [], 9, ?_, .inl ⟨by decide, rfl, by rw [if_neg c]⟩⟩
  have e := (checkS_or s).resolve_left c
  unfold index_Add.f
  exact Ev.bind (icheck_f S) (Q.Ev.pos h (Q.Ev.bindc (serial_check_f s (by omega)) (Q.Ev.neg c (Ev.ok (by rw [e])))))
end Go.Proofs.Ytdpcgigjlcpofaa.Q
namespace Go.Proofs.Ytdpcgigjlcpofaa.Pure
open Go.RowKit Ytdpcgigjlcpofaa.F YtdpcgigjlcpofaaX Ytdpcgigjlcpofaa.Q YtdpcgigjlcpofaaW.PrintWords YtdpcgigjlcpofaaW.PrintLast
section
variable {ks : List ByteArray} {is : List (List Int)} (c : chkI ks is = 0) (haw : backhaullaw14_awake.f = some true)
include c haw
theorem adds_l0 {s : ByteArray} {ids : List Int} (h2 : ids.length ≤ 5000) (m : Nat) : ∀ i : Nat, ids.length - i = m → i ≤ ids.length → Ev (fun k => backhaullaw14_IndexAdds.l0 k s ids (pairsOf ks is) (i : Int) ks is) true := by
  obtain ⟨n1, n2, n3, n4, n5⟩ := chk_len c
  induction m with
  | zero =>
    intro i hd hi
    exact Ev.step (fun k => by simp only [backhaullaw14_IndexAdds.l0]; rfl) (Ev.neg (by omega) (Q.Ev.bindc haw (Q.Ev.pos rfl (Q.Ev.const rfl))))
  | succ m ih =>
    intro i hd hi
    have h : i < ids.length := by omega
    refine Ev.step (fun k => by simp only [backhaullaw14_IndexAdds.l0]; rfl) (Ev.pos (by omega) (Ev.pos (by omega) ?_))
    rw [rd_nat h, wrap_eq (x := (i : Int) + 1) (by omega) (by omega)]
    have next := ih (i + 1) (by omega) (by omega)
    obtain ⟨k1, i1, e1, w1, r1⟩ := drop_one c (s := s) ids[i]
    refine Ev.bind w1 (Ev.bind (ref_drop_f (by omega)) ?_)
    rcases r1 with ⟨rfl, rfl, r3⟩ | ⟨rfl, r2, r3, r4⟩
    · rw [if_neg (by rw [r3]; decide)]
      exact Q.Ev.pos rfl (Q.Ev.neg (show ¬ (31 : Int) = 0 by decide) next)
    rw [if_pos r2]
    exact Q.Ev.pos rfl (Q.Ev.pos rfl (Ev.bind (same_pairs_f r3 r4) (Q.Ev.pos rfl next)))
theorem adds_j1 {s : ByteArray} {ids : List Int} (h2 : ids.length ≤ 5000) (u : Bool) (hu : u ≠ true) : Ev (fun k => backhaullaw14_IndexAdds.j1 k s ids (pairsOf ks is) u ks is) true :=
  Ev.step (fun k => by simp only [backhaullaw14_IndexAdds.j1]; rfl) (Q.Ev.neg hu (adds_l0 c haw h2 ids.length 0 (by omega) (by omega)))
end
theorem IndexAdds : backhaullaw14_IndexAdds.Pure := by
  intro ks is s ids hk hi hs hid
  refine Ev.rounds (r := true) ?_
  have haw : backhaullaw14_awake.f = some true := rfl
  have out : ∀ u : Bool, u = true → Ev (fun k => backhaullaw14_IndexAdds.j0 k s ids u ks is) true := fun u hu =>
    Ev.step (fun k => by simp only [backhaullaw14_IndexAdds.j0]; rfl) (Q.Ev.pos hu (Q.Ev.bindc haw (Q.Ev.pos rfl (Q.Ev.const rfl))))
  unfold backhaullaw14_IndexAdds.f
  refine Ev.bind (ifew_f _ _) (Q.Ev.ite (fun q => ?_) (fun _ => out true rfl))
  have S := few_small q
  refine Q.Ev.ite (fun _ => out true rfl) (fun hsz => ?_)
  by_cases g : decide ((ids.length : Int) > 50) = true
  · exact out _ g
  have g' : ids.length ≤ 50 := by
    rw [decide_eq_true_eq] at g
    omega
  refine Ev.step (fun k => by simp only [backhaullaw14_IndexAdds.j0]; rfl) (Q.Ev.neg g (Ev.bind (ref_pairs_f S) ?_))
  by_cases c : chkI ks is = 0
  · obtain ⟨ho, h2⟩ := chk_zero.1 c
    obtain ⟨n1, n2, n3, n4, n5⟩ := chk_len c
    rw [if_pos (okB_iff.2 ho)]
    obtain ⟨k1, i1, e1, w1, r1⟩ := iadd_f (s := s) (ids := ids) (by omega) (by omega) c
    refine Ev.bind w1 (Q.Ev.pos (decide_eq_true h2) (Ev.bind (ref_add_f (l := pairsOf ks is) (by omega) (by omega) (by omega)) ?_))
    rcases r1 with ⟨a, rfl, r⟩ | ⟨rfl, r2, r3, r⟩
    · rw [r]
      refine Q.Ev.pos rfl (Q.Ev.neg a ?_)
      exact adds_j1 c haw (by omega) _ (by simp)
    rw [if_pos r2, r]
    exact Q.Ev.pos rfl (Q.Ev.pos rfl (Ev.bind (same_pairs_f r3 rfl) (Q.Ev.pos rfl (adds_j1 c haw (by omega) false Bool.false_ne_true))))
  have e : ¬ (if okB ks is = true then (pairsOf ks is, decide (sumL is ≤ 2000)) else ([], false)).2 = true := by
    intro h
    split at h
    · rename_i hb
      exact c (chk_zero.2 ⟨okB_iff.1 hb, of_decide_eq_true h⟩)
    cases h
  have e2 := (chk_or ks is).resolve_left c
  have wA : Ev (fun k => index_Add.f k ks is s ids) ([], [], 40) := by
    unfold index_Add.f
    exact Ev.bind (icheck_f S) (Q.Ev.neg c (Ev.ok (by rw [e2])))
  have wD : Ev (fun k => index_Drop.f k ks is s 1) ([], [], 40) := by
    unfold index_Drop.f
    exact Ev.bind (icheck_f S) (Q.Ev.neg c (Ev.ok (by rw [e2])))
  exact Ev.bind wA (Q.Ev.neg e (Ev.bind wD (Q.Ev.pos rfl (Q.Ev.pos rfl (Q.Ev.bindc haw (Q.Ev.pos rfl (Q.Ev.const rfl)))))))
end Go.Proofs.Ytdpcgigjlcpofaa.Pure
namespace Go.Proofs.YtdpcgigjlcpofaaX
open Go.RowKit YtdpcgigjlcpofaaW.PrintWords YtdpcgigjlcpofaaW.PrintLast YtdpcgigjlcpofaaW.PrintMore
def Opens {α : Type} (P : Program) (t : TypeId) (k : Kd α) (Ok : α → Prop) : Prop :=
  ∀ {H : Type} {enc : TypeId × Value → H} {w : World} {base : Nat} {spare : Nat → Bool} {held : Bool} {fuel : Nat} {cs : List Value} {x : DataW H × List MemPlace},
    DataW.trod enc P w base spare held fuel t cs = some x → ∃ a : α, k.K w a cs ∧ Ok a
theorem Opens.int {P : Program} {t : TypeId} {k : IntKind} (ht : P.underlying t = some (.int k)) : Opens P t (Kd.int k) (fun a => (Lit.int k a).wf = true) := by
  intro H enc w base spare held fuel cs x h
  obtain ⟨n, rfl, _, hw⟩ := DataW.trod_int ht h
  exact ⟨n, rfl, hw⟩
theorem Opens.bool {P : Program} {t : TypeId} (ht : P.underlying t = some .bool) : Opens P t Kd.bool (fun _ => True) := by
  intro H enc w base spare held fuel cs x h
  obtain ⟨n, rfl, _⟩ := DataW.trod_bool ht h
  exact ⟨n, rfl, trivial⟩
theorem Opens.string {P : Program} {t : TypeId} (ht : P.underlying t = some .string) : Opens P t Kd.string (fun a => a.size ≤ maxLen) := by
  intro H enc w base spare held fuel cs x h
  obtain ⟨s, rfl, _, hw⟩ := DataW.trod_string ht h
  exact ⟨s, rfl, hw⟩
theorem list_of {α : Type} {p : Nat → α → Prop} : ∀ n, (∀ i, i < n → ∃ a, p i a) → ∃ xs : List α, xs.length = n ∧ ∀ i a, xs[i]? = some a → p i a
  | 0, _ => ⟨[], rfl, fun i a h => by simp at h⟩
  | n + 1, h => by
    obtain ⟨xs, hl, hx⟩ := list_of n (fun i hi => h i (by omega))
    obtain ⟨a, ha⟩ := h n (by omega)
    refine ⟨xs ++ [a], by simp [hl], fun i b hb => ?_⟩
    rcases Nat.lt_or_ge i xs.length with h1 | h1
    · rw [List.getElem?_append_left h1] at hb
      exact hx i b hb
    rw [List.getElem?_append_right h1] at hb
    have h2 : i - xs.length = 0 := by
      have := (List.getElem?_eq_some_iff.1 hb).1
      simp at this; omega
    rw [h2] at hb
    have : a = b := by simpa using hb
    subst this
    have : i = n := by omega
    rw [this]; exact ha
theorem Opens.slice {α : Type} {P : Program} {t e : TypeId} {k : Kd α} {Ok : α → Prop} (ht : P.underlying t = some (.slice e)) (hc : P.cellsOf e = k.sz) (h : Opens P e k Ok) :
    Opens P t (Kd.slice e k) (fun xs => xs.length ≤ maxLen ∧ ∀ x ∈ xs, Ok x) := by
  intro H enc w base spare held fuel cs x hx
  rcases Go.Deep.open_slice ht hx with ⟨rfl, rfl⟩ | ⟨a, len, cap, m, n, D, Pl, rfl, hb, hl, hm, hmm, rfl, hel⟩
  · exact ⟨[], ⟨none, 0, rfl, by simp, rfl, by simp, fun h => absurd h (by simp)⟩, by simp [maxLen], by simp⟩
  have hlm : len ≤ m := by rw [hmm]; split <;> omega
  obtain ⟨xs, hlen, hxs⟩ := list_of (p := fun i (a' : α) => ∃ cs', w.cells? base (a.add (i * P.cellsOf e)) (P.cellsOf e) = some cs' ∧ k.K w a' cs' ∧ Ok a') len (fun i hi => by
    obtain ⟨cs', h1, h2⟩ := hel i (by omega)
    obtain ⟨a', h3, h4⟩ := h h2
    exact ⟨a', cs', h1, h3, h4⟩)
  have hlm2 : len ≤ maxLen := by omega
  refine ⟨xs, ⟨some a, cap, by rw [hlen], by rw [hlen]; exact hl, rfl, by rw [hlen]; simpa [maxLen] using hlm2, fun _ => ⟨a, rfl, fun j p hj => ?_⟩⟩, by rw [hlen]; exact hlm2, fun y hy => ?_⟩
  · obtain ⟨cs', h1, h2, _⟩ := hxs j p hj
    refine ⟨cs', k.K_len h2, h2, fun i u hu => ?_⟩
    obtain ⟨_, _, h3⟩ := World.cells?_some h1
    have h4 := h3 i (by have := (List.getElem?_eq_some_iff.1 hu).1; have := k.K_len h2; omega)
    rw [← hc, ← Go.Proofs.YtdpcgigjlcpofaaW.PrintWords.add_add]
    rw [← hu]; exact h4
  obtain ⟨i, hi, rfl⟩ := List.mem_iff_getElem.1 hy
  obtain ⟨_, _, _, h3⟩ := hxs i _ (List.getElem?_eq_getElem hi)
  exact h3
theorem field_reads {H : Type} {enc : TypeId × Value → H} {P : Program} {w : World} {base : Nat} {spare : Nat → Bool} {held : Bool} {fuel : Nat} {t : TypeId} {cs : List Value} {x : DataW H × List MemPlace} {fs : Array Field}
    (ht : P.underlying t = some (.struct fs)) (h : DataW.trod enc P w base spare held fuel t cs = some x) :
    cs.length = P.cellsOf t ∧ ∃ n, ∀ (i : Nat) (f : Field), fs[i]? = some f → ∃ y, DataW.trod enc P w base spare held n f.type ((cs.drop f.offset).take (P.cellsOf f.type)) = some y := by
  obtain ⟨xs, n, _, _, hl, hx, hf⟩ := DataW.trod_struct ht h
  refine ⟨hl, n, fun i f hif => ?_⟩
  rw [hf i f hif]
  have hi := (Array.getElem?_eq_some_iff.1 hif).1
  exact ⟨_, List.getElem?_eq_getElem (by rw [hx]; exact hi)⟩
theorem slice_cells {α : Type} {k : Kd α} {e : Nat} {w : World} {xs : List α} {v : Value} (h : (Kd.slice e k).K w xs [v]) : ∃ A c, v = .slice A xs.length c ∧ xs.length ≤ c ∧ k.C w A xs.length xs := by
  obtain ⟨A, c, he, hl, hc⟩ := h
  injection he with he
  exact ⟨A, c, he, hl, hc⟩
theorem band {a b : Bool} (h1 : a = true) (h2 : b = true) : (a && b) = true := by rw [h1, h2]; rfl
theorem mayEnter_of {P : Program} {L c : List Char} {rest : List (List Char)} (h : P.initOrder.toList = L) (h1 : behindMainWord (wordsSigns L) = c :: rest) (h2 : ((stripLifts liftWords (c :: rest)).2.head? == some "cut".toList) = true) (h3 : P.laysLater = false) (h4 : P.bearsReflect = false) (h5 : (stripLifts liftWords (c :: rest)).1 = []) (h6 : P.doorFits [] = true) : P.mayEnter = true := by
  unfold Program.mayEnter
  rw [h, h1]
  dsimp only
  rw [h2, h3, h4, h5, h6]
  simp
theorem make_of {P : Program} {L : List Char} {rest : List (List Char)} (h : P.initOrder.toList = L) (h1 : behindMainWord (wordsSigns L) = "cut".toList :: rest) : P.make = some .cut := by
  unfold Program.make
  rw [h, h1]
  dsimp only
  rw [if_neg (by decide), if_pos (by simp)]
end Go.Proofs.YtdpcgigjlcpofaaX
set_option maxRecDepth 10000
namespace Go.Proofs.Ytdpcgigjlcpofaa.Join
open YtdpcgigjlcpofaaX
def initSigns : List Char := ['h', 'a', 'r', 'n', 'e', 's', 's', ' ', 'c', 'e', 'c', 'b', '8', '6', 'd', '2', '2', '8', '2', 'f', '6', '6', '6', '7', 'a', '3', 'b', '2', '0', 'd', '3', 'e', 'a', 'd', '2', 'c', 'f', 'e', '3', '7', '7', '5', 'b', '7', 'b', '3', 'd', '0', 'c', '6', '0', '2', '6', '1', '5', 'c', 'f', '5', '2', '5', '6', '6', 'c', '6', '0', '2', '7', '8', '5', 'c', '9', '9', ' ', 'c', 'u', 't', ' ', 'a', 't', ' ', 'b', 'a', 'c', 'k', 'h', 'a', 'u', 'l', '/', 'b', 'a', 'c', 'k', 'h', 'a', 'u', 'l', 'l', 'a', 'w', '0', '6', '.', 'S', 't', 'r', 'i', 'c', 't', 'F', 'i', 'r', 's', 't', ' ', 'b', 'a', 'c', 'k', 'h', 'a', 'u', 'l', '/', 'b', 'a', 'c', 'k', 'h', 'a', 'u', 'l', 'l', 'a', 'w', '1', '4', '.', 'I', 'n', 'd', 'e', 'x', 'T', 'e', 'l', 'l', 's', ' ', 'b', 'a', 'c', 'k', 'h', 'a', 'u', 'l', '/', 'b', 'a', 'c', 'k', 'h', 'a', 'u', 'l', 'l', 'a', 'w', '1', '4', '.', 'I', 'n', 'd', 'e', 'x', 'A', 'd', 'd', 's', ' ', 'b', 'a', 'c', 'k', 'h', 'a', 'u', 'l', '/', 'b', 'a', 'c', 'k', 'h', 'a', 'u', 'l', 'l', 'a', 'w', '1', '4', '.', 'I', 'n', 'd', 'e', 'x', 'T', 'u', 'r', 'n', 's', ' ', 'b', 'a', 'c', 'k', 'h', 'a', 'u', 'l', '/', 'b', 'a', 'c', 'k', 'h', 'a', 'u', 'l', 'l', 'a', 'w', '1', '4', '.', 'I', 'n', 'd', 'e', 'x', 'W', 'h', 'o', 'l', 'e', ' ', 'b', 'a', 'c', 'k', 'h', 'a', 'u', 'l', '/', 'b', 'a', 'c', 'k', 'h', 'a', 'u', 'l', 'l', 'a', 'w', '1', '5', '.', 'B', 'a', 't', 'c', 'h', 'A', 'p', 'p', 'l', 'i', 'e', 's', ' ', 'b', 'a', 'c', 'k', 'h', 'a', 'u', 'l', '/', 'b', 'a', 'c', 'k', 'h', 'a', 'u', 'l', 'l', 'a', 'w', '1', '5', '.', 'B', 'a', 't', 'c', 'h', 'C', 'o', 'd', 'e', 's', ' ', 'b', 'a', 'c', 'k', 'h', 'a', 'u', 'l', '/', 'b', 'a', 'c', 'k', 'h', 'a', 'u', 'l', 'l', 'a', 'w', '1', '5', '.', 'B', 'a', 't', 'c', 'h', 'W', 'h', 'o', 'l', 'e', ' ', 'b', 'a', 'c', 'k', 'h', 'a', 'u', 'l', '/', 'b', 'a', 'c', 'k', 'h', 'a', 'u', 'l', 'l', 'a', 'w', '1', '5', '.', 'B', 'a', 't', 'c', 'h', 'U', 'n', 'd', 'o', ' ', 'b', 'a', 'c', 'k', 'h', 'a', 'u', 'l', '/', 'b', 'a', 'c', 'k', 'h', 'a', 'u', 'l', 'l', 'a', 'w', '1', '5', '.', 'B', 'a', 't', 'c', 'h', 'D', 'i', 'f', 'f']
theorem initText : Try.pinned.checked.prog.initOrder = String.ofList initSigns := by kernel_rfl
theorem initList : Try.pinned.checked.prog.initOrder.toList = initSigns := (congrArg String.toList initText).trans String.toList_ofList
theorem mayEnter_is : Try.pinned.checked.prog.mayEnter = true :=
  mayEnter_of (L := initSigns) (c := "cut".toList) (rest := (behindMainWord (wordsSigns initSigns)).tail) initList (by kernel_rfl) (by kernel_rfl) (by kernel_rfl) (by kernel_rfl) (by kernel_rfl) (by kernel_rfl)
theorem make_is : Try.pinned.checked.prog.make = some .cut :=
  make_of (L := initSigns) (rest := (behindMainWord (wordsSigns initSigns)).tail) initList (by kernel_rfl)
theorem lifts_is : Try.pinned.checked.prog.liftsFinal = false := by
  unfold Program.liftsFinal Program.headLifts
  rw [initList]
  kernel_rfl
end Go.Proofs.Ytdpcgigjlcpofaa.Join
namespace Go.Proofs.Ytdpcgigjlcpofaa.indexAdds
open Go.ChangeShapes Go.WideShapes Go.ChangeAt Go.RowKit YtdpcgigjlcpofaaX Ytdpcgigjlcpofaa.F YtdpcgigjlcpofaaW.PrintWords YtdpcgigjlcpofaaW.PrintLast YtdpcgigjlcpofaaW.PrintMore
open Go.ChangeMaps (open_string shut_string)
theorem own : ownKnob Try.prog.godebug = none := by kernel_rfl
theorem laidOut : laidOutB Try.prog = true := by kernel_rfl
set_option maxRecDepth 100000 in
theorem opens_k51 : Opens Try.prog 51 k51 (fun x => ((x.f0.length ≤ maxLen ∧ ∀ y ∈ x.f0, y.size ≤ maxLen) ∧ (x.f1.length ≤ maxLen ∧ ∀ y ∈ x.f1, (y.length ≤ maxLen ∧ ∀ x ∈ y, (Lit.int .i64 x).wf = true)))) := by
  intro H enc w base spare held fuel cs x h
  obtain ⟨hl, n, hf⟩ := field_reads Try.underlying51 h
  have hl2 : cs.length = 2 := hl.trans (by kernel_rfl)
  match cs, hl2 with
  | [c0, c1], _ =>
    obtain ⟨y0, h0⟩ := hf 0 _ rfl
    have e0 : Try.prog.cellsOf 46 = 1 := by kernel_rfl
    (try dsimp only at h0)
    (try simp only [e0] at h0)
    obtain ⟨a0, k0, o0⟩ := (Opens.slice Try.underlying46 (by kernel_rfl) (Opens.string Try.underlying9)) h0
    have k0' : ((Kd.slice 9 Kd.string)).K w a0 [c0] := k0
    obtain ⟨y1, h1⟩ := hf 1 _ rfl
    have e1 : Try.prog.cellsOf 49 = 1 := by kernel_rfl
    (try dsimp only at h1)
    (try simp only [e1] at h1)
    obtain ⟨a1, k1, o1⟩ := (Opens.slice Try.underlying49 (by kernel_rfl) (Opens.slice Try.underlying44 (by kernel_rfl) (Opens.int Try.underlying3))) h1
    have k1' : ((Kd.slice 44 (Kd.slice 3 (Kd.int .i64)))).K w a1 [c1] := k1
    exact ⟨(⟨a0, a1⟩ : S51), ⟨[c0], [c1], rfl, k0', k1'⟩, ⟨o0, o1⟩⟩
set_option maxRecDepth 100000 in
theorem lifted (os : Os) (started : os.Started) (H : Type) (enc : TypeId × Value → H) :
    ReturnsInHanded {} Try.checked os 5 .any (Rows.indexAddsSpec.pre6 enc Try.prog Try.f5 Rows.indexAddsRow.domain false) (Rows.indexAddsSpec.post enc Try.prog Try.f5 false true false false) := by
  refine returnsInHanded_of_change_sized (C := Try.checked) own started (by kernel_rfl) Try.func5
    (ChangeSpec.witness6 (enc := enc) (C := Try.checked) false ⟨#[], #[.agg #[.slice none 0 0, .slice none 0 0], .string ByteArray.empty, .slice none 0 0], []⟩ 8 (by kernel_rfl) (by kernel_rfl) (by kernel_rfl) (by kernel_rfl)) ?_
  intro W base args ds gs before hval0 hW hcnd hsz0 _
  have hval : ∀ (j : Nat) t v, Try.f5.params[j]? = some t → args[j]? = some v → Value.okWide Try.prog W .any base t v := hval0
  have hW' := hW
  obtain ⟨p, q, hA0, hV, rfl, hfz, hnd⟩ := hW
  have hA : DataW.TrodAll enc Try.prog W 0 (fun _ => true) true Try.f5.params.toList args.toList ds p := hA0
  rw [Try.params5] at hA hval
  obtain ⟨v0, vs0, d0, ds0, p0, q0, hargs, rfl, rfl, h0, r0⟩ := trodAll_cons hA
  obtain ⟨v1, vs1, d1, ds1, p1, q1, rfl, rfl, rfl, h1, r1⟩ := trodAll_cons r0
  obtain ⟨v2, vs2, d2, ds2, p2, q2, rfl, rfl, rfl, h2, r2⟩ := trodAll_cons r1
  obtain ⟨rfl, rfl, rfl⟩ := trodAll_nil r2
  obtain rfl : args = #[v0, v1, v2] := by cases args; simp_all
  obtain ⟨rfl, rfl⟩ := trodVars_none hV
  have k0 := h0
  have lt0 : ∀ x ∈ p0, x.block < W.heap.size := by obtain ⟨m, hm⟩ := k0; exact DataW.trod_lt m _ _ _ hm
  obtain ⟨cs0, rfl, _⟩ := okWide_struct Try.underlying51 (hval 0 51 v0 rfl rfl)
  obtain ⟨f0, hf0⟩ := h0
  obtain ⟨x0, hk0, ho0⟩ := opens_k51 hf0
  obtain ⟨A0_0, c0_0, A0_1, c0_1, he0, hl0_0, hc0_0, hl0_1, hc0_1⟩ := k51_open hk0
  obtain rfl : cs0 = _ := Array.toList_inj.1 (he0.trans (List.toList_toArray).symm)
  have k1 := h1
  have lt1 : ∀ x ∈ p1, x.block < W.heap.size := by obtain ⟨m, hm⟩ := k1; exact DataW.trod_lt m _ _ _ hm
  obtain ⟨x1, rfl⟩ := okWide_string Try.underlying9 (hval 1 9 v1 rfl rfl)
  obtain ⟨f1, hf1⟩ := h1
  obtain ⟨z1, hk1, ho1⟩ := (Opens.string Try.underlying9) hf1
  obtain rfl : x1 = z1 := by have := hk1; injection this with this; injection this
  have k2 := h2
  have lt2 : ∀ x ∈ p2, x.block < W.heap.size := by obtain ⟨m, hm⟩ := k2; exact DataW.trod_lt m _ _ _ hm
  obtain ⟨b2, len2, cap2, rfl⟩ := okWide_slice Try.underlying44 (hval 2 44 v2 rfl rfl)
  obtain ⟨f2, hf2⟩ := h2
  obtain ⟨x2, hk2, ho2⟩ := (Opens.slice Try.underlying44 (by kernel_rfl) (Opens.int Try.underlying3)) hf2
  obtain ⟨A2, c2, he2, hl2, hc2⟩ := slice_cells (show _ from hk2)
  injection he2 with e2_1 e2_2 e2_3
  subst e2_1 e2_2 e2_3
  obtain ⟨k, h⟩ : ∃ k, backhaullaw14_IndexAdds.f k x0.f0 x0.f1 x1 x2 = some true := Pure.IndexAdds x0.f0 x0.f1 x1 x2 ho0.1 ho0.2 ho1 ho2
  refine (backhaullaw14_IndexAdds.calls k _ _ x0.f0 _ _ x0.f1 x1 _ _ x2 W hc0_0 hl0_0 hc0_1 hl0_1 hc2 hl2 h).mono fun e W' hq => ?_
  obtain ⟨he, bel0⟩ := hq
  have bel : Below W.heap.size W W' := bel0
  subst he
  exact ⟨_, rfl, _, _, _, [], _, [], hW', trodAll_mk1 (shut_bool Try.underlying4 _), (trodAll_cons_mk (Below.trod laidOut (by kernel_rfl) (of_decide_eq_true (by kernel_rfl)) k0 bel lt0) (trodAll_cons_mk (Below.trod laidOut (by kernel_rfl) (of_decide_eq_true (by kernel_rfl)) k1 bel lt1) (trodAll_cons_mk (Below.trod laidOut (by kernel_rfl) (of_decide_eq_true (by kernel_rfl)) k2 bel lt2) trodAll_mk0))), rfl, bel.frame _, fun h => by cases h⟩
theorem closed_ : joinedFacts Try.pinned.checked.prog 5 Try.f5 Rows.indexAddsSpec Rows.indexAddsRow = true := by
  unfold joinedFacts
  repeat' (with_reducible apply band)
  any_goals with_reducible exact Join.mayEnter_is
  any_goals (rw [Join.make_is]; kernel_rfl)
  any_goals (rw [Join.lifts_is]; kernel_rfl)
  all_goals kernel_rfl
theorem over : Rows.indexAddsRow.holds Try.pinned (OpenSpec.ofChange Rows.indexAddsSpec) :=
  OpenClaim.holds_of_wide 5 Try.f5 rfl rfl rfl rfl rfl rfl rfl ⟨rfl, rfl, rfl, rfl, rfl⟩ rfl rfl rfl rfl rfl (by kernel_rfl) Try.func5 closed_
    (of_decide_eq_true (by kernel_rfl)) (by unfold Func.isWrapper; first | (rw [if_pos (by decide +kernel)]; kernel_rfl) | (rw [if_neg (by decide +kernel)]; exact ⟨rfl, rfl⟩))
    (fun os started H enc _ => lifted os started H enc)
theorem proved : Rows.IndexAddsSaid := over
#print axioms proved
end Go.Proofs.Ytdpcgigjlcpofaa.indexAdds
namespace Go.Proofs.Ytdpcgigjlcpofaa
theorem indexAdds_holds : Rows.IndexAddsSaid := indexAdds.proved
end Go.Proofs.Ytdpcgigjlcpofaa
