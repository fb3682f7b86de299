-- by prune.py (own program), out of the print
import Derived.Deep.Slices
import Derived.ChangeArms
import Derived.WideShapes
import Derived.OpenShut
import Derived.Test.YtdpcgigjlcpofaaRows
import Derived.ProofKit
import Derived.ShutString
import Derived.ChangeOld
import Derived.SizedLaws
import Derived.Carry
import Derived.Test.YtdpcgigjlcpofaaZBatchUndo5
set_option linter.unusedVariables false
set_option linter.unusedSimpArgs false
namespace Go.Proofs.Ytdpcgigjlcpofaa.Q
open Go.RowKit Ytdpcgigjlcpofaa.F YtdpcgigjlcpofaaX YtdpcgigjlcpofaaW.PrintWords YtdpcgigjlcpofaaW.PrintLast YtdpcgigjlcpofaaW.PrintMore
abbrev BoT := S166
theorem rdR {l : List RwT} {i : Nat} (h : i < l.length) : rd_T164 l (i : Int) = l[i] := by
  unfold rd_T164; simp [h]
theorem rdRA {A B : List RwT} {x : RwT} {i : Nat} (h : A.length = i) : rd_T164 (A ++ x :: B) (i : Int) = x := by
  subst h
  rw [rdR (by simp)]; simp
theorem rdS {s : List (List RwT)} {i : Nat} (h : i < s.length) : rd_L22 s (i : Int) = s[i] := by
  unfold rd_L22; simp [List.getD_eq_getElem?_getD, h]
theorem rdO {l : List BoT} {i : Nat} (h : i < l.length) : rd_T166 l (i : Int) = l[i] := by
  unfold rd_T166; simp [h]
theorem setIB {A B : List Int} {x v : Int} {i : Nat} (h : A.length = i) : (A ++ x :: B).set ((i : Int)).toNat v = A ++ v :: B := by
  subst h; simp
theorem ids_len (l : List RwT) : (idsT l).length = l.length := by unfold idsT; simp
theorem ids_l0 {n : Int} (hn : n ≤ 1000) : ∀ (B A : List RwT), ((A ++ B).length : Int) = n → Ev (fun k => batch_ids.l0 k (idsT A ++ List.replicate B.length 0) (A ++ B) n (A.length : Int)) (idsT (A ++ B))
  | [], A, h => by
    simp only [List.length_append, List.length_nil] at h
    refine Ev.step (fun k => by simp only [batch_ids.l0]; rfl) (Ev.neg (by omega) (Ev.ok ?_))
    simp
  | x :: B, A, h => by
    have h2 := h
    simp only [List.length_append, List.length_cons] at h
    refine Ev.step (fun k => by simp only [batch_ids.l0]; rfl) (Ev.pos (by omega) (Ev.pos (by omega) (Ev.pos (by simp only [List.length_append, List.length_cons]; omega) ?_)))
    simp only [rdRA rfl]
    refine Ev.pos (by simp [idsT]; omega) ?_
    rw [List.length_cons, List.replicate_succ, setIB (ids_len A), wrap_eq (by omega) (by omega)]
    have := ids_l0 hn B (A ++ [x]) (by simp only [List.length_append, List.length_cons, List.length_nil] at h2 ⊢; omega)
    simp only [List.length_append, List.length_cons, List.length_nil, List.append_assoc, List.singleton_append, idsT, List.map_append, List.map_cons, List.map_nil] at this ⊢
    exact this
theorem ids_f {l : List RwT} (h : l.length ≤ 1000) : Ev (fun k => batch_ids.f k l) (idsT l) := by
  unfold batch_ids.f
  refine Ev.pos (by omega) (Ev.pos (by rw [Int.toNat_natCast]; omega) ?_)
  rw [Int.toNat_natCast]
  have := ids_l0 (n := (l.length : Int)) (by omega) l [] (by simp)
  simpa [idsT] using this
theorem bfind_f {l : List RwT} (h : l.length ≤ 1000) (id : Int) : Ev (fun k => batch_find.f k l id) (find (idsT l) id) := by
  unfold batch_find.f
  exact Ev.bind (ids_f h) (Ev.bind (rows_Find_f (by rw [ids_len]; omega)) (Ev.ok rfl))
theorem find_T {l : List RwT} (h : okT l) (id : Int) : find (idsT l) id = ((posT l id : Int), decide (id ∈ idsT l)) := by
  unfold find
  by_cases c : id ∈ idsT l
  · rw [if_pos c, decide_eq_true c, idxOf_sorted (sort_ids.1 h.sort) c]
    rfl
  rw [if_neg c, if_pos h.2.1, decide_eq_false c]
  rfl
def longB (l : List RwT) : Bool := l.any fun r => decide (200 < r.f1.size)
def longI : Nat → List RwT → Int
  | _, [] => -1
  | i, r :: l => if 200 < r.f1.size then (i : Int) else longI (i + 1) l
theorem longI_any : ∀ (l : List RwT) (i : Nat), decide (longI i l ≥ 0) = longB l
  | [], i => rfl
  | r :: l, i => by
    unfold longI longB
    rw [List.any_cons]
    by_cases c : 200 < r.f1.size
    · rw [if_pos c, decide_eq_true c, Bool.true_or]
      exact decide_eq_true (by omega)
    rw [if_neg c, decide_eq_false c, Bool.false_or]
    exact longI_any l (i + 1)
theorem long_l0 {l : List RwT} (hl : l.length ≤ 1000) (d : Nat) : ∀ i : Nat, l.length - i = d → i ≤ l.length → Ev (fun k => slices_IndexFunc_batch_Check_1.l0 k l (l.length : Int) (i : Int)) (longI i (l.drop i)) := by
  induction d with
  | zero =>
    intro i hd hi
    refine Ev.step (fun k => by simp only [slices_IndexFunc_batch_Check_1.l0]; rfl) (Ev.neg (by omega) (Ev.ok ?_))
    rw [List.drop_eq_nil_of_le (by omega)]
    rfl
  | succ d ih =>
    intro i hd hi
    have h : i < l.length := by omega
    refine Ev.step (fun k => by simp only [slices_IndexFunc_batch_Check_1.l0]; rfl) (Ev.pos (by omega) (Ev.pos (by omega) (Ev.pos (by omega) ?_)))
    rw [rdR h, wrap_eq (x := (i : Int) + 1) (by omega) (by omega), drop_cons h]
    refine Q.Ev.bindc (show batch_Check_1.f l[i].f0 l[i].f1 = some (decide ((l[i].f1.size : Int) > 200)) from rfl) (Q.Ev.ite (fun c => Ev.ok ?_) (fun c => ?_))
    · have := of_decide_eq_true c
      unfold longI
      rw [if_pos (by omega)]
    have := of_decide_eq_false (Bool.eq_false_iff.2 c)
    unfold longI
    rw [if_neg (by omega)]
    exact ih (i + 1) (by omega) (by omega)
theorem long_f {l : List RwT} (hl : l.length ≤ 1000) : Ev (fun k => slices_ContainsFunc_batch_Check_1.f k l) (longB l) := by
  unfold slices_ContainsFunc_batch_Check_1.f slices_IndexFunc_batch_Check_1.f
  have := long_l0 hl l.length 0 (by omega) (by omega)
  rw [List.drop_zero] at this
  exact Ev.bind this (Ev.ok (longI_any l 0))
theorem longB_no {l : List RwT} : longB l = false ↔ ∀ r ∈ l, r.f1.size ≤ 200 := by
  unfold longB
  rw [List.any_eq_false]
  exact forall_congr' fun r => forall_congr' fun hr => by simp
instance (l : List RwT) : Decidable (okT l) := by unfold okT; infer_instance
instance (s : List (List RwT)) : Decidable (okS s) := by unfold okS; infer_instance
def chkS (s : List (List RwT)) : Int := if okS s then 0 else 40
theorem chk_zero_S {s : List (List RwT)} : chkS s = 0 ↔ okS s := by
  unfold chkS
  by_cases c : okS s
  · rw [if_pos c]; exact ⟨fun _ => c, fun _ => rfl⟩
  rw [if_neg c]; exact ⟨fun h => by omega, fun h => (c h).elim⟩
theorem chk_bad_S {s : List (List RwT)} (h : chkS s ≠ 0) : chkS s = 40 := by
  unfold chkS at h ⊢
  by_cases c : okS s
  · rw [if_pos c] at h; exact (h rfl).elim
  rw [if_neg c]
def chkL (s : List (List RwT)) : Int := if ∀ l ∈ s, okT l then 0 else 40
theorem chkL_cons {l : List RwT} {s : List (List RwT)} (h : okT l) : chkL (l :: s) = chkL s := by
  unfold chkL
  by_cases c : ∀ x ∈ s, okT x
  · have g : ∀ x ∈ l :: s, okT x := fun x hx => by
      rcases List.mem_cons.1 hx with rfl | hx
      · exact h
      exact c x hx
    rw [if_pos c, if_pos g]
  rw [if_neg c, if_neg (fun q => c fun x hx => q x (List.mem_cons_of_mem _ hx))]
theorem chkL_bad {l : List RwT} {s : List (List RwT)} (h : ¬ okT l) : chkL (l :: s) = 40 := if_neg fun q => h (q l List.mem_cons_self)
def smallS (s : List (List RwT)) : Prop := s.length ≤ 100 ∧ ∀ l ∈ s, l.length ≤ 1000
theorem okS.small {s : List (List RwT)} (h : okS s) : smallS s := ⟨by have := h.1; omega, fun l hl => by have := (h.2 l hl).1; omega⟩
theorem check_l0 {s : List (List RwT)} (h : smallS s) (d : Nat) : ∀ i : Nat, s.length - i = d → i ≤ s.length → Ev (fun k => batch_Check.l0 k s (s.length : Int) (i : Int)) (chkL (s.drop i)) := by
  have h1 := h.1
  induction d with
  | zero =>
    intro i hd hi
    refine Ev.step (fun k => by simp only [batch_Check.l0]; rfl) (Ev.neg (by omega) (Ev.ok ?_))
    rw [List.drop_eq_nil_of_le (by omega)]
    rfl
  | succ d ih =>
    intro i hd hi
    have hi2 : i < s.length := by omega
    have hl := h.2 _ (List.getElem_mem hi2)
    refine Ev.step (fun k => by simp only [batch_Check.l0]; rfl) (Ev.pos (by omega) (Ev.pos (by omega) (Ev.pos (by omega) ?_)))
    rw [rdS hi2, wrap_eq (x := (i : Int) + 1) (by omega) (by omega), drop_cons hi2]
    refine Q.Ev.ite (fun c => Ev.ok ?_) (fun c => Ev.bind (ids_f hl) (Ev.bind (rows_Rising_f (by rw [ids_len]; omega)) (Q.Ev.ite (fun c2 => Ev.bind (long_f hl) (Q.Ev.ite (fun c3 => Ev.ok ?_) (fun c3 => ?_))) (fun c2 => Ev.ok ?_))))
    · exact (chkL_bad fun q => by have := q.1; omega).symm
    · refine (chkL_bad fun q => ?_).symm
      rw [longB_no.2 q.2.2] at c3
      exact Bool.false_ne_true c3
    · rw [chkL_cons ⟨by omega, c2, longB_no.1 (Bool.eq_false_iff.2 c3)⟩]
      exact ih (i + 1) (by omega) (by omega)
    exact (chkL_bad fun q => c2 q.2.1).symm
theorem bcheck_f {s : List (List RwT)} (h : smallS s) : Ev (fun k => batch_Check.f k s) (chkS s) := by
  unfold batch_Check.f
  refine Q.Ev.ite (fun c => Ev.ok ?_) (fun c => ?_)
  · unfold chkS
    rw [if_neg fun q => by have := q.1; omega]
  have := check_l0 h s.length 0 (by omega) (by omega)
  rw [List.drop_zero] at this
  refine Ev.eq this ?_
  unfold chkL chkS
  by_cases q : ∀ l ∈ s, okT l
  · rw [if_pos q, if_pos (show okS s from ⟨by omega, q⟩)]
  rw [if_neg q, if_neg (show ¬ okS s from fun w => q w.2)]
def getB (s : List (List RwT)) (t id : Int) : ByteArray × Bool := if okS s ∧ 0 ≤ t ∧ t < s.length ∧ id ∈ idsT (s.getD t.toNat []) then (textT (s.getD t.toNat []) id, true) else (⟨#[]⟩, false)
theorem at_in {l : List RwT} (h : okT l) {id : Int} (hm : id ∈ idsT l) : ∃ hi : posT l id < l.length, l[posT l id].f0 = id ∧ l[posT l id].f1 = textT l id := by
  obtain ⟨A, r, B, rfl, hr, hp, _⟩ := split_in h.sort hm
  refine ⟨by rw [hp]; simp, ?_⟩
  have e : (A ++ r :: B)[posT (A ++ r :: B) id]'(by rw [hp]; simp) = r := by
    rw [List.getElem_append_right (by omega)]
    simp [hp]
  rw [e, ← text_in h.sort (r := r) (by simp), hr]
  exact ⟨rfl, rfl⟩
theorem getD_S {s : List (List RwT)} {i : Nat} (h : i < s.length) : s.getD i [] = s[i] := by simp [h]
theorem bget_f {s : List (List RwT)} (h : smallS s) (t id : Int) : Ev (fun k => batch_Get.f k s t id) (getB s t id) := by
  have j0 : ∀ b : Bool, (b = false → okS s ∧ 0 ≤ t ∧ t < s.length) → (b = true → ¬ (okS s ∧ 0 ≤ t ∧ t < s.length)) → Ev (fun k => batch_Get.j0 k t id b s) (getB s t id) := by
    intro b h1 h2
    refine Ev.step (fun k => by simp only [batch_Get.j0]; rfl) (Q.Ev.ite (fun c => Ev.ok ?_) (fun c => ?_))
    · unfold getB
      rw [if_neg fun q => h2 c ⟨q.1, q.2.1, q.2.2.1⟩]
    obtain ⟨g1, g2, g3⟩ := h1 (Bool.eq_false_iff.2 c)
    obtain ⟨n, rfl⟩ := Int.eq_ofNat_of_zero_le g2
    have hn : n < s.length := by omega
    have hok := g1.2 _ (List.getElem_mem hn)
    refine Ev.pos g2 (Ev.pos g3 ?_)
    rw [rdS hn]
    refine Ev.bind (bfind_f (by have := hok.1; omega) id) ?_
    rw [find_T hok]
    unfold getB
    simp only [Int.toNat_natCast]
    rw [getD_S hn]
    refine Q.Ev.ite (fun c => ?_) (fun c => Ev.ok ?_)
    · have hm := of_decide_eq_true c
      obtain ⟨hp, e0, e1⟩ := at_in hok hm
      refine Ev.pos (by omega) (Ev.pos (by omega) (Ev.ok ?_))
      rw [rdR hp, e1, if_pos ⟨g1, g2, g3, hm⟩]
    have hm := of_decide_eq_false (Bool.eq_false_iff.2 c)
    rw [if_neg fun q => hm q.2.2.2]
  unfold batch_Get.f
  refine Ev.bind (bcheck_f h) (Q.Ev.ite (fun c => ?_) (fun c => j0 true (by simp) fun _ q => c (chk_zero_S.2 q.1)))
  refine Q.Ev.ite (fun c2 => j0 true (by simp) fun _ q => by omega) (fun c2 => j0 _ (fun g => ⟨chk_zero_S.1 c, ?_⟩) (fun g q => ?_))
  · have := of_decide_eq_false g
    omega
  have := of_decide_eq_true g
  omega
def opX (o : BoT) : OpX := ⟨o.f0, o.f1, o.f2, o.f3⟩
theorem bwrong_f {s : List (List RwT)} (h : okS s) (o : OpX) : Ev (fun k => batch_Store_wrong.f k s o.tb o.k o.id o.tx) (whyS s o) := by
  have j5 : ∀ (b x : Bool) (l : List RwT), (b = decide (o.id ∈ idsT l)) → (x = true ↔ (o.k = 1 ∧ 60 ≤ l.length)) → ¬ (o.k = 1 ∧ o.id ∈ idsT l) → Ev (fun k => batch_Store_wrong.j5 k b x o.tb o.k o.id o.tx) (whyT l o.k o.id) := by
    intro b x l hb hx hn
    unfold whyT
    rw [if_neg hn]
    refine Ev.step (fun k => by simp only [batch_Store_wrong.j5]; rfl) (Q.Ev.ite (fun c => Ev.ok (if_pos (hx.1 c)).symm) (fun c => ?_))
    rw [if_neg fun q => c (hx.2 q)]
    refine Q.Ev.ite (fun c2 => Ev.ok ?_) (fun c2 => Q.Ev.ite (fun c3 => Ev.ok ?_) (fun c3 => Ev.ok ?_))
    · rw [if_neg fun q => q.1 c2]
    · rw [hb] at c3
      rw [if_neg fun q => q.2 (of_decide_eq_true c3)]
    rw [hb] at c3
    rw [if_pos ⟨c2, of_decide_eq_false (Bool.eq_false_iff.2 c3)⟩]
  have j4 : ∀ (b x : Bool) (l : List RwT), (b = decide (o.id ∈ idsT l)) → (x = true ↔ (o.k = 1 ∧ o.id ∈ idsT l)) → Ev (fun k => batch_Store_wrong.j4 k l b x o.tb o.k o.id o.tx) (whyT l o.k o.id) := by
    intro b x l hb hx
    refine Ev.step (fun k => by simp only [batch_Store_wrong.j4]; rfl) (Q.Ev.ite (fun c => Ev.ok ?_) (fun c => ?_))
    · unfold whyT
      rw [if_pos (hx.1 c)]
    have hn : ¬ (o.k = 1 ∧ o.id ∈ idsT l) := fun q => c (hx.2 q)
    refine Q.Ev.ite (fun c2 => j5 b _ l hb ?_ hn) (fun c2 => j5 b _ l hb ?_ hn)
    · rw [decide_eq_true_iff]
      exact ⟨fun q => ⟨c2, by omega⟩, fun q => by have := q.2; omega⟩
    exact ⟨fun q => (Bool.false_ne_true q).elim, fun q => (c2 q.1).elim⟩
  have j3 : 0 ≤ o.tb → o.tb < s.length → Ev (fun k => batch_Store_wrong.j3 k s o.tb o.k o.id o.tx) (whyT (s.getD o.tb.toNat []) o.k o.id) := by
    intro g2 g3
    obtain ⟨n, hn⟩ := Int.eq_ofNat_of_zero_le g2
    rw [hn] at g2 g3 ⊢
    have hn2 : n < s.length := by omega
    have hok := h.2 _ (List.getElem_mem hn2)
    refine Ev.step (fun k => by simp only [batch_Store_wrong.j3]; rfl) (Ev.pos g2 (Ev.pos g3 ?_))
    rw [rdS hn2]
    refine Ev.bind (bfind_f (by have := hok.1; omega) o.id) ?_
    rw [find_T hok]
    simp only [Int.toNat_natCast]
    rw [getD_S hn2]
    have j4' := fun x => j4 (decide (o.id ∈ idsT s[n])) x s[n] rfl
    rw [hn] at j4'
    refine Q.Ev.ite (fun c => j4' _ ?_) (fun c => j4' _ ?_)
    · rw [decide_eq_true_iff]
      exact ⟨fun q => ⟨c, q⟩, fun q => q.2⟩
    exact ⟨fun q => (Bool.false_ne_true q).elim, fun q => (c q.1).elim⟩
  have j2 : 0 ≤ o.tb → o.tb < s.length → ∀ x : Bool, (x = true ↔ (o.id < 1 ∨ 999999 < o.id)) → Ev (fun k => batch_Store_wrong.j2 k x s o.tb o.k o.id o.tx) (if o.id < 1 ∨ 999999 < o.id then 31 else if o.k ≠ 3 ∧ 200 < o.tx.size then 3 else whyT (s.getD o.tb.toNat []) o.k o.id) := by
    intro g2 g3 x hx
    refine Ev.step (fun k => by simp only [batch_Store_wrong.j2]; rfl) (Q.Ev.ite (fun c => Ev.ok (if_pos (hx.1 c)).symm) (fun c => ?_))
    rw [if_neg fun q => c (hx.2 q)]
    refine Q.Ev.ite (fun c2 => ?_) (fun c2 => Q.Ev.ite (fun c3 => Ev.ok ?_) (fun c3 => ?_))
    · rw [if_neg fun q => q.1 c2]
      exact j3 g2 g3
    · rw [if_pos ⟨c2, by omega⟩]
    rw [if_neg fun q => by have := q.2; omega]
    exact j3 g2 g3
  have j1 : ∀ x : Bool, (x = true ↔ (o.tb < 0 ∨ (s.length : Int) ≤ o.tb)) → Ev (fun k => batch_Store_wrong.j1 k x s o.tb o.k o.id o.tx) (if o.tb < 0 ∨ (s.length : Int) ≤ o.tb then 2 else if o.id < 1 ∨ 999999 < o.id then 31 else if o.k ≠ 3 ∧ 200 < o.tx.size then 3 else whyT (s.getD o.tb.toNat []) o.k o.id) := by
    intro x hx
    refine Ev.step (fun k => by simp only [batch_Store_wrong.j1]; rfl) (Q.Ev.ite (fun c => Ev.ok (if_pos (hx.1 c)).symm) (fun c => ?_))
    have hn : ¬ (o.tb < 0 ∨ (s.length : Int) ≤ o.tb) := fun q => c (hx.2 q)
    rw [if_neg hn]
    refine Q.Ev.ite (fun c2 => j2 (by omega) (by omega) _ ?_) (fun c2 => j2 (by omega) (by omega) _ ?_)
    · exact ⟨fun _ => .inl c2, fun _ => rfl⟩
    rw [decide_eq_true_iff]; omega
  have j0 : ∀ x : Bool, (x = true ↔ (o.k < 1 ∨ 3 < o.k)) → Ev (fun k => batch_Store_wrong.j0 k x s o.tb o.k o.id o.tx) (whyS s o) := by
    intro x hx
    unfold whyS
    refine Ev.step (fun k => by simp only [batch_Store_wrong.j0]; rfl) (Q.Ev.ite (fun c => Ev.ok (if_pos (hx.1 c)).symm) (fun c => ?_))
    rw [if_neg fun q => c (hx.2 q)]
    refine Q.Ev.ite (fun c2 => j1 _ ?_) (fun c2 => j1 _ ?_)
    · exact ⟨fun _ => .inl c2, fun _ => rfl⟩
    rw [decide_eq_true_iff]; omega
  unfold batch_Store_wrong.f
  refine Q.Ev.ite (fun c2 => j0 _ ?_) (fun c2 => j0 _ ?_)
  · exact ⟨fun _ => .inl c2, fun _ => rfl⟩
  rw [decide_eq_true_iff]; omega
theorem pos_le (l : List RwT) (id : Int) : posT l id ≤ l.length := by
  have := List.countP_le_length (p := fun x => decide (x < id)) (l := idsT l)
  rw [ids_len] at this
  exact this
theorem with_T {l : List RwT} (h : l.length ≤ 1000) (id : Int) (tx : ByteArray) : batch_Row_144.f l (posT l id : Int) id tx = some (putT l ⟨id, tx⟩, 0) := by
  have := pos_le l id
  unfold batch_Row_144.f putT
  rw [if_neg (by omega), if_neg (by omega), if_pos (by omega), Int.toNat_natCast]
theorem set_T {l : List RwT} (h : l.length ≤ 1000) (id : Int) (tx : ByteArray) (hi : posT l id < l.length) : batch_Row_145.f l (posT l id : Int) id tx = some (setT l ⟨id, tx⟩, 0) := by
  unfold batch_Row_145.f setT
  rw [if_neg (by omega), if_neg (by omega), if_pos (by omega), Int.toNat_natCast]
theorem cut_T {l : List RwT} (h : l.length ≤ 1000) (id : Int) (hi : posT l id < l.length) : batch_Row_146.f l (posT l id : Int) = some (cutT l id, 0) := by
  unfold batch_Row_146.f cutT
  rw [if_neg (by omega), if_neg (by omega), if_pos (by omega), Int.toNat_natCast]
theorem clone_S {s : List (List RwT)} (h : s.length ≤ 1000) : batch_Row_96.f s = some s := by
  unfold batch_Row_96.f
  rw [if_pos (by omega)]
theorem bdoes_f {s : List (List RwT)} (h : okS s) (o : OpX) : Ev (fun k => batch_Store_does.f k s o.tb o.k o.id o.tx) (if whyS s o = 0 then (doS s o, 0) else ([], whyS s o)) := by
  unfold batch_Store_does.f
  refine Ev.bind (bwrong_f h o) (Q.Ev.ite (fun c => ?_) (fun c => Ev.ok (if_neg c).symm))
  rw [if_pos c]
  have g := why_S.1 c
  have g0 := g.t0
  have g1 := g.t1
  obtain ⟨n, hn⟩ := Int.eq_ofNat_of_zero_le g0
  rw [hn, Int.toNat_natCast] at g1
  have hok := h.2 _ (List.getElem_mem g1)
  have h60 := hok.1
  have h8 := h.1
  have e : s.getD o.tb.toNat [] = s[n] := by rw [hn, Int.toNat_natCast]; exact getD_S g1
  have hw := g.w
  rw [e] at hw
  obtain ⟨w1, w2⟩ := why_T hw
  unfold doS doT
  rw [e, hn]
  refine Ev.pos (by omega) (Ev.pos (by omega) ?_)
  rw [rdS g1]
  refine Ev.bind (bfind_f (by omega) o.id) ?_
  rw [find_T hok]
  have hset : ∀ v, Ev (fun _ : Nat => (batch_Row_96.f s).bind fun t => if (n : Int) < (t.length : Int) then some (t.set ((n : Int)).toNat v, (0 : Int)) else none) (s.set ((n : Int)).toNat v, 0) := fun v => Q.Ev.bindc (clone_S (by omega)) (Ev.pos (by omega) (Ev.ok rfl))
  refine Q.Ev.ite (fun c1 => ?_) (fun c1 => Q.Ev.ite (fun c2 => ?_) (fun c2 => ?_))
  · rw [if_pos c1]
    exact Q.Ev.bindc (with_T (by omega) o.id o.tx) (hset _)
  · rw [if_neg c1, if_pos c2]
    exact Q.Ev.bindc (set_T (by omega) o.id o.tx (at_in hok (w2 c1)).1) (hset _)
  rw [if_neg c1, if_neg c2]
  exact Q.Ev.bindc (cut_T (by omega) o.id (at_in hok (w2 c1)).1) (hset _)
theorem apply_l0 {l : List BoT} (hl : l.length ≤ 100000) (d : Nat) : ∀ (i : Nat) (s : List (List RwT)), l.length - i = d → i ≤ l.length → okS s → Ev (fun k => batch_Apply.l0 k l l (l.length : Int) (i : Int) s) (runS s ((l.drop i).map opX) (i : Int)) := by
  induction d with
  | zero =>
    intro i s hd hi hs
    refine Ev.step (fun k => by simp only [batch_Apply.l0]; rfl) (Ev.neg (by omega) (Ev.ok ?_))
    rw [List.drop_eq_nil_of_le (by omega), show l.length = i by omega]
    rfl
  | succ d ih =>
    intro i s hd hi hs
    have h : i < l.length := by omega
    refine Ev.step (fun k => by simp only [batch_Apply.l0]; rfl) (Ev.pos (by omega) (Ev.pos (by omega) (Ev.pos (by omega) ?_)))
    rw [rdO h, wrap_eq (x := (i : Int) + 1) (by omega) (by omega), drop_cons h]
    refine Ev.bind (bdoes_f hs (opX l[i])) ?_
    simp only [List.map_cons, runS]
    by_cases c : whyS s (opX l[i]) = 0
    · rw [if_pos c, if_pos c]
      exact Ev.pos rfl (ih (i + 1) _ (by omega) (by omega) (do_okS hs (why_S.1 c)))
    rw [if_neg c, if_neg c]
    exact Ev.neg c (Ev.ok rfl)
def applyS (s : List (List RwT)) (l : List OpX) : List (List RwT) × Int × Int := if chkS s = 0 then runS s l 0 else ([], 0, 40)
theorem bapply_f {s : List (List RwT)} (h : smallS s) {l : List BoT} (hl : l.length ≤ 100000) : Ev (fun k => batch_Apply.f k s l) (applyS s (l.map opX)) := by
  unfold batch_Apply.f applyS
  refine Ev.bind (bcheck_f h) (Q.Ev.ite (fun c => ?_) (fun c => Ev.ok ?_))
  · rw [if_pos c]
    refine Q.Ev.bindc (clone_S (by have := h.1; omega)) ?_
    have := apply_l0 hl l.length 0 s (by omega) (by omega) (chk_zero_S.1 c)
    rw [List.drop_zero] at this
    exact this
  rw [if_neg c, chk_bad_S c]
def ofX (o : OpX) : BoT := ⟨o.tb, o.k, o.id, o.tx⟩
theorem contrary_f {s : List (List RwT)} (h : okS s) {o : OpX} (g : Goes s o) : Ev (fun k => batch_Store_contrary.f k s o.tb o.k o.id o.tx) ((backS s o).tb, (backS s o).k, (backS s o).id, (backS s o).tx) := by
  unfold batch_Store_contrary.f
  refine Ev.bind (bget_f h.small o.tb o.id) ?_
  have g0 := g.t0
  have g1 := g.t1
  have w2 := (why_T g.w).2
  unfold backS
  refine Q.Ev.ite (fun c1 => Ev.ok ?_) (fun c1 => Q.Ev.ite (fun c2 => Ev.ok ?_) (fun c2 => Ev.ok ?_))
  · rw [if_pos c1]
  · rw [if_neg c1, if_pos c2]
    unfold getB
    rw [if_pos ⟨h, g0, by omega, w2 c1⟩]
  rw [if_neg c1, if_neg c2]
  unfold getB
  rw [if_pos ⟨h, g0, by omega, w2 c1⟩]
theorem setO {A B : List BoT} {x v : BoT} {i : Nat} (h : A.length = i) : (A ++ x :: B).set ((i : Int)).toNat v = A ++ v :: B := by
  subst h; simp
theorem rdOA {A B : List BoT} {x : BoT} {i : Nat} (h : A.length = i) : rd_T166 (A ++ x :: B) (i : Int) = x := by
  subst h
  rw [rdO (by simp)]; simp
theorem rev_l0 (n : Nat) : ∀ (A M B : List BoT), M.length ≤ n → (A ++ (M ++ B)).length ≤ 1000000 → Ev (fun k => batch_Op.l0 k (A ++ (M ++ B)) (A.length : Int) ((A.length : Int) + M.length - 1)) (A ++ (M.reverse ++ B)) := by
  induction n with
  | zero =>
    intro A M B hM hl
    obtain rfl := List.eq_nil_of_length_eq_zero (Nat.le_zero.1 hM)
    exact Ev.step (fun k => by simp only [batch_Op.l0]; rfl) (Ev.neg (by simp only [List.length_nil]; omega) (Ev.ok rfl))
  | succ n ih =>
    intro A M B hM hl
    cases M with
    | nil => exact Ev.step (fun k => by simp only [batch_Op.l0]; rfl) (Ev.neg (by simp only [List.length_nil]; omega) (Ev.ok rfl))
    | cons x M =>
      rcases List.eq_nil_or_concat M with rfl | ⟨M, y, rfl⟩
      · exact Ev.step (fun k => by simp only [batch_Op.l0]; rfl) (Ev.neg (by simp only [List.length_cons, List.length_nil]; omega) (Ev.ok rfl))
      simp only [List.concat_eq_append] at hM hl ⊢
      simp only [List.length_append, List.length_cons, List.length_nil] at hM hl
      have e1 : (A.length : Int) + ((x :: (M ++ [y])).length : Int) - 1 = ((A ++ x :: M).length : Nat) := by simp only [List.length_append, List.length_cons, List.length_nil]; omega
      have e2 : A ++ (x :: (M ++ [y]) ++ B) = (A ++ x :: M) ++ y :: B := by simp
      have e3 : A ++ (x :: (M ++ [y]) ++ B) = A ++ x :: (M ++ y :: B) := by simp
      rw [e1]
      refine Ev.step (fun k => by simp only [batch_Op.l0]; rfl) (Ev.pos (by simp only [List.length_append, List.length_cons]; omega) (Ev.pos (by omega) (Ev.pos (by simp only [List.length_append, List.length_cons, List.length_nil]; omega) (Ev.pos (by omega) (Ev.pos (by simp only [List.length_append, List.length_cons, List.length_nil]; omega) ?_)))))
      rw [show rd_T166 (A ++ (x :: (M ++ [y]) ++ B)) (((A ++ x :: M).length : Nat) : Int) = y by rw [e2]; exact rdOA rfl]
      rw [show rd_T166 (A ++ (x :: (M ++ [y]) ++ B)) ((A.length : Nat) : Int) = x by rw [e3]; exact rdOA rfl]
      rw [e3, setO rfl]
      have e4 : A ++ y :: (M ++ y :: B) = (A ++ y :: M) ++ y :: B := by simp
      have ey : (⟨y.f0, y.f1, y.f2, y.f3⟩ : BoT) = y := rfl
      have ex : (⟨x.f0, x.f1, x.f2, x.f3⟩ : BoT) = x := rfl
      rw [ey, ex, e4, setO (show (A ++ y :: M).length = (A ++ x :: M).length by simp)]
      have := ih (A ++ [y]) M (x :: B) (by omega) (by simp only [List.length_append, List.length_cons, List.length_nil]; omega)
      simp only [List.length_append, List.length_cons, List.length_nil] at this ⊢
      rw [wrap_eq (by omega) (by omega), wrap_eq (by omega) (by omega)]
      have f1 : (((A.length + (M.length + 1) : Nat) : Int) - 1) = ((A.length + (0 + 1) : Nat) : Int) + (M.length : Int) - 1 := by omega
      have f2 : ((A.length : Int) + 1) = ((A.length + (0 + 1) : Nat) : Int) := by omega
      rw [f1, f2]
      simpa using this
theorem rev_f {l : List BoT} (h : l.length ≤ 1000000) : Ev (fun k => batch_Op.f k l) l.reverse := by
  unfold batch_Op.f
  have := rev_l0 l.length [] l [] (Nat.le_refl _) (by simpa using h)
  simp only [List.append_nil, List.nil_append, List.length_nil] at this
  rw [wrap_eq (by omega) (by omega)]
  simpa using this
def backsS (s : List (List RwT)) : List OpX → List OpX
  | [] => []
  | o :: l => backS s o :: backsS (doS s o) l
theorem backs_rev : ∀ (l : List OpX) (s : List (List RwT)), (backsS s l).reverse = undoS s l
  | [], s => rfl
  | o :: l, s => by simp only [backsS, undoS, List.reverse_cons, backs_rev l]
theorem backs_len : ∀ (l : List OpX) (s : List (List RwT)), (backsS s l).length = l.length
  | [], s => rfl
  | o :: l, s => by simp only [backsS, List.length_cons, backs_len l]
theorem undo_l0 {l : List BoT} (hl : l.length ≤ 100000) (d : Nat) : ∀ (i : Nat) (s : List (List RwT)) (out : List BoT), l.length - i = d → i ≤ l.length → okS s → out.length ≤ i → (∃ j, (runS s ((l.drop i).map opX) j).2.2 = 0) → Ev (fun k => batch_Undo.l0 k out l (l.length : Int) (i : Int) s) ((out ++ (backsS s ((l.drop i).map opX)).map ofX).reverse, 0) := by
  induction d with
  | zero =>
    intro i s out hd hi hs ho hr
    refine Ev.step (fun k => by simp only [batch_Undo.l0]; rfl) (Ev.neg (by omega) (Ev.bind (rev_f (by omega)) (Ev.ok ?_)))
    rw [List.drop_eq_nil_of_le (by omega)]
    simp [backsS]
  | succ d ih =>
    intro i s out hd hi hs ho hr
    have h : i < l.length := by omega
    obtain ⟨j, hr⟩ := hr
    rw [drop_cons h, List.map_cons] at hr
    simp only [runS] at hr
    by_cases c : whyS s (opX l[i]) = 0
    · rw [if_pos c] at hr
      have g := why_S.1 c
      refine Ev.step (fun k => by simp only [batch_Undo.l0]; rfl) (Ev.pos (by omega) (Ev.pos (by omega) (Ev.pos (by omega) ?_)))
      rw [rdO h, wrap_eq (x := (i : Int) + 1) (by omega) (by omega), drop_cons h]
      refine Ev.bind (contrary_f hs g) (Ev.pos (by omega) (Ev.bind (bdoes_f hs (opX l[i])) ?_))
      rw [if_pos c]
      refine Ev.pos rfl ?_
      have := ih (i + 1) (doS s (opX l[i])) (out ++ [ofX (backS s (opX l[i]))]) (by omega) (by omega) (do_okS hs g) (by simp; omega) ⟨_, hr⟩
      simp only [List.append_assoc, List.singleton_append] at this
      exact this
    rw [if_neg c] at hr
    exact (c hr).elim
def undoR (s : List (List RwT)) (l : List OpX) : List OpX × Int := if (applyS s l).2.2 = 0 then (undoS s l, 0) else ([], (applyS s l).2.2)
theorem bundo_f {s : List (List RwT)} (h : smallS s) {l : List BoT} (hl : l.length ≤ 100000) : Ev (fun k => batch_Undo.f k s l) ((undoR s (l.map opX)).1.map ofX, (undoR s (l.map opX)).2) := by
  unfold batch_Undo.f undoR
  refine Ev.bind (bapply_f h hl) (Q.Ev.ite (fun c => ?_) (fun c => Ev.ok ?_))
  · rw [if_pos c]
    have hok : okS s := by
      refine Classical.byContradiction fun q => ?_
      unfold applyS at c
      rw [if_neg (fun w => q (chk_zero_S.1 w))] at c
      simp at c
    have hr : (runS s (l.map opX) 0).2.2 = 0 := by
      unfold applyS at c
      rwa [if_pos (chk_zero_S.2 hok)] at c
    have := undo_l0 hl l.length 0 s [] (by omega) (by omega) hok (by simp) ⟨0, by rw [List.drop_zero]; exact hr⟩
    rw [List.drop_zero, List.nil_append] at this
    refine Ev.eq this ?_
    rw [← List.map_reverse, backs_rev]
  rw [if_neg c]
  rfl
end Go.Proofs.Ytdpcgigjlcpofaa.Q
namespace Go.Proofs.Ytdpcgigjlcpofaa.F
open Go.RowKit YtdpcgigjlcpofaaX YtdpcgigjlcpofaaW.PrintWords YtdpcgigjlcpofaaW.PrintLast YtdpcgigjlcpofaaW.PrintMore
attribute [local go_sem] max2_int min2_int max_two min_two max_three min_three max_four min_four
attribute [local go_sem high] str_geq str_leq str_gtr
theorem eqA173 (d : Nat) (w : World) (x0 y0 : Int) (x1 y1 : Int) (x2 y2 : Int) (x3 y3 : ByteArray) :
    (Op.equalIn (d + 2) 173 (.agg #[.int .i64 x0, .int .i64 x1, .int .i64 x2, .string x3]) (.agg #[.int .i64 y0, .int .i64 y1, .int .i64 y2, .string y3])).run Try.prog w = .ok (x0 == y0 && (x1 == y1 && (x2 == y2 && (x3.toList == y3.toList)))) w := by
  refine eqA_of Try.underlying173 (by kernel_rfl) ?_
  refine eqf_cons (by rfl) (by go_simp; rfl) (by go_simp; rfl) (by go_simp) ?_
  refine eqf_cons (by rfl) (by go_simp; rfl) (by go_simp; rfl) (by go_simp) ?_
  refine eqf_cons (by rfl) (by go_simp; rfl) (by go_simp; rfl) (by go_simp) ?_
  exact eqf_last (by rfl) (by go_simp; rfl) (by go_simp; rfl) (by go_simp)
end Go.Proofs.Ytdpcgigjlcpofaa.F
namespace Go.Proofs.Ytdpcgigjlcpofaa.Q
open Go.RowKit Ytdpcgigjlcpofaa.F YtdpcgigjlcpofaaX YtdpcgigjlcpofaaW.PrintWords YtdpcgigjlcpofaaW.PrintLast YtdpcgigjlcpofaaW.PrintMore
theorem cells_len : ∀ (s : List (List RwT)) (i : Int), (∀ l ∈ s, l.length ≤ 1000) → (cellsF i s).length ≤ 1000 * s.length
  | [], i, _ => by simp [cellsF]
  | l :: s, i, h => by
    have h1 := h l List.mem_cons_self
    have h2 := cells_len s (i + 1) fun x hx => h x (List.mem_cons_of_mem _ hx)
    simp only [cellsF, List.length_append, List.length_map, List.length_cons]
    omega
theorem small_cells {s : List (List RwT)} (h : smallS s) : (cellsF 0 s).length ≤ 100000 := by
  have := cells_len s 0 h.2
  have := h.1
  omega
def rowC (i : Int) (r : RwT) : CeT := ⟨i, r.f0, r.f1⟩
theorem of_l1 {s : List (List RwT)} (h : smallS s) {i : Nat} (hi : i < s.length) {R : Int × List CeT} {F : List CeT} (hR : Ev (fun k => backhaullaw15_of.l0 k ((i + 1 : Nat) : Int) s (s.length : Int) F) R) (d : Nat) : ∀ (j : Nat) (acc : List CeT), s[i].length - j = d → j ≤ s[i].length → acc.length ≤ 1000000 + j → acc ++ (s[i].drop j).map (rowC (i : Int)) = F → Ev (fun k => backhaullaw15_of.l1 k (i : Int) (j : Int) s (s.length : Int) acc) R := by
  have h1 := h.1
  have hl := h.2 _ (List.getElem_mem hi)
  induction d with
  | zero =>
    intro j acc hd hj ha hF
    refine Ev.step (fun k => by simp only [backhaullaw15_of.l1]; rfl) (Ev.pos (by omega) (Ev.pos (by omega) ?_))
    rw [rdS hi]
    refine Ev.neg (by omega) ?_
    rw [wrap_eq (by omega) (by omega)]
    rw [List.drop_eq_nil_of_le (by omega), List.map_nil, List.append_nil] at hF
    rw [hF]
    exact hR
  | succ d ih =>
    intro j acc hd hj ha hF
    have hj2 : j < s[i].length := by omega
    refine Ev.step (fun k => by simp only [backhaullaw15_of.l1]; rfl) (Ev.pos (by omega) (Ev.pos (by omega) ?_))
    rw [rdS hi]
    refine Ev.pos (by omega) (Ev.pos (by omega) (Ev.pos (by omega) ?_))
    rw [rdR hj2, wrap_eq (x := (j : Int) + 1) (by omega) (by omega)]
    refine ih (j + 1) _ (by omega) (by omega) (by simp; omega) ?_
    rw [← hF, drop_cons hj2, List.map_cons, List.append_assoc, List.singleton_append]
    rfl
theorem of_l0 {s : List (List RwT)} (h : smallS s) (d : Nat) : ∀ (i : Nat) (acc : List CeT), s.length - i = d → i ≤ s.length → acc.length ≤ 1000 * i → Ev (fun k => backhaullaw15_of.l0 k (i : Int) s (s.length : Int) acc) ((s.length : Int), acc ++ cellsF (i : Int) (s.drop i)) := by
  have h1 := h.1
  induction d with
  | zero =>
    intro i acc hd hi ha
    refine Ev.step (fun k => by simp only [backhaullaw15_of.l0]; rfl) (Ev.neg (by omega) (Ev.ok ?_))
    rw [List.drop_eq_nil_of_le (by omega)]
    simp [cellsF]
  | succ d ih =>
    intro i acc hd hi ha
    have hi2 : i < s.length := by omega
    have hl := h.2 _ (List.getElem_mem hi2)
    refine Ev.step (fun k => by simp only [backhaullaw15_of.l0]; rfl) (Ev.pos (by omega) ?_)
    refine of_l1 h hi2 (F := acc ++ s[i].map (rowC (i : Int))) ?_ s[i].length 0 acc (by omega) (by omega) (by omega) (by rw [List.drop_zero])
    have := ih (i + 1) (acc ++ s[i].map (rowC (i : Int))) (by omega) (by omega) (by simp; omega)
    rw [drop_cons hi2]
    simp only [cellsF]
    rw [List.append_assoc] at this
    exact this
theorem of_f {s : List (List RwT)} (h : smallS s) : Ev (fun k => backhaullaw15_of.f k s) ((s.length : Int), cellsF 0 s) := by
  unfold backhaullaw15_of.f
  have := of_l0 h s.length 0 [] (by omega) (by omega) (by simp)
  simpa using this
def fewB (s : List (List RwT)) : Bool := decide (s.length ≤ 12) && s.all fun l => decide (l.length ≤ 70) && l.all fun r => decide (r.f1.size ≤ 300)
theorem few_l1 {s : List (List RwT)} (h : s.length ≤ 12) {i : Nat} (hi : i < s.length) (hl : s[i].length ≤ 70) {R : Bool} (hR : Ev (fun k => backhaullaw15_few.l0 k ((i + 1 : Nat) : Int) s) R) (d : Nat) : ∀ j : Nat, s[i].length - j = d → j ≤ s[i].length → Ev (fun k => backhaullaw15_few.l1 k (i : Int) (j : Int) s) (((s[i].drop j).all fun r => decide (r.f1.size ≤ 300)) && R) := by
  induction d with
  | zero =>
    intro j hd hj
    refine Ev.step (fun k => by simp only [backhaullaw15_few.l1]; rfl) (Ev.pos (by omega) (Ev.pos (by omega) ?_))
    rw [rdS hi]
    refine Ev.neg (by omega) ?_
    rw [wrap_eq (by omega) (by omega), List.drop_eq_nil_of_le (by omega), List.all_nil, Bool.true_and]
    exact hR
  | succ d ih =>
    intro j hd hj
    have hj2 : j < s[i].length := by omega
    refine Ev.step (fun k => by simp only [backhaullaw15_few.l1]; rfl) (Ev.pos (by omega) (Ev.pos (by omega) ?_))
    rw [rdS hi]
    refine Ev.pos (by omega) (Ev.pos (by omega) ?_)
    rw [rdR hj2, wrap_eq (x := (j : Int) + 1) (by omega) (by omega), drop_cons hj2, List.all_cons]
    refine Q.Ev.ite (fun c => Ev.ok ?_) (fun c => ?_)
    · rw [decide_eq_false (by omega), Bool.false_and, Bool.false_and]
    rw [decide_eq_true (by omega), Bool.true_and]
    exact ih (j + 1) (by omega) (by omega)
theorem few_l0 {s : List (List RwT)} (h : s.length ≤ 12) (d : Nat) : ∀ i : Nat, s.length - i = d → i ≤ s.length → Ev (fun k => backhaullaw15_few.l0 k (i : Int) s) ((s.drop i).all fun l => decide (l.length ≤ 70) && l.all fun r => decide (r.f1.size ≤ 300)) := by
  induction d with
  | zero =>
    intro i hd hi
    refine Ev.step (fun k => by simp only [backhaullaw15_few.l0]; rfl) (Ev.neg (by omega) (Ev.ok ?_))
    rw [List.drop_eq_nil_of_le (by omega)]
    rfl
  | succ d ih =>
    intro i hd hi
    have hi2 : i < s.length := by omega
    refine Ev.step (fun k => by simp only [backhaullaw15_few.l0]; rfl) (Ev.pos (by omega) (Ev.pos (by omega) ?_))
    rw [rdS hi2, drop_cons hi2, List.all_cons]
    refine Q.Ev.ite (fun c => Ev.ok ?_) (fun c => ?_)
    · rw [decide_eq_false (by omega), Bool.false_and, Bool.false_and]
    rw [decide_eq_true (by omega), Bool.true_and]
    have := few_l1 h hi2 (by omega) (ih (i + 1) (by omega) (by omega)) s[i].length 0 (by omega) (by omega)
    rw [List.drop_zero] at this
    exact this
theorem few_f (s : List (List RwT)) : Ev (fun k => backhaullaw15_few.f k s) (fewB s) := by
  unfold backhaullaw15_few.f fewB
  refine Q.Ev.ite (fun c => Ev.ok ?_) (fun c => ?_)
  · rw [decide_eq_false (by omega), Bool.false_and]
  rw [decide_eq_true (by omega), Bool.true_and]
  have := few_l0 (s := s) (by omega) s.length 0 (by omega) (by omega)
  rw [List.drop_zero] at this
  exact this
theorem few_small {s : List (List RwT)} (h : fewB s = true) : smallS s := by
  unfold fewB at h
  rw [Bool.and_eq_true, decide_eq_true_iff, List.all_eq_true] at h
  refine ⟨by omega, fun l hl => ?_⟩
  have := h.2 l hl
  rw [Bool.and_eq_true, decide_eq_true_iff] at this
  omega
def shortB (l : List BoT) : Bool := decide (l.length ≤ 60) && l.all fun o => decide (o.f3.size ≤ 300)
theorem short_l0 {l : List BoT} (h : l.length ≤ 60) (d : Nat) : ∀ i : Nat, l.length - i = d → i ≤ l.length → Ev (fun k => backhaullaw15_short.l0 k l (i : Int)) ((l.drop i).all fun o => decide (o.f3.size ≤ 300)) := by
  induction d with
  | zero =>
    intro i hd hi
    refine Ev.step (fun k => by simp only [backhaullaw15_short.l0]; rfl) (Ev.neg (by omega) (Ev.ok ?_))
    rw [List.drop_eq_nil_of_le (by omega)]
    rfl
  | succ d ih =>
    intro i hd hi
    have hi2 : i < l.length := by omega
    refine Ev.step (fun k => by simp only [backhaullaw15_short.l0]; rfl) (Ev.pos (by omega) (Ev.pos (by omega) ?_))
    rw [rdO hi2, drop_cons hi2, List.all_cons, wrap_eq (x := (i : Int) + 1) (by omega) (by omega)]
    refine Q.Ev.ite (fun c => Ev.ok ?_) (fun c => ?_)
    · rw [decide_eq_false (by omega), Bool.false_and]
    rw [decide_eq_true (by omega), Bool.true_and]
    exact ih (i + 1) (by omega) (by omega)
theorem short_f (l : List BoT) : Ev (fun k => backhaullaw15_short.f k l) (shortB l) := by
  unfold backhaullaw15_short.f shortB
  refine Q.Ev.ite (fun c => Ev.ok ?_) (fun c => ?_)
  · rw [decide_eq_false (by omega), Bool.false_and]
  rw [decide_eq_true (by omega), Bool.true_and]
  have := short_l0 (l := l) (by omega) l.length 0 (by omega) (by omega)
  rw [List.drop_zero] at this
  exact this
theorem short_len {l : List BoT} (h : shortB l = true) : l.length ≤ 60 := by
  unfold shortB at h
  rw [Bool.and_eq_true, decide_eq_true_iff] at h
  exact h.1
theorem same_l0 {n : Int} {c : List CeT} (h : c.length ≤ 1000000) (d : Nat) : ∀ i : Nat, c.length - i = d → i ≤ c.length → Ev (fun k => backhaulref15_Same.l0 k (i : Int) n c n c) true := by
  induction d with
  | zero =>
    intro i hd hi
    exact Ev.step (fun k => by simp only [backhaulref15_Same.l0]; rfl) (Ev.neg (by omega) (Ev.ok rfl))
  | succ d ih =>
    intro i hd hi
    refine Ev.step (fun k => by simp only [backhaulref15_Same.l0]; rfl) (Ev.pos (by omega) (Ev.pos (by omega) (Ev.pos (by omega) (Ev.neg (by simp) ?_))))
    rw [wrap_eq (x := (i : Int) + 1) (by omega) (by omega)]
    exact ih (i + 1) (by omega) (by omega)
theorem same_f {s : List (List RwT)} (h : smallS s) {n : Int} {c : List CeT} (e1 : n = s.length) (e2 : c = cellsF 0 s) : Ev (fun k => backhaullaw15_same.f k s n c) true := by
  subst e1 e2
  unfold backhaullaw15_same.f
  refine Ev.bind (of_f h) (Ev.bind (r := true) (a := true) ?_ (Ev.ok rfl))
  unfold backhaulref15_Same.f
  refine Ev.pos rfl (Ev.step (fun k => by simp only [backhaulref15_Same.j0]; rfl) (Ev.neg (by simp) ?_))
  exact same_l0 (by have := small_cells h; omega) _ 0 rfl (Nat.zero_le _)
def goodP (p : Option CeT) (c : CeT) : Prop := (1 ≤ c.f1 ∧ c.f1 ≤ 999999) ∧ c.f2.size ≤ 200 ∧ (match p with | none => True | some q => q.f0 = c.f0 → q.f1 < c.f1)
def goodC : Option CeT → List CeT → Prop
  | _, [] => True
  | p, c :: l => goodP p c ∧ goodC (some c) l
instance (p : Option CeT) (c : CeT) : Decidable (goodP p c) := by unfold goodP; cases p <;> infer_instance
instance decGood : ∀ (p : Option CeT) (c : List CeT), Decidable (goodC p c)
  | _, [] => .isTrue trivial
  | p, c :: l => match (inferInstance : Decidable (goodP p c)), decGood (some c) l with
    | .isTrue h, .isTrue g => .isTrue ⟨h, g⟩
    | .isFalse h, _ => .isFalse fun q => h q.1
    | _, .isFalse h => .isFalse fun q => h q.2
end Go.Proofs.Ytdpcgigjlcpofaa.Q
namespace Go.Proofs.Ytdpcgigjlcpofaa.Pure
open Go.RowKit Ytdpcgigjlcpofaa.F Ytdpcgigjlcpofaa.Q YtdpcgigjlcpofaaW.PrintWords YtdpcgigjlcpofaaW.PrintLast
theorem ops_back (u : List OpX) : (u.map ofX).map opX = u := by
  rw [List.map_map]
  exact List.map_id _
theorem undo_len : ∀ (l : List OpX) (s : List (List RwT)), (undoS s l).length = l.length := fun l s => by rw [← backs_rev, List.length_reverse, backs_len]
theorem BatchUndo : backhaullaw15_BatchUndo.Pure := by
  intro s l hs hl
  refine Ev.rounds (r := true) ?_
  have haw : backhaullaw15_awake.f = some true := rfl
  have aw : Ev (fun _ : Nat => (backhaullaw15_awake.f).bind fun t => if t = true then some true else some false) true := Q.Ev.bindc haw (Q.Ev.pos rfl (Q.Ev.const rfl))
  have j0t : ∀ b : Bool, b = true → Ev (fun k => backhaullaw15_BatchUndo.j0 k l b s) true := fun b hb => Ev.step (fun k => by simp only [backhaullaw15_BatchUndo.j0]; rfl) (Q.Ev.pos hb aw)
  unfold backhaullaw15_BatchUndo.f
  refine Ev.bind (few_f s) (Q.Ev.ite (fun c1 => Ev.bind (short_f l) ?_) (fun c1 => j0t true rfl))
  by_cases c2 : shortB l = true
  · rw [c2]
    have hS := few_small c1
    have hL := short_len c2
    refine Ev.step (fun k => by simp only [backhaullaw15_BatchUndo.j0]; rfl) (Q.Ev.neg (by decide) (Ev.bind (bapply_f hS (l := l) (by omega)) (Ev.bind (bundo_f hS (l := l) (by omega)) ?_)))
    by_cases c3 : (applyS s (l.map opX)).2.2 = 0
    · have hu : undoR s (l.map opX) = (undoS s (l.map opX), 0) := if_pos c3
      have hok : okS s := by
        refine Classical.byContradiction fun q => ?_
        unfold applyS at c3
        rw [if_neg (fun w => q (chk_zero_S.1 w))] at c3
        simp at c3
      have ea : applyS s (l.map opX) = runS s (l.map opX) 0 := if_pos (chk_zero_S.2 hok)
      rw [ea] at c3
      rw [hu, ea]
      obtain ⟨r1, r2, r3⟩ := run_ok (l.map opX) s 0 hok c3
      have hun := undo_S (l.map opX) s 0 hok c3 0
      have hb := bapply_f r1.small (l := (undoS s (l.map opX)).map ofX) (by rw [List.length_map, undo_len, List.length_map]; omega)
      have eb : applyS (runS s (l.map opX) 0).1 (((undoS s (l.map opX)).map ofX).map opX) = (s, (l.length : Int), 0) := by
        unfold applyS
        rw [if_pos (chk_zero_S.2 r1), ops_back, hun, List.length_map, Int.zero_add]
      rw [eb] at hb
      refine Q.Ev.pos c3 (Ev.bind hb (Q.Ev.pos rfl (Q.Ev.pos rfl (Q.Ev.pos rfl (Ev.bind (of_f hS) (Ev.bind (same_f hS rfl rfl) (Q.Ev.pos rfl aw)))))))
    have hu : undoR s (l.map opX) = ([], (applyS s (l.map opX)).2.2) := if_neg c3
    rw [hu]
    exact Q.Ev.neg c3 (Q.Ev.pos rfl (Q.Ev.pos rfl aw))
  rw [Bool.eq_false_iff.2 c2]
  exact j0t _ rfl
end Go.Proofs.Ytdpcgigjlcpofaa.Pure
namespace Go.Proofs.YtdpcgigjlcpofaaX
open Go.RowKit YtdpcgigjlcpofaaW.PrintWords YtdpcgigjlcpofaaW.PrintLast YtdpcgigjlcpofaaW.PrintMore
def Opens {α : Type} (P : Program) (t : TypeId) (k : Kd α) (Ok : α → Prop) : Prop :=
  ∀ {H : Type} {enc : TypeId × Value → H} {w : World} {base : Nat} {spare : Nat → Bool} {held : Bool} {fuel : Nat} {cs : List Value} {x : DataW H × List MemPlace},
    DataW.trod enc P w base spare held fuel t cs = some x → ∃ a : α, k.K w a cs ∧ Ok a
theorem Opens.int {P : Program} {t : TypeId} {k : IntKind} (ht : P.underlying t = some (.int k)) : Opens P t (Kd.int k) (fun a => (Lit.int k a).wf = true) := by
  intro H enc w base spare held fuel cs x h
  obtain ⟨n, rfl, _, hw⟩ := DataW.trod_int ht h
  exact ⟨n, rfl, hw⟩
theorem Opens.bool {P : Program} {t : TypeId} (ht : P.underlying t = some .bool) : Opens P t Kd.bool (fun _ => True) := by
  intro H enc w base spare held fuel cs x h
  obtain ⟨n, rfl, _⟩ := DataW.trod_bool ht h
  exact ⟨n, rfl, trivial⟩
theorem Opens.string {P : Program} {t : TypeId} (ht : P.underlying t = some .string) : Opens P t Kd.string (fun a => a.size ≤ maxLen) := by
  intro H enc w base spare held fuel cs x h
  obtain ⟨s, rfl, _, hw⟩ := DataW.trod_string ht h
  exact ⟨s, rfl, hw⟩
theorem list_of {α : Type} {p : Nat → α → Prop} : ∀ n, (∀ i, i < n → ∃ a, p i a) → ∃ xs : List α, xs.length = n ∧ ∀ i a, xs[i]? = some a → p i a
  | 0, _ => ⟨[], rfl, fun i a h => by simp at h⟩
  | n + 1, h => by
    obtain ⟨xs, hl, hx⟩ := list_of n (fun i hi => h i (by omega))
    obtain ⟨a, ha⟩ := h n (by omega)
    refine ⟨xs ++ [a], by simp [hl], fun i b hb => ?_⟩
    rcases Nat.lt_or_ge i xs.length with h1 | h1
    · rw [List.getElem?_append_left h1] at hb
      exact hx i b hb
    rw [List.getElem?_append_right h1] at hb
    have h2 : i - xs.length = 0 := by
      have := (List.getElem?_eq_some_iff.1 hb).1
      simp at this; omega
    rw [h2] at hb
    have : a = b := by simpa using hb
    subst this
    have : i = n := by omega
    rw [this]; exact ha
theorem Opens.slice {α : Type} {P : Program} {t e : TypeId} {k : Kd α} {Ok : α → Prop} (ht : P.underlying t = some (.slice e)) (hc : P.cellsOf e = k.sz) (h : Opens P e k Ok) :
    Opens P t (Kd.slice e k) (fun xs => xs.length ≤ maxLen ∧ ∀ x ∈ xs, Ok x) := by
  intro H enc w base spare held fuel cs x hx
  rcases Go.Deep.open_slice ht hx with ⟨rfl, rfl⟩ | ⟨a, len, cap, m, n, D, Pl, rfl, hb, hl, hm, hmm, rfl, hel⟩
  · exact ⟨[], ⟨none, 0, rfl, by simp, rfl, by simp, fun h => absurd h (by simp)⟩, by simp [maxLen], by simp⟩
  have hlm : len ≤ m := by rw [hmm]; split <;> omega
  obtain ⟨xs, hlen, hxs⟩ := list_of (p := fun i (a' : α) => ∃ cs', w.cells? base (a.add (i * P.cellsOf e)) (P.cellsOf e) = some cs' ∧ k.K w a' cs' ∧ Ok a') len (fun i hi => by
    obtain ⟨cs', h1, h2⟩ := hel i (by omega)
    obtain ⟨a', h3, h4⟩ := h h2
    exact ⟨a', cs', h1, h3, h4⟩)
  have hlm2 : len ≤ maxLen := by omega
  refine ⟨xs, ⟨some a, cap, by rw [hlen], by rw [hlen]; exact hl, rfl, by rw [hlen]; simpa [maxLen] using hlm2, fun _ => ⟨a, rfl, fun j p hj => ?_⟩⟩, by rw [hlen]; exact hlm2, fun y hy => ?_⟩
  · obtain ⟨cs', h1, h2, _⟩ := hxs j p hj
    refine ⟨cs', k.K_len h2, h2, fun i u hu => ?_⟩
    obtain ⟨_, _, h3⟩ := World.cells?_some h1
    have h4 := h3 i (by have := (List.getElem?_eq_some_iff.1 hu).1; have := k.K_len h2; omega)
    rw [← hc, ← Go.Proofs.YtdpcgigjlcpofaaW.PrintWords.add_add]
    rw [← hu]; exact h4
  obtain ⟨i, hi, rfl⟩ := List.mem_iff_getElem.1 hy
  obtain ⟨_, _, _, h3⟩ := hxs i _ (List.getElem?_eq_getElem hi)
  exact h3
theorem field_reads {H : Type} {enc : TypeId × Value → H} {P : Program} {w : World} {base : Nat} {spare : Nat → Bool} {held : Bool} {fuel : Nat} {t : TypeId} {cs : List Value} {x : DataW H × List MemPlace} {fs : Array Field}
    (ht : P.underlying t = some (.struct fs)) (h : DataW.trod enc P w base spare held fuel t cs = some x) :
    cs.length = P.cellsOf t ∧ ∃ n, ∀ (i : Nat) (f : Field), fs[i]? = some f → ∃ y, DataW.trod enc P w base spare held n f.type ((cs.drop f.offset).take (P.cellsOf f.type)) = some y := by
  obtain ⟨xs, n, _, _, hl, hx, hf⟩ := DataW.trod_struct ht h
  refine ⟨hl, n, fun i f hif => ?_⟩
  rw [hf i f hif]
  have hi := (Array.getElem?_eq_some_iff.1 hif).1
  exact ⟨_, List.getElem?_eq_getElem (by rw [hx]; exact hi)⟩
theorem slice_cells {α : Type} {k : Kd α} {e : Nat} {w : World} {xs : List α} {v : Value} (h : (Kd.slice e k).K w xs [v]) : ∃ A c, v = .slice A xs.length c ∧ xs.length ≤ c ∧ k.C w A xs.length xs := by
  obtain ⟨A, c, he, hl, hc⟩ := h
  injection he with he
  exact ⟨A, c, he, hl, hc⟩
theorem band {a b : Bool} (h1 : a = true) (h2 : b = true) : (a && b) = true := by rw [h1, h2]; rfl
theorem mayEnter_of {P : Program} {L c : List Char} {rest : List (List Char)} (h : P.initOrder.toList = L) (h1 : behindMainWord (wordsSigns L) = c :: rest) (h2 : ((stripLifts liftWords (c :: rest)).2.head? == some "cut".toList) = true) (h3 : P.laysLater = false) (h4 : P.bearsReflect = false) (h5 : (stripLifts liftWords (c :: rest)).1 = []) (h6 : P.doorFits [] = true) : P.mayEnter = true := by
  unfold Program.mayEnter
  rw [h, h1]
  dsimp only
  rw [h2, h3, h4, h5, h6]
  simp
theorem make_of {P : Program} {L : List Char} {rest : List (List Char)} (h : P.initOrder.toList = L) (h1 : behindMainWord (wordsSigns L) = "cut".toList :: rest) : P.make = some .cut := by
  unfold Program.make
  rw [h, h1]
  dsimp only
  rw [if_neg (by decide), if_pos (by simp)]
end Go.Proofs.YtdpcgigjlcpofaaX
set_option maxRecDepth 10000
namespace Go.Proofs.Ytdpcgigjlcpofaa.Join
open YtdpcgigjlcpofaaX
def initSigns : List Char := ['h', 'a', 'r', 'n', 'e', 's', 's', ' ', 'c', 'e', 'c', 'b', '8', '6', 'd', '2', '2', '8', '2', 'f', '6', '6', '6', '7', 'a', '3', 'b', '2', '0', 'd', '3', 'e', 'a', 'd', '2', 'c', 'f', 'e', '3', '7', '7', '5', 'b', '7', 'b', '3', 'd', '0', 'c', '6', '0', '2', '6', '1', '5', 'c', 'f', '5', '2', '5', '6', '6', 'c', '6', '0', '2', '7', '8', '5', 'c', '9', '9', ' ', 'c', 'u', 't', ' ', 'a', 't', ' ', 'b', 'a', 'c', 'k', 'h', 'a', 'u', 'l', '/', 'b', 'a', 'c', 'k', 'h', 'a', 'u', 'l', 'l', 'a', 'w', '0', '6', '.', 'S', 't', 'r', 'i', 'c', 't', 'F', 'i', 'r', 's', 't', ' ', 'b', 'a', 'c', 'k', 'h', 'a', 'u', 'l', '/', 'b', 'a', 'c', 'k', 'h', 'a', 'u', 'l', 'l', 'a', 'w', '1', '4', '.', 'I', 'n', 'd', 'e', 'x', 'T', 'e', 'l', 'l', 's', ' ', 'b', 'a', 'c', 'k', 'h', 'a', 'u', 'l', '/', 'b', 'a', 'c', 'k', 'h', 'a', 'u', 'l', 'l', 'a', 'w', '1', '4', '.', 'I', 'n', 'd', 'e', 'x', 'A', 'd', 'd', 's', ' ', 'b', 'a', 'c', 'k', 'h', 'a', 'u', 'l', '/', 'b', 'a', 'c', 'k', 'h', 'a', 'u', 'l', 'l', 'a', 'w', '1', '4', '.', 'I', 'n', 'd', 'e', 'x', 'T', 'u', 'r', 'n', 's', ' ', 'b', 'a', 'c', 'k', 'h', 'a', 'u', 'l', '/', 'b', 'a', 'c', 'k', 'h', 'a', 'u', 'l', 'l', 'a', 'w', '1', '4', '.', 'I', 'n', 'd', 'e', 'x', 'W', 'h', 'o', 'l', 'e', ' ', 'b', 'a', 'c', 'k', 'h', 'a', 'u', 'l', '/', 'b', 'a', 'c', 'k', 'h', 'a', 'u', 'l', 'l', 'a', 'w', '1', '5', '.', 'B', 'a', 't', 'c', 'h', 'A', 'p', 'p', 'l', 'i', 'e', 's', ' ', 'b', 'a', 'c', 'k', 'h', 'a', 'u', 'l', '/', 'b', 'a', 'c', 'k', 'h', 'a', 'u', 'l', 'l', 'a', 'w', '1', '5', '.', 'B', 'a', 't', 'c', 'h', 'C', 'o', 'd', 'e', 's', ' ', 'b', 'a', 'c', 'k', 'h', 'a', 'u', 'l', '/', 'b', 'a', 'c', 'k', 'h', 'a', 'u', 'l', 'l', 'a', 'w', '1', '5', '.', 'B', 'a', 't', 'c', 'h', 'W', 'h', 'o', 'l', 'e', ' ', 'b', 'a', 'c', 'k', 'h', 'a', 'u', 'l', '/', 'b', 'a', 'c', 'k', 'h', 'a', 'u', 'l', 'l', 'a', 'w', '1', '5', '.', 'B', 'a', 't', 'c', 'h', 'U', 'n', 'd', 'o', ' ', 'b', 'a', 'c', 'k', 'h', 'a', 'u', 'l', '/', 'b', 'a', 'c', 'k', 'h', 'a', 'u', 'l', 'l', 'a', 'w', '1', '5', '.', 'B', 'a', 't', 'c', 'h', 'D', 'i', 'f', 'f']
theorem initText : Try.pinned.checked.prog.initOrder = String.ofList initSigns := by kernel_rfl
theorem initList : Try.pinned.checked.prog.initOrder.toList = initSigns := (congrArg String.toList initText).trans String.toList_ofList
theorem mayEnter_is : Try.pinned.checked.prog.mayEnter = true :=
  mayEnter_of (L := initSigns) (c := "cut".toList) (rest := (behindMainWord (wordsSigns initSigns)).tail) initList (by kernel_rfl) (by kernel_rfl) (by kernel_rfl) (by kernel_rfl) (by kernel_rfl) (by kernel_rfl)
theorem make_is : Try.pinned.checked.prog.make = some .cut :=
  make_of (L := initSigns) (rest := (behindMainWord (wordsSigns initSigns)).tail) initList (by kernel_rfl)
theorem lifts_is : Try.pinned.checked.prog.liftsFinal = false := by
  unfold Program.liftsFinal Program.headLifts
  rw [initList]
  kernel_rfl
end Go.Proofs.Ytdpcgigjlcpofaa.Join
namespace Go.Proofs.Ytdpcgigjlcpofaa.batchUndo
open Go.ChangeShapes Go.WideShapes Go.ChangeAt Go.RowKit YtdpcgigjlcpofaaX Ytdpcgigjlcpofaa.F YtdpcgigjlcpofaaW.PrintWords YtdpcgigjlcpofaaW.PrintLast YtdpcgigjlcpofaaW.PrintMore
open Go.ChangeMaps (open_string shut_string)
theorem own : ownKnob Try.prog.godebug = none := by kernel_rfl
theorem laidOut : laidOutB Try.prog = true := by kernel_rfl
set_option maxRecDepth 100000 in
theorem opens_k164 : Opens Try.prog 164 k164 (fun x => ((Lit.int .i64 x.f0).wf = true ∧ x.f1.size ≤ maxLen)) := by
  intro H enc w base spare held fuel cs x h
  obtain ⟨hl, n, hf⟩ := field_reads Try.underlying164 h
  have hl2 : cs.length = 2 := hl.trans (by kernel_rfl)
  match cs, hl2 with
  | [c0, c1], _ =>
    obtain ⟨y0, h0⟩ := hf 0 _ rfl
    have e0 : Try.prog.cellsOf 3 = 1 := by kernel_rfl
    (try dsimp only at h0)
    (try simp only [e0] at h0)
    obtain ⟨a0, k0, o0⟩ := (Opens.int Try.underlying3) h0
    have k0' : ((Kd.int .i64)).K w a0 [c0] := k0
    obtain ⟨y1, h1⟩ := hf 1 _ rfl
    have e1 : Try.prog.cellsOf 9 = 1 := by kernel_rfl
    (try dsimp only at h1)
    (try simp only [e1] at h1)
    obtain ⟨a1, k1, o1⟩ := (Opens.string Try.underlying9) h1
    have k1' : (Kd.string).K w a1 [c1] := k1
    exact ⟨(⟨a0, a1⟩ : S164), ⟨[c0], [c1], rfl, k0', k1'⟩, ⟨o0, o1⟩⟩
set_option maxRecDepth 100000 in
theorem opens_k75 : Opens Try.prog 75 k75 (fun x => ((x.f0.length ≤ maxLen ∧ ∀ y ∈ x.f0, (y.length ≤ maxLen ∧ ∀ x ∈ y, ((Lit.int .i64 x.f0).wf = true ∧ x.f1.size ≤ maxLen))))) := by
  intro H enc w base spare held fuel cs x h
  obtain ⟨hl, n, hf⟩ := field_reads Try.underlying75 h
  have hl2 : cs.length = 1 := hl.trans (by kernel_rfl)
  match cs, hl2 with
  | [c0], _ =>
    obtain ⟨y0, h0⟩ := hf 0 _ rfl
    have e0 : Try.prog.cellsOf 73 = 1 := by kernel_rfl
    (try dsimp only at h0)
    (try simp only [e0] at h0)
    obtain ⟨a0, k0, o0⟩ := (Opens.slice Try.underlying73 (by kernel_rfl) (Opens.slice Try.underlying162 (by kernel_rfl) opens_k164)) h0
    have k0' : ((Kd.slice 162 (Kd.slice 164 k164))).K w a0 [c0] := k0
    exact ⟨(⟨a0⟩ : S75), k0', o0⟩
set_option maxRecDepth 100000 in
theorem opens_k166 : Opens Try.prog 166 k166 (fun x => ((Lit.int .i64 x.f0).wf = true ∧ (Lit.int .i64 x.f1).wf = true ∧ (Lit.int .i64 x.f2).wf = true ∧ x.f3.size ≤ maxLen)) := by
  intro H enc w base spare held fuel cs x h
  obtain ⟨hl, n, hf⟩ := field_reads Try.underlying166 h
  have hl2 : cs.length = 4 := hl.trans (by kernel_rfl)
  match cs, hl2 with
  | [c0, c1, c2, c3], _ =>
    obtain ⟨y0, h0⟩ := hf 0 _ rfl
    have e0 : Try.prog.cellsOf 3 = 1 := by kernel_rfl
    (try dsimp only at h0)
    (try simp only [e0] at h0)
    obtain ⟨a0, k0, o0⟩ := (Opens.int Try.underlying3) h0
    have k0' : ((Kd.int .i64)).K w a0 [c0] := k0
    obtain ⟨y1, h1⟩ := hf 1 _ rfl
    have e1 : Try.prog.cellsOf 3 = 1 := by kernel_rfl
    (try dsimp only at h1)
    (try simp only [e1] at h1)
    obtain ⟨a1, k1, o1⟩ := (Opens.int Try.underlying3) h1
    have k1' : ((Kd.int .i64)).K w a1 [c1] := k1
    obtain ⟨y2, h2⟩ := hf 2 _ rfl
    have e2 : Try.prog.cellsOf 3 = 1 := by kernel_rfl
    (try dsimp only at h2)
    (try simp only [e2] at h2)
    obtain ⟨a2, k2, o2⟩ := (Opens.int Try.underlying3) h2
    have k2' : ((Kd.int .i64)).K w a2 [c2] := k2
    obtain ⟨y3, h3⟩ := hf 3 _ rfl
    have e3 : Try.prog.cellsOf 9 = 1 := by kernel_rfl
    (try dsimp only at h3)
    (try simp only [e3] at h3)
    obtain ⟨a3, k3, o3⟩ := (Opens.string Try.underlying9) h3
    have k3' : (Kd.string).K w a3 [c3] := k3
    exact ⟨(⟨a0, a1, a2, a3⟩ : S166), ⟨[c0], [c1, c2, c3], rfl, k0', ⟨[c1], [c2, c3], rfl, k1', ⟨[c2], [c3], rfl, k2', k3'⟩⟩⟩, ⟨o0, o1, o2, o3⟩⟩
set_option maxRecDepth 100000 in
theorem lifted (os : Os) (started : os.Started) (H : Type) (enc : TypeId × Value → H) :
    ReturnsInHanded {} Try.checked os 11 .any (Rows.batchUndoSpec.pre6 enc Try.prog Try.f11 Rows.batchUndoRow.domain false) (Rows.batchUndoSpec.post enc Try.prog Try.f11 false true false false) := by
  refine returnsInHanded_of_change_sized (C := Try.checked) own started (by kernel_rfl) Try.func11
    (ChangeSpec.witness6 (enc := enc) (C := Try.checked) false ⟨#[], #[.agg #[.slice none 0 0], .slice none 0 0], []⟩ 8 (by kernel_rfl) (by kernel_rfl) (by kernel_rfl) (by kernel_rfl)) ?_
  intro W base args ds gs before hval0 hW hcnd hsz0 _
  have hval : ∀ (j : Nat) t v, Try.f11.params[j]? = some t → args[j]? = some v → Value.okWide Try.prog W .any base t v := hval0
  have hW' := hW
  obtain ⟨p, q, hA0, hV, rfl, hfz, hnd⟩ := hW
  have hA : DataW.TrodAll enc Try.prog W 0 (fun _ => true) true Try.f11.params.toList args.toList ds p := hA0
  rw [Try.params11] at hA hval
  obtain ⟨v0, vs0, d0, ds0, p0, q0, hargs, rfl, rfl, h0, r0⟩ := trodAll_cons hA
  obtain ⟨v1, vs1, d1, ds1, p1, q1, rfl, rfl, rfl, h1, r1⟩ := trodAll_cons r0
  obtain ⟨rfl, rfl, rfl⟩ := trodAll_nil r1
  obtain rfl : args = #[v0, v1] := by cases args; simp_all
  obtain ⟨rfl, rfl⟩ := trodVars_none hV
  have k0 := h0
  have lt0 : ∀ x ∈ p0, x.block < W.heap.size := by obtain ⟨m, hm⟩ := k0; exact DataW.trod_lt m _ _ _ hm
  obtain ⟨cs0, rfl, _⟩ := okWide_struct Try.underlying75 (hval 0 75 v0 rfl rfl)
  obtain ⟨f0, hf0⟩ := h0
  obtain ⟨x0, hk0, ho0⟩ := opens_k75 hf0
  obtain ⟨A0_0, c0_0, he0, hl0_0, hc0_0⟩ := k75_open hk0
  obtain rfl : cs0 = _ := Array.toList_inj.1 (he0.trans (List.toList_toArray).symm)
  have k1 := h1
  have lt1 : ∀ x ∈ p1, x.block < W.heap.size := by obtain ⟨m, hm⟩ := k1; exact DataW.trod_lt m _ _ _ hm
  obtain ⟨b1, len1, cap1, rfl⟩ := okWide_slice Try.underlying76 (hval 1 76 v1 rfl rfl)
  obtain ⟨f1, hf1⟩ := h1
  obtain ⟨x1, hk1, ho1⟩ := (Opens.slice Try.underlying76 (by kernel_rfl) opens_k166) hf1
  obtain ⟨A1, c1, he1, hl1, hc1⟩ := slice_cells (show _ from hk1)
  injection he1 with e1_1 e1_2 e1_3
  subst e1_1 e1_2 e1_3
  obtain ⟨k, h⟩ : ∃ k, backhaullaw15_BatchUndo.f k x0.f0 x1 = some true := Pure.BatchUndo x0.f0 x1 ho0 ho1
  refine (backhaullaw15_BatchUndo.calls k _ _ x0.f0 _ _ x1 W hc0_0 hl0_0 hc1 hl1 h).mono fun e W' hq => ?_
  obtain ⟨he, bel0⟩ := hq
  have bel : Below W.heap.size W W' := bel0
  subst he
  exact ⟨_, rfl, _, _, _, [], _, [], hW', trodAll_mk1 (shut_bool Try.underlying4 _), (trodAll_cons_mk (Below.trod laidOut (by kernel_rfl) (of_decide_eq_true (by kernel_rfl)) k0 bel lt0) (trodAll_cons_mk (Below.trod laidOut (by kernel_rfl) (of_decide_eq_true (by kernel_rfl)) k1 bel lt1) trodAll_mk0)), rfl, bel.frame _, fun h => by cases h⟩
theorem closed_ : joinedFacts Try.pinned.checked.prog 11 Try.f11 Rows.batchUndoSpec Rows.batchUndoRow = true := by
  unfold joinedFacts
  repeat' (with_reducible apply band)
  any_goals with_reducible exact Join.mayEnter_is
  any_goals (rw [Join.make_is]; kernel_rfl)
  any_goals (rw [Join.lifts_is]; kernel_rfl)
  all_goals kernel_rfl
theorem over : Rows.batchUndoRow.holds Try.pinned (OpenSpec.ofChange Rows.batchUndoSpec) :=
  OpenClaim.holds_of_wide 11 Try.f11 rfl rfl rfl rfl rfl rfl rfl ⟨rfl, rfl, rfl, rfl, rfl⟩ rfl rfl rfl rfl rfl (by kernel_rfl) Try.func11 closed_
    (of_decide_eq_true (by kernel_rfl)) (by unfold Func.isWrapper; first | (rw [if_pos (by decide +kernel)]; kernel_rfl) | (rw [if_neg (by decide +kernel)]; exact ⟨rfl, rfl⟩))
    (fun os started H enc _ => lifted os started H enc)
theorem proved : Rows.BatchUndoSaid := over
#print axioms proved
end Go.Proofs.Ytdpcgigjlcpofaa.batchUndo
namespace Go.Proofs.Ytdpcgigjlcpofaa
theorem batchUndo_holds : Rows.BatchUndoSaid := batchUndo.proved
end Go.Proofs.Ytdpcgigjlcpofaa
