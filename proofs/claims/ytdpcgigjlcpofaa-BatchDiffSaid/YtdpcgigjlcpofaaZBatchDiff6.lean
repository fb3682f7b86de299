-- by prune.py (own program), out of the print
import Derived.Deep.Slices
import Derived.ChangeArms
import Derived.WideShapes
import Derived.OpenShut
import Derived.Test.YtdpcgigjlcpofaaRows
import Derived.ProofKit
import Derived.ShutString
import Derived.ChangeOld
import Derived.SizedLaws
import Derived.Carry
import Derived.Test.YtdpcgigjlcpofaaZBatchDiff5
set_option linter.unusedVariables false
set_option linter.unusedSimpArgs false
namespace Go.Proofs.Ytdpcgigjlcpofaa.Q
open Go.RowKit Ytdpcgigjlcpofaa.F YtdpcgigjlcpofaaX YtdpcgigjlcpofaaW.PrintWords YtdpcgigjlcpofaaW.PrintLast YtdpcgigjlcpofaaW.PrintMore
abbrev BoT := S166
theorem rdR {l : List RwT} {i : Nat} (h : i < l.length) : rd_T164 l (i : Int) = l[i] := by
  unfold rd_T164; simp [h]
theorem rdRA {A B : List RwT} {x : RwT} {i : Nat} (h : A.length = i) : rd_T164 (A ++ x :: B) (i : Int) = x := by
  subst h
  rw [rdR (by simp)]; simp
theorem rdS {s : List (List RwT)} {i : Nat} (h : i < s.length) : rd_L22 s (i : Int) = s[i] := by
  unfold rd_L22; simp [List.getD_eq_getElem?_getD, h]
theorem rdO {l : List BoT} {i : Nat} (h : i < l.length) : rd_T166 l (i : Int) = l[i] := by
  unfold rd_T166; simp [h]
theorem setIB {A B : List Int} {x v : Int} {i : Nat} (h : A.length = i) : (A ++ x :: B).set ((i : Int)).toNat v = A ++ v :: B := by
  subst h; simp
theorem ids_len (l : List RwT) : (idsT l).length = l.length := by unfold idsT; simp
theorem ids_l0 {n : Int} (hn : n ≤ 1000) : ∀ (B A : List RwT), ((A ++ B).length : Int) = n → Ev (fun k => batch_ids.l0 k (idsT A ++ List.replicate B.length 0) (A ++ B) n (A.length : Int)) (idsT (A ++ B))
  | [], A, h => by
    simp only [List.length_append, List.length_nil] at h
    refine Ev.step (fun k => by simp only [batch_ids.l0]; rfl) (Ev.neg (by omega) (Ev.ok ?_))
    simp
  | x :: B, A, h => by
    have h2 := h
    simp only [List.length_append, List.length_cons] at h
    refine Ev.step (fun k => by simp only [batch_ids.l0]; rfl) (Ev.pos (by omega) (Ev.pos (by omega) (Ev.pos (by simp only [List.length_append, List.length_cons]; omega) ?_)))
    simp only [rdRA rfl]
    refine Ev.pos (by simp [idsT]; omega) ?_
    rw [List.length_cons, List.replicate_succ, setIB (ids_len A), wrap_eq (by omega) (by omega)]
    have := ids_l0 hn B (A ++ [x]) (by simp only [List.length_append, List.length_cons, List.length_nil] at h2 ⊢; omega)
    simp only [List.length_append, List.length_cons, List.length_nil, List.append_assoc, List.singleton_append, idsT, List.map_append, List.map_cons, List.map_nil] at this ⊢
    exact this
theorem ids_f {l : List RwT} (h : l.length ≤ 1000) : Ev (fun k => batch_ids.f k l) (idsT l) := by
  unfold batch_ids.f
  refine Ev.pos (by omega) (Ev.pos (by rw [Int.toNat_natCast]; omega) ?_)
  rw [Int.toNat_natCast]
  have := ids_l0 (n := (l.length : Int)) (by omega) l [] (by simp)
  simpa [idsT] using this
theorem bfind_f {l : List RwT} (h : l.length ≤ 1000) (id : Int) : Ev (fun k => batch_find.f k l id) (find (idsT l) id) := by
  unfold batch_find.f
  exact Ev.bind (ids_f h) (Ev.bind (rows_Find_f (by rw [ids_len]; omega)) (Ev.ok rfl))
theorem find_T {l : List RwT} (h : okT l) (id : Int) : find (idsT l) id = ((posT l id : Int), decide (id ∈ idsT l)) := by
  unfold find
  by_cases c : id ∈ idsT l
  · rw [if_pos c, decide_eq_true c, idxOf_sorted (sort_ids.1 h.sort) c]
    rfl
  rw [if_neg c, if_pos h.2.1, decide_eq_false c]
  rfl
def longB (l : List RwT) : Bool := l.any fun r => decide (200 < r.f1.size)
def longI : Nat → List RwT → Int
  | _, [] => -1
  | i, r :: l => if 200 < r.f1.size then (i : Int) else longI (i + 1) l
theorem longI_any : ∀ (l : List RwT) (i : Nat), decide (longI i l ≥ 0) = longB l
  | [], i => rfl
  | r :: l, i => by
    unfold longI longB
    rw [List.any_cons]
    by_cases c : 200 < r.f1.size
    · rw [if_pos c, decide_eq_true c, Bool.true_or]
      exact decide_eq_true (by omega)
    rw [if_neg c, decide_eq_false c, Bool.false_or]
    exact longI_any l (i + 1)
theorem long_l0 {l : List RwT} (hl : l.length ≤ 1000) (d : Nat) : ∀ i : Nat, l.length - i = d → i ≤ l.length → Ev (fun k => slices_IndexFunc_batch_Check_1.l0 k l (l.length : Int) (i : Int)) (longI i (l.drop i)) := by
  induction d with
  | zero =>
    intro i hd hi
    refine Ev.step (fun k => by simp only [slices_IndexFunc_batch_Check_1.l0]; rfl) (Ev.neg (by omega) (Ev.ok ?_))
    rw [List.drop_eq_nil_of_le (by omega)]
    rfl
  | succ d ih =>
    intro i hd hi
    have h : i < l.length := by omega
    refine Ev.step (fun k => by simp only [slices_IndexFunc_batch_Check_1.l0]; rfl) (Ev.pos (by omega) (Ev.pos (by omega) (Ev.pos (by omega) ?_)))
    rw [rdR h, wrap_eq (x := (i : Int) + 1) (by omega) (by omega), drop_cons h]
    refine Q.Ev.bindc (show batch_Check_1.f l[i].f0 l[i].f1 = some (decide ((l[i].f1.size : Int) > 200)) from rfl) (Q.Ev.ite (fun c => Ev.ok ?_) (fun c => ?_))
    · have := of_decide_eq_true c
      unfold longI
      rw [if_pos (by omega)]
    have := of_decide_eq_false (Bool.eq_false_iff.2 c)
    unfold longI
    rw [if_neg (by omega)]
    exact ih (i + 1) (by omega) (by omega)
theorem long_f {l : List RwT} (hl : l.length ≤ 1000) : Ev (fun k => slices_ContainsFunc_batch_Check_1.f k l) (longB l) := by
  unfold slices_ContainsFunc_batch_Check_1.f slices_IndexFunc_batch_Check_1.f
  have := long_l0 hl l.length 0 (by omega) (by omega)
  rw [List.drop_zero] at this
  exact Ev.bind this (Ev.ok (longI_any l 0))
theorem longB_no {l : List RwT} : longB l = false ↔ ∀ r ∈ l, r.f1.size ≤ 200 := by
  unfold longB
  rw [List.any_eq_false]
  exact forall_congr' fun r => forall_congr' fun hr => by simp
instance (l : List RwT) : Decidable (okT l) := by unfold okT; infer_instance
instance (s : List (List RwT)) : Decidable (okS s) := by unfold okS; infer_instance
def chkS (s : List (List RwT)) : Int := if okS s then 0 else 40
theorem chk_zero_S {s : List (List RwT)} : chkS s = 0 ↔ okS s := by
  unfold chkS
  by_cases c : okS s
  · rw [if_pos c]; exact ⟨fun _ => c, fun _ => rfl⟩
  rw [if_neg c]; exact ⟨fun h => by omega, fun h => (c h).elim⟩
theorem chk_bad_S {s : List (List RwT)} (h : chkS s ≠ 0) : chkS s = 40 := by
  unfold chkS at h ⊢
  by_cases c : okS s
  · rw [if_pos c] at h; exact (h rfl).elim
  rw [if_neg c]
def chkL (s : List (List RwT)) : Int := if ∀ l ∈ s, okT l then 0 else 40
theorem chkL_cons {l : List RwT} {s : List (List RwT)} (h : okT l) : chkL (l :: s) = chkL s := by
  unfold chkL
  by_cases c : ∀ x ∈ s, okT x
  · have g : ∀ x ∈ l :: s, okT x := fun x hx => by
      rcases List.mem_cons.1 hx with rfl | hx
      · exact h
      exact c x hx
    rw [if_pos c, if_pos g]
  rw [if_neg c, if_neg (fun q => c fun x hx => q x (List.mem_cons_of_mem _ hx))]
theorem chkL_bad {l : List RwT} {s : List (List RwT)} (h : ¬ okT l) : chkL (l :: s) = 40 := if_neg fun q => h (q l List.mem_cons_self)
def smallS (s : List (List RwT)) : Prop := s.length ≤ 100 ∧ ∀ l ∈ s, l.length ≤ 1000
theorem okS.small {s : List (List RwT)} (h : okS s) : smallS s := ⟨by have := h.1; omega, fun l hl => by have := (h.2 l hl).1; omega⟩
theorem check_l0 {s : List (List RwT)} (h : smallS s) (d : Nat) : ∀ i : Nat, s.length - i = d → i ≤ s.length → Ev (fun k => batch_Check.l0 k s (s.length : Int) (i : Int)) (chkL (s.drop i)) := by
  have h1 := h.1
  induction d with
  | zero =>
    intro i hd hi
    refine Ev.step (fun k => by simp only [batch_Check.l0]; rfl) (Ev.neg (by omega) (Ev.ok ?_))
    rw [List.drop_eq_nil_of_le (by omega)]
    rfl
  | succ d ih =>
    intro i hd hi
    have hi2 : i < s.length := by omega
    have hl := h.2 _ (List.getElem_mem hi2)
    refine Ev.step (fun k => by simp only [batch_Check.l0]; rfl) (Ev.pos (by omega) (Ev.pos (by omega) (Ev.pos (by omega) ?_)))
    rw [rdS hi2, wrap_eq (x := (i : Int) + 1) (by omega) (by omega), drop_cons hi2]
    refine Q.Ev.ite (fun c => Ev.ok ?_) (fun c => Ev.bind (ids_f hl) (Ev.bind (rows_Rising_f (by rw [ids_len]; omega)) (Q.Ev.ite (fun c2 => Ev.bind (long_f hl) (Q.Ev.ite (fun c3 => Ev.ok ?_) (fun c3 => ?_))) (fun c2 => Ev.ok ?_))))
    · exact (chkL_bad fun q => by have := q.1; omega).symm
    · refine (chkL_bad fun q => ?_).symm
      rw [longB_no.2 q.2.2] at c3
      exact Bool.false_ne_true c3
    · rw [chkL_cons ⟨by omega, c2, longB_no.1 (Bool.eq_false_iff.2 c3)⟩]
      exact ih (i + 1) (by omega) (by omega)
    exact (chkL_bad fun q => c2 q.2.1).symm
theorem bcheck_f {s : List (List RwT)} (h : smallS s) : Ev (fun k => batch_Check.f k s) (chkS s) := by
  unfold batch_Check.f
  refine Q.Ev.ite (fun c => Ev.ok ?_) (fun c => ?_)
  · unfold chkS
    rw [if_neg fun q => by have := q.1; omega]
  have := check_l0 h s.length 0 (by omega) (by omega)
  rw [List.drop_zero] at this
  refine Ev.eq this ?_
  unfold chkL chkS
  by_cases q : ∀ l ∈ s, okT l
  · rw [if_pos q, if_pos (show okS s from ⟨by omega, q⟩)]
  rw [if_neg q, if_neg (show ¬ okS s from fun w => q w.2)]
theorem at_in {l : List RwT} (h : okT l) {id : Int} (hm : id ∈ idsT l) : ∃ hi : posT l id < l.length, l[posT l id].f0 = id ∧ l[posT l id].f1 = textT l id := by
  obtain ⟨A, r, B, rfl, hr, hp, _⟩ := split_in h.sort hm
  refine ⟨by rw [hp]; simp, ?_⟩
  have e : (A ++ r :: B)[posT (A ++ r :: B) id]'(by rw [hp]; simp) = r := by
    rw [List.getElem_append_right (by omega)]
    simp [hp]
  rw [e, ← text_in h.sort (r := r) (by simp), hr]
  exact ⟨rfl, rfl⟩
theorem getD_S {s : List (List RwT)} {i : Nat} (h : i < s.length) : s.getD i [] = s[i] := by simp [h]
def opX (o : BoT) : OpX := ⟨o.f0, o.f1, o.f2, o.f3⟩
theorem bwrong_f {s : List (List RwT)} (h : okS s) (o : OpX) : Ev (fun k => batch_Store_wrong.f k s o.tb o.k o.id o.tx) (whyS s o) := by
  have j5 : ∀ (b x : Bool) (l : List RwT), (b = decide (o.id ∈ idsT l)) → (x = true ↔ (o.k = 1 ∧ 60 ≤ l.length)) → ¬ (o.k = 1 ∧ o.id ∈ idsT l) → Ev (fun k => batch_Store_wrong.j5 k b x o.tb o.k o.id o.tx) (whyT l o.k o.id) := by
    intro b x l hb hx hn
    unfold whyT
    rw [if_neg hn]
    refine Ev.step (fun k => by simp only [batch_Store_wrong.j5]; rfl) (Q.Ev.ite (fun c => Ev.ok (if_pos (hx.1 c)).symm) (fun c => ?_))
    rw [if_neg fun q => c (hx.2 q)]
    refine Q.Ev.ite (fun c2 => Ev.ok ?_) (fun c2 => Q.Ev.ite (fun c3 => Ev.ok ?_) (fun c3 => Ev.ok ?_))
    · rw [if_neg fun q => q.1 c2]
    · rw [hb] at c3
      rw [if_neg fun q => q.2 (of_decide_eq_true c3)]
    rw [hb] at c3
    rw [if_pos ⟨c2, of_decide_eq_false (Bool.eq_false_iff.2 c3)⟩]
  have j4 : ∀ (b x : Bool) (l : List RwT), (b = decide (o.id ∈ idsT l)) → (x = true ↔ (o.k = 1 ∧ o.id ∈ idsT l)) → Ev (fun k => batch_Store_wrong.j4 k l b x o.tb o.k o.id o.tx) (whyT l o.k o.id) := by
    intro b x l hb hx
    refine Ev.step (fun k => by simp only [batch_Store_wrong.j4]; rfl) (Q.Ev.ite (fun c => Ev.ok ?_) (fun c => ?_))
    · unfold whyT
      rw [if_pos (hx.1 c)]
    have hn : ¬ (o.k = 1 ∧ o.id ∈ idsT l) := fun q => c (hx.2 q)
    refine Q.Ev.ite (fun c2 => j5 b _ l hb ?_ hn) (fun c2 => j5 b _ l hb ?_ hn)
    · rw [decide_eq_true_iff]
      exact ⟨fun q => ⟨c2, by omega⟩, fun q => by have := q.2; omega⟩
    exact ⟨fun q => (Bool.false_ne_true q).elim, fun q => (c2 q.1).elim⟩
  have j3 : 0 ≤ o.tb → o.tb < s.length → Ev (fun k => batch_Store_wrong.j3 k s o.tb o.k o.id o.tx) (whyT (s.getD o.tb.toNat []) o.k o.id) := by
    intro g2 g3
    obtain ⟨n, hn⟩ := Int.eq_ofNat_of_zero_le g2
    rw [hn] at g2 g3 ⊢
    have hn2 : n < s.length := by omega
    have hok := h.2 _ (List.getElem_mem hn2)
    refine Ev.step (fun k => by simp only [batch_Store_wrong.j3]; rfl) (Ev.pos g2 (Ev.pos g3 ?_))
    rw [rdS hn2]
    refine Ev.bind (bfind_f (by have := hok.1; omega) o.id) ?_
    rw [find_T hok]
    simp only [Int.toNat_natCast]
    rw [getD_S hn2]
    have j4' := fun x => j4 (decide (o.id ∈ idsT s[n])) x s[n] rfl
    rw [hn] at j4'
    refine Q.Ev.ite (fun c => j4' _ ?_) (fun c => j4' _ ?_)
    · rw [decide_eq_true_iff]
      exact ⟨fun q => ⟨c, q⟩, fun q => q.2⟩
    exact ⟨fun q => (Bool.false_ne_true q).elim, fun q => (c q.1).elim⟩
  have j2 : 0 ≤ o.tb → o.tb < s.length → ∀ x : Bool, (x = true ↔ (o.id < 1 ∨ 999999 < o.id)) → Ev (fun k => batch_Store_wrong.j2 k x s o.tb o.k o.id o.tx) (if o.id < 1 ∨ 999999 < o.id then 31 else if o.k ≠ 3 ∧ 200 < o.tx.size then 3 else whyT (s.getD o.tb.toNat []) o.k o.id) := by
    intro g2 g3 x hx
    refine Ev.step (fun k => by simp only [batch_Store_wrong.j2]; rfl) (Q.Ev.ite (fun c => Ev.ok (if_pos (hx.1 c)).symm) (fun c => ?_))
    rw [if_neg fun q => c (hx.2 q)]
    refine Q.Ev.ite (fun c2 => ?_) (fun c2 => Q.Ev.ite (fun c3 => Ev.ok ?_) (fun c3 => ?_))
    · rw [if_neg fun q => q.1 c2]
      exact j3 g2 g3
    · rw [if_pos ⟨c2, by omega⟩]
    rw [if_neg fun q => by have := q.2; omega]
    exact j3 g2 g3
  have j1 : ∀ x : Bool, (x = true ↔ (o.tb < 0 ∨ (s.length : Int) ≤ o.tb)) → Ev (fun k => batch_Store_wrong.j1 k x s o.tb o.k o.id o.tx) (if o.tb < 0 ∨ (s.length : Int) ≤ o.tb then 2 else if o.id < 1 ∨ 999999 < o.id then 31 else if o.k ≠ 3 ∧ 200 < o.tx.size then 3 else whyT (s.getD o.tb.toNat []) o.k o.id) := by
    intro x hx
    refine Ev.step (fun k => by simp only [batch_Store_wrong.j1]; rfl) (Q.Ev.ite (fun c => Ev.ok (if_pos (hx.1 c)).symm) (fun c => ?_))
    have hn : ¬ (o.tb < 0 ∨ (s.length : Int) ≤ o.tb) := fun q => c (hx.2 q)
    rw [if_neg hn]
    refine Q.Ev.ite (fun c2 => j2 (by omega) (by omega) _ ?_) (fun c2 => j2 (by omega) (by omega) _ ?_)
    · exact ⟨fun _ => .inl c2, fun _ => rfl⟩
    rw [decide_eq_true_iff]; omega
  have j0 : ∀ x : Bool, (x = true ↔ (o.k < 1 ∨ 3 < o.k)) → Ev (fun k => batch_Store_wrong.j0 k x s o.tb o.k o.id o.tx) (whyS s o) := by
    intro x hx
    unfold whyS
    refine Ev.step (fun k => by simp only [batch_Store_wrong.j0]; rfl) (Q.Ev.ite (fun c => Ev.ok (if_pos (hx.1 c)).symm) (fun c => ?_))
    rw [if_neg fun q => c (hx.2 q)]
    refine Q.Ev.ite (fun c2 => j1 _ ?_) (fun c2 => j1 _ ?_)
    · exact ⟨fun _ => .inl c2, fun _ => rfl⟩
    rw [decide_eq_true_iff]; omega
  unfold batch_Store_wrong.f
  refine Q.Ev.ite (fun c2 => j0 _ ?_) (fun c2 => j0 _ ?_)
  · exact ⟨fun _ => .inl c2, fun _ => rfl⟩
  rw [decide_eq_true_iff]; omega
theorem pos_le (l : List RwT) (id : Int) : posT l id ≤ l.length := by
  have := List.countP_le_length (p := fun x => decide (x < id)) (l := idsT l)
  rw [ids_len] at this
  exact this
theorem with_T {l : List RwT} (h : l.length ≤ 1000) (id : Int) (tx : ByteArray) : batch_Row_144.f l (posT l id : Int) id tx = some (putT l ⟨id, tx⟩, 0) := by
  have := pos_le l id
  unfold batch_Row_144.f putT
  rw [if_neg (by omega), if_neg (by omega), if_pos (by omega), Int.toNat_natCast]
theorem set_T {l : List RwT} (h : l.length ≤ 1000) (id : Int) (tx : ByteArray) (hi : posT l id < l.length) : batch_Row_145.f l (posT l id : Int) id tx = some (setT l ⟨id, tx⟩, 0) := by
  unfold batch_Row_145.f setT
  rw [if_neg (by omega), if_neg (by omega), if_pos (by omega), Int.toNat_natCast]
theorem cut_T {l : List RwT} (h : l.length ≤ 1000) (id : Int) (hi : posT l id < l.length) : batch_Row_146.f l (posT l id : Int) = some (cutT l id, 0) := by
  unfold batch_Row_146.f cutT
  rw [if_neg (by omega), if_neg (by omega), if_pos (by omega), Int.toNat_natCast]
theorem clone_S {s : List (List RwT)} (h : s.length ≤ 1000) : batch_Row_96.f s = some s := by
  unfold batch_Row_96.f
  rw [if_pos (by omega)]
theorem bdoes_f {s : List (List RwT)} (h : okS s) (o : OpX) : Ev (fun k => batch_Store_does.f k s o.tb o.k o.id o.tx) (if whyS s o = 0 then (doS s o, 0) else ([], whyS s o)) := by
  unfold batch_Store_does.f
  refine Ev.bind (bwrong_f h o) (Q.Ev.ite (fun c => ?_) (fun c => Ev.ok (if_neg c).symm))
  rw [if_pos c]
  have g := why_S.1 c
  have g0 := g.t0
  have g1 := g.t1
  obtain ⟨n, hn⟩ := Int.eq_ofNat_of_zero_le g0
  rw [hn, Int.toNat_natCast] at g1
  have hok := h.2 _ (List.getElem_mem g1)
  have h60 := hok.1
  have h8 := h.1
  have e : s.getD o.tb.toNat [] = s[n] := by rw [hn, Int.toNat_natCast]; exact getD_S g1
  have hw := g.w
  rw [e] at hw
  obtain ⟨w1, w2⟩ := why_T hw
  unfold doS doT
  rw [e, hn]
  refine Ev.pos (by omega) (Ev.pos (by omega) ?_)
  rw [rdS g1]
  refine Ev.bind (bfind_f (by omega) o.id) ?_
  rw [find_T hok]
  have hset : ∀ v, Ev (fun _ : Nat => (batch_Row_96.f s).bind fun t => if (n : Int) < (t.length : Int) then some (t.set ((n : Int)).toNat v, (0 : Int)) else none) (s.set ((n : Int)).toNat v, 0) := fun v => Q.Ev.bindc (clone_S (by omega)) (Ev.pos (by omega) (Ev.ok rfl))
  refine Q.Ev.ite (fun c1 => ?_) (fun c1 => Q.Ev.ite (fun c2 => ?_) (fun c2 => ?_))
  · rw [if_pos c1]
    exact Q.Ev.bindc (with_T (by omega) o.id o.tx) (hset _)
  · rw [if_neg c1, if_pos c2]
    exact Q.Ev.bindc (set_T (by omega) o.id o.tx (at_in hok (w2 c1)).1) (hset _)
  rw [if_neg c1, if_neg c2]
  exact Q.Ev.bindc (cut_T (by omega) o.id (at_in hok (w2 c1)).1) (hset _)
theorem apply_l0 {l : List BoT} (hl : l.length ≤ 100000) (d : Nat) : ∀ (i : Nat) (s : List (List RwT)), l.length - i = d → i ≤ l.length → okS s → Ev (fun k => batch_Apply.l0 k l l (l.length : Int) (i : Int) s) (runS s ((l.drop i).map opX) (i : Int)) := by
  induction d with
  | zero =>
    intro i s hd hi hs
    refine Ev.step (fun k => by simp only [batch_Apply.l0]; rfl) (Ev.neg (by omega) (Ev.ok ?_))
    rw [List.drop_eq_nil_of_le (by omega), show l.length = i by omega]
    rfl
  | succ d ih =>
    intro i s hd hi hs
    have h : i < l.length := by omega
    refine Ev.step (fun k => by simp only [batch_Apply.l0]; rfl) (Ev.pos (by omega) (Ev.pos (by omega) (Ev.pos (by omega) ?_)))
    rw [rdO h, wrap_eq (x := (i : Int) + 1) (by omega) (by omega), drop_cons h]
    refine Ev.bind (bdoes_f hs (opX l[i])) ?_
    simp only [List.map_cons, runS]
    by_cases c : whyS s (opX l[i]) = 0
    · rw [if_pos c, if_pos c]
      exact Ev.pos rfl (ih (i + 1) _ (by omega) (by omega) (do_okS hs (why_S.1 c)))
    rw [if_neg c, if_neg c]
    exact Ev.neg c (Ev.ok rfl)
def applyS (s : List (List RwT)) (l : List OpX) : List (List RwT) × Int × Int := if chkS s = 0 then runS s l 0 else ([], 0, 40)
theorem bapply_f {s : List (List RwT)} (h : smallS s) {l : List BoT} (hl : l.length ≤ 100000) : Ev (fun k => batch_Apply.f k s l) (applyS s (l.map opX)) := by
  unfold batch_Apply.f applyS
  refine Ev.bind (bcheck_f h) (Q.Ev.ite (fun c => ?_) (fun c => Ev.ok ?_))
  · rw [if_pos c]
    refine Q.Ev.bindc (clone_S (by have := h.1; omega)) ?_
    have := apply_l0 hl l.length 0 s (by omega) (by omega) (chk_zero_S.1 c)
    rw [List.drop_zero] at this
    exact this
  rw [if_neg c, chk_bad_S c]
def ofX (o : OpX) : BoT := ⟨o.tb, o.k, o.id, o.tx⟩
end Go.Proofs.Ytdpcgigjlcpofaa.Q
namespace Go.Proofs.Ytdpcgigjlcpofaa.Q
open Go.RowKit YtdpcgigjlcpofaaW.PrintWords YtdpcgigjlcpofaaW.PrintLast YtdpcgigjlcpofaaW.PrintMore
def beL : Nat → Nat → List UInt8
  | 0, _ => []
  | w + 1, n => beL w (n / 256) ++ [UInt8.ofNat n]
def beN (l : List UInt8) : Nat := l.foldl (fun a b => 256 * a + b.toNat) 0
theorem beL_length (w : Nat) : ∀ n, (beL w n).length = w := by
  induction w with
  | zero => intro n; rfl
  | succ w ih => intro n; simp [beL, ih]
theorem beN_append (a : List UInt8) (b : UInt8) : beN (a ++ [b]) = 256 * beN a + b.toNat := by
  simp [beN]
theorem toNat_ofNat (n : Nat) : (UInt8.ofNat n).toNat = n % 256 := by simp
theorem beN_beL (w : Nat) : ∀ n, beN (beL w n) = n % 256 ^ w := by
  induction w with
  | zero => intro n; simp [beL, beN, Nat.mod_one]
  | succ w ih =>
    intro n
    rw [beL, beN_append, ih, toNat_ofNat, Nat.pow_succ, Nat.mul_comm (256 ^ w) 256, Nat.mod_mul]
    omega
theorem snoc_cases {α : Type} (l : List α) : l = [] ∨ ∃ a b, l = a ++ [b] := by
  rcases List.eq_nil_or_concat l with h | ⟨a, b, h⟩
  · exact .inl h
  exact .inr ⟨a, b, by simpa using h⟩
theorem beL_beN (w : Nat) : ∀ l : List UInt8, l.length = w → beL w (beN l) = l := by
  induction w with
  | zero => intro l h; rw [List.eq_nil_of_length_eq_zero h]; rfl
  | succ w ih =>
    intro l h
    rcases snoc_cases l with rfl | ⟨a, b, rfl⟩
    · simp at h
    have hb := b.toNat_lt
    rw [beL, beN_append, show (256 * beN a + b.toNat) / 256 = beN a by omega, ih a (by simpa using h)]
    congr 2
    apply UInt8.toNat_inj.1
    rw [toNat_ofNat]
    omega
theorem beN_lt (w : Nat) : ∀ l : List UInt8, l.length = w → beN l < 256 ^ w := by
  induction w with
  | zero => intro l h; rw [List.eq_nil_of_length_eq_zero h]; simp [beN]
  | succ w ih =>
    intro l h
    rcases snoc_cases l with rfl | ⟨a, b, rfl⟩
    · simp at h
    have hb := b.toNat_lt
    have := ih a (by simpa using h)
    rw [beN_append, Nat.pow_succ]
    omega
def bytesB (l : List UInt8) : ByteArray := ⟨l.toArray⟩
theorem bytesB_data (l : List UInt8) : (bytesB l).data.toList = l := rfl
theorem bytesB_size (l : List UInt8) : (bytesB l).size = l.length := by simp [bytesB, ByteArray.size]
theorem ext_list {a b : ByteArray} (h : a.data.toList = b.data.toList) : a = b := by
  cases a; cases b; simpa [Array.toList_inj] using h
theorem data_append (a b : ByteArray) : (a ++ b).data.toList = a.data.toList ++ b.data.toList := by simp [ByteArray.data_append]
theorem data_extract (a : ByteArray) (i j : Nat) : (a.extract i j).data.toList = (a.data.toList.take j).drop i := by
  rw [ByteArray.data_extract, Array.toList_extract, List.extract_eq_take_drop, List.drop_take]
theorem size_data (a : ByteArray) : a.data.toList.length = a.size := by rw [Array.length_toList]; rfl
theorem bt_data (s : ByteArray) (i : Nat) (h : i < s.size) : bt s (i : Int) = ((s.data.toList[i]'(by rw [size_data]; exact h)).toNat : Int) := by
  unfold bt
  rw [dif_pos (by simpa using h)]
  simp [ByteArray.getElem_eq_getElem_data]
def wide (w : Int) : Prop := w = 1 ∨ w = 2 ∨ w = 4 ∨ w = 8
instance (w : Int) : Decidable (wide w) := by unfold wide; infer_instance
def putS (n w : Int) : ByteArray × Int := if wide w then (if 0 ≤ n ∧ n < 256 ^ w.toNat then (bytesB (beL w.toNat n.toNat), 0) else (⟨#[]⟩, 8)) else (⟨#[]⟩, 2)
def numAt (s : ByteArray) (at_ w : Nat) : Nat := beN ((s.data.toList.drop at_).take w)
def getS (s : ByteArray) (at_ w : Int) : Int × Int × Int :=
  if wide w ∧ 0 ≤ at_ ∧ at_ ≤ s.size then
    (if s.size - at_ < w then (0, 0, 4) else if (numAt s at_.toNat w.toNat : Int) > 9223372036854775807 then (0, 0, 8) else ((numAt s at_.toNat w.toNat : Int), at_ + w, 0))
  else (0, 0, 2)
def layS (t : ByteArray) : ByteArray × Int := if t.size > 65535 then (⟨#[]⟩, 3) else (bytesB (beL 2 t.size) ++ t, 0)
def takeS (s : ByteArray) (at_ most : Int) : ByteArray × Int × Int :=
  if most < 0 then (⟨#[]⟩, 0, 2) else
  if (getS s at_ 2).2.2 = 0 then
    (if (getS s at_ 2).1 > most then (⟨#[]⟩, 0, 3) else if (getS s at_ 2).1 > s.size - (getS s at_ 2).2.1 then (⟨#[]⟩, 0, 4) else
      (s.extract (getS s at_ 2).2.1.toNat ((getS s at_ 2).2.1 + (getS s at_ 2).1).toNat, (getS s at_ 2).2.1 + (getS s at_ 2).1, 0))
  else (⟨#[]⟩, 0, (getS s at_ 2).2.2)
theorem wide_nat {w : Int} (h : wide w) : 0 < w ∧ w ≤ 8 := by unfold wide at h; omega
theorem pow_cast {a w : Nat} (h : a < 256 ^ w) : (a : Int) < 256 ^ w := by
  have := Int.ofNat_lt.2 h
  rw [Int.natCast_pow] at this
  exact this
theorem pow_cast' {a w : Nat} (h : (a : Int) < 256 ^ w) : a < 256 ^ w := by
  apply Int.ofNat_lt.1
  rw [Int.natCast_pow]
  exact h
theorem getS_ok {s : ByteArray} {a w n tt : Int} (h : getS s a w = (n, tt, 0)) : wide w ∧ 0 ≤ a ∧ a + w ≤ s.size ∧ tt = a + w ∧ n = (numAt s a.toNat w.toNat : Int) ∧ n ≤ 9223372036854775807 ∧ 0 ≤ n := by
  unfold getS at h
  by_cases h1 : wide w ∧ 0 ≤ a ∧ a ≤ s.size
  · rw [if_pos h1] at h
    by_cases h2 : s.size - a < w
    · rw [if_pos h2] at h; simp at h
    rw [if_neg h2] at h
    by_cases h3 : (numAt s a.toNat w.toNat : Int) > 9223372036854775807
    · rw [if_pos h3] at h; simp at h
    rw [if_neg h3] at h
    simp only [Prod.mk.injEq] at h
    obtain ⟨rfl, rfl, _⟩ := h
    exact ⟨h1.1, h1.2.1, by omega, rfl, rfl, by omega, by omega⟩
  rw [if_neg h1] at h; simp at h
theorem putS_ok {n w : Int} {b : ByteArray} (h : putS n w = (b, 0)) : wide w ∧ 0 ≤ n ∧ n < 256 ^ w.toNat ∧ b = bytesB (beL w.toNat n.toNat) := by
  unfold putS at h
  by_cases h1 : wide w
  · rw [if_pos h1] at h
    by_cases h2 : 0 ≤ n ∧ n < 256 ^ w.toNat
    · rw [if_pos h2] at h
      exact ⟨h1, h2.1, h2.2, (Prod.mk.inj h).1.symm⟩
    rw [if_neg h2] at h; exact absurd (Prod.mk.inj h).2 (by decide)
  rw [if_neg h1] at h; exact absurd (Prod.mk.inj h).2 (by decide)
theorem numAt_lt {s : ByteArray} {a w : Nat} (h : a + w ≤ s.size) : numAt s a w < 256 ^ w := by
  apply beN_lt
  rw [List.length_take, List.length_drop, size_data]; omega
theorem put_of_get {s : ByteArray} {a w n tt : Int} (h : getS s a w = (n, tt, 0)) : putS n w = (s.extract a.toNat tt.toNat, 0) := by
  obtain ⟨hw, ha, hs, rfl, rfl, hn, _⟩ := getS_ok h
  have hw' := wide_nat hw
  have hl := numAt_lt (s := s) (a := a.toNat) (w := w.toNat) (by omega)
  unfold putS
  rw [if_pos hw, if_pos ⟨by omega, pow_cast hl⟩]
  congr 1
  apply ext_list
  rw [bytesB_data, data_extract, Int.toNat_natCast, numAt, show (a + w).toNat = a.toNat + w.toNat by omega]
  rw [beL_beN]
  · rw [List.drop_take, Nat.add_sub_cancel_left]
  rw [List.length_take, List.length_drop, size_data]; omega
theorem get_of_put {n w : Int} {b x y : ByteArray} (h : putS n w = (b, 0)) (hn : n ≤ 9223372036854775807) : getS (x ++ b ++ y) x.size w = (n, x.size + w, 0) ∧ b.size = w.toNat := by
  obtain ⟨hw, h0, h1, rfl⟩ := putS_ok h
  have hw' := wide_nat hw
  have hsz : (bytesB (beL w.toNat n.toNat)).size = w.toNat := by rw [bytesB_size, beL_length]
  have hnum : (numAt (x ++ bytesB (beL w.toNat n.toNat) ++ y) x.size w.toNat : Int) = n := by
    unfold numAt
    rw [data_append, data_append, bytesB_data, List.append_assoc, List.drop_left' (size_data x), List.take_left' (beL_length _ _), beN_beL, Nat.mod_eq_of_lt]
    · omega
    have : ((n.toNat : Nat) : Int) < 256 ^ w.toNat := by rw [Int.toNat_of_nonneg h0]; exact h1
    exact pow_cast' this
  refine ⟨?_, hsz⟩
  unfold getS
  rw [if_pos ⟨hw, by omega, by simp only [ByteArray.size_append, hsz]; omega⟩, if_neg (by simp only [ByteArray.size_append, hsz]; omega), Int.toNat_natCast, hnum, if_neg (by omega)]
theorem lay_ok {t b : ByteArray} (h : layS t = (b, 0)) : t.size ≤ 65535 ∧ b = bytesB (beL 2 t.size) ++ t := by
  unfold layS at h
  split at h
  · simp at h
  simp only [Prod.mk.injEq] at h
  exact ⟨by omega, h.1.symm⟩
theorem put2 {n : Nat} (h : n < 65536) : putS n 2 = (bytesB (beL 2 n), 0) := by
  unfold putS
  rw [if_pos (by decide), if_pos ⟨by omega, by show (n : Int) < 256 ^ 2; omega⟩]; rfl
theorem take_of_lay {t b x y : ByteArray} {most : Int} (h : layS t = (b, 0)) (hm : (t.size : Int) ≤ most) : takeS (x ++ b ++ y) x.size most = (t, (x.size : Int) + b.size, 0) := by
  obtain ⟨hs, rfl⟩ := lay_ok h
  have hg := (get_of_put (x := x) (y := t ++ y) (put2 (n := t.size) (by omega)) (by omega)).1
  rw [show x ++ bytesB (beL 2 t.size) ++ (t ++ y) = x ++ (bytesB (beL 2 t.size) ++ t) ++ y by simp only [ByteArray.append_assoc]] at hg
  unfold takeS
  rw [if_neg (by omega), hg]
  simp only [if_true]
  rw [if_neg (by omega), if_neg (by simp only [ByteArray.size_append, bytesB_size, beL_length]; omega)]
  simp only [ByteArray.size_append, bytesB_size, beL_length, Prod.mk.injEq, and_true]
  refine ⟨?_, by omega⟩
  apply ext_list
  rw [data_extract, data_append, data_append, data_append, bytesB_data]
  rw [show ((x.size : Int) + 2).toNat = x.size + 2 by omega, show ((x.size : Int) + 2 + (t.size : Int)).toNat = x.size + 2 + t.size by omega]
  rw [List.take_append_of_le_length (by simp only [List.length_append, beL_length, size_data]; omega), List.take_of_length_le (by simp only [List.length_append, beL_length, size_data]; omega), ← List.append_assoc, List.drop_left' (by simp only [List.length_append, beL_length, size_data])]
theorem takeS_ok {s t : ByteArray} {a most tt : Int} (h : takeS s a most = (t, tt, 0)) : 0 ≤ most ∧ ∃ n, getS s a 2 = (n, a + 2, 0) ∧ n ≤ most ∧ a + 2 + n ≤ s.size ∧ t = s.extract (a + 2).toNat (a + 2 + n).toNat ∧ tt = a + 2 + n := by
  unfold takeS at h
  split at h
  · simp at h
  split at h
  · split at h
    · simp at h
    split at h
    · simp at h
    rename_i h1 h2 h3 h4
    have hg : getS s a 2 = ((getS s a 2).1, (getS s a 2).2.1, 0) := by rw [← h2]
    obtain ⟨_, _, _, e, _⟩ := getS_ok hg
    simp only [Prod.mk.injEq] at h
    rw [e] at hg h4 h
    exact ⟨by omega, (getS s a 2).1, hg, by omega, by omega, h.1.symm, h.2.1.symm⟩
  rename_i h1 h2
  simp only [Prod.mk.injEq] at h
  exact absurd h.2.2 h2
theorem lay_of_take {s t : ByteArray} {a most tt : Int} (h : takeS s a most = (t, tt, 0)) : layS t = (s.extract a.toNat tt.toNat, 0) ∧ a ≤ tt ∧ tt ≤ s.size ∧ 0 ≤ a := by
  obtain ⟨hm, n, hg, h1, h2, rfl, rfl⟩ := takeS_ok h
  obtain ⟨_, ha, hs, _, hn, _, h0⟩ := getS_ok hg
  have hp := put_of_get hg
  obtain ⟨_, _, hlt, hb⟩ := putS_ok hp
  have hlt' : n < 65536 := hlt
  refine ⟨?_, by omega, by omega, ha⟩
  have hsz : (s.extract (a + 2).toNat (a + 2 + n).toNat).size = n.toNat := by rw [ByteArray.size_extract]; omega
  unfold layS
  rw [hsz, if_neg (by omega)]
  congr 1
  have : bytesB (beL 2 n.toNat) = s.extract a.toNat (a + 2).toNat := hb.symm
  rw [this]
  apply ext_list
  rw [data_append, data_extract, data_extract, data_extract, List.drop_take, List.drop_take, List.drop_take]
  rw [show (a + 2).toNat - a.toNat = 2 by omega, show (a + 2 + n).toNat - (a + 2).toNat = n.toNat by omega, show (a + 2 + n).toNat - a.toNat = 2 + n.toNat by omega, show (a + 2).toNat = a.toNat + 2 by omega, List.take_add, List.drop_drop]
theorem extract_append {s : ByteArray} {i j k : Nat} (h1 : i ≤ j) (h2 : j ≤ k) : s.extract i j ++ s.extract j k = s.extract i k := by
  apply ext_list
  rw [data_append, data_extract, data_extract, data_extract, List.drop_take, List.drop_take, List.drop_take]
  rw [show k - i = (j - i) + (k - j) by omega, List.take_add, List.drop_drop, show i + (j - i) = j by omega]
theorem extract_self {s : ByteArray} {i : Nat} : s.extract i i = ⟨#[]⟩ := by
  apply ext_list
  rw [data_extract, List.drop_take, Nat.sub_self]; rfl
def natI (l : List UInt8) : List Int := l.map (fun b => (b.toNat : Int))
theorem strOfNums_nat (l : List UInt8) : strOfNums (natI l) = bytesB l := by
  unfold strOfNums natI bytesB
  rw [List.map_map]
  congr 2
  exact (List.map_congr_left fun b _ => by simp).trans (List.map_id l)
end Go.Proofs.Ytdpcgigjlcpofaa.Q
namespace Go.Proofs.Ytdpcgigjlcpofaa.Q
open Go.RowKit Ytdpcgigjlcpofaa.F YtdpcgigjlcpofaaW.PrintWords YtdpcgigjlcpofaaW.PrintLast YtdpcgigjlcpofaaW.PrintMore
theorem wide_dec (w : Int) : (if w = 1 then some true else if w = 2 then some true else if w = 4 then some true else some (w == 8)) = some (decide (wide w)) := by
  unfold wide
  by_cases h1 : w = 1
  · rw [if_pos h1]; simp [h1]
  rw [if_neg h1]
  by_cases h2 : w = 2
  · rw [if_pos h2]; simp [h2]
  rw [if_neg h2]
  by_cases h4 : w = 4
  · rw [if_pos h4]; simp [h4]
  rw [if_neg h4]
  by_cases h8 : w = 8
  · simp [h8]
  simp [h1, h2, h4, h8]
theorem octet_wide_f (w : Int) : octet_wide.f w = some (decide (wide w)) := by
  unfold octet_wide.f
  exact wide_dec w
theorem octet_inside_f (s : ByteArray) (a : Int) : octet_inside.f s a = some (decide (0 ≤ a ∧ a ≤ s.size)) := by
  unfold octet_inside.f
  by_cases h : a ≥ 0
  · rw [if_pos h]; congr 1; exact decide_eq_decide.2 ⟨fun x => ⟨h, x⟩, fun x => x.2⟩
  rw [if_neg h]; congr 1; exact (decide_eq_false (fun x => h x.1)).symm
theorem byte_mod (n : Int) (h : 0 ≤ n) : n % 256 = (((UInt8.ofNat n.toNat).toNat : Nat) : Int) := by
  rw [toNat_ofNat]; omega
theorem octet_put_l0 (d : Nat) : ∀ (n : Int) (t : List UInt8), 0 ≤ n → d ≤ 8 → Ev (fun k => octet_Put.l0 k n (List.replicate d 0 ++ natI t) ((d : Int) - 1)) (bytesB (beL d n.toNat ++ t), 0) := by
  induction d with
  | zero =>
    intro n t hn hd
    refine Ev.step (fun k => by simp only [octet_Put.l0]; rfl) ?_
    refine Ev.neg (by omega) (Ev.ok ?_)
    simp only [List.replicate_zero, List.nil_append, beL]
    rw [strOfNums_nat]
  | succ d ih =>
    intro n t hn hd
    refine Ev.step (fun k => by simp only [octet_Put.l0]; rfl) ?_
    refine Ev.pos (by omega) (Ev.pos (by omega) (Ev.pos (by simp only [List.length_append, List.length_replicate]; omega) ?_))
    have e1 : ((((d + 1 : Nat) : Int) - 1) : Int).toNat = d := by omega
    have e2 : wrap64 (((d + 1 : Nat) : Int) - 1 - 1) = (d : Int) - 1 := by rw [wrap_eq (by omega) (by omega)]; omega
    have e3 : (List.replicate (d + 1) 0 ++ natI t).set d (n % 256) = List.replicate d 0 ++ natI (UInt8.ofNat n.toNat :: t) := by
      rw [List.replicate_succ', List.append_assoc, List.set_append_right _ _ (by simp)]
      simp only [List.length_replicate, Nat.sub_self, List.cons_append, List.nil_append, List.set_cons_zero, natI, List.map_cons, byte_mod n hn]
    rw [e1, e2, e3]
    refine Ev.eq (ih (n / 256) (UInt8.ofNat n.toNat :: t) (by omega) (by omega)) ?_
    rw [beL, show (n / 256).toNat = n.toNat / 256 by omega, List.append_assoc]
    rfl
theorem octet_put_j0 {n w : Int} (hw : wide w) (hn : 0 ≤ n) (hlt : n < 256 ^ w.toNat) : Ev (fun k => octet_Put.j0 k n w false) (putS n w) := by
  have hw' := wide_nat hw
  refine Ev.step (fun k => by simp only [octet_Put.j0]; rfl) ?_
  refine Ev.neg (by decide) (Ev.pos (by omega) (Ev.pos (by omega) ?_))
  have h := octet_put_l0 w.toNat n [] hn (by omega)
  simp only [natI, List.map_nil, List.append_nil] at h
  rw [wrap_eq (by omega) (by omega), show w - 1 = ((w.toNat : Nat) : Int) - 1 by omega]
  refine Ev.eq h ?_
  unfold putS
  rw [if_pos hw, if_pos ⟨hn, hlt⟩]
theorem octet_put_t {n w : Int} (hw : wide w) (h : ¬ (0 ≤ n ∧ n < 256 ^ w.toNat)) : Ev (fun k => octet_Put.j0 k n w true) (putS n w) := by
  refine Ev.step (fun k => by simp only [octet_Put.j0]; rfl) ?_
  refine Ev.pos trivial (Ev.ok ?_)
  unfold putS
  rw [if_pos hw, if_neg h]
theorem octet_put_f {n : Int} (w : Int) (h1 : n ≤ 9223372036854775807) : Ev (fun k => octet_Put.f k n w) (putS n w) := by
  unfold octet_Put.f
  refine Ev.bindc (octet_wide_f w) ?_
  by_cases hw : wide w
  · refine Ev.pos (decide_eq_true hw) ?_
    refine Ev.ite (fun h => octet_put_t hw (by omega)) (fun h => ?_)
    have key : ∀ b : Bool, (b = true ↔ ¬ n < 256 ^ w.toNat) → Ev (fun k => octet_Put.j0 k n w b) (putS n w) := by
      intro b hb
      cases b with
      | true => exact octet_put_t hw (fun x => (hb.1 rfl) x.2)
      | false => exact octet_put_j0 hw (by omega) (Classical.byContradiction fun x => by have := hb.2 x; cases this)
    rcases hw with rfl | rfl | rfl | rfl
    · rw [show wrap64 (8 * 1) = 8 from wrap_eq (by decide) (by decide)]
      refine Ev.pos (by decide) (Ev.pos (by decide) (key _ ?_))
      rw [decide_eq_true_eq, show shr .i64 n 8 = n / 256 from rfl]
      show n / 256 > 0 ↔ ¬ n < 256
      omega
    · rw [show wrap64 (8 * 2) = 16 from wrap_eq (by decide) (by decide)]
      refine Ev.pos (by decide) (Ev.pos (by decide) (key _ ?_))
      rw [decide_eq_true_eq, show shr .i64 n 16 = n / 65536 from rfl]
      show n / 65536 > 0 ↔ ¬ n < 65536
      omega
    · rw [show wrap64 (8 * 4) = 32 from wrap_eq (by decide) (by decide)]
      refine Ev.pos (by decide) (Ev.pos (by decide) (key _ ?_))
      rw [decide_eq_true_eq, show shr .i64 n 32 = n / 4294967296 from rfl]
      show n / 4294967296 > 0 ↔ ¬ n < 4294967296
      omega
    refine Ev.neg (by decide) (key false ?_)
    show false = true ↔ ¬ n < 18446744073709551616
    simp
    omega
  refine Ev.neg (fun x => hw (of_decide_eq_true x)) (Ev.ok ?_)
  unfold putS
  rw [if_neg hw]
theorem numAt_succ {s : ByteArray} {a i : Nat} (h : a + i < s.size) : (numAt s a (i + 1) : Int) = 256 * (numAt s a i : Int) + bt s ((a + i : Nat) : Int) := by
  have hl : a + i < s.data.toList.length := by rw [size_data]; exact h
  unfold numAt
  rw [List.take_succ_eq_append_getElem (by rw [List.length_drop]; omega), beN_append, bt_data s (a + i) h, List.getElem_drop]
  omega
theorem numAt_lt' {s : ByteArray} {a i : Nat} (h : a + i ≤ s.size) : (numAt s a i : Int) < 256 ^ i := pow_cast (numAt_lt h)
theorem pow_le8 {i : Nat} (h : i ≤ 7) : (256 : Int) ^ i ≤ 72057594037927936 := by
  have : i = 0 ∨ i = 1 ∨ i = 2 ∨ i = 3 ∨ i = 4 ∨ i = 5 ∨ i = 6 ∨ i = 7 := by omega
  rcases this with rfl | rfl | rfl | rfl | rfl | rfl | rfl | rfl <;> decide
theorem bt_range (s : ByteArray) (i : Int) : 0 ≤ bt s i ∧ bt s i < 256 := by
  unfold bt
  split
  · rename_i h
    have := (s[i.toNat]'h).toNat_lt
    omega
  omega
theorem or_byte {x y : Int} (h0 : 0 ≤ x) (h1 : x < 72057594037927936) (h2 : 0 ≤ y) (h3 : y < 256) : Go.bits .or .u64 (IntKind.u64.wrap (x * 256)) (IntKind.u64.wrap y) = 256 * x + y := by
  rw [u64_eq (x := x * 256) (by omega) (by omega), u64_eq (x := y) (by omega) (by omega)]
  rw [bits_join .u64 64 (by decide) (fun n h0 h1 => u64_eq h0 h1) 8 (x * 256) y (by omega) (by omega) (by omega) (by omega) (by omega) (by omega)]
  omega
theorem getS_in {s : ByteArray} {a w : Int} (hw : wide w) (h0 : 0 ≤ a) (h1 : a + w ≤ s.size) : getS s a w = if (numAt s a.toNat w.toNat : Int) > 9223372036854775807 then (0, 0, 8) else ((numAt s a.toNat w.toNat : Int), a + w, 0) := by
  have hw' := wide_nat hw
  unfold getS
  rw [if_pos ⟨hw, h0, by omega⟩, if_neg (by omega)]
theorem octet_get_l0 {s : ByteArray} {a w : Int} (hs : s.size ≤ 9223372036854775807) (hw : wide w) (h0 : 0 ≤ a) (h1 : a + w ≤ s.size) (d : Nat) : ∀ i : Nat, w - i = d → Ev (fun k => octet_Get.l0 k s a w (numAt s a.toNat i : Int) w (i : Int)) (getS s a w) := by
  have hw' := wide_nat hw
  induction d with
  | zero =>
    intro i hi
    refine Ev.step (fun k => by simp only [octet_Get.l0]; rfl) ?_
    refine Ev.neg (by omega) ?_
    rw [getS_in hw h0 h1, show w.toNat = i by omega]
    refine Ev.ite (fun h => ?_) (fun h => ?_)
    · rw [if_pos h]; exact Ev.ok rfl
    rw [if_neg h, wrap_eq (x := (numAt s a.toNat i : Int)) (by omega) (by omega), wrap_eq (by omega) (by omega)]
    exact Ev.ok rfl
  | succ d ih =>
    intro i hi
    have hlt := numAt_lt' (s := s) (a := a.toNat) (i := i) (by omega)
    have hp := pow_le8 (i := i) (by omega)
    refine Ev.step (fun k => by simp only [octet_Get.l0]; rfl) ?_
    rw [wrap_eq (x := a + (i : Int)) (by omega) (by omega), wrap_eq (x := (i : Int) + 1) (by omega) (by omega)]
    refine Ev.pos (by omega) (Ev.pos (by omega) (Ev.pos (by omega) ?_))
    have hb := bt_range s (a + i)
    rw [or_byte (by omega) (by omega) hb.1 hb.2]
    have e := numAt_succ (s := s) (a := a.toNat) (i := i) (by omega)
    rw [show ((a.toNat + i : Nat) : Int) = a + i by omega] at e
    rw [← e]
    exact ih (i + 1) (by omega)
theorem octet_get_f {s : ByteArray} (a w : Int) (hs : s.size ≤ 9223372036854775807) : Ev (fun k => octet_Get.f k s a w) (getS s a w) := by
  have bad : ¬ (wide w ∧ 0 ≤ a ∧ a ≤ s.size) → Ev (fun k => octet_Get.j0 k s a w true) (getS s a w) := by
    intro h
    refine Ev.step (fun k => by simp only [octet_Get.j0]; rfl) ?_
    refine Ev.pos trivial (Ev.ok ?_)
    unfold getS
    rw [if_neg h]
  unfold octet_Get.f
  refine Ev.bindc (octet_wide_f w) ?_
  by_cases hw : wide w
  · have hw' := wide_nat hw
    refine Ev.pos (decide_eq_true hw) (Ev.bindc (octet_inside_f s a) ?_)
    by_cases ha : 0 ≤ a ∧ a ≤ s.size
    · rw [decide_eq_true ha]
      refine Ev.step (fun k => by simp only [octet_Get.j0]; rfl) ?_
      refine Ev.neg (by decide) ?_
      rw [wrap_eq (by omega) (by omega)]
      refine Ev.ite (fun h => Ev.ok ?_) (fun h => ?_)
      · unfold getS
        rw [if_pos ⟨hw, ha⟩, if_pos h]
      exact octet_get_l0 hs hw ha.1 (by omega) w.toNat 0 (by omega)
    rw [decide_eq_false ha]
    exact bad (fun x => ha x.2)
  exact Ev.neg (fun x => hw (of_decide_eq_true x)) (bad (fun x => hw x.1))
theorem octet_lay_f {t : ByteArray} (ht : t.size ≤ 4611686018427387904) : Ev (fun k => octet_Lay.f k t) (layS t) := by
  unfold octet_Lay.f layS
  refine Ev.ite (fun h => Ev.ok ?_) (fun h => ?_)
  · rw [if_pos (by omega)]
  rw [if_neg (by omega)]
  refine Ev.bind (octet_put_f 2 (by omega)) ?_
  rw [put2 (by omega)]
  refine Ev.pos ?_ (Ev.ok rfl)
  simp only [bytesB_size, beL_length]; omega
theorem octet_take_f {s : ByteArray} (a m : Int) (hs : s.size ≤ 4611686018427387904) : Ev (fun k => octet_Take.f k s a m) (takeS s a m) := by
  unfold octet_Take.f takeS
  refine Ev.ite (fun h => ?_) (fun h => ?_)
  · rw [if_pos h]; exact Ev.ok rfl
  rw [if_neg h]
  refine Ev.bind (octet_get_f a 2 (by omega)) ?_
  refine Ev.ite (fun h1 => ?_) (fun h1 => ?_)
  · rw [if_pos h1]
    have hg : getS s a 2 = ((getS s a 2).1, (getS s a 2).2.1, 0) := by rw [← h1]
    obtain ⟨_, h2, h3, h4, h5, h6, h7⟩ := getS_ok hg
    refine Ev.ite (fun h8 => ?_) (fun h8 => ?_)
    · rw [if_pos h8]; exact Ev.ok rfl
    rw [if_neg h8, wrap_eq (x := (s.size : Int) - (getS s a 2).2.1) (by omega) (by omega)]
    refine Ev.ite (fun h9 => ?_) (fun h9 => ?_)
    · rw [if_pos h9]; exact Ev.ok rfl
    rw [if_neg h9, wrap_eq (by omega) (by omega)]
    exact Ev.pos (by omega) (Ev.pos (by omega) (Ev.pos (by omega) (Ev.ok rfl)))
  rw [if_neg h1]; exact Ev.ok rfl
end Go.Proofs.Ytdpcgigjlcpofaa.Q
namespace Go.Proofs.Ytdpcgigjlcpofaa.Q
open Go.RowKit Ytdpcgigjlcpofaa.F YtdpcgigjlcpofaaX YtdpcgigjlcpofaaW.PrintWords YtdpcgigjlcpofaaW.PrintLast YtdpcgigjlcpofaaW.PrintMore
def flt (a e : Int) : Option (Int × Int) := if e = 0 then none else some (e, a)
theorem flt0 (a : Int) : flt a 0 = none := rfl
theorem flt1 {a e : Int} (h : e ≠ 0) : flt a e = some (e, a) := if_neg h
def pc {α : Type} (z : α) (a e0 : Int) (r : α × Int × Int) : α × Int × Int := if e0 = 0 then (if r.2.2 = 0 then r else (z, a, r.2.2)) else (z, a, e0)
theorem pc_bad {α : Type} {z : α} {a e0 : Int} {r : α × Int × Int} (h : e0 ≠ 0) : pc z a e0 r = (z, a, e0) := if_neg h
theorem pc_ok {α : Type} {z : α} {a : Int} {r : α × Int × Int} (h : r.2.2 = 0) : pc z a 0 r = r := by unfold pc; rw [if_pos rfl, if_pos h]
theorem pc_err {α : Type} {z : α} {a : Int} {r : α × Int × Int} (h : r.2.2 ≠ 0) : pc z a 0 r = (z, a, r.2.2) := by unfold pc; rw [if_pos rfl, if_neg h]
def bigR (r : Int × Int × Int) (m : Int) : Int × Int × Int := if r.2.2 = 0 ∧ r.1 > m then (0, 0, 3) else r
def numR (s : ByteArray) (a e0 w m : Int) : Int × Int × Int := pc 0 a e0 (bigR (getS s a w) m)
def endR (s : ByteArray) (a e0 : Int) : Int := if e0 = 0 ∧ a < s.size then 6 else e0
theorem goes0 (s : ByteArray) (a : Int) : strict_Reader_goes.f s a none true = some (true, s, a, none, true) := rfl
theorem goes1 (s : ByteArray) (a : Int) (q : Int × Int) : strict_Reader_goes.f s a (some q) true = some (false, s, a, some q, true) := rfl
theorem done0 (s : ByteArray) (a to_ : Int) : strict_Reader_done.f s a none true to_ 0 = some (true, s, to_, none, true) := rfl
theorem done1 (s : ByteArray) (a to_ : Int) {e : Int} (h : e ≠ 0) : strict_Reader_done.f s a none true to_ e = some (false, s, a, some (e, a), true) := by
  unfold strict_Reader_done.f; rw [if_neg h]
theorem num_f {s : ByteArray} (a e0 w m : Int) (hs : s.size ≤ 4611686018427387904) : Ev (fun k => strict_Reader_Num.f k s a (flt a e0) true w m) ((numR s a e0 w m).1, s, (numR s a e0 w m).2.1, flt (numR s a e0 w m).2.1 (numR s a e0 w m).2.2, true) := by
  unfold strict_Reader_Num.f numR
  by_cases h0 : e0 = 0
  · subst h0
    rw [flt0]
    refine Ev.bindc (goes0 s a) (Ev.pos rfl (Ev.bind (octet_get_f (s := s) a w (by omega)) ?_))
    by_cases h1 : (getS s a w).2.2 = 0
    · refine Ev.pos h1 (Ev.step (fun k => by simp only [strict_Reader_Num.j0]; rfl) ?_)
      by_cases h2 : (getS s a w).1 > m
      · have e : bigR (getS s a w) m = (0, 0, 3) := if_pos ⟨h1, h2⟩
        rw [e, pc_err (by decide)]
        refine Ev.pos (decide_eq_true h2) (Ev.bindc (done1 s a _ (by decide)) ?_)
        exact Ev.neg Bool.false_ne_true (Ev.ok rfl)
      have e : bigR (getS s a w) m = getS s a w := if_neg (fun x => h2 x.2)
      rw [e, pc_ok h1, h1]
      refine Ev.neg (fun x => h2 (of_decide_eq_true x)) (Ev.bindc (done0 s a _) ?_)
      exact Ev.pos rfl (Ev.ok rfl)
    refine Ev.neg h1 (Ev.step (fun k => by simp only [strict_Reader_Num.j0]; rfl) ?_)
    have e : bigR (getS s a w) m = getS s a w := if_neg (fun x => h1 x.1)
    rw [e, pc_err h1]
    refine Ev.neg (by decide) (Ev.bindc (done1 s a _ h1) ?_)
    refine Ev.neg Bool.false_ne_true (Ev.ok ?_)
    rw [flt1 h1]
  rw [flt1 h0, pc_bad h0]
  refine Ev.bindc (goes1 s a _) (Ev.neg Bool.false_ne_true (Ev.ok ?_))
  rw [flt1 h0]
theorem end_f (s : ByteArray) (a e0 : Int) : strict_Reader_End.f s a (flt a e0) true = some (s, a, flt a (endR s a e0), true) := by
  unfold strict_Reader_End.f endR
  by_cases h0 : e0 = 0
  · subst h0
    rw [flt0, goes0, Option.bind_some, if_pos rfl]
    by_cases h1 : a < s.size
    · rw [if_pos h1, if_pos ⟨rfl, h1⟩, done1 s a _ (by decide)]; rfl
    rw [if_neg h1, if_neg (fun x => h1 x.2)]; rfl
  rw [flt1 h0, goes1, Option.bind_some, if_neg Bool.false_ne_true, if_neg (fun x => h0 x.1), flt1 h0]
theorem why_f (a e : Int) : strict_Why.f (flt a e) = some (e, if e = 0 then 0 else a) := by
  unfold strict_Why.f
  by_cases h : e = 0
  · subst h; rfl
  rw [flt1 h, if_neg h]; rfl
theorem err_f (s : ByteArray) (a : Int) (f : Option (Int × Int)) : strict_Reader_Err.f s a f true = some (f, s, a, f, true) := rfl
def textR (s : ByteArray) (a e0 m : Int) : ByteArray × Int × Int := pc ⟨#[]⟩ a e0 (takeS s a m)
theorem text_f {s : ByteArray} (a e0 m : Int) (hs : s.size ≤ 4611686018427387904) : Ev (fun k => strict_Reader_Text.f k s a (flt a e0) true m) ((textR s a e0 m).1, s, (textR s a e0 m).2.1, flt (textR s a e0 m).2.1 (textR s a e0 m).2.2, true) := by
  unfold strict_Reader_Text.f textR
  by_cases h0 : e0 = 0
  · subst h0
    rw [flt0]
    refine Ev.bindc (goes0 s a) (Ev.pos rfl (Ev.bind (octet_take_f (s := s) a m hs) ?_))
    by_cases h1 : (takeS s a m).2.2 = 0
    · rw [pc_ok h1, h1]
      exact Ev.bindc (done0 s a _) (Ev.pos rfl (Ev.ok rfl))
    rw [pc_err h1]
    refine Ev.bindc (done1 s a _ h1) (Ev.neg Bool.false_ne_true (Ev.ok ?_))
    rw [flt1 h1]
  rw [flt1 h0, pc_bad h0]
  refine Ev.bindc (goes1 s a _) (Ev.neg Bool.false_ne_true (Ev.ok ?_))
  rw [flt1 h0]
def rowB (r : RwT) : ByteArray := bytesB (beL 4 r.f0.toNat) ++ (bytesB (beL 2 r.f1.size) ++ r.f1)
def rowsB : List RwT → ByteArray
  | [] => ⟨#[]⟩
  | r :: l => rowB r ++ rowsB l
def tabsB : List (List RwT) → ByteArray
  | [] => ⟨#[]⟩
  | l :: s => bytesB (beL 1 l.length) ++ rowsB l ++ tabsB s
def putB (s : List (List RwT)) : ByteArray := bytesB (beL 1 s.length) ++ tabsB s
theorem nil_app (a : ByteArray) : (⟨#[]⟩ : ByteArray) ++ a = a := by
  apply ext_list
  rw [data_append]
  rfl
theorem app_nil (a : ByteArray) : a ++ (⟨#[]⟩ : ByteArray) = a := by
  apply ext_list
  rw [data_append]
  exact List.append_nil _
def takeRows (s : ByteArray) : Nat → Int → Int → List RwT × Int × Int
  | 0, a, e => ([], a, e)
  | n + 1, a, e =>
    let p := numR s a e 4 999999
    let q := textR s p.2.1 p.2.2 200
    let r := takeRows s n q.2.1 q.2.2
    (⟨p.1, q.1⟩ :: r.1, r.2)
def takeTabs (s : ByteArray) : Nat → Int → Int → List (List RwT) × Int × Int
  | 0, a, e => ([], a, e)
  | n + 1, a, e =>
    let p := numR s a e 1 60
    let q := takeRows s p.1.toNat p.2.1 p.2.2
    let r := takeTabs s n q.2.1 q.2.2
    (q.1 :: r.1, r.2)
def takeB (s : ByteArray) : List (List RwT) × Int :=
  let p := numR s 0 0 1 8
  let q := takeTabs s p.1.toNat p.2.1 p.2.2
  let e := endR s q.2.1 q.2.2
  if e = 0 then (if chkS q.1 = 0 then (q.1, 0) else ([], chkS q.1)) else ([], e)
theorem num_put {n w m : Int} {b x y : ByteArray} (h : putS n w = (b, 0)) (hn : n ≤ 9223372036854775807) (hm : n ≤ m) : numR (x ++ b ++ y) x.size 0 w m = (n, ((x ++ b).size : Int), 0) := by
  obtain ⟨h1, h2⟩ := get_of_put (x := x) (y := y) h hn
  have hw := wide_nat (putS_ok h).1
  unfold numR bigR
  rw [h1, if_neg (by simp only; omega), pc_ok rfl, ByteArray.size_append, h2]
  simp only [Prod.mk.injEq, and_true, true_and]
  omega
theorem text_put {t b x y : ByteArray} {m : Int} (h : layS t = (b, 0)) (hm : (t.size : Int) ≤ m) : textR (x ++ b ++ y) x.size 0 m = (t, ((x ++ b).size : Int), 0) := by
  unfold textR
  rw [take_of_lay h hm, pc_ok rfl, ByteArray.size_append]
  simp
theorem num_ok {s : ByteArray} {a w m n t : Int} (h : numR s a 0 w m = (n, t, 0)) : getS s a w = (n, t, 0) ∧ n ≤ m := by
  unfold numR at h
  by_cases c : (bigR (getS s a w) m).2.2 = 0
  · rw [pc_ok c] at h
    unfold bigR at h
    by_cases c2 : (getS s a w).2.2 = 0 ∧ (getS s a w).1 > m
    · rw [if_pos c2] at h; simp at h
    rw [if_neg c2] at h
    rw [h] at c2 ⊢
    simp at c2
    exact ⟨rfl, c2⟩
  rw [pc_err c] at h
  simp only [Prod.mk.injEq] at h
  exact (c h.2.2).elim
theorem num_bad (s : ByteArray) (a : Int) {e : Int} (w m : Int) (h : e ≠ 0) : numR s a e w m = (0, a, e) := by
  unfold numR
  exact pc_bad h
theorem text_bad (s : ByteArray) (a : Int) {e : Int} (m : Int) (h : e ≠ 0) : textR s a e m = (⟨#[]⟩, a, e) := by
  unfold textR
  exact pc_bad h
theorem text_ok {s t : ByteArray} {a m tt : Int} (h : textR s a 0 m = (t, tt, 0)) : takeS s a m = (t, tt, 0) := by
  unfold textR at h
  by_cases c : (takeS s a m).2.2 = 0
  · rw [pc_ok c] at h
    exact h
  rw [pc_err c] at h
  simp only [Prod.mk.injEq] at h
  exact (c h.2.2).elim
theorem rows_bad (s : ByteArray) : ∀ (n : Nat) (a : Int) {e : Int}, e ≠ 0 → (takeRows s n a e).2 = (a, e)
  | 0, a, e, _ => rfl
  | n + 1, a, e, h => by
    simp only [takeRows, num_bad s a 4 999999 h, text_bad s a 200 h]
    exact rows_bad s n a h
theorem tabs_bad (s : ByteArray) : ∀ (n : Nat) (a : Int) {e : Int}, e ≠ 0 → (takeTabs s n a e).2 = (a, e)
  | 0, a, e, _ => rfl
  | n + 1, a, e, h => by
    simp only [takeTabs, num_bad s a 1 60 h, rows_bad s _ a h]
    exact tabs_bad s n a h
theorem put4 {n : Int} (h : 1 ≤ n ∧ n ≤ 999999) : putS n 4 = (bytesB (beL 4 n.toNat), 0) := by
  unfold putS
  rw [if_pos (by decide), if_pos ⟨by omega, by show n < 256 ^ 4; omega⟩]; rfl
theorem put1 {n : Nat} (h : n ≤ 255) : putS (n : Int) 1 = (bytesB (beL 1 n), 0) := by
  unfold putS
  rw [if_pos (by decide), if_pos ⟨by omega, by show (n : Int) < 256 ^ 1; omega⟩]; rfl
theorem lay_B {t : ByteArray} (h : t.size ≤ 200) : layS t = (bytesB (beL 2 t.size) ++ t, 0) := by
  unfold layS
  rw [if_neg (by omega)]
theorem take_rows : ∀ (l : List RwT) (x y : ByteArray), (∀ r ∈ l, (1 ≤ r.f0 ∧ r.f0 ≤ 999999) ∧ r.f1.size ≤ 200) → takeRows (x ++ rowsB l ++ y) l.length (x.size : Int) 0 = (l, ((x ++ rowsB l).size : Int), 0)
  | [], x, y, _ => by simp only [rowsB, app_nil, List.length_nil, takeRows]
  | r :: l, x, y, h => by
    obtain ⟨h1, h2⟩ := h r List.mem_cons_self
    have e1 : x ++ rowsB (r :: l) ++ y = x ++ bytesB (beL 4 r.f0.toNat) ++ ((bytesB (beL 2 r.f1.size) ++ r.f1) ++ (rowsB l ++ y)) := by simp only [rowsB, rowB, ByteArray.append_assoc]
    have e2 : x ++ rowsB (r :: l) ++ y = (x ++ bytesB (beL 4 r.f0.toNat)) ++ (bytesB (beL 2 r.f1.size) ++ r.f1) ++ (rowsB l ++ y) := by simp only [rowsB, rowB, ByteArray.append_assoc]
    have e3 : x ++ rowsB (r :: l) ++ y = ((x ++ bytesB (beL 4 r.f0.toNat)) ++ (bytesB (beL 2 r.f1.size) ++ r.f1)) ++ rowsB l ++ y := by simp only [rowsB, rowB, ByteArray.append_assoc]
    have q1 := num_put (x := x) (y := (bytesB (beL 2 r.f1.size) ++ r.f1) ++ (rowsB l ++ y)) (m := 999999) (put4 h1) (by omega) h1.2
    have q2 := text_put (x := x ++ bytesB (beL 4 r.f0.toNat)) (y := rowsB l ++ y) (m := 200) (lay_B h2) (by omega)
    have q3 := take_rows l ((x ++ bytesB (beL 4 r.f0.toNat)) ++ (bytesB (beL 2 r.f1.size) ++ r.f1)) y (fun r hr => h r (List.mem_cons_of_mem _ hr))
    rw [← e1] at q1
    rw [← e2] at q2
    rw [← e3] at q3
    simp only [List.length_cons, takeRows, q1, q2, q3]
    have e4 : x ++ rowsB (r :: l) = ((x ++ bytesB (beL 4 r.f0.toNat)) ++ (bytesB (beL 2 r.f1.size) ++ r.f1)) ++ rowsB l := by simp only [rowsB, rowB, ByteArray.append_assoc]
    rw [e4]
theorem take_tabs : ∀ (s : List (List RwT)) (x y : ByteArray), (∀ l ∈ s, okT l) → takeTabs (x ++ tabsB s ++ y) s.length (x.size : Int) 0 = (s, ((x ++ tabsB s).size : Int), 0)
  | [], x, y, _ => by simp only [tabsB, app_nil, List.length_nil, takeTabs]
  | l :: s, x, y, h => by
    have hl := h l List.mem_cons_self
    have h60 := hl.1
    have e1 : x ++ tabsB (l :: s) ++ y = x ++ bytesB (beL 1 l.length) ++ (rowsB l ++ (tabsB s ++ y)) := by simp only [tabsB, ByteArray.append_assoc]
    have e2 : x ++ tabsB (l :: s) ++ y = (x ++ bytesB (beL 1 l.length)) ++ rowsB l ++ (tabsB s ++ y) := by simp only [tabsB, ByteArray.append_assoc]
    have e3 : x ++ tabsB (l :: s) ++ y = ((x ++ bytesB (beL 1 l.length)) ++ rowsB l) ++ tabsB s ++ y := by simp only [tabsB, ByteArray.append_assoc]
    have q1 := num_put (x := x) (y := rowsB l ++ (tabsB s ++ y)) (m := 60) (put1 (n := l.length) (by omega)) (by omega) (by omega)
    have q2 := take_rows l (x ++ bytesB (beL 1 l.length)) (tabsB s ++ y) (fun r hr => ⟨hl.ids hr, hl.2.2 r hr⟩)
    have q3 := take_tabs s ((x ++ bytesB (beL 1 l.length)) ++ rowsB l) y (fun r hr => h r (List.mem_cons_of_mem _ hr))
    rw [← e1] at q1
    rw [← e2] at q2
    rw [← e3] at q3
    simp only [List.length_cons, takeTabs, q1, Int.toNat_natCast, q2, q3]
    have e4 : x ++ tabsB (l :: s) = ((x ++ bytesB (beL 1 l.length)) ++ rowsB l) ++ tabsB s := by simp only [tabsB, ByteArray.append_assoc]
    rw [e4]
theorem take_put {s : List (List RwT)} (h : okS s) : takeB (putB s) = (s, 0) := by
  have h8 := h.1
  have q1 := num_put (x := ⟨#[]⟩) (y := tabsB s) (m := 8) (put1 (n := s.length) (by omega)) (by omega) (by omega)
  have q2 := take_tabs s (bytesB (beL 1 s.length)) ⟨#[]⟩ h.2
  rw [nil_app] at q1
  rw [app_nil] at q2
  have e0 : ((⟨#[]⟩ : ByteArray).size : Int) = 0 := rfl
  rw [e0] at q1
  unfold takeB putB
  simp only [q1, Int.toNat_natCast, q2]
  have e : endR (bytesB (beL 1 s.length) ++ tabsB s) ((bytesB (beL 1 s.length) ++ tabsB s).size : Int) 0 = 0 := by
    unfold endR
    rw [if_neg (by omega)]
  rw [e, if_pos rfl, if_pos (chk_zero_S.2 h)]
theorem getS_bytes {s : ByteArray} {a w n t : Int} (h : getS s a w = (n, t, 0)) : bytesB (beL w.toNat n.toNat) = s.extract a.toNat t.toNat ∧ 0 ≤ a ∧ a ≤ t ∧ t ≤ s.size ∧ 0 ≤ n := by
  obtain ⟨hw, ha, hs, rfl, rfl, hn, h0⟩ := getS_ok h
  have hw' := wide_nat hw
  have := put_of_get h
  obtain ⟨_, _, _, hb⟩ := putS_ok this
  exact ⟨hb.symm, ha, by omega, by omega, h0⟩
theorem put_rows {s : ByteArray} : ∀ (n : Nat) (a t : Int) (l : List RwT), takeRows s n a 0 = (l, t, 0) → 0 ≤ a → a ≤ s.size → rowsB l = s.extract a.toNat t.toNat ∧ a ≤ t ∧ t ≤ s.size ∧ l.length = n
  | 0, a, t, l, h, h0, h1 => by
    simp only [takeRows, Prod.mk.injEq, and_true] at h
    obtain ⟨rfl, rfl⟩ := h
    rw [extract_self]
    exact ⟨rfl, by omega, h1, rfl⟩
  | n + 1, a, t, l, h, h0, h1 => by
    simp only [takeRows] at h
    by_cases c1 : (numR s a 0 4 999999).2.2 = 0
    · by_cases c2 : (textR s (numR s a 0 4 999999).2.1 (numR s a 0 4 999999).2.2 200).2.2 = 0
      · rw [c1] at h c2
        obtain ⟨v, t1, e1⟩ : ∃ v t1, numR s a 0 4 999999 = (v, t1, 0) := ⟨_, _, Prod.ext rfl (Prod.ext rfl c1)⟩
        rw [e1] at h c2
        simp only at h c2
        obtain ⟨x, t2, e2⟩ : ∃ x t2, textR s t1 0 200 = (x, t2, 0) := ⟨_, _, Prod.ext rfl (Prod.ext rfl c2)⟩
        rw [e2] at h
        simp only [Prod.mk.injEq] at h
        obtain ⟨rfl, h⟩ := h
        obtain ⟨g1, g2⟩ := num_ok e1
        obtain ⟨b1, b2, b3, b4, b5⟩ := getS_bytes g1
        obtain ⟨l1, l2, l3, l4⟩ := lay_of_take (text_ok e2)
        obtain ⟨l5, l6⟩ := lay_ok l1
        obtain ⟨i1, i2, i3, i4⟩ := put_rows n t2 t (takeRows s n t2 0).1 (by rw [← h]) (by omega) l3
        refine ⟨?_, by omega, i3, by simp [i4]⟩
        simp only [rowsB, rowB, i1, ← l6]
        rw [show bytesB (beL 4 v.toNat) = s.extract a.toNat t1.toNat from b1, ByteArray.append_assoc, extract_append (by omega) (by omega), extract_append (by omega) (by omega)]
      have := rows_bad s n (textR s (numR s a 0 4 999999).2.1 (numR s a 0 4 999999).2.2 200).2.1 c2
      rw [this] at h
      simp only [Prod.mk.injEq] at h
      exact (c2 h.2.2).elim
    rw [text_bad s _ 200 c1] at h
    have := rows_bad s n (numR s a 0 4 999999).2.1 c1
    simp only at h
    rw [this] at h
    simp only [Prod.mk.injEq] at h
    exact (c1 h.2.2).elim
theorem put_tabs {s : ByteArray} : ∀ (n : Nat) (a t : Int) (l : List (List RwT)), takeTabs s n a 0 = (l, t, 0) → 0 ≤ a → a ≤ s.size → tabsB l = s.extract a.toNat t.toNat ∧ a ≤ t ∧ t ≤ s.size ∧ l.length = n
  | 0, a, t, l, h, h0, h1 => by
    simp only [takeTabs, Prod.mk.injEq, and_true] at h
    obtain ⟨rfl, rfl⟩ := h
    rw [extract_self]
    exact ⟨rfl, by omega, h1, rfl⟩
  | n + 1, a, t, l, h, h0, h1 => by
    simp only [takeTabs] at h
    by_cases c1 : (numR s a 0 1 60).2.2 = 0
    · by_cases c2 : (takeRows s (numR s a 0 1 60).1.toNat (numR s a 0 1 60).2.1 (numR s a 0 1 60).2.2).2.2 = 0
      · rw [c1] at h c2
        obtain ⟨v, t1, e1⟩ : ∃ v t1, numR s a 0 1 60 = (v, t1, 0) := ⟨_, _, Prod.ext rfl (Prod.ext rfl c1)⟩
        rw [e1] at h c2
        simp only at h c2
        obtain ⟨x, t2, e2⟩ : ∃ x t2, takeRows s v.toNat t1 0 = (x, t2, 0) := ⟨_, _, Prod.ext rfl (Prod.ext rfl c2)⟩
        rw [e2] at h
        simp only [Prod.mk.injEq] at h
        obtain ⟨rfl, h⟩ := h
        obtain ⟨g1, g2⟩ := num_ok e1
        obtain ⟨b1, b2, b3, b4, b5⟩ := getS_bytes g1
        obtain ⟨r1, r2, r3, r4⟩ := put_rows _ _ _ _ e2 (by omega) b4
        obtain ⟨i1, i2, i3, i4⟩ := put_tabs n t2 t (takeTabs s n t2 0).1 (by rw [← h]) (by omega) r3
        refine ⟨?_, by omega, i3, by simp [i4]⟩
        simp only [tabsB, i1, r1, r4]
        rw [show bytesB (beL 1 v.toNat) = s.extract a.toNat t1.toNat from b1, extract_append (by omega) (by omega), extract_append (by omega) (by omega)]
      have := tabs_bad s n (takeRows s (numR s a 0 1 60).1.toNat (numR s a 0 1 60).2.1 (numR s a 0 1 60).2.2).2.1 c2
      rw [this] at h
      simp only [Prod.mk.injEq] at h
      exact (c2 h.2.2).elim
    have e0 := rows_bad s (numR s a 0 1 60).1.toNat (numR s a 0 1 60).2.1 c1
    rw [e0] at h
    have := tabs_bad s n (numR s a 0 1 60).2.1 c1
    simp only at h
    rw [this] at h
    simp only [Prod.mk.injEq] at h
    exact (c1 h.2.2).elim
theorem put_take {s : ByteArray} {l : List (List RwT)} (h : takeB s = (l, 0)) : okS l ∧ putB l = s := by
  unfold takeB at h
  simp only at h
  by_cases c1 : endR s (takeTabs s (numR s 0 0 1 8).1.toNat (numR s 0 0 1 8).2.1 (numR s 0 0 1 8).2.2).2.1 (takeTabs s (numR s 0 0 1 8).1.toNat (numR s 0 0 1 8).2.1 (numR s 0 0 1 8).2.2).2.2 = 0
  · rw [if_pos c1] at h
    by_cases c2 : chkS (takeTabs s (numR s 0 0 1 8).1.toNat (numR s 0 0 1 8).2.1 (numR s 0 0 1 8).2.2).1 = 0
    · rw [if_pos c2] at h
      simp only [Prod.mk.injEq, and_true] at h
      have hok := chk_zero_S.1 c2
      rw [h] at hok
      refine ⟨hok, ?_⟩
      have c3 : (takeTabs s (numR s 0 0 1 8).1.toNat (numR s 0 0 1 8).2.1 (numR s 0 0 1 8).2.2).2.2 = 0 := by
        unfold endR at c1
        split at c1
        · omega
        exact c1
      have c4 : (numR s 0 0 1 8).2.2 = 0 := by
        refine Classical.byContradiction fun q => q ?_
        rw [tabs_bad s _ _ q] at c3
        exact c3
      obtain ⟨v, t1, e1⟩ : ∃ v t1, numR s 0 0 1 8 = (v, t1, 0) := ⟨_, _, Prod.ext rfl (Prod.ext rfl c4)⟩
      rw [e1] at h c1 c3
      simp only at h c1 c3
      obtain ⟨x, t2, e2⟩ : ∃ x t2, takeTabs s v.toNat t1 0 = (x, t2, 0) := ⟨_, _, Prod.ext rfl (Prod.ext rfl c3)⟩
      rw [e2] at h c1
      simp only at h c1
      subst h
      obtain ⟨g1, g2⟩ := num_ok e1
      obtain ⟨b1, b2, b3, b4, b5⟩ := getS_bytes g1
      obtain ⟨i1, i2, i3, i4⟩ := put_tabs _ _ _ _ e2 (by omega) b4
      have e3 : t2 = s.size := by
        unfold endR at c1
        by_cases q : (0 : Int) = 0 ∧ t2 < s.size
        · rw [if_pos q] at c1; omega
        have := fun w => q ⟨rfl, w⟩
        omega
      unfold putB
      rw [i1, i4, show bytesB (beL 1 v.toNat) = s.extract (0 : Int).toNat t1.toNat from b1, extract_append (by omega) (by omega), e3]
      simp
    rw [if_neg c2] at h
    simp only [Prod.mk.injEq] at h
    exact (c2 h.2).elim
  rw [if_neg c1] at h
  simp only [Prod.mk.injEq] at h
  exact (c1 h.2).elim
end Go.Proofs.Ytdpcgigjlcpofaa.Q
namespace Go.Proofs.Ytdpcgigjlcpofaa.F
open Go.RowKit YtdpcgigjlcpofaaX YtdpcgigjlcpofaaW.PrintWords YtdpcgigjlcpofaaW.PrintLast YtdpcgigjlcpofaaW.PrintMore
attribute [local go_sem] max2_int min2_int max_two min_two max_three min_three max_four min_four
attribute [local go_sem high] str_geq str_leq str_gtr
theorem eqA173 (d : Nat) (w : World) (x0 y0 : Int) (x1 y1 : Int) (x2 y2 : Int) (x3 y3 : ByteArray) :
    (Op.equalIn (d + 2) 173 (.agg #[.int .i64 x0, .int .i64 x1, .int .i64 x2, .string x3]) (.agg #[.int .i64 y0, .int .i64 y1, .int .i64 y2, .string y3])).run Try.prog w = .ok (x0 == y0 && (x1 == y1 && (x2 == y2 && (x3.toList == y3.toList)))) w := by
  refine eqA_of Try.underlying173 (by kernel_rfl) ?_
  refine eqf_cons (by rfl) (by go_simp; rfl) (by go_simp; rfl) (by go_simp) ?_
  refine eqf_cons (by rfl) (by go_simp; rfl) (by go_simp; rfl) (by go_simp) ?_
  refine eqf_cons (by rfl) (by go_simp; rfl) (by go_simp; rfl) (by go_simp) ?_
  exact eqf_last (by rfl) (by go_simp; rfl) (by go_simp; rfl) (by go_simp)
end Go.Proofs.Ytdpcgigjlcpofaa.F
namespace Go.Proofs.Ytdpcgigjlcpofaa.Q
open Go.RowKit Ytdpcgigjlcpofaa.F YtdpcgigjlcpofaaX YtdpcgigjlcpofaaW.PrintWords YtdpcgigjlcpofaaW.PrintLast YtdpcgigjlcpofaaW.PrintMore
theorem cells_len : ∀ (s : List (List RwT)) (i : Int), (∀ l ∈ s, l.length ≤ 1000) → (cellsF i s).length ≤ 1000 * s.length
  | [], i, _ => by simp [cellsF]
  | l :: s, i, h => by
    have h1 := h l List.mem_cons_self
    have h2 := cells_len s (i + 1) fun x hx => h x (List.mem_cons_of_mem _ hx)
    simp only [cellsF, List.length_append, List.length_map, List.length_cons]
    omega
theorem small_cells {s : List (List RwT)} (h : smallS s) : (cellsF 0 s).length ≤ 100000 := by
  have := cells_len s 0 h.2
  have := h.1
  omega
def rowC (i : Int) (r : RwT) : CeT := ⟨i, r.f0, r.f1⟩
theorem of_l1 {s : List (List RwT)} (h : smallS s) {i : Nat} (hi : i < s.length) {R : Int × List CeT} {F : List CeT} (hR : Ev (fun k => backhaullaw15_of.l0 k ((i + 1 : Nat) : Int) s (s.length : Int) F) R) (d : Nat) : ∀ (j : Nat) (acc : List CeT), s[i].length - j = d → j ≤ s[i].length → acc.length ≤ 1000000 + j → acc ++ (s[i].drop j).map (rowC (i : Int)) = F → Ev (fun k => backhaullaw15_of.l1 k (i : Int) (j : Int) s (s.length : Int) acc) R := by
  have h1 := h.1
  have hl := h.2 _ (List.getElem_mem hi)
  induction d with
  | zero =>
    intro j acc hd hj ha hF
    refine Ev.step (fun k => by simp only [backhaullaw15_of.l1]; rfl) (Ev.pos (by omega) (Ev.pos (by omega) ?_))
    rw [rdS hi]
    refine Ev.neg (by omega) ?_
    rw [wrap_eq (by omega) (by omega)]
    rw [List.drop_eq_nil_of_le (by omega), List.map_nil, List.append_nil] at hF
    rw [hF]
    exact hR
  | succ d ih =>
    intro j acc hd hj ha hF
    have hj2 : j < s[i].length := by omega
    refine Ev.step (fun k => by simp only [backhaullaw15_of.l1]; rfl) (Ev.pos (by omega) (Ev.pos (by omega) ?_))
    rw [rdS hi]
    refine Ev.pos (by omega) (Ev.pos (by omega) (Ev.pos (by omega) ?_))
    rw [rdR hj2, wrap_eq (x := (j : Int) + 1) (by omega) (by omega)]
    refine ih (j + 1) _ (by omega) (by omega) (by simp; omega) ?_
    rw [← hF, drop_cons hj2, List.map_cons, List.append_assoc, List.singleton_append]
    rfl
theorem of_l0 {s : List (List RwT)} (h : smallS s) (d : Nat) : ∀ (i : Nat) (acc : List CeT), s.length - i = d → i ≤ s.length → acc.length ≤ 1000 * i → Ev (fun k => backhaullaw15_of.l0 k (i : Int) s (s.length : Int) acc) ((s.length : Int), acc ++ cellsF (i : Int) (s.drop i)) := by
  have h1 := h.1
  induction d with
  | zero =>
    intro i acc hd hi ha
    refine Ev.step (fun k => by simp only [backhaullaw15_of.l0]; rfl) (Ev.neg (by omega) (Ev.ok ?_))
    rw [List.drop_eq_nil_of_le (by omega)]
    simp [cellsF]
  | succ d ih =>
    intro i acc hd hi ha
    have hi2 : i < s.length := by omega
    have hl := h.2 _ (List.getElem_mem hi2)
    refine Ev.step (fun k => by simp only [backhaullaw15_of.l0]; rfl) (Ev.pos (by omega) ?_)
    refine of_l1 h hi2 (F := acc ++ s[i].map (rowC (i : Int))) ?_ s[i].length 0 acc (by omega) (by omega) (by omega) (by rw [List.drop_zero])
    have := ih (i + 1) (acc ++ s[i].map (rowC (i : Int))) (by omega) (by omega) (by simp; omega)
    rw [drop_cons hi2]
    simp only [cellsF]
    rw [List.append_assoc] at this
    exact this
theorem of_f {s : List (List RwT)} (h : smallS s) : Ev (fun k => backhaullaw15_of.f k s) ((s.length : Int), cellsF 0 s) := by
  unfold backhaullaw15_of.f
  have := of_l0 h s.length 0 [] (by omega) (by omega) (by simp)
  simpa using this
def fewB (s : List (List RwT)) : Bool := decide (s.length ≤ 12) && s.all fun l => decide (l.length ≤ 70) && l.all fun r => decide (r.f1.size ≤ 300)
theorem few_l1 {s : List (List RwT)} (h : s.length ≤ 12) {i : Nat} (hi : i < s.length) (hl : s[i].length ≤ 70) {R : Bool} (hR : Ev (fun k => backhaullaw15_few.l0 k ((i + 1 : Nat) : Int) s) R) (d : Nat) : ∀ j : Nat, s[i].length - j = d → j ≤ s[i].length → Ev (fun k => backhaullaw15_few.l1 k (i : Int) (j : Int) s) (((s[i].drop j).all fun r => decide (r.f1.size ≤ 300)) && R) := by
  induction d with
  | zero =>
    intro j hd hj
    refine Ev.step (fun k => by simp only [backhaullaw15_few.l1]; rfl) (Ev.pos (by omega) (Ev.pos (by omega) ?_))
    rw [rdS hi]
    refine Ev.neg (by omega) ?_
    rw [wrap_eq (by omega) (by omega), List.drop_eq_nil_of_le (by omega), List.all_nil, Bool.true_and]
    exact hR
  | succ d ih =>
    intro j hd hj
    have hj2 : j < s[i].length := by omega
    refine Ev.step (fun k => by simp only [backhaullaw15_few.l1]; rfl) (Ev.pos (by omega) (Ev.pos (by omega) ?_))
    rw [rdS hi]
    refine Ev.pos (by omega) (Ev.pos (by omega) ?_)
    rw [rdR hj2, wrap_eq (x := (j : Int) + 1) (by omega) (by omega), drop_cons hj2, List.all_cons]
    refine Q.Ev.ite (fun c => Ev.ok ?_) (fun c => ?_)
    · rw [decide_eq_false (by omega), Bool.false_and, Bool.false_and]
    rw [decide_eq_true (by omega), Bool.true_and]
    exact ih (j + 1) (by omega) (by omega)
theorem few_l0 {s : List (List RwT)} (h : s.length ≤ 12) (d : Nat) : ∀ i : Nat, s.length - i = d → i ≤ s.length → Ev (fun k => backhaullaw15_few.l0 k (i : Int) s) ((s.drop i).all fun l => decide (l.length ≤ 70) && l.all fun r => decide (r.f1.size ≤ 300)) := by
  induction d with
  | zero =>
    intro i hd hi
    refine Ev.step (fun k => by simp only [backhaullaw15_few.l0]; rfl) (Ev.neg (by omega) (Ev.ok ?_))
    rw [List.drop_eq_nil_of_le (by omega)]
    rfl
  | succ d ih =>
    intro i hd hi
    have hi2 : i < s.length := by omega
    refine Ev.step (fun k => by simp only [backhaullaw15_few.l0]; rfl) (Ev.pos (by omega) (Ev.pos (by omega) ?_))
    rw [rdS hi2, drop_cons hi2, List.all_cons]
    refine Q.Ev.ite (fun c => Ev.ok ?_) (fun c => ?_)
    · rw [decide_eq_false (by omega), Bool.false_and, Bool.false_and]
    rw [decide_eq_true (by omega), Bool.true_and]
    have := few_l1 h hi2 (by omega) (ih (i + 1) (by omega) (by omega)) s[i].length 0 (by omega) (by omega)
    rw [List.drop_zero] at this
    exact this
theorem few_f (s : List (List RwT)) : Ev (fun k => backhaullaw15_few.f k s) (fewB s) := by
  unfold backhaullaw15_few.f fewB
  refine Q.Ev.ite (fun c => Ev.ok ?_) (fun c => ?_)
  · rw [decide_eq_false (by omega), Bool.false_and]
  rw [decide_eq_true (by omega), Bool.true_and]
  have := few_l0 (s := s) (by omega) s.length 0 (by omega) (by omega)
  rw [List.drop_zero] at this
  exact this
theorem few_small {s : List (List RwT)} (h : fewB s = true) : smallS s := by
  unfold fewB at h
  rw [Bool.and_eq_true, decide_eq_true_iff, List.all_eq_true] at h
  refine ⟨by omega, fun l hl => ?_⟩
  have := h.2 l hl
  rw [Bool.and_eq_true, decide_eq_true_iff] at this
  omega
theorem same_l0 {n : Int} {c : List CeT} (h : c.length ≤ 1000000) (d : Nat) : ∀ i : Nat, c.length - i = d → i ≤ c.length → Ev (fun k => backhaulref15_Same.l0 k (i : Int) n c n c) true := by
  induction d with
  | zero =>
    intro i hd hi
    exact Ev.step (fun k => by simp only [backhaulref15_Same.l0]; rfl) (Ev.neg (by omega) (Ev.ok rfl))
  | succ d ih =>
    intro i hd hi
    refine Ev.step (fun k => by simp only [backhaulref15_Same.l0]; rfl) (Ev.pos (by omega) (Ev.pos (by omega) (Ev.pos (by omega) (Ev.neg (by simp) ?_))))
    rw [wrap_eq (x := (i : Int) + 1) (by omega) (by omega)]
    exact ih (i + 1) (by omega) (by omega)
theorem same_f {s : List (List RwT)} (h : smallS s) {n : Int} {c : List CeT} (e1 : n = s.length) (e2 : c = cellsF 0 s) : Ev (fun k => backhaullaw15_same.f k s n c) true := by
  subst e1 e2
  unfold backhaullaw15_same.f
  refine Ev.bind (of_f h) (Ev.bind (r := true) (a := true) ?_ (Ev.ok rfl))
  unfold backhaulref15_Same.f
  refine Ev.pos rfl (Ev.step (fun k => by simp only [backhaulref15_Same.j0]; rfl) (Ev.neg (by simp) ?_))
  exact same_l0 (by have := small_cells h; omega) _ 0 rfl (Nat.zero_le _)
def goodP (p : Option CeT) (c : CeT) : Prop := (1 ≤ c.f1 ∧ c.f1 ≤ 999999) ∧ c.f2.size ≤ 200 ∧ (match p with | none => True | some q => q.f0 = c.f0 → q.f1 < c.f1)
def goodC : Option CeT → List CeT → Prop
  | _, [] => True
  | p, c :: l => goodP p c ∧ goodC (some c) l
instance (p : Option CeT) (c : CeT) : Decidable (goodP p c) := by unfold goodP; cases p <;> infer_instance
instance decGood : ∀ (p : Option CeT) (c : List CeT), Decidable (goodC p c)
  | _, [] => .isTrue trivial
  | p, c :: l => match (inferInstance : Decidable (goodP p c)), decGood (some c) l with
    | .isTrue h, .isTrue g => .isTrue ⟨h, g⟩
    | .isFalse h, _ => .isFalse fun q => h q.1
    | _, .isFalse h => .isFalse fun q => h q.2
def okR (r : RwT) : Prop := (1 ≤ r.f0 ∧ r.f0 ≤ 999999) ∧ r.f1.size ≤ 200
theorem okT.rows {l : List RwT} (h : okT l) : ∀ r ∈ l, okR r := fun r hr => ⟨h.ids hr, h.2.2 r hr⟩
theorem row_size {r : RwT} (h : okR r) : (rowB r).size ≤ 206 := by
  unfold rowB
  rw [ByteArray.size_append, ByteArray.size_append, bytesB_size, bytesB_size, beL_length, beL_length]
  have := h.2
  omega
theorem row_B {r : RwT} (h : okR r) : Ev (fun k => batch_Row_row.f k r.f0 r.f1) (rowB r, 0) := by
  unfold batch_Row_row.f
  have h2 := h.2
  have h1 := h.1
  refine Ev.bind (octet_put_f 4 (by omega)) ?_
  rw [put4 h.1]
  refine Q.Ev.pos rfl (Ev.bind (octet_lay_f (by omega)) ?_)
  rw [lay_B h.2]
  refine Q.Ev.pos ?_ (Q.Ev.ok rfl)
  rw [ByteArray.size_append, bytesB_size, bytesB_size, beL_length, beL_length]
  omega
theorem rows_B : ∀ (l : List RwT) (acc : ByteArray), (∀ r ∈ l, okR r) → acc.size + 1000 * l.length ≤ 1000000000 → Ev (fun k => batch_Put.rows k l acc) (acc ++ rowsB l, 0)
  | [], acc, _, _ => by
    simp only [batch_Put.rows, rowsB]
    exact Q.Ev.ok (by rw [app_nil])
  | r :: l, acc, h, hs => by
    simp only [batch_Put.rows, rowsB]
    have hr := h r List.mem_cons_self
    have hz := row_size hr
    simp only [List.length_cons] at hs
    refine Ev.bind (row_B hr) (Q.Ev.pos rfl (Q.Ev.pos (by simp only; omega) ?_))
    have := rows_B l (acc ++ rowB r) (fun x hx => h x (List.mem_cons_of_mem _ hx)) (by rw [ByteArray.size_append]; omega)
    rw [ByteArray.append_assoc] at this
    exact this
theorem rowsB_size : ∀ (l : List RwT), (∀ r ∈ l, okR r) → (rowsB l).size ≤ 206 * l.length
  | [], _ => by simp only [rowsB]; exact Nat.zero_le _
  | r :: l, h => by
    have h1 := row_size (h r List.mem_cons_self)
    have h2 := rowsB_size l fun x hx => h x (List.mem_cons_of_mem _ hx)
    simp only [rowsB, ByteArray.size_append, List.length_cons]
    omega
theorem bt_B (n : Nat) : batch_Put.bt n = bytesB (beL 1 n) := rfl
theorem tabs_B : ∀ (s : List (List RwT)) (acc : ByteArray), (∀ l ∈ s, okT l) → acc.size + 100000 * s.length ≤ 100000000 → Ev (fun k => batch_Put.tabs k s acc) (acc ++ tabsB s, 0)
  | [], acc, _, _ => by
    simp only [batch_Put.tabs, tabsB]
    exact Q.Ev.ok (by rw [app_nil])
  | l :: s, acc, h, hs => by
    simp only [batch_Put.tabs, tabsB]
    have hl := h l List.mem_cons_self
    have h60 := hl.1
    have hz := rowsB_size l hl.rows
    simp only [List.length_cons] at hs
    have hb : (batch_Put.bt l.length).size = 1 := by rw [bt_B, bytesB_size, beL_length]
    refine Q.Ev.pos (by omega) (Ev.bind (rows_B l (acc ++ batch_Put.bt l.length) hl.rows (by rw [ByteArray.size_append]; omega)) (Q.Ev.pos rfl ?_))
    have := tabs_B s (acc ++ batch_Put.bt l.length ++ rowsB l) (fun x hx => h x (List.mem_cons_of_mem _ hx)) (by rw [ByteArray.size_append, ByteArray.size_append]; omega)
    rw [bt_B] at this ⊢
    simp only [ByteArray.append_assoc] at this ⊢
    exact this
def putR (s : List (List RwT)) : ByteArray × Int := if chkS s = 0 then (putB s, 0) else (⟨#[]⟩, 40)
theorem bput_f {s : List (List RwT)} (h : smallS s) : Ev (fun k => batch_Put.f k s) (putR s) := by
  unfold batch_Put.f putR
  refine Ev.bind (bcheck_f h) (Q.Ev.ite (fun c => ?_) (fun c => Q.Ev.ok ?_))
  · rw [if_pos c]
    have hok := chk_zero_S.1 c
    have hb : (batch_Put.bt s.length).size = 1 := by rw [bt_B, bytesB_size, beL_length]
    exact tabs_B s (batch_Put.bt s.length) hok.2 (by have := hok.1; omega)
  rw [if_neg c, chk_bad_S c]
section
variable {s : List (List RwT)}
end
theorem num_rng (s : ByteArray) (a e w : Int) {m : Int} (hm : 0 ≤ m) : 0 ≤ (numR s a e w m).1 ∧ (numR s a e w m).1 ≤ m := by
  by_cases c : e = 0
  · subst c
    by_cases c2 : (bigR (getS s a w) m).2.2 = 0
    · have hn : numR s a 0 w m = bigR (getS s a w) m := pc_ok c2
      have := num_ok (s := s) (a := a) (w := w) (m := m) (n := (numR s a 0 w m).1) (t := (numR s a 0 w m).2.1) (Prod.ext rfl (Prod.ext rfl (by rw [hn]; exact c2)))
      exact ⟨(getS_bytes this.1).2.2.2.2, this.2⟩
    have hn : numR s a 0 w m = (0, a, (bigR (getS s a w) m).2.2) := pc_err c2
    rw [hn]
    exact ⟨Int.le_refl _, hm⟩
  rw [num_bad s a w m c]
  exact ⟨Int.le_refl _, hm⟩
theorem takeRows_len (s : ByteArray) : ∀ (n : Nat) (a e : Int), (takeRows s n a e).1.length = n
  | 0, a, e => rfl
  | n + 1, a, e => by simp only [takeRows, List.length_cons, takeRows_len s n]
theorem btake_l1 {s : ByteArray} {n : Int} {i N : Nat} {R : List (List RwT) × Int} (hs : s.size < 1099511627776) (hi : i ≤ 100) (hN : N ≤ 60) (d : Nat) : ∀ (j : Nat) (acc : List RwT) (a e : Int) (st : List (List RwT)), N - j = d → j ≤ N → acc.length ≤ j → st.length ≤ 100 → Ev (fun k => batch_Take.l0 k n ((i + 1 : Nat) : Int) s (takeRows s d a e).2.1 (flt (takeRows s d a e).2.1 (takeRows s d a e).2.2) true (st ++ [acc ++ (takeRows s d a e).1])) R → Ev (fun k => batch_Take.l1 k acc n (i : Int) (N : Int) (j : Int) s a (flt a e) true st) R := by
  induction d with
  | zero =>
    intro j acc a e st hd hj ha hst hR
    refine Ev.step (fun k => by simp only [batch_Take.l1]; rfl) (Q.Ev.neg (by omega) (Q.Ev.pos (by omega) ?_))
    rw [wrap_eq (by omega) (by omega)]
    simp only [takeRows, List.append_nil] at hR
    exact hR
  | succ d ih =>
    intro j acc a e st hd hj ha hst hR
    refine Ev.step (fun k => by simp only [batch_Take.l1]; rfl) (Q.Ev.pos (by omega) (Ev.bind (num_f (s := s) a e 4 999999 (by omega)) (Ev.bind (text_f (s := s) _ _ 200 (by omega)) (Q.Ev.pos (show acc.length < 5864062014805 by omega) ?_))))
    rw [wrap_eq (by omega) (by omega)]
    simp only [takeRows] at hR
    refine ih (j + 1) _ _ _ st (by omega) (by omega) (by simp; omega) hst ?_
    simp only [List.append_assoc, List.singleton_append]
    exact hR
def finT (s : ByteArray) (q : List (List RwT) × Int × Int) : List (List RwT) × Int := if endR s q.2.1 q.2.2 = 0 then (if chkS q.1 = 0 then (q.1, 0) else ([], chkS q.1)) else ([], endR s q.2.1 q.2.2)
theorem btake_l0 {s : ByteArray} {n : Nat} (hs : s.size < 1099511627776) (hn : n ≤ 8) (d : Nat) : ∀ (i : Nat) (a e : Int) (st : List (List RwT)), n - i = d → i ≤ n → st.length = i → (∀ l ∈ st, l.length ≤ 60) → Ev (fun k => batch_Take.l0 k (n : Int) (i : Int) s a (flt a e) true st) (finT s (st ++ (takeTabs s d a e).1, (takeTabs s d a e).2)) := by
  induction d with
  | zero =>
    intro i a e st hd hi hl hst
    refine Ev.step (fun k => by simp only [batch_Take.l0]; rfl) (Q.Ev.neg (by omega) (Q.Ev.bindc (end_f s a e) (Q.Ev.bindc (err_f s a _) (Q.Ev.bindc (why_f a (endR s a e)) ?_))))
    simp only [takeTabs, List.append_nil]
    unfold finT
    simp only
    refine Q.Ev.ite (fun c => ?_) (fun c => Q.Ev.ok ?_)
    · rw [if_pos c]
      refine Ev.bind (bcheck_f ⟨by omega, fun l hl => by have := hst l hl; omega⟩) (Q.Ev.ite (fun c2 => Q.Ev.ok ?_) (fun c2 => Q.Ev.ok ?_))
      · rw [if_pos c2]
      rw [if_neg c2]
    rw [if_neg c]
  | succ d ih =>
    intro i a e st hd hi hl hst
    have hr := num_rng s a e 1 (m := 60) (by decide)
    refine Ev.step (fun k => by simp only [batch_Take.l0]; rfl) (Q.Ev.pos (by omega) (Ev.bind (num_f a e 1 60 (by omega)) ?_))
    obtain ⟨N, hN⟩ := Int.eq_ofNat_of_zero_le hr.1
    simp only
    rw [hN]
    refine btake_l1 hs (by omega) (by omega) N 0 [] _ _ st (by omega) (by omega) (by simp) (by omega) ?_
    have := ih (i + 1) (takeRows s N (numR s a e 1 60).2.1 (numR s a e 1 60).2.2).2.1 (takeRows s N (numR s a e 1 60).2.1 (numR s a e 1 60).2.2).2.2 (st ++ [(takeRows s N (numR s a e 1 60).2.1 (numR s a e 1 60).2.2).1]) (by omega) (by omega) (by simp [hl]) (fun l hl2 => by
      rcases List.mem_append.1 hl2 with hl2 | hl2
      · exact hst l hl2
      rw [List.mem_singleton.1 hl2, takeRows_len]; omega)
    simp only [takeTabs]
    rw [hN]
    simp only [Int.toNat_natCast, List.append_assoc, List.singleton_append, List.nil_append] at this ⊢
    exact this
theorem takeB_fin (s : ByteArray) : takeB s = finT s (takeTabs s (numR s 0 0 1 8).1.toNat (numR s 0 0 1 8).2.1 (numR s 0 0 1 8).2.2) := rfl
theorem btake_f {s : ByteArray} (hs : s.size < 1099511627776) : Ev (fun k => batch_Take.f k s) (takeB s) := by
  have hr := num_rng s 0 0 1 (m := 8) (by decide)
  obtain ⟨N, hN⟩ := Int.eq_ofNat_of_zero_le hr.1
  unfold batch_Take.f
  refine Q.Ev.bindc (show strict_New.f s = some (s, 0, none, true) from rfl) (Ev.bind (num_f (s := s) 0 0 1 8 (by omega)) ?_)
  simp only
  rw [takeB_fin, hN, Int.toNat_natCast]
  exact btake_l0 hs (by omega) N 0 _ _ [] (by omega) (by omega) rfl (by simp)
end Go.Proofs.Ytdpcgigjlcpofaa.Q
namespace Go.Proofs.Ytdpcgigjlcpofaa.Q
open Go.RowKit Ytdpcgigjlcpofaa.F YtdpcgigjlcpofaaX YtdpcgigjlcpofaaW.PrintWords YtdpcgigjlcpofaaW.PrintLast YtdpcgigjlcpofaaW.PrintMore
theorem len_sub : ∀ (A B : List Int), A.Pairwise (· < ·) → B.Pairwise (· < ·) → (∀ x ∈ A, x ∈ B) → A.length ≤ B.length
  | [], B, _, _, _ => Nat.zero_le _
  | a :: A, [], _, _, h => by have := h a List.mem_cons_self; simp at this
  | a :: A, b :: B, hA, hB, h => by
    obtain ⟨a1, a2⟩ := List.pairwise_cons.1 hA
    obtain ⟨b1, b2⟩ := List.pairwise_cons.1 hB
    by_cases e : a = b
    · subst e
      have := len_sub A B a2 b2 fun x hx => by
        rcases List.mem_cons.1 (h x (List.mem_cons_of_mem _ hx)) with g | g
        · have := a1 x hx; omega
        exact g
      simp only [List.length_cons]
      omega
    have ha : a ∈ B := (List.mem_cons.1 (h a List.mem_cons_self)).resolve_left e
    have hb := b1 a ha
    have := len_sub (a :: A) B hA b2 fun x hx => by
      rcases List.mem_cons.1 (h x hx) with g | g
      · rcases List.mem_cons.1 hx with w | w
        · omega
        have := a1 x w; omega
      exact g
    simp only [List.length_cons] at this ⊢
    omega
def goesD (i : Int) (a b : List RwT) : List OpX := (a.filter fun r => decide (r.f0 ∉ idsT b)).map fun r => ⟨i, 3, r.f0, ⟨#[]⟩⟩
def comeD (i : Int) (a : List RwT) (r : RwT) : List OpX := if r.f0 ∉ idsT a then [⟨i, 1, r.f0, r.f1⟩] else if textT a r.f0 ≠ r.f1 then [⟨i, 2, r.f0, r.f1⟩] else []
def betweenS (i : Int) (a b : List RwT) : List OpX := goesD i a b ++ b.flatMap (comeD i a)
def diffS : Int → List (List RwT) → List (List RwT) → List OpX
  | i, a :: A, b :: B => betweenS i a b ++ diffS (i + 1) A B
  | _, _, _ => []
theorem run_step {s : List (List RwT)} {i : Nat} (hi : i < s.length) {l : List RwT} {k id : Int} {t : ByteArray} (hk : k = 1 ∨ k = 2 ∨ k = 3) (h0 : 1 ≤ id ∧ id ≤ 999999) (ht : k ≠ 3 → t.size ≤ 200) (hw : whyT l k id = 0) (ops : List OpX) (j : Int) :
    runS (s.set i l) (⟨(i : Int), k, id, t⟩ :: ops) j = runS (s.set i (doT l k id t)) ops (j + 1) := by
  have e : (s.set i l).getD i [] = l := by simp [hi]
  have g : Goes (s.set i l) ⟨(i : Int), k, id, t⟩ := ⟨hk, by simp only; omega, by simp only [Int.toNat_natCast, List.length_set]; exact hi, h0, ht, by simp only [Int.toNat_natCast]; rw [e]; exact hw⟩
  simp only [runS]
  rw [if_pos (why_S.2 g)]
  unfold doS
  simp only [Int.toNat_natCast]
  rw [e, List.set_set]
theorem run_goes {s : List (List RwT)} {i : Nat} (hi : i < s.length) : ∀ (D l : List RwT), sortT l → sortT D → (∀ r ∈ D, r.f0 ∈ idsT l ∧ 1 ≤ r.f0 ∧ r.f0 ≤ 999999) → ∃ l', sortT l' ∧ (∀ r, r ∈ l' ↔ r ∈ l ∧ r.f0 ∉ idsT D) ∧ ∀ (ops : List OpX) (j : Int), runS (s.set i l) ((D.map fun r => (⟨(i : Int), 3, r.f0, ⟨#[]⟩⟩ : OpX)) ++ ops) j = runS (s.set i l') ops (j + D.length)
  | [], l, hl, _, _ => ⟨l, hl, fun r => by simp [idsT], fun ops j => by simp⟩
  | d :: D, l, hl, hD, h => by
    obtain ⟨d1, d2⟩ := List.pairwise_cons.1 hD
    obtain ⟨h1, h2⟩ := h d List.mem_cons_self
    have hw : whyT l 3 d.f0 = 0 := why_of (fun q => by omega) (fun _ => h1)
    obtain ⟨f1, f2, f3⟩ := do_T (t := ⟨#[]⟩) hl (.inr (.inr rfl)) hw
    obtain ⟨l', g1, g2, g3⟩ := run_goes hi D (doT l 3 d.f0 ⟨#[]⟩) f1 d2 fun r hr => by
      obtain ⟨w1, w2⟩ := h r (List.mem_cons_of_mem _ hr)
      obtain ⟨x, hx, ex⟩ := mem_ids.1 w1
      have : d.f0 < r.f0 := d1 r hr
      exact ⟨mem_ids.2 ⟨x, (f2 x).2 (.inr ⟨hx, by omega⟩), ex⟩, w2⟩
    refine ⟨l', g1, fun r => ?_, fun ops j => ?_⟩
    · rw [g2, f2]
      have : r.f0 ∉ idsT (d :: D) ↔ r.f0 ≠ d.f0 ∧ r.f0 ∉ idsT D := by simp [idsT]
      rw [this]
      constructor
      · rintro ⟨q | q, q3⟩
        · exact (q.1 rfl).elim
        exact ⟨q.1, q.2, q3⟩
      rintro ⟨q1, q2, q3⟩
      exact ⟨.inr ⟨q1, q2⟩, q3⟩
    rw [List.map_cons, List.cons_append, run_step hi (.inr (.inr rfl)) h2 (fun q => (q rfl).elim) hw, g3, List.length_cons]
    rw [show j + 1 + (D.length : Int) = j + ((D.length + 1 : Nat) : Int) by omega]
theorem run_come {s : List (List RwT)} {i : Nat} (hi : i < s.length) {a : List RwT} (ha : okT a) : ∀ (B P l : List RwT), okT (P ++ B) → sortT l → (∀ r, r ∈ l ↔ r ∈ P ∨ (r ∈ a ∧ r.f0 ∈ idsT B)) → ∀ (ops : List OpX) (j : Int), runS (s.set i l) (B.flatMap (comeD (i : Int) a) ++ ops) j = runS (s.set i (P ++ B)) ops (j + (B.flatMap (comeD (i : Int) a)).length)
  | [], P, l, hb, hl, hm, ops, j => by
    have e : l = P := rows_ext hl (by have := hb.sort; rwa [List.append_nil] at this) fun r => by rw [hm]; simp [idsT]
    rw [e]
    simp
  | r :: B, P, l, hb, hl, hm, ops, j => by
    have hs := hb.sort
    obtain ⟨p1, p2, p3⟩ := List.pairwise_append.1 hs
    obtain ⟨p4, p5⟩ := List.pairwise_cons.1 p2
    have hb2 : okT ((P ++ [r]) ++ B) := by rwa [List.append_assoc]
    have hr : r ∈ P ++ r :: B := List.mem_append.2 (.inr List.mem_cons_self)
    have hid := hb.ids hr
    have htx := hb.2.2 r hr
    have hPr : ∀ x ∈ P, x.f0 < r.f0 := fun x hx => p3 x hx r List.mem_cons_self
    have hBr : ∀ x, x ∈ idsT B → r.f0 < x := fun x hx => by
      obtain ⟨y, hy, rfl⟩ := mem_ids.1 hx
      exact p4 y hy
    have hcons : ∀ x, x ∈ idsT (r :: B) ↔ x = r.f0 ∨ x ∈ idsT B := fun x => by simp [idsT]
    have ih := run_come hi ha B (P ++ [r])
    rw [List.append_assoc] at ih
    have step : ∀ k, (k = 1 ∨ k = 2) → whyT l k r.f0 = 0 → comeD (i : Int) a r = [⟨(i : Int), k, r.f0, r.f1⟩] → runS (s.set i l) ((r :: B).flatMap (comeD (i : Int) a) ++ ops) j = runS (s.set i (P ++ r :: B)) ops (j + ((r :: B).flatMap (comeD (i : Int) a)).length) := by
      intro k hk hw hc
      have hk3 : k ≠ 3 := by omega
      obtain ⟨f1, f2, f3⟩ := do_T (t := r.f1) hl (by omega) hw
      rw [List.flatMap_cons, hc, List.singleton_append, List.cons_append, run_step hi (by omega) hid (fun _ => htx) hw]
      rw [ih _ (by simpa using hb) f1 (fun x => ?_), List.length_cons]
      · rw [List.singleton_append, show j + 1 + ((B.flatMap (comeD (i : Int) a)).length : Int) = j + (((B.flatMap (comeD (i : Int) a)).length + 1 : Nat) : Int) by omega]
      have er : (⟨r.f0, r.f1⟩ : RwT) = r := rfl
      rw [f2, hm, List.mem_append, List.mem_singleton, er, hcons]
      constructor
      · rintro (⟨_, q⟩ | ⟨q | ⟨q1, q2 | q2⟩, q3⟩)
        · exact .inl (.inr q)
        · exact .inl (.inl q)
        · exact (q3 q2).elim
        exact .inr ⟨q1, q2⟩
      rintro ((q | q) | ⟨q1, q2⟩)
      · exact .inr ⟨.inl q, by have := hPr x q; omega⟩
      · exact .inl ⟨hk3, q⟩
      exact .inr ⟨.inr ⟨q1, .inr q2⟩, by have := hBr _ q2; omega⟩
    by_cases c1 : r.f0 ∈ idsT a
    · obtain ⟨x, hx, ex⟩ := mem_ids.1 c1
      by_cases c2 : textT a r.f0 = r.f1
      · have exr : x = r := rw_ext ex (by rw [← c2, ← ex, text_in ha.sort hx])
        have hc : comeD (i : Int) a r = [] := by unfold comeD; rw [if_neg (fun q => q c1), if_neg (fun q => q c2)]
        rw [List.flatMap_cons, hc, List.nil_append, ih l (by simpa using hb) hl (fun y => ?_), List.singleton_append]
        rw [hm, List.mem_append, List.mem_singleton, hcons]
        constructor
        · rintro (q | ⟨q1, q2 | q2⟩)
          · exact .inl (.inl q)
          · exact .inl (.inr ((sort_one ha.sort q1 hx (q2.trans ex.symm)).trans exr))
          exact .inr ⟨q1, q2⟩
        rintro ((q | q) | ⟨q1, q2⟩)
        · exact .inl q
        · exact .inr ⟨by rw [q, ← exr]; exact hx, .inl (by rw [q])⟩
        exact .inr ⟨q1, .inr q2⟩
      refine step 2 (.inr rfl) (why_of (fun q => by omega) fun _ => ?_) (by unfold comeD; rw [if_neg (fun q => q c1), if_pos c2])
      exact mem_ids.2 ⟨x, (hm x).2 (.inr ⟨hx, (hcons _).2 (.inl ex)⟩), ex⟩
    have hsub : ∀ y ∈ idsT l, y ∈ idsT (P ++ B) := fun y hy => by
      obtain ⟨z, hz, rfl⟩ := mem_ids.1 hy
      rcases (hm z).1 hz with q | ⟨q1, q2⟩
      · exact mem_ids.2 ⟨z, List.mem_append.2 (.inl q), rfl⟩
      rcases (hcons _).1 q2 with q2 | q2
      · exact (c1 (mem_ids.2 ⟨z, q1, q2⟩)).elim
      obtain ⟨w, hw, ew⟩ := mem_ids.1 q2
      exact mem_ids.2 ⟨w, List.mem_append.2 (.inr hw), ew⟩
    have hPB : sortT (P ++ B) := List.pairwise_append.2 ⟨p1, p5, fun u hu v hv => p3 u hu v (List.mem_cons_of_mem _ hv)⟩
    have hlen := len_sub _ _ (sort_ids.1 hl) (sort_ids.1 hPB) hsub
    have h60 := hb.1
    simp only [idsT, List.length_map, List.length_append, List.length_cons] at hlen h60
    refine step 1 (.inl rfl) (why_of (fun _ => ⟨fun q => ?_, by omega⟩) (fun q => (q rfl).elim)) (by unfold comeD; rw [if_pos c1])
    obtain ⟨z, hz, ez⟩ := mem_ids.1 q
    rcases (hm z).1 hz with w | ⟨w, _⟩
    · have := hPr z w; omega
    exact c1 (mem_ids.2 ⟨z, w, ez⟩)
theorem run_between {s : List (List RwT)} {i : Nat} (hi : i < s.length) {a b : List RwT} (ha : okT a) (hb : okT b) (ops : List OpX) (j : Int) :
    runS (s.set i a) (betweenS (i : Int) a b ++ ops) j = runS (s.set i b) ops (j + (betweenS (i : Int) a b).length) := by
  unfold betweenS goesD
  obtain ⟨l', g1, g2, g3⟩ := run_goes hi (a.filter fun r => decide (r.f0 ∉ idsT b)) a ha.sort (ha.sort.sublist List.filter_sublist) fun r hr => by
    have := (List.mem_filter.1 hr).1
    exact ⟨mem_ids.2 ⟨r, this, rfl⟩, ha.ids this⟩
  have := run_come hi ha b [] l' (by simpa using hb) g1 (fun r => by
    rw [g2]
    constructor
    · rintro ⟨q1, q2⟩
      refine .inr ⟨q1, Classical.byContradiction fun q => q2 (mem_ids.2 ⟨r, List.mem_filter.2 ⟨q1, decide_eq_true q⟩, rfl⟩)⟩
    rintro (q | ⟨q1, q2⟩)
    · simp at q
    refine ⟨q1, fun q => ?_⟩
    obtain ⟨x, hx, ex⟩ := mem_ids.1 q
    have := of_decide_eq_true (List.mem_filter.1 hx).2
    rw [ex] at this
    exact this q2)
  rw [List.append_assoc, g3, this, List.nil_append, List.length_append, List.length_map, Int.add_assoc]
  rw [show ((a.filter fun r => decide (r.f0 ∉ idsT b)).length : Int) + ((b.flatMap (comeD (i : Int) a)).length : Int) = (((a.filter fun r => decide (r.f0 ∉ idsT b)).length + (b.flatMap (comeD (i : Int) a)).length : Nat) : Int) by omega]
theorem run_diff : ∀ (A B P : List (List RwT)) (j : Int), A.length = B.length → (∀ l ∈ A, okT l) → (∀ l ∈ B, okT l) → runS (P ++ A) (diffS (P.length : Int) A B) j = (P ++ B, j + (diffS (P.length : Int) A B).length, 0)
  | [], [], P, j, _, _, _ => by simp [diffS, runS]
  | [], _ :: _, _, _, h, _, _ => by simp at h
  | _ :: _, [], _, _, h, _, _ => by simp at h
  | a :: A, b :: B, P, j, h, hA, hB => by
    simp only [diffS]
    have hi : P.length < (P ++ a :: A).length := by simp
    have e1 : (P ++ a :: A).set P.length a = P ++ a :: A := by rw [List.set_append_right _ _ (Nat.le_refl _)]; simp
    have e2 : (P ++ a :: A).set P.length b = (P ++ [b]) ++ A := by rw [List.set_append_right _ _ (Nat.le_refl _)]; simp
    have := run_between hi (hA a List.mem_cons_self) (hB b List.mem_cons_self) (diffS ((P.length : Int) + 1) A B) j
    rw [e1, e2] at this
    rw [this]
    have ih := run_diff A B (P ++ [b]) (j + (betweenS (P.length : Int) a b).length) (by simpa using h) (fun l hl => hA l (List.mem_cons_of_mem _ hl)) (fun l hl => hB l (List.mem_cons_of_mem _ hl))
    rw [show (((P ++ [b]).length : Nat) : Int) = (P.length : Int) + 1 by simp] at ih
    rw [ih]
    simp only [List.append_assoc, List.singleton_append, List.length_append, Prod.mk.injEq, and_true, true_and]
    omega
theorem filter_flat {α β : Type} (p : α → Prop) [DecidablePred p] (f : α → β) : ∀ l : List α, (l.filter fun x => decide (p x)).map f = l.flatMap fun x => if p x then [f x] else []
  | [] => rfl
  | x :: l => by
    rw [List.flatMap_cons, ← filter_flat p f l]
    by_cases c : p x
    · rw [List.filter_cons_of_pos (by simpa using c), if_pos c]; rfl
    rw [List.filter_cons_of_neg (by simpa using c), if_neg c]; rfl
def goD1 (i : Int) (b : List RwT) (r : RwT) : List OpX := if r.f0 ∉ idsT b then [⟨i, 3, r.f0, ⟨#[]⟩⟩] else []
theorem goesD_flat (i : Int) (a b : List RwT) : goesD i a b = a.flatMap (goD1 i b) := filter_flat (fun r : RwT => r.f0 ∉ idsT b) (fun r : RwT => (⟨i, 3, r.f0, ⟨#[]⟩⟩ : OpX)) a
theorem flat_len {α β : Type} {g : α → List β} (h : ∀ x, (g x).length ≤ 1) : ∀ l : List α, (l.flatMap g).length ≤ l.length
  | [] => Nat.le_refl _
  | x :: l => by
    rw [List.flatMap_cons, List.length_append, List.length_cons]
    have := h x
    have := flat_len h l
    omega
theorem goD1_len (i : Int) (b : List RwT) (r : RwT) : (goD1 i b r).length ≤ 1 := by
  unfold goD1
  split <;> simp
theorem comeD_len (i : Int) (a : List RwT) (r : RwT) : (comeD i a r).length ≤ 1 := by
  unfold comeD
  split
  · simp
  split <;> simp
theorem between_len (i : Int) (a b : List RwT) : (betweenS i a b).length ≤ a.length + b.length := by
  unfold betweenS
  rw [List.length_append, goesD_flat]
  have := flat_len (goD1_len i b) a
  have := flat_len (comeD_len i a) b
  omega
theorem between_l1 {i : Int} {a b : List RwT} (ha : okT a) (hb : okT b) (d : Nat) : ∀ (j : Nat) (acc : List OpX), b.length - j = d → j ≤ b.length → acc.length ≤ 1000 + j → Ev (fun k => batch_between.l1 k i a (acc.map ofX) b (b.length : Int) (j : Int)) ((acc ++ (b.drop j).flatMap (comeD i a)).map ofX) := by
  have h1 := ha.1
  have h2 := hb.1
  induction d with
  | zero =>
    intro j acc hd hj hl
    refine Ev.step (fun k => by simp only [batch_between.l1]; rfl) (Q.Ev.neg (by omega) (Q.Ev.ok ?_))
    rw [List.drop_eq_nil_of_le (by omega)]
    simp
  | succ d ih =>
    intro j acc hd hj hl
    have hj2 : j < b.length := by omega
    refine Ev.step (fun k => by simp only [batch_between.l1]; rfl) (Q.Ev.pos (by omega) (Q.Ev.pos (by omega) (Q.Ev.pos (by omega) ?_)))
    rw [rdR hj2, drop_cons hj2, List.flatMap_cons, wrap_eq (x := (j : Int) + 1) (by omega) (by omega), ← List.append_assoc]
    refine Ev.bind (bfind_f (l := a) (by omega) b[j].f0) ?_
    rw [find_T ha]
    have push : ∀ o : OpX, comeD i a b[j] = [o] → ∀ x : BoT, x = ofX o → Ev (fun k => if (acc.map ofX).length < 3518437208883 then batch_between.l1 k i a (acc.map ofX ++ [x]) b (b.length : Int) ((j : Int) + 1) else none) ((acc ++ comeD i a b[j] ++ (b.drop (j + 1)).flatMap (comeD i a)).map ofX) := by
      intro o ho x hx
      refine Q.Ev.pos (by rw [List.length_map]; omega) ?_
      have := ih (j + 1) (acc ++ [o]) (by omega) (by omega) (by simp; omega)
      rw [ho, hx]
      rw [List.map_append (l₂ := [o])] at this
      exact this
    refine Q.Ev.ite (fun c => ?_) (fun c => ?_)
    · have hm := of_decide_eq_true c
      obtain ⟨hp, e0, e1⟩ := at_in ha hm
      refine Q.Ev.pos (by omega) (Q.Ev.pos (by omega) ?_)
      rw [rdR hp, e0, e1]
      refine Q.Ev.ite (fun c2 => ?_) (fun c2 => ?_)
      · refine push ⟨i, 2, b[j].f0, b[j].f1⟩ ?_ _ rfl
        unfold comeD
        rw [if_neg fun q => q hm, if_pos fun q => by rw [q] at c2; simp at c2]
      have hc : comeD i a b[j] = [] := by
        unfold comeD
        rw [if_neg fun q => q hm, if_neg fun q => c2 ?_]
        simp only [beq_self_eq_true, Bool.not_true, Bool.false_or, Bool.not_eq_true', beq_eq_false_iff_ne, ne_eq]
        exact fun w => q (bytes_ext.1 w)
      rw [hc, List.append_nil]
      exact ih (j + 1) acc (by omega) (by omega) (by omega)
    have hm := of_decide_eq_false (Bool.eq_false_iff.2 c)
    exact push ⟨i, 1, b[j].f0, b[j].f1⟩ (by unfold comeD; rw [if_pos hm]) _ rfl
theorem between_l0 {i : Int} {a b : List RwT} (ha : okT a) (hb : okT b) (d : Nat) : ∀ (j : Nat) (acc : List OpX), a.length - j = d → j ≤ a.length → acc.length ≤ j → Ev (fun k => batch_between.l0 k i a b (acc.map ofX) a (a.length : Int) (j : Int)) ((acc ++ (a.drop j).flatMap (goD1 i b) ++ b.flatMap (comeD i a)).map ofX) := by
  have h1 := ha.1
  have h2 := hb.1
  induction d with
  | zero =>
    intro j acc hd hj hl
    refine Ev.step (fun k => by simp only [batch_between.l0]; rfl) (Q.Ev.neg (by omega) ?_)
    rw [List.drop_eq_nil_of_le (by omega), List.flatMap_nil, List.append_nil]
    have := between_l1 (i := i) ha hb b.length 0 acc (by omega) (by omega) (by omega)
    rw [List.drop_zero] at this
    exact this
  | succ d ih =>
    intro j acc hd hj hl
    have hj2 : j < a.length := by omega
    refine Ev.step (fun k => by simp only [batch_between.l0]; rfl) (Q.Ev.pos (by omega) (Q.Ev.pos (by omega) (Q.Ev.pos (by omega) ?_)))
    rw [rdR hj2, drop_cons hj2, List.flatMap_cons, wrap_eq (x := (j : Int) + 1) (by omega) (by omega), ← List.append_assoc]
    refine Ev.bind (bfind_f (l := b) (by omega) a[j].f0) ?_
    rw [find_T hb]
    refine Q.Ev.ite (fun c => ?_) (fun c => Q.Ev.pos (by rw [List.length_map]; omega) ?_)
    · have hm := of_decide_eq_true c
      have hc : goD1 i b a[j] = [] := by unfold goD1; rw [if_neg fun q => q hm]
      rw [hc, List.append_nil]
      exact ih (j + 1) acc (by omega) (by omega) (by omega)
    have hm := of_decide_eq_false (Bool.eq_false_iff.2 c)
    have hc : goD1 i b a[j] = [⟨i, 3, a[j].f0, ⟨#[]⟩⟩] := by unfold goD1; rw [if_pos hm]
    rw [hc]
    have := ih (j + 1) (acc ++ [⟨i, 3, a[j].f0, ⟨#[]⟩⟩]) (by omega) (by omega) (by simp; omega)
    rw [List.map_append (l₁ := acc) (l₂ := [_])] at this
    exact this
theorem between_f {i : Int} {a b : List RwT} (ha : okT a) (hb : okT b) : Ev (fun k => batch_between.f k i a b) ((betweenS i a b).map ofX) := by
  unfold batch_between.f betweenS
  have := between_l0 (i := i) ha hb a.length 0 [] (by omega) (by omega) (by simp)
  rw [List.drop_zero, List.nil_append, ← goesD_flat] at this
  exact this
theorem diff_len : ∀ (A B : List (List RwT)) (i : Int), (∀ l ∈ A, okT l) → (∀ l ∈ B, okT l) → (diffS i A B).length ≤ 120 * A.length
  | [], _, _, _, _ => by simp [diffS]
  | _ :: _, [], _, _, _ => by simp [diffS]
  | a :: A, b :: B, i, hA, hB => by
    have h1 := between_len i a b
    have h2 := (hA a List.mem_cons_self).1
    have h3 := (hB b List.mem_cons_self).1
    have h4 := diff_len A B (i + 1) (fun l hl => hA l (List.mem_cons_of_mem _ hl)) (fun l hl => hB l (List.mem_cons_of_mem _ hl))
    simp only [diffS, List.length_append, List.length_cons]
    omega
theorem bdiff_l0 {a b : List (List RwT)} (ha : okS a) (hb : okS b) (hab : a.length = b.length) (d : Nat) : ∀ (i : Nat) (acc : List OpX), a.length - i = d → i ≤ a.length → acc.length ≤ 1000 * i → Ev (fun k => batch_Diff.l0 k (acc.map ofX) (a.length : Int) (i : Int) a b) ((acc ++ diffS (i : Int) (a.drop i) (b.drop i)).map ofX, 0) := by
  have h8 := ha.1
  induction d with
  | zero =>
    intro i acc hd hi hl
    refine Ev.step (fun k => by simp only [batch_Diff.l0]; rfl) (Q.Ev.neg (by omega) (Q.Ev.ok ?_))
    rw [List.drop_eq_nil_of_le (by omega)]
    simp [diffS]
  | succ d ih =>
    intro i acc hd hi hl
    have hi2 : i < a.length := by omega
    have hi3 : i < b.length := by omega
    have hA := ha.2 _ (List.getElem_mem hi2)
    have hB := hb.2 _ (List.getElem_mem hi3)
    have hz := between_len (i : Int) a[i] b[i]
    have := hA.1
    have := hB.1
    refine Ev.step (fun k => by simp only [batch_Diff.l0]; rfl) (Q.Ev.pos (by omega) (Q.Ev.pos (by omega) (Q.Ev.pos (by omega) (Q.Ev.pos (by omega) ?_))))
    rw [rdS hi2, rdS hi3, drop_cons hi2, drop_cons hi3, wrap_eq (x := (i : Int) + 1) (by omega) (by omega)]
    simp only [diffS]
    refine Ev.bind (between_f hA hB) (Q.Ev.pos (by rw [List.length_map, List.length_map]; omega) ?_)
    have := ih (i + 1) (acc ++ betweenS (i : Int) a[i] b[i]) (by omega) (by omega) (by rw [List.length_append]; omega)
    rw [List.map_append (l₁ := acc) (l₂ := betweenS _ _ _), List.append_assoc] at this
    exact this
def diffR (a b : List (List RwT)) : List OpX × Int := if chkS a = 0 then (if chkS b = 0 then (if a.length = b.length then (diffS 0 a b, 0) else ([], 2)) else ([], 40)) else ([], 40)
theorem bdiff_f {a b : List (List RwT)} (ha : smallS a) (hb : smallS b) : Ev (fun k => batch_Diff.f k a b) ((diffR a b).1.map ofX, (diffR a b).2) := by
  unfold batch_Diff.f diffR
  refine Ev.bind (bcheck_f ha) (Q.Ev.ite (fun c => ?_) (fun c => Q.Ev.ok ?_))
  · rw [if_pos c]
    refine Ev.bind (bcheck_f hb) (Q.Ev.ite (fun c2 => ?_) (fun c2 => Q.Ev.ok ?_))
    · rw [if_pos c2]
      refine Q.Ev.ite (fun c3 => ?_) (fun c3 => Q.Ev.ok ?_)
      · have e : a.length = b.length := by omega
        rw [if_pos e]
        exact bdiff_l0 (chk_zero_S.1 c) (chk_zero_S.1 c2) e a.length 0 [] (by omega) (by omega) (by simp)
      rw [if_neg (show ¬ a.length = b.length by omega)]
      rfl
    rw [if_neg c2, chk_bad_S c2]
    rfl
  rw [if_neg c, chk_bad_S c]
  rfl
section
variable {a b : List (List RwT)} (ha : okS a) (hb : okS b) (hab : a.length = b.length)
include ha hb hab
end
end Go.Proofs.Ytdpcgigjlcpofaa.Q
namespace Go.Proofs.Ytdpcgigjlcpofaa.Pure
open Go.RowKit Ytdpcgigjlcpofaa.F Ytdpcgigjlcpofaa.Q YtdpcgigjlcpofaaW.PrintWords YtdpcgigjlcpofaaW.PrintLast
theorem ops_back (u : List OpX) : (u.map ofX).map opX = u := by
  rw [List.map_map]
  exact List.map_id _
theorem BatchDiff : backhaullaw15_BatchDiff.Pure := by
  intro a b x ha hb hx
  refine Ev.rounds (r := true) ?_
  have haw : backhaullaw15_awake.f = some true := rfl
  have aw : Ev (fun _ : Nat => (backhaullaw15_awake.f).bind fun t => if t = true then some true else some false) true := Q.Ev.bindc haw (Q.Ev.pos rfl (Q.Ev.const rfl))
  have j0t : ∀ u : Bool, u = true → Ev (fun k => backhaullaw15_BatchDiff.j0 k x u a b) true := fun u hu => Ev.step (fun k => by simp only [backhaullaw15_BatchDiff.j0]; rfl) (Q.Ev.pos hu aw)
  unfold backhaullaw15_BatchDiff.f
  refine Ev.bind (few_f a) (Q.Ev.ite (fun c1 => Ev.bind (few_f b) (Q.Ev.ite (fun c2 => ?_) (fun c2 => j0t true rfl))) (fun c1 => j0t true rfl))
  by_cases c3 : (x.size : Int) > 5000
  · exact j0t _ (decide_eq_true c3)
  rw [decide_eq_false c3]
  have hA := few_small c1
  have hB := few_small c2
  have hxs : x.size < 1099511627776 := by omega
  have j2 : Ev (fun k => backhaullaw15_BatchDiff.j2 k x) true := by
    refine Ev.step (fun k => by simp only [backhaullaw15_BatchDiff.j2]; rfl) (Ev.bind (btake_f hxs) ?_)
    by_cases c4 : (Q.takeB x).2 = 0
    · have e : Q.takeB x = ((Q.takeB x).1, 0) := Prod.ext rfl c4
      obtain ⟨h1, h2⟩ := put_take e
      have hp := bput_f h1.small
      unfold putR at hp
      rw [if_pos (chk_zero_S.2 h1), h2] at hp
      exact Q.Ev.pos c4 (Ev.bind hp (Q.Ev.pos rfl (Q.Ev.pos rfl aw)))
    have e : (Q.takeB x).1 = [] := by
      unfold Q.takeB at c4 ⊢
      simp only at c4 ⊢
      split
      · split
        · rename_i q1 q2
          rw [if_pos q1, if_pos q2] at c4
          exact (c4 rfl).elim
        rfl
      rfl
    rw [e]
    exact Q.Ev.neg c4 (Q.Ev.pos rfl aw)
  have j1 : Ev (fun k => backhaullaw15_BatchDiff.j1 k x a) true := by
    refine Ev.step (fun k => by simp only [backhaullaw15_BatchDiff.j1]; rfl) (Ev.bind (bput_f hA) ?_)
    unfold putR
    by_cases c4 : chkS a = 0
    · have hok := chk_zero_S.1 c4
      have ht := btake_f (s := putB a) (by
        have : (putB a).size ≤ 100000000 := by
          unfold putB
          have h8 := hok.1
          have : ∀ s : List (List RwT), (∀ l ∈ s, okT l) → (tabsB s).size ≤ 100000 * s.length := by
            intro s
            induction s with
            | nil => intro _; exact Nat.zero_le _
            | cons l s ih =>
              intro h
              have hl := h l List.mem_cons_self
              have h1 := rowsB_size l hl.rows
              have h2 := ih fun y hy => h y (List.mem_cons_of_mem _ hy)
              have h3 := hl.1
              simp only [tabsB, ByteArray.size_append, bytesB_size, beL_length, List.length_cons]
              omega
          have := this a hok.2
          rw [ByteArray.size_append, bytesB_size, beL_length]
          omega
        omega)
      rw [take_put hok] at ht
      rw [if_pos c4]
      exact Q.Ev.pos rfl (Ev.bind ht (Ev.bind (of_f hA) (Ev.bind (same_f hA rfl rfl) (Q.Ev.pos rfl (Q.Ev.pos rfl j2)))))
    rw [if_neg c4]
    exact Q.Ev.neg (show ¬ (40 : Int) = 0 by decide) j2
  refine Ev.step (fun k => by simp only [backhaullaw15_BatchDiff.j0]; rfl) (Q.Ev.neg (by decide) (Ev.bind (bdiff_f hA hB) ?_))
  by_cases c4 : (diffR a b).2 = 0
  · refine Q.Ev.pos c4 ?_
    have ed : okS a ∧ okS b ∧ a.length = b.length ∧ diffR a b = (diffS 0 a b, 0) := by
      unfold diffR at c4 ⊢
      by_cases q1 : chkS a = 0
      · rw [if_pos q1] at c4 ⊢
        by_cases q2 : chkS b = 0
        · rw [if_pos q2] at c4 ⊢
          by_cases q3 : a.length = b.length
          · rw [if_pos q3]
            exact ⟨chk_zero_S.1 q1, chk_zero_S.1 q2, q3, rfl⟩
          rw [if_neg q3] at c4
          simp at c4
        rw [if_neg q2] at c4
        simp at c4
      rw [if_neg q1] at c4
      simp at c4
    obtain ⟨oa, ob, hab, ed⟩ := ed
    rw [ed]
    have hr := run_diff a b [] 0 hab oa.2 ob.2
    simp only [List.nil_append, List.length_nil] at hr
    have hl := diff_len a b 0 oa.2 ob.2
    have h8 := oa.1
    have hap := bapply_f hA (l := (diffS 0 a b).map ofX) (by rw [List.length_map]; omega)
    have ea : applyS a (((diffS 0 a b).map ofX).map opX) = (b, ((diffS 0 a b).length : Int), 0) := by
      unfold applyS
      rw [if_pos (chk_zero_S.2 oa), ops_back]
      refine Eq.trans hr ?_
      rw [Int.zero_add]
      rfl
    rw [ea] at hap
    refine Ev.bind hap (Ev.bind (of_f hB) (Ev.bind (same_f hB rfl rfl) (Q.Ev.pos rfl (Q.Ev.pos ?_ (Q.Ev.pos rfl j1)))))
    rw [List.length_map]
  exact Q.Ev.neg c4 j1
end Go.Proofs.Ytdpcgigjlcpofaa.Pure
namespace Go.Proofs.YtdpcgigjlcpofaaX
open Go.RowKit YtdpcgigjlcpofaaW.PrintWords YtdpcgigjlcpofaaW.PrintLast YtdpcgigjlcpofaaW.PrintMore
def Opens {α : Type} (P : Program) (t : TypeId) (k : Kd α) (Ok : α → Prop) : Prop :=
  ∀ {H : Type} {enc : TypeId × Value → H} {w : World} {base : Nat} {spare : Nat → Bool} {held : Bool} {fuel : Nat} {cs : List Value} {x : DataW H × List MemPlace},
    DataW.trod enc P w base spare held fuel t cs = some x → ∃ a : α, k.K w a cs ∧ Ok a
theorem Opens.int {P : Program} {t : TypeId} {k : IntKind} (ht : P.underlying t = some (.int k)) : Opens P t (Kd.int k) (fun a => (Lit.int k a).wf = true) := by
  intro H enc w base spare held fuel cs x h
  obtain ⟨n, rfl, _, hw⟩ := DataW.trod_int ht h
  exact ⟨n, rfl, hw⟩
theorem Opens.bool {P : Program} {t : TypeId} (ht : P.underlying t = some .bool) : Opens P t Kd.bool (fun _ => True) := by
  intro H enc w base spare held fuel cs x h
  obtain ⟨n, rfl, _⟩ := DataW.trod_bool ht h
  exact ⟨n, rfl, trivial⟩
theorem Opens.string {P : Program} {t : TypeId} (ht : P.underlying t = some .string) : Opens P t Kd.string (fun a => a.size ≤ maxLen) := by
  intro H enc w base spare held fuel cs x h
  obtain ⟨s, rfl, _, hw⟩ := DataW.trod_string ht h
  exact ⟨s, rfl, hw⟩
theorem list_of {α : Type} {p : Nat → α → Prop} : ∀ n, (∀ i, i < n → ∃ a, p i a) → ∃ xs : List α, xs.length = n ∧ ∀ i a, xs[i]? = some a → p i a
  | 0, _ => ⟨[], rfl, fun i a h => by simp at h⟩
  | n + 1, h => by
    obtain ⟨xs, hl, hx⟩ := list_of n (fun i hi => h i (by omega))
    obtain ⟨a, ha⟩ := h n (by omega)
    refine ⟨xs ++ [a], by simp [hl], fun i b hb => ?_⟩
    rcases Nat.lt_or_ge i xs.length with h1 | h1
    · rw [List.getElem?_append_left h1] at hb
      exact hx i b hb
    rw [List.getElem?_append_right h1] at hb
    have h2 : i - xs.length = 0 := by
      have := (List.getElem?_eq_some_iff.1 hb).1
      simp at this; omega
    rw [h2] at hb
    have : a = b := by simpa using hb
    subst this
    have : i = n := by omega
    rw [this]; exact ha
theorem Opens.slice {α : Type} {P : Program} {t e : TypeId} {k : Kd α} {Ok : α → Prop} (ht : P.underlying t = some (.slice e)) (hc : P.cellsOf e = k.sz) (h : Opens P e k Ok) :
    Opens P t (Kd.slice e k) (fun xs => xs.length ≤ maxLen ∧ ∀ x ∈ xs, Ok x) := by
  intro H enc w base spare held fuel cs x hx
  rcases Go.Deep.open_slice ht hx with ⟨rfl, rfl⟩ | ⟨a, len, cap, m, n, D, Pl, rfl, hb, hl, hm, hmm, rfl, hel⟩
  · exact ⟨[], ⟨none, 0, rfl, by simp, rfl, by simp, fun h => absurd h (by simp)⟩, by simp [maxLen], by simp⟩
  have hlm : len ≤ m := by rw [hmm]; split <;> omega
  obtain ⟨xs, hlen, hxs⟩ := list_of (p := fun i (a' : α) => ∃ cs', w.cells? base (a.add (i * P.cellsOf e)) (P.cellsOf e) = some cs' ∧ k.K w a' cs' ∧ Ok a') len (fun i hi => by
    obtain ⟨cs', h1, h2⟩ := hel i (by omega)
    obtain ⟨a', h3, h4⟩ := h h2
    exact ⟨a', cs', h1, h3, h4⟩)
  have hlm2 : len ≤ maxLen := by omega
  refine ⟨xs, ⟨some a, cap, by rw [hlen], by rw [hlen]; exact hl, rfl, by rw [hlen]; simpa [maxLen] using hlm2, fun _ => ⟨a, rfl, fun j p hj => ?_⟩⟩, by rw [hlen]; exact hlm2, fun y hy => ?_⟩
  · obtain ⟨cs', h1, h2, _⟩ := hxs j p hj
    refine ⟨cs', k.K_len h2, h2, fun i u hu => ?_⟩
    obtain ⟨_, _, h3⟩ := World.cells?_some h1
    have h4 := h3 i (by have := (List.getElem?_eq_some_iff.1 hu).1; have := k.K_len h2; omega)
    rw [← hc, ← Go.Proofs.YtdpcgigjlcpofaaW.PrintWords.add_add]
    rw [← hu]; exact h4
  obtain ⟨i, hi, rfl⟩ := List.mem_iff_getElem.1 hy
  obtain ⟨_, _, _, h3⟩ := hxs i _ (List.getElem?_eq_getElem hi)
  exact h3
theorem field_reads {H : Type} {enc : TypeId × Value → H} {P : Program} {w : World} {base : Nat} {spare : Nat → Bool} {held : Bool} {fuel : Nat} {t : TypeId} {cs : List Value} {x : DataW H × List MemPlace} {fs : Array Field}
    (ht : P.underlying t = some (.struct fs)) (h : DataW.trod enc P w base spare held fuel t cs = some x) :
    cs.length = P.cellsOf t ∧ ∃ n, ∀ (i : Nat) (f : Field), fs[i]? = some f → ∃ y, DataW.trod enc P w base spare held n f.type ((cs.drop f.offset).take (P.cellsOf f.type)) = some y := by
  obtain ⟨xs, n, _, _, hl, hx, hf⟩ := DataW.trod_struct ht h
  refine ⟨hl, n, fun i f hif => ?_⟩
  rw [hf i f hif]
  have hi := (Array.getElem?_eq_some_iff.1 hif).1
  exact ⟨_, List.getElem?_eq_getElem (by rw [hx]; exact hi)⟩
theorem band {a b : Bool} (h1 : a = true) (h2 : b = true) : (a && b) = true := by rw [h1, h2]; rfl
theorem mayEnter_of {P : Program} {L c : List Char} {rest : List (List Char)} (h : P.initOrder.toList = L) (h1 : behindMainWord (wordsSigns L) = c :: rest) (h2 : ((stripLifts liftWords (c :: rest)).2.head? == some "cut".toList) = true) (h3 : P.laysLater = false) (h4 : P.bearsReflect = false) (h5 : (stripLifts liftWords (c :: rest)).1 = []) (h6 : P.doorFits [] = true) : P.mayEnter = true := by
  unfold Program.mayEnter
  rw [h, h1]
  dsimp only
  rw [h2, h3, h4, h5, h6]
  simp
theorem make_of {P : Program} {L : List Char} {rest : List (List Char)} (h : P.initOrder.toList = L) (h1 : behindMainWord (wordsSigns L) = "cut".toList :: rest) : P.make = some .cut := by
  unfold Program.make
  rw [h, h1]
  dsimp only
  rw [if_neg (by decide), if_pos (by simp)]
end Go.Proofs.YtdpcgigjlcpofaaX
set_option maxRecDepth 10000
namespace Go.Proofs.Ytdpcgigjlcpofaa.Join
open YtdpcgigjlcpofaaX
def initSigns : List Char := ['h', 'a', 'r', 'n', 'e', 's', 's', ' ', 'c', 'e', 'c', 'b', '8', '6', 'd', '2', '2', '8', '2', 'f', '6', '6', '6', '7', 'a', '3', 'b', '2', '0', 'd', '3', 'e', 'a', 'd', '2', 'c', 'f', 'e', '3', '7', '7', '5', 'b', '7', 'b', '3', 'd', '0', 'c', '6', '0', '2', '6', '1', '5', 'c', 'f', '5', '2', '5', '6', '6', 'c', '6', '0', '2', '7', '8', '5', 'c', '9', '9', ' ', 'c', 'u', 't', ' ', 'a', 't', ' ', 'b', 'a', 'c', 'k', 'h', 'a', 'u', 'l', '/', 'b', 'a', 'c', 'k', 'h', 'a', 'u', 'l', 'l', 'a', 'w', '0', '6', '.', 'S', 't', 'r', 'i', 'c', 't', 'F', 'i', 'r', 's', 't', ' ', 'b', 'a', 'c', 'k', 'h', 'a', 'u', 'l', '/', 'b', 'a', 'c', 'k', 'h', 'a', 'u', 'l', 'l', 'a', 'w', '1', '4', '.', 'I', 'n', 'd', 'e', 'x', 'T', 'e', 'l', 'l', 's', ' ', 'b', 'a', 'c', 'k', 'h', 'a', 'u', 'l', '/', 'b', 'a', 'c', 'k', 'h', 'a', 'u', 'l', 'l', 'a', 'w', '1', '4', '.', 'I', 'n', 'd', 'e', 'x', 'A', 'd', 'd', 's', ' ', 'b', 'a', 'c', 'k', 'h', 'a', 'u', 'l', '/', 'b', 'a', 'c', 'k', 'h', 'a', 'u', 'l', 'l', 'a', 'w', '1', '4', '.', 'I', 'n', 'd', 'e', 'x', 'T', 'u', 'r', 'n', 's', ' ', 'b', 'a', 'c', 'k', 'h', 'a', 'u', 'l', '/', 'b', 'a', 'c', 'k', 'h', 'a', 'u', 'l', 'l', 'a', 'w', '1', '4', '.', 'I', 'n', 'd', 'e', 'x', 'W', 'h', 'o', 'l', 'e', ' ', 'b', 'a', 'c', 'k', 'h', 'a', 'u', 'l', '/', 'b', 'a', 'c', 'k', 'h', 'a', 'u', 'l', 'l', 'a', 'w', '1', '5', '.', 'B', 'a', 't', 'c', 'h', 'A', 'p', 'p', 'l', 'i', 'e', 's', ' ', 'b', 'a', 'c', 'k', 'h', 'a', 'u', 'l', '/', 'b', 'a', 'c', 'k', 'h', 'a', 'u', 'l', 'l', 'a', 'w', '1', '5', '.', 'B', 'a', 't', 'c', 'h', 'C', 'o', 'd', 'e', 's', ' ', 'b', 'a', 'c', 'k', 'h', 'a', 'u', 'l', '/', 'b', 'a', 'c', 'k', 'h', 'a', 'u', 'l', 'l', 'a', 'w', '1', '5', '.', 'B', 'a', 't', 'c', 'h', 'W', 'h', 'o', 'l', 'e', ' ', 'b', 'a', 'c', 'k', 'h', 'a', 'u', 'l', '/', 'b', 'a', 'c', 'k', 'h', 'a', 'u', 'l', 'l', 'a', 'w', '1', '5', '.', 'B', 'a', 't', 'c', 'h', 'U', 'n', 'd', 'o', ' ', 'b', 'a', 'c', 'k', 'h', 'a', 'u', 'l', '/', 'b', 'a', 'c', 'k', 'h', 'a', 'u', 'l', 'l', 'a', 'w', '1', '5', '.', 'B', 'a', 't', 'c', 'h', 'D', 'i', 'f', 'f']
theorem initText : Try.pinned.checked.prog.initOrder = String.ofList initSigns := by kernel_rfl
theorem initList : Try.pinned.checked.prog.initOrder.toList = initSigns := (congrArg String.toList initText).trans String.toList_ofList
theorem mayEnter_is : Try.pinned.checked.prog.mayEnter = true :=
  mayEnter_of (L := initSigns) (c := "cut".toList) (rest := (behindMainWord (wordsSigns initSigns)).tail) initList (by kernel_rfl) (by kernel_rfl) (by kernel_rfl) (by kernel_rfl) (by kernel_rfl) (by kernel_rfl)
theorem make_is : Try.pinned.checked.prog.make = some .cut :=
  make_of (L := initSigns) (rest := (behindMainWord (wordsSigns initSigns)).tail) initList (by kernel_rfl)
theorem lifts_is : Try.pinned.checked.prog.liftsFinal = false := by
  unfold Program.liftsFinal Program.headLifts
  rw [initList]
  kernel_rfl
end Go.Proofs.Ytdpcgigjlcpofaa.Join
namespace Go.Proofs.Ytdpcgigjlcpofaa.batchDiff
open Go.ChangeShapes Go.WideShapes Go.ChangeAt Go.RowKit YtdpcgigjlcpofaaX Ytdpcgigjlcpofaa.F YtdpcgigjlcpofaaW.PrintWords YtdpcgigjlcpofaaW.PrintLast YtdpcgigjlcpofaaW.PrintMore
open Go.ChangeMaps (open_string shut_string)
theorem own : ownKnob Try.prog.godebug = none := by kernel_rfl
theorem laidOut : laidOutB Try.prog = true := by kernel_rfl
set_option maxRecDepth 100000 in
theorem opens_k164 : Opens Try.prog 164 k164 (fun x => ((Lit.int .i64 x.f0).wf = true ∧ x.f1.size ≤ maxLen)) := by
  intro H enc w base spare held fuel cs x h
  obtain ⟨hl, n, hf⟩ := field_reads Try.underlying164 h
  have hl2 : cs.length = 2 := hl.trans (by kernel_rfl)
  match cs, hl2 with
  | [c0, c1], _ =>
    obtain ⟨y0, h0⟩ := hf 0 _ rfl
    have e0 : Try.prog.cellsOf 3 = 1 := by kernel_rfl
    (try dsimp only at h0)
    (try simp only [e0] at h0)
    obtain ⟨a0, k0, o0⟩ := (Opens.int Try.underlying3) h0
    have k0' : ((Kd.int .i64)).K w a0 [c0] := k0
    obtain ⟨y1, h1⟩ := hf 1 _ rfl
    have e1 : Try.prog.cellsOf 9 = 1 := by kernel_rfl
    (try dsimp only at h1)
    (try simp only [e1] at h1)
    obtain ⟨a1, k1, o1⟩ := (Opens.string Try.underlying9) h1
    have k1' : (Kd.string).K w a1 [c1] := k1
    exact ⟨(⟨a0, a1⟩ : S164), ⟨[c0], [c1], rfl, k0', k1'⟩, ⟨o0, o1⟩⟩
set_option maxRecDepth 100000 in
theorem opens_k75 : Opens Try.prog 75 k75 (fun x => ((x.f0.length ≤ maxLen ∧ ∀ y ∈ x.f0, (y.length ≤ maxLen ∧ ∀ x ∈ y, ((Lit.int .i64 x.f0).wf = true ∧ x.f1.size ≤ maxLen))))) := by
  intro H enc w base spare held fuel cs x h
  obtain ⟨hl, n, hf⟩ := field_reads Try.underlying75 h
  have hl2 : cs.length = 1 := hl.trans (by kernel_rfl)
  match cs, hl2 with
  | [c0], _ =>
    obtain ⟨y0, h0⟩ := hf 0 _ rfl
    have e0 : Try.prog.cellsOf 73 = 1 := by kernel_rfl
    (try dsimp only at h0)
    (try simp only [e0] at h0)
    obtain ⟨a0, k0, o0⟩ := (Opens.slice Try.underlying73 (by kernel_rfl) (Opens.slice Try.underlying162 (by kernel_rfl) opens_k164)) h0
    have k0' : ((Kd.slice 162 (Kd.slice 164 k164))).K w a0 [c0] := k0
    exact ⟨(⟨a0⟩ : S75), k0', o0⟩
set_option maxRecDepth 100000 in
theorem lifted (os : Os) (started : os.Started) (H : Type) (enc : TypeId × Value → H) :
    ReturnsInHanded {} Try.checked os 12 .any (Rows.batchDiffSpec.pre6 enc Try.prog Try.f12 Rows.batchDiffRow.domain false) (Rows.batchDiffSpec.post enc Try.prog Try.f12 false true false false) := by
  refine returnsInHanded_of_change_sized (C := Try.checked) own started (by kernel_rfl) Try.func12
    (ChangeSpec.witness6 (enc := enc) (C := Try.checked) false ⟨#[], #[.agg #[.slice none 0 0], .agg #[.slice none 0 0], .string ByteArray.empty], []⟩ 8 (by kernel_rfl) (by kernel_rfl) (by kernel_rfl) (by kernel_rfl)) ?_
  intro W base args ds gs before hval0 hW hcnd hsz0 _
  have hval : ∀ (j : Nat) t v, Try.f12.params[j]? = some t → args[j]? = some v → Value.okWide Try.prog W .any base t v := hval0
  have hW' := hW
  obtain ⟨p, q, hA0, hV, rfl, hfz, hnd⟩ := hW
  have hA : DataW.TrodAll enc Try.prog W 0 (fun _ => true) true Try.f12.params.toList args.toList ds p := hA0
  rw [Try.params12] at hA hval
  obtain ⟨v0, vs0, d0, ds0, p0, q0, hargs, rfl, rfl, h0, r0⟩ := trodAll_cons hA
  obtain ⟨v1, vs1, d1, ds1, p1, q1, rfl, rfl, rfl, h1, r1⟩ := trodAll_cons r0
  obtain ⟨v2, vs2, d2, ds2, p2, q2, rfl, rfl, rfl, h2, r2⟩ := trodAll_cons r1
  obtain ⟨rfl, rfl, rfl⟩ := trodAll_nil r2
  obtain rfl : args = #[v0, v1, v2] := by cases args; simp_all
  obtain ⟨rfl, rfl⟩ := trodVars_none hV
  have k0 := h0
  have lt0 : ∀ x ∈ p0, x.block < W.heap.size := by obtain ⟨m, hm⟩ := k0; exact DataW.trod_lt m _ _ _ hm
  obtain ⟨cs0, rfl, _⟩ := okWide_struct Try.underlying75 (hval 0 75 v0 rfl rfl)
  obtain ⟨f0, hf0⟩ := h0
  obtain ⟨x0, hk0, ho0⟩ := opens_k75 hf0
  obtain ⟨A0_0, c0_0, he0, hl0_0, hc0_0⟩ := k75_open hk0
  obtain rfl : cs0 = _ := Array.toList_inj.1 (he0.trans (List.toList_toArray).symm)
  have k1 := h1
  have lt1 : ∀ x ∈ p1, x.block < W.heap.size := by obtain ⟨m, hm⟩ := k1; exact DataW.trod_lt m _ _ _ hm
  obtain ⟨cs1, rfl, _⟩ := okWide_struct Try.underlying75 (hval 1 75 v1 rfl rfl)
  obtain ⟨f1, hf1⟩ := h1
  obtain ⟨x1, hk1, ho1⟩ := opens_k75 hf1
  obtain ⟨A1_0, c1_0, he1, hl1_0, hc1_0⟩ := k75_open hk1
  obtain rfl : cs1 = _ := Array.toList_inj.1 (he1.trans (List.toList_toArray).symm)
  have k2 := h2
  have lt2 : ∀ x ∈ p2, x.block < W.heap.size := by obtain ⟨m, hm⟩ := k2; exact DataW.trod_lt m _ _ _ hm
  obtain ⟨x2, rfl⟩ := okWide_string Try.underlying9 (hval 2 9 v2 rfl rfl)
  obtain ⟨f2, hf2⟩ := h2
  obtain ⟨z2, hk2, ho2⟩ := (Opens.string Try.underlying9) hf2
  obtain rfl : x2 = z2 := by have := hk2; injection this with this; injection this
  obtain ⟨k, h⟩ : ∃ k, backhaullaw15_BatchDiff.f k x0.f0 x1.f0 x2 = some true := Pure.BatchDiff x0.f0 x1.f0 x2 ho0 ho1 ho2
  refine (backhaullaw15_BatchDiff.calls k _ _ x0.f0 _ _ x1.f0 x2 W hc0_0 hl0_0 hc1_0 hl1_0 h).mono fun e W' hq => ?_
  obtain ⟨he, bel0⟩ := hq
  have bel : Below W.heap.size W W' := bel0
  subst he
  exact ⟨_, rfl, _, _, _, [], _, [], hW', trodAll_mk1 (shut_bool Try.underlying4 _), (trodAll_cons_mk (Below.trod laidOut (by kernel_rfl) (of_decide_eq_true (by kernel_rfl)) k0 bel lt0) (trodAll_cons_mk (Below.trod laidOut (by kernel_rfl) (of_decide_eq_true (by kernel_rfl)) k1 bel lt1) (trodAll_cons_mk (Below.trod laidOut (by kernel_rfl) (of_decide_eq_true (by kernel_rfl)) k2 bel lt2) trodAll_mk0))), rfl, bel.frame _, fun h => by cases h⟩
theorem closed_ : joinedFacts Try.pinned.checked.prog 12 Try.f12 Rows.batchDiffSpec Rows.batchDiffRow = true := by
  unfold joinedFacts
  repeat' (with_reducible apply band)
  any_goals with_reducible exact Join.mayEnter_is
  any_goals (rw [Join.make_is]; kernel_rfl)
  any_goals (rw [Join.lifts_is]; kernel_rfl)
  all_goals kernel_rfl
theorem over : Rows.batchDiffRow.holds Try.pinned (OpenSpec.ofChange Rows.batchDiffSpec) :=
  OpenClaim.holds_of_wide 12 Try.f12 rfl rfl rfl rfl rfl rfl rfl ⟨rfl, rfl, rfl, rfl, rfl⟩ rfl rfl rfl rfl rfl (by kernel_rfl) Try.func12 closed_
    (of_decide_eq_true (by kernel_rfl)) (by unfold Func.isWrapper; first | (rw [if_pos (by decide +kernel)]; kernel_rfl) | (rw [if_neg (by decide +kernel)]; exact ⟨rfl, rfl⟩))
    (fun os started H enc _ => lifted os started H enc)
theorem proved : Rows.BatchDiffSaid := over
#print axioms proved
end Go.Proofs.Ytdpcgigjlcpofaa.batchDiff
namespace Go.Proofs.Ytdpcgigjlcpofaa
theorem batchDiff_holds : Rows.BatchDiffSaid := batchDiff.proved
end Go.Proofs.Ytdpcgigjlcpofaa
