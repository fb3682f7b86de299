-- by prune.py (own program), out of the print
import Derived.Deep.Slices
import Derived.ChangeArms
import Derived.WideShapes
import Derived.OpenShut
import Derived.Test.YtdpcgigjlcpofaaRows
import Derived.ProofKit
import Derived.ShutString
import Derived.ChangeOld
import Derived.SizedLaws
import Derived.Carry
import Derived.Test.YtdpcgigjlcpofaaZIndexTurns4
set_option linter.unusedVariables false
namespace Go.Proofs.Ytdpcgigjlcpofaa.Q
open Go.RowKit YtdpcgigjlcpofaaX YtdpcgigjlcpofaaW.PrintWords YtdpcgigjlcpofaaW.PrintLast YtdpcgigjlcpofaaW.PrintMore
theorem less_cons (a b : UInt8) (x y : List UInt8) : Op.bytesLess (a :: x) (b :: y) = true ↔ a.toNat < b.toNat ∨ (a = b ∧ Op.bytesLess x y = true) := by
  simp only [Op.bytesLess, Bool.or_eq_true, Bool.and_eq_true, decide_eq_true_eq, beq_iff_eq, UInt8.lt_iff_toNat_lt]
theorem less_nil (x : List UInt8) : Op.bytesLess x [] = false := by cases x <;> rfl
theorem less_trans : ∀ (a b c : List UInt8), Op.bytesLess a b = true → Op.bytesLess b c = true → Op.bytesLess a c = true
  | _, [], _, h, _ => by rw [less_nil] at h; cases h
  | _, _ :: _, [], _, h => by rw [less_nil] at h; cases h
  | [], _ :: _, _ :: _, _, _ => rfl
  | a :: x, b :: y, c :: z, h1, h2 => by
    rw [less_cons] at h1 h2 ⊢
    rcases h1 with h1 | ⟨rfl, h1⟩
    · rcases h2 with h2 | ⟨rfl, h2⟩
      · exact .inl (by omega)
      exact .inl h1
    rcases h2 with h2 | ⟨rfl, h2⟩
    · exact .inl h2
    exact .inr ⟨rfl, less_trans x y z h1 h2⟩
theorem less_total : ∀ (a b : List UInt8), Op.bytesLess a b = false → Op.bytesLess b a = false → a = b
  | [], [], _, _ => rfl
  | [], _ :: _, h, _ => by simp [Op.bytesLess] at h
  | _ :: _, [], _, h => by simp [Op.bytesLess] at h
  | a :: x, b :: y, h1, h2 => by
    have n1 : ¬ Op.bytesLess (a :: x) (b :: y) = true := by rw [h1]; decide
    have n2 : ¬ Op.bytesLess (b :: y) (a :: x) = true := by rw [h2]; decide
    rw [less_cons] at n1 n2
    have hab : a = b := UInt8.toNat_inj.1 (by omega)
    subst hab
    rw [less_total x y (by cases e : Op.bytesLess x y; rfl; exact absurd (.inr ⟨rfl, e⟩) n1) (by cases e : Op.bytesLess y x; rfl; exact absurd (.inr ⟨rfl, e⟩) n2)]
def up8 (b : UInt8) : UInt8 := if 97 ≤ b.toNat ∧ b.toNat ≤ 122 then UInt8.ofNat (b.toNat - 32) else b
theorem up8_toNat (b : UInt8) : ((up8 b).toNat : Int) = upI b.toNat := by
  unfold up8 upI
  by_cases h : 97 ≤ b.toNat ∧ b.toNat ≤ 122
  · rw [if_pos h, if_pos (by omega)]
    have : (UInt8.ofNat (b.toNat - 32)).toNat = b.toNat - 32 := by simp; omega
    rw [this]; omega
  rw [if_neg h, if_neg (by omega)]
theorem up8_of (b : UInt8) : UInt8.ofNat (upI b.toNat).toNat = up8 b := by
  apply UInt8.toNat_inj.1
  have h := up8_toNat b
  have h2 := (up8 b).toNat_lt
  have : (upI b.toNat).toNat = (up8 b).toNat := by omega
  rw [this]; simp
theorem up_runes (l : List UInt8) : ((runes l).map fun r => UInt8.ofNat (upI r).toNat) = l.map up8 := by
  simp only [runes, List.map_map]
  exact List.map_congr_left fun b _ => up8_of b
def serB (l : List UInt8) : Prop := 1 ≤ l.length ∧ l.length ≤ 16 ∧ l.getLast? ≠ some 45 ∧ okL 3 (runes l) = true
instance (l : List UInt8) : Decidable (serB l) := by unfold serB; infer_instance
theorem foldS_eq (s : ByteArray) : foldS s = if serB s.data.toList then (⟨(s.data.toList.map up8).toArray⟩, 0) else (⟨#[]⟩, 9) := by
  unfold foldS
  rw [up_runes]
  by_cases h : s.size < 1 ∨ s.size > 16 ∨ s.data.toList.getLast? = some 45 ∨ okL 3 (runes s.data.toList) = false
  · rw [if_pos h, if_neg]
    rintro ⟨h1, h2, h3, h4⟩
    rw [size_data] at h1 h2
    rcases h with h | h | h | h
    · omega
    · omega
    · exact h3 h
    rw [h] at h4; cases h4
  rw [if_neg h, if_pos]
  refine ⟨by rw [size_data]; omega, by rw [size_data]; omega, fun x => h (.inr (.inr (.inl x))), ?_⟩
  cases e : okL 3 (runes s.data.toList)
  · exact absurd (.inr (.inr (.inr e))) h
  rfl
theorem bytes_mk (s : ByteArray) (l : List UInt8) : (⟨l.toArray⟩ : ByteArray) = s ↔ l = s.data.toList := by
  constructor
  · rintro rfl; rfl
  intro h; subst h; rfl
theorem checkS_iff (s : ByteArray) : checkS s = 0 ↔ serB s.data.toList ∧ s.data.toList.map up8 = s.data.toList := by
  unfold checkS
  rw [foldS_eq]
  by_cases h : serB s.data.toList
  · rw [if_pos h]
    constructor
    · intro x
      split at x
      · rename_i y; exact ⟨h, (bytes_mk _ _).1 y.2⟩
      cases x
    rintro ⟨_, x⟩; rw [if_pos ⟨rfl, (bytes_mk _ _).2 x⟩]
  rw [if_neg h, if_neg (fun x => absurd x.1 (by decide))]
  exact Iff.intro (fun x => absurd x (by decide)) (fun x => absurd x.1 h)
theorem checkS_or (s : ByteArray) : checkS s = 0 ∨ checkS s = 9 := by unfold checkS; split <;> simp
theorem toList_data (s : ByteArray) : s.toList = s.data.toList := ByteArray.toList_eq s
def lt8 (a b : ByteArray) : Prop := Op.bytesLess a.toList b.toList = true
instance (a b : ByteArray) : Decidable (lt8 a b) := by unfold lt8; infer_instance
theorem lt8_irrefl (a : ByteArray) : ¬ lt8 a a := by unfold lt8; rw [less_irrefl]; decide
theorem lt8_trans {a b c : ByteArray} (h : lt8 a b) (g : lt8 b c) : lt8 a c := less_trans _ _ _ h g
theorem lt8_total {a b : ByteArray} (h : ¬ lt8 a b) (g : ¬ lt8 b a) : a = b := by
  have := less_total a.toList b.toList (by unfold lt8 at h; simpa using h) (by unfold lt8 at g; simpa using g)
  rw [toList_data, toList_data] at this
  cases a; cases b; simpa [Array.toList_inj] using this
def notUp : Option ByteArray → ByteArray → Bool
  | none, _ => false
  | some q, s => !(Op.bytesLess q.toList s.toList)
def rowG : Option ByteArray → List ByteArray → Int
  | _, [] => 0
  | p, s :: l => if checkS s = 0 then (if notUp p s = true then 32 else rowG (some s) l) else 9
theorem notUp_some {q s : ByteArray} : notUp (some q) s = false ↔ lt8 q s := by simp [notUp, lt8]
theorem rowG_zero {l : List ByteArray} : ∀ {p : Option ByteArray}, rowG p l = 0 → (∀ s ∈ l, checkS s = 0) ∧ l.Pairwise lt8 ∧ ∀ q, p = some q → ∀ s ∈ l, lt8 q s := by
  induction l with
  | nil => intro p _; simp
  | cons a l ih =>
    intro p h
    simp only [rowG] at h
    by_cases h1 : checkS a = 0
    · rw [if_pos h1] at h
      by_cases h2 : notUp p a = true
      · rw [if_pos h2] at h; cases h
      rw [if_neg h2] at h
      obtain ⟨i1, i2, i3⟩ := ih h
      have hq : ∀ q, p = some q → lt8 q a := fun q e => by
        subst e
        exact notUp_some.1 (by simpa using h2)
      refine ⟨fun s hs => ?_, List.pairwise_cons.2 ⟨fun s hs => i3 a rfl s hs, i2⟩, fun q e s hs => ?_⟩
      · rcases List.mem_cons.1 hs with rfl | hs
        · exact h1
        exact i1 s hs
      rcases List.mem_cons.1 hs with rfl | hs
      · exact hq q e
      exact lt8_trans (hq q e) (i3 a rfl s hs)
    rw [if_neg h1] at h; cases h
theorem rowG_of {l : List ByteArray} : ∀ {p : Option ByteArray}, (∀ s ∈ l, checkS s = 0) → l.Pairwise lt8 → (∀ q, p = some q → ∀ s ∈ l, lt8 q s) → rowG p l = 0 := by
  induction l with
  | nil => intro p _ _ _; rfl
  | cons a l ih =>
    intro p h1 h2 h3
    simp only [rowG]
    obtain ⟨g1, g2⟩ := List.pairwise_cons.1 h2
    have e : ¬ notUp p a = true := by
      cases p with
      | none => simp [notUp]
      | some q => rw [notUp_some.2 (h3 q rfl a List.mem_cons_self)]; decide
    rw [if_pos (h1 a List.mem_cons_self), if_neg e]
    exact ih (fun s hs => h1 s (List.mem_cons_of_mem _ hs)) g2 (fun q hq s hs => by injection hq with hq; subst hq; exact g1 s hs)
theorem pair_get {l : List ByteArray} (h : l.Pairwise lt8) {i j : Nat} (hj : j < l.length) (hij : i < j) : lt8 (l[i]'(by omega)) l[j] := List.pairwise_iff_getElem.1 h i j _ hj hij
def idxT (l : List ByteArray) (s : ByteArray) : Option Nat := l.findIdx? (fun x => decide (x = s))
theorem idxT_some {l : List ByteArray} {s : ByteArray} {i : Nat} (h : i < l.length) (he : l[i] = s) (hn : ∀ j (h : j < l.length), j < i → l[j] ≠ s) : idxT l s = some i := by
  unfold idxT
  rw [List.findIdx?_eq_some_iff_getElem]
  exact ⟨h, by simp [he], fun j hj => by simpa using hn j (by omega) hj⟩
theorem idxT_none {l : List ByteArray} {s : ByteArray} (hn : ∀ j (h : j < l.length), l[j] ≠ s) : idxT l s = none := by
  unfold idxT
  rw [List.findIdx?_eq_none_iff]
  intro x hx
  obtain ⟨j, hj, rfl⟩ := List.mem_iff_getElem.1 hx
  simpa using hn j hj
theorem idxT_get {l : List ByteArray} {s : ByteArray} {i : Nat} (h : idxT l s = some i) : ∃ h : i < l.length, l[i] = s ∧ ∀ j (h : j < l.length), j < i → l[j] ≠ s := by
  unfold idxT at h
  rw [List.findIdx?_eq_some_iff_getElem] at h
  obtain ⟨h1, h2, h3⟩ := h
  exact ⟨h1, by simpa using h2, fun j hj hji => by simpa using h3 j hji⟩
def findT (l : List ByteArray) (s : ByteArray) : Int × Bool := match idxT l s with
  | some i => ((i : Int), true)
  | none => (if rowG none l = 0 then (l.countP (fun x => decide (lt8 x s)) : Int) else 0, false)
theorem findT_sorted {l : List ByteArray} {s : ByteArray} {n : Nat} (hs : l.Pairwise lt8) (hn : n ≤ l.length) (h1 : ∀ j (h : j < l.length), j < n → lt8 l[j] s) (h2 : ∀ j (h : j < l.length), n ≤ j → ¬ lt8 l[j] s) (h0 : rowG none l = 0) : findT l s = ((n : Int), decide (∃ h : n < l.length, l[n] = s)) := by
  have hlt : ∀ j (h : j < l.length), j < n → l[j] ≠ s := fun j hj hjn e => lt8_irrefl s (e ▸ h1 j hj hjn)
  unfold findT
  by_cases h : ∃ h : n < l.length, l[n] = s
  · obtain ⟨hn', he⟩ := h
    rw [idxT_some hn' he hlt]
    simp only [Prod.mk.injEq, true_and]
    exact (decide_eq_true ⟨hn', he⟩).symm
  rw [idxT_none (fun j hj e => ?_)]
  · simp only [if_pos h0]
    refine Prod.ext ?_ (decide_eq_false h).symm
    have : l.countP (fun x => decide (lt8 x s)) = n := by
      have e : l = l.take n ++ l.drop n := (List.take_append_drop n l).symm
      have a : (l.take n).countP (fun x => decide (lt8 x s)) = (l.take n).length := by
        rw [List.countP_eq_length]
        intro x hx
        obtain ⟨j, hj, rfl⟩ := List.mem_iff_getElem.1 hx
        rw [List.length_take] at hj
        rw [List.getElem_take]
        simpa using h1 j (by omega) (by omega)
      have b : (l.drop n).countP (fun x => decide (lt8 x s)) = 0 := by
        rw [List.countP_eq_zero]
        intro x hx
        obtain ⟨j, hj, rfl⟩ := List.mem_iff_getElem.1 hx
        rw [List.length_drop] at hj
        rw [List.getElem_drop]
        simpa using h2 (n + j) (by omega) (by omega)
      rw [e, List.countP_append, a, b, List.length_take]
      omega
    show (_ : Int) = _
    rw [this]
  rcases Nat.lt_or_ge j n with hjn | hjn
  · exact hlt j hj hjn e
  rcases Nat.lt_or_ge n j with hnj | hnj
  · have h3 := pair_get hs hj hnj
    rw [e] at h3
    exact h2 n (by omega) (Nat.le_refl _) h3
  have : j = n := by omega
  subst this
  exact h ⟨hj, e⟩
end Go.Proofs.Ytdpcgigjlcpofaa.Q
namespace Go.Proofs.Ytdpcgigjlcpofaa.Q
open Go.RowKit Ytdpcgigjlcpofaa.F YtdpcgigjlcpofaaW.PrintWords YtdpcgigjlcpofaaW.PrintLast YtdpcgigjlcpofaaW.PrintMore
def rising (last : Int) : List Int → Int
  | [] => 0
  | x :: xs => if x < 1 ∨ x > 999999 then 31 else if x ≤ last then 32 else rising x xs
theorem rows_Rising_l0 {l : List Int} (hl : l.length < 9223372036854775807) (d : Nat) : ∀ (i : Nat) (last : Int), l.length - i = d → i ≤ l.length →
    Ev (fun k => rows_Rising.l0 k last l (l.length : Int) (i : Int)) (rising last (l.drop i)) := by
  induction d with
  | zero =>
    intro i last hd hi
    refine Ev.step (fun k => by simp only [rows_Rising.l0]; rfl) ?_
    refine Ev.neg (by omega) (Ev.ok ?_)
    rw [List.drop_eq_nil_of_le (by omega)]; rfl
  | succ d ih =>
    intro i last hd hi
    have h : i < l.length := by omega
    refine Ev.step (fun k => by simp only [rows_Rising.l0]; rfl) ?_
    refine Ev.pos (by omega) (Ev.pos (by omega) (Ev.pos (by omega) ?_))
    rw [drop_cons h, rd_nat h]
    have hj : ∀ b : Bool, (b = true ↔ (l[i] < 1 ∨ l[i] > 999999)) → Ev (fun k => rows_Rising.j1 k last l[i] l (l.length : Int) (i : Int) b) (rising last (l[i] :: l.drop (i + 1))) := by
      intro b hb
      refine Ev.step (fun k => by simp only [rows_Rising.j1]; rfl) ?_
      simp only [rising]
      refine Ev.ite (fun h1 => ?_) (fun h1 => ?_)
      · rw [if_pos (hb.1 h1)]; exact Ev.ok rfl
      rw [if_neg (fun h2 => h1 (hb.2 h2))]
      refine Ev.ite (fun h2 => ?_) (fun h2 => ?_)
      · rw [if_pos h2]; exact Ev.ok rfl
      rw [if_neg h2, wrap_eq (by omega) (by omega)]
      exact ih (i + 1) l[i] (by omega) (by omega)
    refine Ev.ite (fun h1 => hj true (by simp [h1])) (fun h1 => hj _ (by simp; omega))
theorem rows_Rising_f {l : List Int} (hl : l.length < 9223372036854775807) : Ev (fun k => rows_Rising.f k l) (rising 0 l) := by
  unfold rows_Rising.f
  exact rows_Rising_l0 hl l.length 0 0 (by omega) (by omega)
theorem ref_Rising_l0 {l : List Int} (hl : l.length < 9223372036854775807) (d : Nat) : ∀ (i : Nat), l.length - i = d → i ≤ l.length →
    Ev (fun k => backhaulref13_Rising.l0 k l (i : Int)) (rising (if i = 0 then 0 else l.getD (i - 1) 0) (l.drop i)) := by
  induction d with
  | zero =>
    intro i hd hi
    refine Ev.step (fun k => by simp only [backhaulref13_Rising.l0]; rfl) ?_
    refine Ev.neg (by omega) (Ev.ok ?_)
    rw [List.drop_eq_nil_of_le (by omega)]; rfl
  | succ d ih =>
    intro i hd hi
    have h : i < l.length := by omega
    refine Ev.step (fun k => by simp only [backhaulref13_Rising.l0]; rfl) ?_
    refine Ev.pos (by omega) (Ev.pos (by omega) ?_)
    rw [drop_cons h, rd_nat h]
    have ih' := ih (i + 1) (by omega) (by omega)
    rw [if_neg (by omega), Nat.add_sub_cancel, List.getD_eq_getElem?_getD, List.getElem?_eq_getElem h, Option.getD_some] at ih'
    have hj : ∀ b : Bool, (b = true ↔ (l[i] < 1 ∨ l[i] > 999999)) → Ev (fun k => backhaulref13_Rising.j1 k l (i : Int) b) (rising (if i = 0 then 0 else l.getD (i - 1) 0) (l[i] :: l.drop (i + 1))) := by
      intro b hb
      refine Ev.step (fun k => by simp only [backhaulref13_Rising.j1]; rfl) ?_
      simp only [rising]
      refine Ev.ite (fun h1 => ?_) (fun h1 => ?_)
      · rw [if_pos (hb.1 h1)]; exact Ev.ok rfl
      have hn : ¬ (l[i] < 1 ∨ l[i] > 999999) := fun h2 => h1 (hb.2 h2)
      rw [if_neg hn]
      refine Ev.ite (fun h2 => ?_) (fun h2 => ?_)
      · rw [wrap_eq (by omega) (by omega)]
        have hi1 : ((i : Int) - 1) = ((i - 1 : Nat) : Int) := by omega
        have hg : l.getD (i - 1) 0 = l[i - 1] := by simp [List.getD_eq_getElem?_getD, show i - 1 < l.length by omega]
        rw [if_neg (show ¬ i = 0 by omega), hi1, rd_nat (show i - 1 < l.length by omega), rd_nat h, hg]
        refine Ev.pos (by omega) (Ev.pos (by omega) (Ev.pos (by omega) (Ev.pos (by omega) ?_)))
        refine Ev.ite (fun h3 => ?_) (fun h3 => ?_)
        · rw [if_pos h3]; exact Ev.ok rfl
        rw [if_neg h3, wrap_eq (by omega) (by omega)]; exact ih'
      rw [if_pos (show i = 0 by omega), if_neg (by omega), wrap_eq (by omega) (by omega)]; exact ih'
    refine Ev.ite (fun h1 => hj true (by simp [h1])) (fun h1 => hj _ (by simp; omega))
theorem ref_Rising_f {l : List Int} (hl : l.length < 9223372036854775807) : Ev (fun k => backhaulref13_Rising.f k l) (rising 0 l) := by
  unfold backhaulref13_Rising.f
  exact ref_Rising_l0 hl l.length 0 (by omega) (by omega)
def find (l : List Int) (id : Int) : Int × Bool := if id ∈ l then ((l.idxOf id : Int), true) else (if rising 0 l = 0 then (l.countP (fun x => decide (x < id)) : Int) else l.length, false)
theorem rising_zero {last : Int} {l : List Int} (h : rising last l = 0) : (∀ x ∈ l, last < x ∧ 1 ≤ x ∧ x ≤ 999999) ∧ l.Pairwise (· < ·) := by
  induction l generalizing last with
  | nil => simp
  | cons x xs ih =>
    simp only [rising] at h
    split at h
    · cases h
    split at h
    · cases h
    obtain ⟨a, b⟩ := ih h
    refine ⟨fun y hy => ?_, List.pairwise_cons.2 ⟨fun y hy => (a y hy).1, b⟩⟩
    rcases List.mem_cons.1 hy with rfl | hy
    · omega
    have := a y hy; omega
theorem rising_of {last : Int} {l : List Int} (h1 : ∀ x ∈ l, last < x ∧ 1 ≤ x ∧ x ≤ 999999) (h2 : l.Pairwise (· < ·)) : rising last l = 0 := by
  induction l generalizing last with
  | nil => rfl
  | cons x xs ih =>
    have hx := h1 x List.mem_cons_self
    obtain ⟨a, b⟩ := List.pairwise_cons.1 h2
    simp only [rising]
    rw [if_neg (by omega), if_neg (by omega)]
    exact ih (fun y hy => ⟨a y hy, (h1 y (List.mem_cons_of_mem _ hy)).2⟩) b
theorem sorted_get {l : List Int} (h : l.Pairwise (· < ·)) {i j : Nat} (hj : j < l.length) (hij : i < j) : l[i]'(by omega) < l[j] := List.pairwise_iff_getElem.1 h i j _ hj hij
theorem bs_l0 {l : List Int} {t : Int} (hl : l.length < 4611686018427387904) (hs : l.Pairwise (· < ·)) (d : Nat) : ∀ (lo hi : Nat), hi - lo = d → lo ≤ hi → hi ≤ l.length →
    (∀ j (h : j < l.length), j < lo → l[j] < t) → (∀ j (h : j < l.length), hi ≤ j → ¬ l[j] < t) →
    Ev (fun k => slices_BinarySearch_int_int.l0 k l t (l.length : Int) (lo : Int) (hi : Int)) ((l.countP (fun x => decide (x < t)) : Int), decide (t ∈ l)) := by
  induction d using Nat.strongRecOn with
  | _ d ih =>
    intro lo hi hd hlo hhi h1 h2
    refine Ev.step (fun k => by simp only [slices_BinarySearch_int_int.l0]; rfl) ?_
    by_cases hlt : lo < hi
    · have hw : wrap64 ((IntKind.u64.wrap (wrap64 ((lo : Int) + (hi : Int)))) / 2) = (((lo + hi) / 2 : Nat) : Int) := by
        rw [wrap_eq (x := (lo : Int) + (hi : Int)) (by omega) (by omega), u64_eq (x := (lo : Int) + (hi : Int)) (by omega) (by omega), wrap_eq (x := ((lo : Int) + (hi : Int)) / 2) (by omega) (by omega)]; omega
      have hm : (lo + hi) / 2 < l.length := by omega
      rw [hw]
      refine Ev.pos (by omega) (Ev.pos (by omega) (Ev.pos (by omega) ?_))
      rw [rd_nat hm]
      refine Ev.bindc (a := decide (l[(lo + hi) / 2] < t)) (by simp [cmp_Less_int.f, cmp_isNaN_int.f]) ?_
      refine Ev.ite (fun hc => ?_) (fun hc => ?_)
      · have hc' : l[(lo + hi) / 2] < t := by simpa using hc
        rw [wrap_eq (by omega) (by omega)]
        refine ih (hi - ((lo + hi) / 2 + 1)) (by omega) ((lo + hi) / 2 + 1) hi rfl (by omega) hhi (fun j hj hjl => ?_) h2
        rcases Nat.lt_or_ge j ((lo + hi) / 2) with hlt2 | hge
        · have := sorted_get hs hm hlt2; omega
        have : j = (lo + hi) / 2 := by omega
        subst this; exact hc'
      have hc' : ¬ l[(lo + hi) / 2] < t := by simpa using hc
      refine ih ((lo + hi) / 2 - lo) (by omega) lo ((lo + hi) / 2) rfl (by omega) (by omega) h1 (fun j hj hjl => ?_)
      rcases Nat.lt_or_ge ((lo + hi) / 2) j with hlt2 | hge
      · have := sorted_get hs hj hlt2; omega
      have : j = (lo + hi) / 2 := by omega
      subst this; exact hc'
    have he : lo = hi := by omega
    subst he
    have hcount : l.countP (fun x => decide (x < t)) = lo := countP_split hhi (fun j hj hjl => by simpa using h1 j hj hjl) (fun j hj hjl => by simpa using h2 j hj hjl)
    rw [hcount]
    refine Ev.neg (by omega) ?_
    refine Ev.ite (fun hc => ?_) (fun hc => ?_)
    · have hlo' : lo < l.length := by omega
      refine Ev.pos (by omega) (Ev.pos (by omega) ?_)
      rw [rd_nat hlo']
      refine Ev.ite (fun he => ?_) (fun he => ?_)
      · refine Ev.ok ?_
        have : t ∈ l := he ▸ List.getElem_mem hlo'
        simp [this]
      refine Ev.bindc (a := false) (by simp [slices_isNaN_int.f]) ?_
      refine Ev.neg (by simp) (Ev.ok ?_)
      have : ¬ t ∈ l := by
        intro hmem
        obtain ⟨j, hj, hjt⟩ := List.mem_iff_getElem.1 hmem
        rcases Nat.lt_trichotomy j lo with h | h | h
        · have := h1 j hj h; omega
        · subst h; exact he hjt
        have := sorted_get hs hj h; have := h2 lo hlo' (Nat.le_refl _); omega
      simp [this]
    refine Ev.ok ?_
    have : ¬ t ∈ l := by
      intro hmem
      obtain ⟨j, hj, hjt⟩ := List.mem_iff_getElem.1 hmem
      have := h1 j hj (by omega); omega
    simp [this]
theorem bs_f {l : List Int} {t : Int} (hl : l.length < 4611686018427387904) (hs : l.Pairwise (· < ·)) :
    Ev (fun k => slices_BinarySearch_int_int.f k l t) ((l.countP (fun x => decide (x < t)) : Int), decide (t ∈ l)) := by
  unfold slices_BinarySearch_int_int.f
  exact bs_l0 hl hs l.length 0 l.length (by omega) (by omega) (by omega) (fun j hj h => by omega) (fun j hj h => by omega)
theorem index_l0 {l : List Int} {t : Int} (hl : l.length < 9223372036854775807) (d : Nat) : ∀ (i : Nat), l.length - i = d → i ≤ l.length → (∀ j (h : j < l.length), j < i → l[j] ≠ t) →
    Ev (fun k => slices_Index_int_int.l0 k l t (l.length : Int) (i : Int)) (if t ∈ l then (l.idxOf t : Int) else -1) := by
  induction d with
  | zero =>
    intro i hd hi h1
    refine Ev.step (fun k => by simp only [slices_Index_int_int.l0]; rfl) ?_
    refine Ev.neg (by omega) (Ev.ok ?_)
    have : ¬ t ∈ l := by
      intro hmem
      obtain ⟨j, hj, hjt⟩ := List.mem_iff_getElem.1 hmem
      exact h1 j hj (by omega) hjt
    rw [if_neg this]
  | succ d ih =>
    intro i hd hi h1
    have h : i < l.length := by omega
    refine Ev.step (fun k => by simp only [slices_Index_int_int.l0]; rfl) ?_
    refine Ev.pos (by omega) (Ev.pos (by omega) (Ev.pos (by omega) ?_))
    rw [rd_nat h]
    refine Ev.ite (fun he => Ev.ok ?_) (fun he => ?_)
    · rw [if_pos (he ▸ List.getElem_mem h)]
      rw [idxOf_first h he.symm h1]
    rw [wrap_eq (by omega) (by omega)]
    exact ih (i + 1) (by omega) (by omega) (fun j hj hjl => by
      rcases Nat.lt_or_ge j i with h2 | h2
      · exact h1 j hj h2
      have : j = i := by omega
      subst this; exact fun e => he e.symm)
theorem index_f {l : List Int} {t : Int} (hl : l.length < 9223372036854775807) : Ev (fun k => slices_Index_int_int.f k l t) (if t ∈ l then (l.idxOf t : Int) else -1) := by
  unfold slices_Index_int_int.f
  exact index_l0 hl l.length 0 (by omega) (by omega) (fun j hj h => by omega)
theorem idxOf_sorted {l : List Int} {t : Int} (hs : l.Pairwise (· < ·)) (hm : t ∈ l) : l.idxOf t = l.countP (fun x => decide (x < t)) := by
  obtain ⟨i, hi, he⟩ := List.mem_iff_getElem.1 hm
  have h1 : ∀ j (h : j < l.length), j < i → l[j] < t := fun j hj h => he ▸ sorted_get hs hi h
  rw [idxOf_first hi he (fun j hj h => by have := h1 j hj h; omega)]
  refine (countP_split (by omega) (fun j hj h => by simpa using h1 j hj h) (fun j hj h => ?_)).symm
  have : t ≤ l[j] := by
    rcases Nat.lt_or_ge i j with h2 | h2
    · have := sorted_get hs hj h2; omega
    have : j = i := by omega
    subst this; omega
  simpa using this
theorem rows_Find_f {l : List Int} {id : Int} (hl : l.length < 4611686018427387904) : Ev (fun k => rows_Find.f k l id) (find l id) := by
  unfold rows_Find.f find
  refine Ev.bind (rows_Rising_f (by omega)) (Ev.ite (fun h => ?_) (fun h => ?_))
  · have hs := (rising_zero h).2
    refine Ev.bind (bs_f (by omega) hs) (Ev.ok ?_)
    by_cases hm : id ∈ l
    · simp [hm, idxOf_sorted hs hm]
    simp [hm, h]
  refine Ev.bind (index_f (by omega)) ?_
  by_cases hm : id ∈ l
  · rw [if_pos hm, if_pos hm]
    refine Ev.pos (by omega) (Ev.ok rfl)
  rw [if_neg hm, if_neg hm, if_neg h]
  exact Ev.neg (by omega) (Ev.ok rfl)
end Go.Proofs.Ytdpcgigjlcpofaa.Q
set_option linter.unusedSimpArgs false
namespace Go.Proofs.Ytdpcgigjlcpofaa.Q
open Go.RowKit Ytdpcgigjlcpofaa.F YtdpcgigjlcpofaaX YtdpcgigjlcpofaaW.PrintWords YtdpcgigjlcpofaaW.PrintLast YtdpcgigjlcpofaaW.PrintMore
abbrev PrT := S146
def ltP (p q : PrT) : Prop := lt8 p.f0 q.f0 ∨ (p.f0 = q.f0 ∧ p.f1 < q.f1)
theorem ltP_irrefl (p : PrT) : ¬ ltP p p := fun h => h.elim (lt8_irrefl _) (fun h => Int.lt_irrefl _ h.2)
theorem ltP_trans {p q r : PrT} (h : ltP p q) (g : ltP q r) : ltP p r := by
  rcases h with h | ⟨h1, h2⟩ <;> rcases g with g | ⟨g1, g2⟩
  · exact .inl (lt8_trans h g)
  · exact .inl (g1 ▸ h)
  · exact .inl (h1 ▸ g)
  exact .inr ⟨h1.trans g1, by omega⟩
theorem prT_ext {p q : PrT} (h0 : p.f0 = q.f0) (h1 : p.f1 = q.f1) : p = q := by
  cases p; cases q
  simp only at h0 h1
  rw [h0, h1]
theorem ltP_total {p q : PrT} (h : ¬ ltP p q) (g : ¬ ltP q p) : p = q := by
  have e : p.f0 = q.f0 := lt8_total (fun x => h (.inl x)) (fun x => g (.inl x))
  refine prT_ext e ?_
  have h1 : ¬ p.f1 < q.f1 := fun x => h (.inr ⟨e, x⟩)
  have h2 : ¬ q.f1 < p.f1 := fun x => g (.inr ⟨e.symm, x⟩)
  omega
theorem sorted_ext : ∀ (l m : List PrT), l.Pairwise ltP → m.Pairwise ltP → (∀ p, p ∈ l ↔ p ∈ m) → l = m
  | [], [], _, _, _ => rfl
  | [], b :: m, _, _, h => by have := (h b).2 List.mem_cons_self; simp at this
  | a :: l, [], _, _, h => by have := (h a).1 List.mem_cons_self; simp at this
  | a :: l, b :: m, hl, hm, h => by
    obtain ⟨l1, l2⟩ := List.pairwise_cons.1 hl
    obtain ⟨m1, m2⟩ := List.pairwise_cons.1 hm
    have e : a = b := by
      rcases List.mem_cons.1 ((h a).1 List.mem_cons_self) with e | e
      · exact e
      rcases List.mem_cons.1 ((h b).2 List.mem_cons_self) with g | g
      · exact g.symm
      exact (ltP_irrefl a (ltP_trans (l1 b g) (m1 a e))).elim
    subst e
    rw [sorted_ext l m l2 m2 fun p => ⟨fun hp => ?_, fun hp => ?_⟩]
    · rcases List.mem_cons.1 ((h p).1 (List.mem_cons_of_mem _ hp)) with e | e
      · exact (ltP_irrefl a (e ▸ l1 p hp)).elim
      exact e
    rcases List.mem_cons.1 ((h p).2 (List.mem_cons_of_mem _ hp)) with e | e
    · exact (ltP_irrefl a (e ▸ m1 p hp)).elim
    exact e
def pairsOf : List ByteArray → List (List Int) → List PrT
  | k :: ks, l :: is => l.map (fun i => (⟨k, i⟩ : PrT)) ++ pairsOf ks is
  | _, _ => []
def okI (ks : List ByteArray) (is : List (List Int)) : Prop := rowG none ks = 0 ∧ ks.length = is.length ∧ ∀ l ∈ is, l ≠ [] ∧ rising 0 l = 0
def sumL (is : List (List Int)) : Nat := (is.map List.length).sum
theorem pairs_append : ∀ (A : List ByteArray) (C : List (List Int)) {B : List ByteArray} {D : List (List Int)}, A.length = C.length → pairsOf (A ++ B) (C ++ D) = pairsOf A C ++ pairsOf B D
  | [], [], _, _, _ => rfl
  | [], _ :: _, _, _, h => by simp at h
  | _ :: _, [], _, _, h => by simp at h
  | a :: A, c :: C, B, D, h => by
    simp only [List.length_cons] at h
    simp only [List.cons_append, pairsOf, pairs_append A C (by omega), List.append_assoc]
theorem pairs_key {p : PrT} : ∀ (A : List ByteArray) (C : List (List Int)), p ∈ pairsOf A C → p.f0 ∈ A
  | [], _, h => by simp [pairsOf] at h
  | a :: A, [], h => by simp [pairsOf] at h
  | a :: A, c :: C, h => by
    simp only [pairsOf, List.mem_append, List.mem_map] at h
    rcases h with ⟨i, _, rfl⟩ | h
    · exact List.mem_cons_self
    exact List.mem_cons_of_mem _ (pairs_key A C h)
theorem pairs_len : ∀ (A : List ByteArray) (C : List (List Int)), A.length = C.length → (pairsOf A C).length = sumL C
  | [], [], _ => rfl
  | [], _ :: _, h => by simp at h
  | _ :: _, [], h => by simp at h
  | a :: A, c :: C, h => by
    simp only [List.length_cons] at h
    have := pairs_len A C (by omega)
    simp only [pairsOf, List.length_append, List.length_map, sumL, List.map_cons, List.sum_cons] at this ⊢
    omega
theorem pairs_sorted : ∀ (A : List ByteArray) (C : List (List Int)), A.Pairwise lt8 → (∀ l ∈ C, l.Pairwise (· < ·)) → (pairsOf A C).Pairwise ltP
  | [], _, _, _ => by simp [pairsOf]
  | _ :: _, [], _, _ => by simp [pairsOf]
  | a :: A, c :: C, hA, hC => by
    obtain ⟨a1, a2⟩ := List.pairwise_cons.1 hA
    simp only [pairsOf]
    refine List.pairwise_append.2 ⟨?_, pairs_sorted A C a2 (fun l hl => hC l (List.mem_cons_of_mem _ hl)), fun p hp q hq => ?_⟩
    · rw [List.pairwise_map]
      exact (hC c List.mem_cons_self).imp fun h => .inr ⟨rfl, h⟩
    obtain ⟨i, _, rfl⟩ := List.mem_map.1 hp
    exact .inl (a1 _ (pairs_key A C hq))
theorem ok_sorted {ks : List ByteArray} {is : List (List Int)} (h : okI ks is) : (pairsOf ks is).Pairwise ltP :=
  pairs_sorted ks is (rowG_zero h.1).2.1 (fun l hl => (rising_zero (h.2.2 l hl).2).2)
theorem ok_part {A B : List ByteArray} {C D : List (List Int)} {s : ByteArray} {l : List Int} (hl : A.length = C.length) (h : okI (A ++ s :: B) (C ++ l :: D)) :
    pairsOf (A ++ s :: B) (C ++ l :: D) = pairsOf A C ++ (l.map (fun i => (⟨s, i⟩ : PrT)) ++ pairsOf B D) ∧ s ∉ A ∧ s ∉ B := by
  refine ⟨pairs_append A C hl, fun g => ?_, fun g => ?_⟩
  · have := (rowG_zero h.1).2.1
    rw [List.pairwise_append] at this
    exact lt8_irrefl s (this.2.2 s g s List.mem_cons_self)
  have := (rowG_zero h.1).2.1
  rw [List.pairwise_append] at this
  exact lt8_irrefl s ((List.pairwise_cons.1 this.2.1).1 s g)
theorem mem_part {A B : List ByteArray} {C D : List (List Int)} {s : ByteArray} {l : List Int} (hl : A.length = C.length) (h : okI (A ++ s :: B) (C ++ l :: D)) (p : PrT) :
    p ∈ pairsOf (A ++ s :: B) (C ++ l :: D) ↔ (p.f0 = s ∧ p.f1 ∈ l) ∨ (p.f0 ≠ s ∧ (p ∈ pairsOf A C ∨ p ∈ pairsOf B D)) := by
  obtain ⟨e, hA, hB⟩ := ok_part hl h
  rw [e]
  simp only [List.mem_append, List.mem_map]
  constructor
  · rintro (g | ⟨i, hi, rfl⟩ | g)
    · exact .inr ⟨fun q => hA (q ▸ pairs_key _ _ g), .inl g⟩
    · exact .inl ⟨rfl, hi⟩
    exact .inr ⟨fun q => hB (q ▸ pairs_key _ _ g), .inr g⟩
  rintro (⟨g1, g2⟩ | ⟨_, g | g⟩)
  · exact .inr (.inl ⟨p.f1, g2, prT_ext g1.symm rfl⟩)
  · exact .inl g
  exact .inr (.inr g)
theorem ok_set {A B : List ByteArray} {C D : List (List Int)} {s : ByteArray} {l l' : List Int} (h : okI (A ++ s :: B) (C ++ l :: D)) (h' : l' ≠ [] ∧ rising 0 l' = 0) : okI (A ++ s :: B) (C ++ l' :: D) := by
  refine ⟨h.1, ?_, fun x hx => ?_⟩
  · have := h.2.1
    simp only [List.length_append, List.length_cons] at this ⊢
    exact this
  rcases List.mem_append.1 hx with g | g
  · exact h.2.2 x (List.mem_append.2 (.inl g))
  rcases List.mem_cons.1 g with rfl | g
  · exact h'
  exact h.2.2 x (List.mem_append.2 (.inr (List.mem_cons_of_mem _ g)))
theorem ok_cut {A B : List ByteArray} {C D : List (List Int)} {s : ByteArray} {l : List Int} (h : okI (A ++ s :: B) (C ++ l :: D)) : okI (A ++ B) (C ++ D) := by
  obtain ⟨h1, h2, _⟩ := rowG_zero h.1
  refine ⟨rowG_of (fun x hx => h1 x ?_) ?_ (fun q e => by cases e), ?_, fun x hx => h.2.2 x ?_⟩
  · rcases List.mem_append.1 hx with g | g
    · exact List.mem_append.2 (.inl g)
    exact List.mem_append.2 (.inr (List.mem_cons_of_mem _ g))
  · exact h2.sublist (List.Sublist.append (List.Sublist.refl _) (List.sublist_cons_self _ _))
  · have := h.2.1
    simp only [List.length_append, List.length_cons] at this ⊢
    omega
  rcases List.mem_append.1 hx with g | g
  · exact List.mem_append.2 (.inl g)
  exact List.mem_append.2 (.inr (List.mem_cons_of_mem _ g))
theorem ok_new {A B : List ByteArray} {C D : List (List Int)} {s : ByteArray} {l' : List Int} (h : okI (A ++ B) (C ++ D)) (hs : checkS s = 0) (hA : ∀ x ∈ A, lt8 x s) (hB : ∀ x ∈ B, lt8 s x) (h' : l' ≠ [] ∧ rising 0 l' = 0) : okI (A ++ s :: B) (C ++ l' :: D) := by
  obtain ⟨h1, h2, _⟩ := rowG_zero h.1
  obtain ⟨p1, p2, p3⟩ := List.pairwise_append.1 h2
  refine ⟨rowG_of (fun x hx => ?_) (List.pairwise_append.2 ⟨p1, List.pairwise_cons.2 ⟨hB, p2⟩, fun x hx y hy => ?_⟩) (fun q e => by cases e), ?_, fun x hx => ?_⟩
  · rcases List.mem_append.1 hx with g | g
    · exact h1 x (List.mem_append.2 (.inl g))
    rcases List.mem_cons.1 g with rfl | g
    · exact hs
    exact h1 x (List.mem_append.2 (.inr g))
  · rcases List.mem_cons.1 hy with rfl | g
    · exact hA x hx
    exact p3 x hx y g
  · have := h.2.1
    simp only [List.length_append, List.length_cons] at this ⊢
    omega
  rcases List.mem_append.1 hx with g | g
  · exact h.2.2 x (List.mem_append.2 (.inl g))
  rcases List.mem_cons.1 g with rfl | g
  · exact h'
  exact h.2.2 x (List.mem_append.2 (.inr g))
theorem mem_cut {A B : List ByteArray} {C D : List (List Int)} (hl : A.length = C.length) (p : PrT) : p ∈ pairsOf (A ++ B) (C ++ D) ↔ p ∈ pairsOf A C ∨ p ∈ pairsOf B D := by
  rw [pairs_append A C hl, List.mem_append]
theorem rising_put {l : List Int} {id : Int} (h : rising 0 l = 0) (hn : id ∉ l) (h0 : 1 ≤ id ∧ id ≤ 999999) : rising 0 (l.take (l.countP (fun x => decide (x < id))) ++ id :: l.drop (l.countP (fun x => decide (x < id)))) = 0 := by
  obtain ⟨h1, h2⟩ := rising_zero h
  have key : ∀ j (hj : j < l.length), (l[j] < id ↔ j < l.countP (fun x => decide (x < id))) := by
    intro j hj
    have hsp : l.countP (fun x => decide (x < id)) = (l.take (j + 1)).countP (fun x => decide (x < id)) + (l.drop (j + 1)).countP (fun x => decide (x < id)) := by
      rw [← List.countP_append, List.take_append_drop]
    constructor
    · intro hlt
      have : (l.take (j + 1)).countP (fun x => decide (x < id)) = (l.take (j + 1)).length := by
        rw [List.countP_eq_length]
        intro x hx
        obtain ⟨q, hq, rfl⟩ := List.mem_iff_getElem.1 hx
        rw [List.length_take] at hq
        rw [List.getElem_take]
        rcases Nat.lt_or_ge q j with g | g
        · have := sorted_get h2 hj g
          exact decide_eq_true (by omega)
        have : q = j := by omega
        subst this
        exact decide_eq_true hlt
      rw [hsp, this, List.length_take]
      omega
    intro hlt
    refine Classical.byContradiction fun hge => ?_
    have hd : (l.drop j).countP (fun x => decide (x < id)) = 0 := by
      rw [List.countP_eq_zero]
      intro x hx
      obtain ⟨q, hq, rfl⟩ := List.mem_iff_getElem.1 hx
      rw [List.length_drop] at hq
      rw [List.getElem_drop]
      rcases Nat.eq_zero_or_pos q with rfl | g
      · simpa using hge
      have := sorted_get h2 (i := j) (j := j + q) (by omega) (by omega)
      simp
      omega
    have hsp2 : l.countP (fun x => decide (x < id)) = (l.take j).countP (fun x => decide (x < id)) + (l.drop j).countP (fun x => decide (x < id)) := by
      rw [← List.countP_append, List.take_append_drop]
    have := List.countP_le_length (p := fun x => decide (x < id)) (l := l.take j)
    rw [List.length_take] at this
    omega
  refine rising_of (fun x hx => ?_) (List.pairwise_append.2 ⟨h2.sublist (List.take_sublist _ _), List.pairwise_cons.2 ⟨fun x hx => ?_, h2.sublist (List.drop_sublist _ _)⟩, fun x hx y hy => ?_⟩)
  · rcases List.mem_append.1 hx with g | g
    · have := h1 x (List.mem_of_mem_take g); omega
    rcases List.mem_cons.1 g with rfl | g
    · omega
    have := h1 x (List.mem_of_mem_drop g); omega
  · obtain ⟨q, hq, rfl⟩ := List.mem_iff_getElem.1 hx
    rw [List.length_drop] at hq
    rw [List.getElem_drop]
    have : ¬ l[l.countP (fun x => decide (x < id)) + q] < id := fun g => absurd ((key (l.countP (fun x => decide (x < id)) + q) (by omega)).1 g) (by omega)
    have hne : l[l.countP (fun x => decide (x < id)) + q] ≠ id := fun e => hn (e ▸ List.getElem_mem _)
    omega
  obtain ⟨q, hq, rfl⟩ := List.mem_iff_getElem.1 hx
  rw [List.length_take] at hq
  rw [List.getElem_take]
  have hlt := (key q (by omega)).2 (by omega)
  rcases List.mem_cons.1 hy with rfl | g
  · exact hlt
  obtain ⟨r, hr, rfl⟩ := List.mem_iff_getElem.1 g
  rw [List.length_drop] at hr
  rw [List.getElem_drop]
  exact sorted_get h2 (by omega) (by omega)
theorem mem_put {l : List Int} {id x : Int} (n : Nat) : x ∈ l.take n ++ id :: l.drop n ↔ x = id ∨ x ∈ l := by
  rw [List.mem_append, List.mem_cons]
  conv => rhs; rw [← List.take_append_drop n l, List.mem_append]
  constructor
  · rintro (h | h | h)
    · exact .inr (.inl h)
    · exact .inl h
    exact .inr (.inr h)
  rintro (h | h | h)
  · exact .inr (.inl h)
  · exact .inl h
  exact .inr (.inr h)
theorem rising_cut {l : List Int} (n : Nat) (h : rising 0 l = 0) : rising 0 (l.take n ++ l.drop (n + 1)) = 0 := by
  obtain ⟨h1, h2⟩ := rising_zero h
  have hs : (l.take n ++ l.drop (n + 1)).Sublist l := by
    conv => rhs; rw [← List.take_append_drop n l]
    refine List.Sublist.append (List.Sublist.refl _) ?_
    rw [← List.drop_drop]
    exact List.drop_sublist _ _
  exact rising_of (fun x hx => h1 x (hs.subset hx)) (h2.sublist hs)
theorem mem_cutI {l : List Int} {n : Nat} (h : rising 0 l = 0) (hn : n < l.length) (x : Int) : x ∈ l.take n ++ l.drop (n + 1) ↔ x ∈ l ∧ x ≠ l[n] := by
  obtain ⟨_, h2⟩ := rising_zero h
  have e : l = l.take n ++ l[n] :: l.drop (n + 1) := by rw [← List.drop_eq_getElem_cons hn, List.take_append_drop]
  have hp := h2
  rw [e] at hp
  obtain ⟨p1, p2, p3⟩ := List.pairwise_append.1 hp
  have p4 := (List.pairwise_cons.1 p2).1
  rw [List.mem_append]
  constructor
  · rintro (g | g)
    · exact ⟨List.mem_of_mem_take g, fun q => by have := p3 x g l[n] List.mem_cons_self; omega⟩
    exact ⟨List.mem_of_mem_drop g, fun q => by have := p4 x g; omega⟩
  rintro ⟨g, q⟩
  rw [e] at g
  rcases List.mem_append.1 g with g | g
  · exact .inl g
  rcases List.mem_cons.1 g with g | g
  · exact (q g).elim
  exact .inr g
theorem ref01_class_f (r : Int) : backhaulref01_Class.f 20 r = some (clsI r) := by
  unfold backhaulref01_Class.f clsI
  simp only [backhaulref01_Class.j0, backhaulref01_Class.j1]
  (repeat' split) <;> simp_all <;> omega
theorem ref01_class_ev (r : Int) : Ev (fun k => backhaulref01_Class.f k r) (clsI r) := Ev.of (fun k => backhaulref01_Class.mono r k) (ref01_class_f r)
def foldRest (last : Int) (t l : List UInt8) : ByteArray × Int := if okL last (runes l) = true then (bytesB (t ++ l.map up8), 0) else (⟨#[]⟩, 9)
theorem cls_45 {b : UInt8} : clsI b.toNat = 3 ↔ b = 45 := by
  have h45 : (45 : UInt8).toNat = 45 := rfl
  have hn := b.toNat_lt
  constructor
  · intro h
    apply UInt8.toNat_inj.1
    unfold clsI at h
    (repeat' split at h) <;> omega
  rintro rfl; decide
theorem okL_iff {last : Int} {b : UInt8} {l : List UInt8} : okL last (runes (b :: l)) = true ↔ (clsI b.toNat ≠ 0 ∧ ¬ (b = 45 ∧ last = 3)) ∧ okL (clsI b.toNat) (runes l) = true := by
  show (mayB (clsI b.toNat) last && okL (clsI b.toNat) (runes l)) = true ↔ _
  rw [Bool.and_eq_true]
  have : mayB (clsI b.toNat) last = true ↔ clsI b.toNat ≠ 0 ∧ ¬ (b = 45 ∧ last = 3) := by
    unfold mayB
    rw [← cls_45]
    simp only [Bool.and_eq_true, Bool.or_eq_true, bne_iff_ne]
    omega
  rw [this]
theorem bt_nat {s : ByteArray} {i : Nat} (h : i < s.data.toList.length) : bt s (i : Int) = ((s.data.toList[i]).toNat : Int) := bt_data s i (by rw [← size_data]; exact h)
theorem bt_45 {s : ByteArray} {i : Nat} (h : i < s.data.toList.length) : bt s (i : Int) = 45 ↔ s.data.toList[i] = 45 := by
  rw [bt_nat h]
  constructor
  · intro x; apply UInt8.toNat_inj.1; show _ = 45; omega
  intro x; rw [x]; rfl
theorem ref01_fold_j2 {s : ByteArray} {i : Nat} {t : List UInt8} {b : UInt8} {r : ByteArray × Int} (ht : t.length < 100) (hi : i < 100) (h : Ev (fun k => backhaulref01_Fold.l0 k s (natI (t ++ [up8 b])) (((i + 1 : Nat)) : Int)) r) : Ev (fun k => backhaulref01_Fold.j2 k s (natI t) (i : Int) (b.toNat : Int) false) r := by
  have hl : (natI t).length = t.length := by simp [natI]
  have hn := b.toNat_lt
  have e : ∀ x : Int, x = ((up8 b).toNat : Int) → natI t ++ [x] = natI (t ++ [up8 b]) := by rintro x rfl; simp [natI]
  refine Ev.step (fun k => by simp only [backhaulref01_Fold.j2]; rfl) ?_
  rw [wrap_eq (by omega) (by omega)]
  refine Ev.neg (by decide) (Ev.ite (fun h1 => Ev.ite (fun h2 => Ev.pos (by omega) ?_) (fun h2 => Ev.pos (by omega) ?_)) (fun h1 => Ev.pos (by omega) ?_))
  · rw [e _ (by rw [up8_toNat]; unfold upI; rw [if_pos (by omega)]; omega)]; exact h
  · rw [e _ (by rw [up8_toNat]; unfold upI; rw [if_neg (by omega)])]; exact h
  rw [e _ (by rw [up8_toNat]; unfold upI; rw [if_neg (by omega)])]; exact h
theorem ref01_fold_bad {s : ByteArray} {i c : Int} {o : List Int} {last : Int} {t l : List UInt8} (h : ¬ okL last (runes l) = true) : Ev (fun k => backhaulref01_Fold.j2 k s o i c true) (foldRest last t l) := by
  refine Ev.step (fun k => by simp only [backhaulref01_Fold.j2]; rfl) ?_
  refine Ev.pos trivial (Ev.ok ?_)
  unfold foldRest
  rw [if_neg h]
theorem ref01_fold_l0 {s : ByteArray} (hs : s.size ≤ 16) (h0 : ∀ h : 0 < s.data.toList.length, s.data.toList[0] ≠ 45) (d : Nat) : ∀ (i : Nat) (t : List UInt8) (last : Int), s.size - i = d → i ≤ s.size → t.length = i → (i = 0 ∨ ∃ h : i - 1 < s.data.toList.length, last = clsI (s.data.toList[i - 1]).toNat) → Ev (fun k => backhaulref01_Fold.l0 k s (natI t) (i : Int)) (foldRest last t (s.data.toList.drop i)) := by
  have hsz := size_data s
  induction d with
  | zero =>
    intro i t last hd hi ht hla
    refine Ev.step (fun k => by simp only [backhaulref01_Fold.l0]; rfl) ?_
    refine Ev.neg (by omega) (Ev.ok ?_)
    rw [List.drop_eq_nil_of_le (by omega)]
    unfold foldRest
    rw [if_pos (show okL last (runes []) = true from rfl), strOfNums_nat, List.map_nil, List.append_nil]
  | succ d ih =>
    intro i t last hd hi ht hla
    have h : i < s.data.toList.length := by omega
    have hb : bt s (i : Int) = ((s.data.toList[i]).toNat : Int) := bt_nat h
    have hn := (s.data.toList[i]).toNat_lt
    have hw : wrap32 (((s.data.toList[i]).toNat : Int)) = ((s.data.toList[i]).toNat : Int) := by unfold wrap32; omega
    refine Ev.step (fun k => by simp only [backhaulref01_Fold.l0]; rfl) ?_
    refine Ev.pos (by omega) (Ev.pos (by omega) ?_)
    rw [drop_cons h, hb, hw]
    have hd1 : s.size - (i + 1) = d := by clear hb hw ih hla hn ht; omega
    have hd2 : i + 1 ≤ s.size := by clear hb hw ih hla hn ht; omega
    have good : okL last (runes (s.data.toList[i] :: s.data.toList.drop (i + 1))) = okL (clsI (s.data.toList[i]).toNat) (runes (s.data.toList.drop (i + 1))) → Ev (fun k => backhaulref01_Fold.j2 k s (natI t) (i : Int) ((s.data.toList[i]).toNat : Int) false) (foldRest last t (s.data.toList[i] :: s.data.toList.drop (i + 1))) := by
      intro e
      refine ref01_fold_j2 (by omega) (by omega) (Ev.eq (ih (i + 1) (t ++ [up8 s.data.toList[i]]) (clsI (s.data.toList[i]).toNat) hd1 hd2 (by simp [ht]) (.inr ⟨by simpa using h, by simp⟩)) ?_)
      unfold foldRest
      rw [e, List.map_cons, List.append_assoc]
      rfl
    have eq_of : (clsI (s.data.toList[i]).toNat ≠ 0 ∧ ¬ (s.data.toList[i] = 45 ∧ last = 3)) → okL last (runes (s.data.toList[i] :: s.data.toList.drop (i + 1))) = okL (clsI (s.data.toList[i]).toNat) (runes (s.data.toList.drop (i + 1))) := by
      intro hg
      rw [Bool.eq_iff_iff, okL_iff]
      exact ⟨fun x => x.2, fun x => ⟨hg, x⟩⟩
    refine Ev.bind (ref01_class_ev _) (Ev.ite (fun h1 => ?_) (fun h1 => ?_))
    · exact ref01_fold_bad (fun x => (okL_iff.1 x).1.1 h1)
    refine Ev.ite (fun h2 => ?_) (fun h2 => ?_)
    · have h45 : s.data.toList[i] = 45 := by apply UInt8.toNat_inj.1; show _ = 45; omega
      have hi1 : 1 ≤ i := by
        rcases Nat.eq_zero_or_pos i with h' | h'
        · subst h'; exact absurd h45 (h0 h)
        exact h'
      obtain ⟨hp, hl⟩ := hla.resolve_left (by omega)
      rw [wrap_eq (x := (i : Int) - 1) (by omega) (by omega), show (i : Int) - 1 = ((i - 1 : Nat) : Int) by omega]
      refine Ev.pos (by omega) (Ev.pos (by omega) ?_)
      by_cases h3 : s.data.toList[i - 1] = 45
      · rw [show (bt s ((i - 1 : Nat) : Int) == 45) = true from beq_iff_eq.2 ((bt_45 hp).2 h3)]
        exact ref01_fold_bad (fun x => (okL_iff.1 x).1.2 ⟨h45, by rw [hl]; exact cls_45.2 h3⟩)
      rw [show (bt s ((i - 1 : Nat) : Int) == 45) = false from beq_eq_false_iff_ne.2 (fun x => h3 ((bt_45 hp).1 x))]
      exact good (eq_of ⟨h1, fun x => h3 (cls_45.1 (by rw [← hl]; exact x.2))⟩)
    exact good (eq_of ⟨h1, fun x => h2 (by rw [x.1]; rfl)⟩)
theorem last_get {l : List UInt8} (h : l.length - 1 < l.length) : l.getLast? = some (l[l.length - 1]) := by
  rw [List.getLast?_eq_getElem?, List.getElem?_eq_getElem h]
theorem ref01_fold_f (s : ByteArray) (hs : s.size < 1099511627776) : Ev (fun k => backhaulref01_Fold.f k s) (foldS s) := by
  have hsz := size_data s
  have bad : ¬ serB s.data.toList → Ev (fun k => backhaulref01_Fold.j0 k s true) (foldS s) := by
    intro h
    refine Ev.step (fun k => by simp only [backhaulref01_Fold.j0]; rfl) ?_
    refine Ev.pos trivial (Ev.ok ?_)
    rw [foldS_eq, if_neg h]
  unfold backhaulref01_Fold.f
  refine Ev.ite (fun h => bad (fun x => by have := x.1; omega)) (fun h => Ev.ite (fun h1 => bad (fun x => by have := x.2.1; omega)) (fun h1 => Ev.pos (by omega) ?_))
  have hl0 : 0 < s.data.toList.length := by omega
  have e0 : bt s 0 = 45 ↔ s.data.toList[0] = 45 := bt_45 (i := 0) hl0
  refine Ev.ite (fun h2 => bad (fun x => ?_)) (fun h2 => ?_)
  · have h3 := x.2.2.2
    have h4 : s.data.toList = s.data.toList[0] :: s.data.toList.drop 1 := by
      have := drop_cons (l := s.data.toList) (i := 0) hl0
      simpa using this
    rw [h4] at h3
    exact (okL_iff.1 h3).1.2 ⟨e0.1 h2, rfl⟩
  have hlast : s.data.toList.length - 1 < s.data.toList.length := by omega
  rw [wrap_eq (by omega) (by omega), show (s.size : Int) - 1 = ((s.data.toList.length - 1 : Nat) : Int) by omega]
  refine Ev.pos (by omega) (Ev.pos (by omega) ?_)
  by_cases h3 : s.data.toList[s.data.toList.length - 1] = 45
  · rw [show (bt s ((s.data.toList.length - 1 : Nat) : Int) == 45) = true from beq_iff_eq.2 ((bt_45 hlast).2 h3)]
    exact bad (fun x => x.2.2.1 (by rw [last_get hlast, h3]))
  rw [show (bt s ((s.data.toList.length - 1 : Nat) : Int) == 45) = false from beq_eq_false_iff_ne.2 (fun x => h3 ((bt_45 hlast).1 x))]
  refine Ev.step (fun k => by simp only [backhaulref01_Fold.j0]; rfl) ?_
  refine Ev.neg (by decide) (Ev.eq (ref01_fold_l0 (by omega) (fun _ x => h2 (e0.2 x)) s.size 0 [] 3 (by omega) (by omega) rfl (.inl rfl)) ?_)
  rw [List.drop_zero, foldS_eq]
  unfold foldRest
  by_cases h4 : okL 3 (runes s.data.toList) = true
  · rw [if_pos h4, if_pos ⟨by omega, by omega, by rw [last_get hlast]; intro x; exact h3 (Option.some.inj x), h4⟩]; rfl
  rw [if_neg h4, if_neg (fun x => h4 x.2.2.2)]
theorem check_toList (s : ByteArray) : (if (foldS s).2 = 0 then (if (foldS s).1.toList = s.toList then some (0 : Int) else some 9) else some 9) = some (checkS s) := by
  unfold checkS
  by_cases h1 : (foldS s).2 = 0
  · rw [if_pos h1]
    by_cases h2 : (foldS s).1.toList = s.toList
    · rw [if_pos h2, if_pos ⟨h1, bytes_ext.1 h2⟩]
    rw [if_neg h2, if_neg (fun x => h2 (by rw [x.2]))]
  rw [if_neg h1, if_neg (fun x => h1 x.1)]
theorem ref01_check_f (s : ByteArray) (hs : s.size < 1099511627776) : Ev (fun k => backhaulref01_Check.f k s) (checkS s) := by
  unfold backhaulref01_Check.f
  exact Ev.bind (ref01_fold_f s hs) (Ev.const (check_toList s))
theorem serial_check_f (s : ByteArray) (hs : s.size < 9223372036854775807) : serial_Check.f s = some (checkS s) := by
  unfold serial_Check.f serial_Fold.f checkS
  rw [if_pos hs, Option.bind_some]
  have e : (foldS s).1.toList = s.toList ↔ (foldS s).1 = s := by
    constructor
    · intro h
      rw [ByteArray.toList_eq, ByteArray.toList_eq] at h
      generalize (foldS s).1 = a at *
      cases a; cases s
      simpa [Array.toList_inj] using h
    intro h; rw [h]
  by_cases h1 : (foldS s).2 = 0
  · rw [if_pos h1]
    by_cases h2 : (foldS s).1.toList = s.toList
    · rw [if_pos h2, if_pos ⟨h1, e.1 h2⟩]
    rw [if_neg h2, if_neg (fun x => h2 (e.2 x.2))]
  rw [if_neg h1, if_neg (fun x => h1 x.1)]
theorem serial_row_l0 {l : List ByteArray} (hl : l.length < 4611686018427387904) (hs : ∀ x ∈ l, x.size < 1099511627776) (d : Nat) : ∀ (i : Nat), l.length - i = d → i ≤ l.length → Ev (fun k => serial_Row.l0 k l l (l.length : Int) (i : Int)) (rowG (if i = 0 then none else l[i - 1]?) (l.drop i)) := by
  induction d with
  | zero =>
    intro i hd hi
    refine Ev.step (fun k => by simp only [serial_Row.l0]; rfl) ?_
    refine Ev.neg (by omega) (Ev.ok ?_)
    rw [List.drop_eq_nil_of_le (by omega)]; rfl
  | succ d ih =>
    intro i hd hi
    have h : i < l.length := by omega
    refine Ev.step (fun k => by simp only [serial_Row.l0]; rfl) ?_
    refine Ev.pos (by omega) (Ev.pos (by omega) (Ev.pos (by omega) ?_))
    rw [drop_cons h, rdOf_nat h, wrap_eq (x := (i : Int) + 1) (by omega) (by omega)]
    have ih' := ih (i + 1) (by omega) (by omega)
    rw [if_neg (by omega), Nat.add_sub_cancel, List.getElem?_eq_getElem h] at ih'
    refine Ev.bindc (serial_check_f _ (by have := hs _ (List.getElem_mem h); omega)) ?_
    simp only [rowG]
    refine Ev.ite (fun h1 => ?_) (fun h1 => ?_)
    · rw [if_pos h1]
      refine Ev.ite (fun h2 => ?_) (fun h2 => ?_)
      · have h' : i - 1 < l.length := by omega
        rw [wrap_eq (x := (i : Int) - 1) (by omega) (by omega), show (i : Int) - 1 = ((i - 1 : Nat) : Int) by omega, rdOf_nat h', if_neg (show ¬ i = 0 by omega), List.getElem?_eq_getElem h']
        refine Ev.pos (by omega) (Ev.pos (by omega) ?_)
        refine Ev.ite (fun h3 => ?_) (fun h3 => ?_)
        · rw [if_neg (by simp [notUp, h3])]; exact ih'
        rw [if_pos (by simp [notUp, h3])]; exact Ev.ok rfl
      rw [if_pos (show i = 0 by omega), if_neg (by simp [notUp])]; exact ih'
    rw [if_neg h1, (checkS_or _).resolve_left h1]; exact Ev.ok rfl
theorem serial_row_f {l : List ByteArray} (hl : l.length < 4611686018427387904) (hs : ∀ x ∈ l, x.size < 1099511627776) : Ev (fun k => serial_Row.f k l) (rowG none l) := by
  unfold serial_Row.f
  exact serial_row_l0 hl hs l.length 0 (by omega) (by omega)
theorem ref01_row_l0 {l : List ByteArray} (hl : l.length < 4611686018427387904) (hs : ∀ x ∈ l, x.size < 1099511627776) (d : Nat) : ∀ (i : Nat), l.length - i = d → i ≤ l.length → Ev (fun k => backhaulref01_Row.l0 k l (i : Int)) (rowG (if i = 0 then none else l[i - 1]?) (l.drop i)) := by
  induction d with
  | zero =>
    intro i hd hi
    refine Ev.step (fun k => by simp only [backhaulref01_Row.l0]; rfl) ?_
    refine Ev.neg (by omega) (Ev.ok ?_)
    rw [List.drop_eq_nil_of_le (by omega)]; rfl
  | succ d ih =>
    intro i hd hi
    have h : i < l.length := by omega
    refine Ev.step (fun k => by simp only [backhaulref01_Row.l0]; rfl) ?_
    refine Ev.pos (by omega) (Ev.pos (by omega) ?_)
    rw [drop_cons h, rdOf_nat h, wrap_eq (x := (i : Int) + 1) (by omega) (by omega)]
    have ih' := ih (i + 1) (by omega) (by omega)
    rw [if_neg (by omega), Nat.add_sub_cancel, List.getElem?_eq_getElem h] at ih'
    refine Ev.bind (ref01_check_f _ (hs _ (List.getElem_mem h))) ?_
    simp only [rowG]
    refine Ev.ite (fun h1 => ?_) (fun h1 => ?_)
    · rw [if_pos h1]
      refine Ev.ite (fun h2 => ?_) (fun h2 => ?_)
      · have h' : i - 1 < l.length := by omega
        rw [wrap_eq (x := (i : Int) - 1) (by omega) (by omega), show (i : Int) - 1 = ((i - 1 : Nat) : Int) by omega, rdOf_nat h', if_neg (show ¬ i = 0 by omega), List.getElem?_eq_getElem h']
        refine Ev.pos (by omega) (Ev.pos (by omega) ?_)
        refine Ev.ite (fun h3 => ?_) (fun h3 => ?_)
        · rw [if_neg (by simp [notUp, h3])]; exact ih'
        rw [if_pos (by simp [notUp, h3])]; exact Ev.ok rfl
      rw [if_pos (show i = 0 by omega), if_neg (by simp [notUp])]; exact ih'
    rw [if_neg h1]; exact Ev.ok rfl
theorem ref01_row_f {l : List ByteArray} (hl : l.length < 4611686018427387904) (hs : ∀ x ∈ l, x.size < 1099511627776) : Ev (fun k => backhaulref01_Row.f k l) (rowG none l) := by
  unfold backhaulref01_Row.f
  exact ref01_row_l0 hl hs l.length 0 (by omega) (by omega)
theorem cmp_less_text (a b : ByteArray) : cmp_Less_string.f a b = some (Op.bytesLess a.toList b.toList) := by
  simp [cmp_Less_string.f, cmp_isNaN_string.f]
theorem bst_l0 {l : List ByteArray} {t : ByteArray} (hl : l.length < 4611686018427387904) (h0 : rowG none l = 0) (hs : l.Pairwise lt8) (d : Nat) : ∀ (lo hi : Nat), hi - lo = d → lo ≤ hi → hi ≤ l.length →
    (∀ j (h : j < l.length), j < lo → lt8 l[j] t) → (∀ j (h : j < l.length), hi ≤ j → ¬ lt8 l[j] t) →
    Ev (fun k => slices_BinarySearch_string_string.l0 k l t (l.length : Int) (lo : Int) (hi : Int)) (findT l t) := by
  induction d using Nat.strongRecOn with
  | _ d ih =>
    intro lo hi hd hlo hhi h1 h2
    refine Ev.step (fun k => by simp only [slices_BinarySearch_string_string.l0]; rfl) ?_
    by_cases hlt : lo < hi
    · have hw : wrap64 ((IntKind.u64.wrap (wrap64 ((lo : Int) + (hi : Int)))) / 2) = (((lo + hi) / 2 : Nat) : Int) := by
        rw [wrap_eq (x := (lo : Int) + (hi : Int)) (by omega) (by omega), u64_eq (x := (lo : Int) + (hi : Int)) (by omega) (by omega), wrap_eq (x := ((lo : Int) + (hi : Int)) / 2) (by omega) (by omega)]; omega
      have hm : (lo + hi) / 2 < l.length := by omega
      rw [hw]
      refine Ev.pos (by omega) (Ev.pos (by omega) (Ev.pos (by omega) ?_))
      rw [rdOf_nat hm]
      refine Ev.bindc (cmp_less_text _ _) ?_
      refine Ev.ite (fun hc => ?_) (fun hc => ?_)
      · have hc' : lt8 l[(lo + hi) / 2] t := hc
        rw [wrap_eq (by omega) (by omega)]
        refine ih (hi - ((lo + hi) / 2 + 1)) (by omega) ((lo + hi) / 2 + 1) hi rfl (by omega) hhi (fun j hj hjl => ?_) h2
        rcases Nat.lt_or_ge j ((lo + hi) / 2) with hlt2 | hge
        · exact lt8_trans (pair_get hs hm hlt2) hc'
        have : j = (lo + hi) / 2 := by omega
        subst this; exact hc'
      have hc' : ¬ lt8 l[(lo + hi) / 2] t := hc
      refine ih ((lo + hi) / 2 - lo) (by omega) lo ((lo + hi) / 2) rfl (by omega) (by omega) h1 (fun j hj hjl => ?_)
      rcases Nat.lt_or_ge ((lo + hi) / 2) j with hlt2 | hge
      · exact fun x => hc' (lt8_trans (pair_get hs hj hlt2) x)
      have : j = (lo + hi) / 2 := by omega
      subst this; exact hc'
    have he : lo = hi := by omega
    subst he
    rw [findT_sorted hs hhi h1 h2 h0]
    refine Ev.neg (by omega) ?_
    refine Ev.ite (fun hc => ?_) (fun hc => ?_)
    · have hlo' : lo < l.length := by omega
      refine Ev.pos (by omega) (Ev.pos (by omega) ?_)
      rw [rdOf_nat hlo']
      refine Ev.ite (fun he => ?_) (fun he => ?_)
      · refine Ev.ok ?_
        rw [decide_eq_true (⟨hlo', bytes_ext.1 he⟩ : ∃ h : lo < l.length, l[lo] = t)]
      refine Ev.bindc (a := false) (by simp [slices_isNaN_string.f]) ?_
      refine Ev.neg (by simp) (Ev.ok ?_)
      rw [decide_eq_false (fun x : ∃ h : lo < l.length, l[lo] = t => he (by rw [x.2]))]
    refine Ev.ok ?_
    rw [decide_eq_false (fun x : ∃ h : lo < l.length, l[lo] = t => by have := x.1; omega)]
theorem bst_f {l : List ByteArray} {t : ByteArray} (hl : l.length < 4611686018427387904) (h0 : rowG none l = 0) : Ev (fun k => slices_BinarySearch_string_string.f k l t) (findT l t) := by
  unfold slices_BinarySearch_string_string.f
  exact bst_l0 hl h0 (rowG_zero h0).2.1 l.length 0 l.length (by omega) (by omega) (by omega) (fun j hj h => by omega) (fun j hj h => by omega)
def idxI (l : List ByteArray) (t : ByteArray) : Int := match idxT l t with
  | some i => (i : Int)
  | none => -1
theorem indext_l0 {l : List ByteArray} {t : ByteArray} (hl : l.length < 4611686018427387904) (d : Nat) : ∀ (i : Nat), l.length - i = d → i ≤ l.length → (∀ j (h : j < l.length), j < i → l[j] ≠ t) →
    Ev (fun k => slices_Index_string_string.l0 k l t (l.length : Int) (i : Int)) (idxI l t) := by
  induction d with
  | zero =>
    intro i hd hi h1
    refine Ev.step (fun k => by simp only [slices_Index_string_string.l0]; rfl) ?_
    refine Ev.neg (by omega) (Ev.ok ?_)
    unfold idxI
    rw [idxT_none (fun j hj => h1 j hj (by omega))]
  | succ d ih =>
    intro i hd hi h1
    have h : i < l.length := by omega
    refine Ev.step (fun k => by simp only [slices_Index_string_string.l0]; rfl) ?_
    refine Ev.pos (by omega) (Ev.pos (by omega) (Ev.pos (by omega) ?_))
    rw [rdOf_nat h]
    refine Ev.ite (fun he => Ev.ok ?_) (fun he => ?_)
    · unfold idxI
      rw [idxT_some h (bytes_ext.1 he).symm h1]
    rw [wrap_eq (by omega) (by omega)]
    exact ih (i + 1) (by omega) (by omega) (fun j hj hjl => by
      rcases Nat.lt_or_ge j i with h2 | h2
      · exact h1 j hj h2
      have : j = i := by omega
      subst this; exact fun e => he (by rw [e]))
theorem serial_find_f {l : List ByteArray} {t : ByteArray} (hl : l.length < 4611686018427387904) (hs : ∀ x ∈ l, x.size < 1099511627776) : Ev (fun k => serial_Find.f k l t) (findT l t) := by
  unfold serial_Find.f
  refine Ev.bind (serial_row_f hl hs) (Ev.ite (fun h => Ev.bind (bst_f hl h) (Ev.ok rfl)) (fun h => ?_))
  have hi : Ev (fun k => slices_Index_string_string.f k l t) (idxI l t) := by
    unfold slices_Index_string_string.f
    exact indext_l0 hl l.length 0 (by omega) (by omega) (fun j hj h => by omega)
  refine Ev.bind hi (Ev.ok ?_)
  unfold idxI findT
  cases e : idxT l t with
  | none => simp only [if_neg h]; rfl
  | some i =>
    have : mx (i : Int) 0 = i := by unfold mx; split <;> omega
    simp [this]
theorem rdI {is : List (List Int)} {i : Nat} (h : i < is.length) : rd_L14 is (i : Int) = is[i] := by
  unfold rd_L14; simp [List.getD_eq_getElem?_getD, h]
structure Small (ks : List ByteArray) (is : List (List Int)) : Prop where
  k1 : ks.length ≤ 5000
  k2 : is.length ≤ 5000
  k3 : ∀ x ∈ ks, x.size ≤ 1000
  k4 : ∀ l ∈ is, l.length ≤ 5000
theorem sumL_cons (l : List Int) (is : List (List Int)) : sumL (l :: is) = l.length + sumL is := by unfold sumL; simp
theorem sumL_le : ∀ (is : List (List Int)), (∀ l ∈ is, l.length ≤ 5000) → sumL is ≤ 5000 * is.length
  | [], _ => by simp [sumL]
  | l :: is, h => by
    have h1 := h l List.mem_cons_self
    have h2 := sumL_le is fun x hx => h x (List.mem_cons_of_mem _ hx)
    rw [sumL_cons, List.length_cons]
    omega
section
variable {ks : List ByteArray} {is : List (List Int)} (S : Small ks is)
include S
theorem pairs_l0 (d : Nat) : ∀ (i : Nat) (n : Nat), is.length - i = d → i ≤ is.length → n + sumL (is.drop i) ≤ 25000000 → Ev (fun k => index_pairs.l0 k (n : Int) is (is.length : Int) (i : Int)) ((n + sumL (is.drop i) : Nat) : Int) := by
  have h2 := S.k2
  induction d with
  | zero =>
    intro i n hd hi hn
    refine Ev.step (fun k => by simp only [index_pairs.l0]; rfl) (Ev.neg (by omega) (Ev.ok ?_))
    rw [List.drop_eq_nil_of_le (by omega)]
    simp [sumL]
  | succ d ih =>
    intro i n hd hi hn
    have h : i < is.length := by omega
    rw [drop_cons h, sumL_cons] at hn ⊢
    refine Ev.step (fun k => by simp only [index_pairs.l0]; rfl) (Ev.pos (by omega) (Ev.pos (by omega) (Ev.pos (by omega) ?_)))
    rw [rdI h, wrap_eq (x := (i : Int) + 1) (by omega) (by omega), wrap_eq (x := (n : Int) + (is[i].length : Int)) (by omega) (by omega)]
    have := ih (i + 1) (n + is[i].length) (by omega) (by omega) (by omega)
    rw [Nat.add_assoc] at this
    exact this
theorem pairs_f : Ev (fun k => index_pairs.f k ks is) (sumL is : Int) := by
  unfold index_pairs.f
  have h2 := S.k2
  have h3 := sumL_le is S.k4
  have := pairs_l0 S is.length 0 0 (by omega) (by omega) (by rw [List.drop_zero]; omega)
  rw [List.drop_zero, Nat.zero_add] at this
  exact this
end
def badB (l : List Int) : Bool := decide (l.length = 0) || (rising 0 l != 0)
theorem badB_iff {l : List Int} : badB l = false ↔ l ≠ [] ∧ rising 0 l = 0 := by
  unfold badB
  rw [Bool.or_eq_false_iff, decide_eq_false_iff_not, bne_eq_false_iff_eq, List.length_eq_zero_iff]
theorem wrong_f {l : List Int} (hl : l.length ≤ 5000) : Ev (fun k => index_Check_1.f k l) (badB l) := by
  unfold index_Check_1.f badB
  refine Q.Ev.ite (fun c => Ev.ok ?_) (fun c => ?_)
  · rw [decide_eq_true (by omega), Bool.true_or]
  rw [decide_eq_false (by omega), Bool.false_or]
  exact Ev.bind (rows_Rising_f (by omega)) (Ev.ok rfl)
def idxB : Nat → List (List Int) → Int
  | _, [] => -1
  | i, l :: r => if badB l = true then (i : Int) else idxB (i + 1) r
theorem idxB_any : ∀ (is : List (List Int)) (i : Nat), decide (idxB i is ≥ 0) = is.any badB
  | [], i => rfl
  | l :: r, i => by
    unfold idxB
    rw [List.any_cons]
    by_cases c : badB l = true
    · rw [if_pos c, c, Bool.true_or]
      exact decide_eq_true (by omega)
    rw [if_neg c, Bool.eq_false_iff.2 c, Bool.false_or]
    exact idxB_any r (i + 1)
theorem idxfunc_l0 {is : List (List Int)} (h2 : is.length ≤ 5000) (h4 : ∀ l ∈ is, l.length ≤ 5000) (d : Nat) : ∀ i : Nat, is.length - i = d → i ≤ is.length → Ev (fun k => slices_IndexFunc_index_Check_1.l0 k is (is.length : Int) (i : Int)) (idxB i (is.drop i)) := by
  induction d with
  | zero =>
    intro i hd hi
    refine Ev.step (fun k => by simp only [slices_IndexFunc_index_Check_1.l0]; rfl) (Ev.neg (by omega) (Ev.ok ?_))
    rw [List.drop_eq_nil_of_le (by omega)]
    rfl
  | succ d ih =>
    intro i hd hi
    have h : i < is.length := by omega
    refine Ev.step (fun k => by simp only [slices_IndexFunc_index_Check_1.l0]; rfl) (Ev.pos (by omega) (Ev.pos (by omega) (Ev.pos (by omega) ?_)))
    rw [rdI h, wrap_eq (x := (i : Int) + 1) (by omega) (by omega), drop_cons h]
    refine Ev.bind (wrong_f (h4 _ (List.getElem_mem h))) (Q.Ev.ite (fun c => Ev.ok ?_) (fun c => ?_))
    · unfold idxB
      rw [if_pos c]
    unfold idxB
    rw [if_neg c]
    exact ih (i + 1) (by omega) (by omega)
theorem contains_f {is : List (List Int)} (h2 : is.length ≤ 5000) (h4 : ∀ l ∈ is, l.length ≤ 5000) : Ev (fun k => slices_ContainsFunc_index_Check_1.f k is) (is.any badB) := by
  unfold slices_ContainsFunc_index_Check_1.f slices_IndexFunc_index_Check_1.f
  have := idxfunc_l0 h2 h4 is.length 0 (by omega) (by omega)
  rw [List.drop_zero] at this
  exact Ev.bind this (Ev.ok (idxB_any is 0))
def okB (ks : List ByteArray) (is : List (List Int)) : Bool := decide (rowG none ks = 0) && (decide (ks.length = is.length) && !is.any badB)
theorem okB_iff {ks : List ByteArray} {is : List (List Int)} : okB ks is = true ↔ okI ks is := by
  unfold okB okI
  rw [Bool.and_eq_true, Bool.and_eq_true, decide_eq_true_eq, decide_eq_true_eq, Bool.not_eq_true', List.any_eq_false]
  refine and_congr Iff.rfl (and_congr Iff.rfl ⟨fun h l hl => badB_iff.1 (Bool.eq_false_iff.2 (h l hl)), fun h l hl => by rw [badB_iff.2 (h l hl)]; decide⟩)
def chkI (ks : List ByteArray) (is : List (List Int)) : Int := if okB ks is = true ∧ sumL is ≤ 2000 then 0 else 40
section
variable {ks : List ByteArray} {is : List (List Int)} (S : Small ks is)
include S
theorem sizes_k : ks.length < 4611686018427387904 ∧ ∀ x ∈ ks, x.size < 1099511627776 := by
  have := S.k1
  exact ⟨by omega, fun x hx => by have := S.k3 x hx; omega⟩
theorem icheck_f : Ev (fun k => index_Check.f k ks is) (chkI ks is) := by
  have hz := sizes_k S
  have j0 : ∀ u : Bool, u = true → ¬ (okB ks is = true ∧ sumL is ≤ 2000) → Ev (fun k => index_Check.j0 k u ks is) (chkI ks is) := fun u hu hn =>
    Ev.step (fun k => by simp only [index_Check.j0]; rfl) (Q.Ev.pos hu (Ev.ok (by unfold chkI; rw [if_neg hn])))
  unfold index_Check.f
  refine Ev.bind (serial_row_f hz.1 hz.2) (Q.Ev.ite (fun c1 => Q.Ev.ite (fun c2 => ?_) (fun c2 => j0 true rfl ?_)) (fun c1 => j0 true rfl ?_))
  · refine Ev.bind (pairs_f S) ?_
    by_cases c3 : (sumL is : Int) > 2000
    · rw [decide_eq_true c3]
      exact j0 true rfl (fun h => by omega)
    rw [decide_eq_false c3]
    refine Ev.step (fun k => by simp only [index_Check.j0]; rfl) (Q.Ev.neg (by decide) (Ev.bind (contains_f S.k2 S.k4) (Q.Ev.ite (fun c4 => Ev.ok ?_) (fun c4 => Ev.ok ?_))))
    · unfold chkI okB
      rw [if_neg (by rw [c4]; simp)]
    have e : okB ks is = true := by
      unfold okB
      rw [decide_eq_true c1, decide_eq_true (show ks.length = is.length by omega), Bool.eq_false_iff.2 c4]
      rfl
    unfold chkI
    rw [if_pos ⟨e, by omega⟩]
  · intro h
    have := (okB_iff.1 h.1).2.1
    omega
  intro h
  exact c1 (okB_iff.1 h.1).1
theorem ipairs_l1 {i : Nat} (h : i < is.length) (hk : ks.length = is.length) {R : List PrT × Bool} (m : Nat) : ∀ (j : Nat) (out : List PrT), is[i].length - j = m → j ≤ is[i].length → out.length + (is[i].length - j) ≤ 50000000 →
    (Ev (fun k => backhaulref14_Pairs.l0 k ks is (out ++ (is[i].drop j).map (fun n => (⟨ks[i]'(by omega), n⟩ : PrT))) ((i + 1 : Nat) : Int)) R) → Ev (fun k => backhaulref14_Pairs.l1 k ks is out (i : Int) (j : Int)) R := by
  have h4 := S.k4 _ (List.getElem_mem h)
  have h2 := S.k2
  induction m with
  | zero =>
    intro j out hd hj ho hR
    refine Ev.step (fun k => by simp only [backhaulref14_Pairs.l1]; rfl) (Ev.pos (by omega) (Ev.pos (by omega) ?_))
    rw [rdI h, wrap_eq (x := (i : Int) + 1) (by omega) (by omega)]
    rw [List.drop_eq_nil_of_le (by omega), List.map_nil, List.append_nil] at hR
    exact Ev.neg (by omega) hR
  | succ m ih =>
    intro j out hd hj ho hR
    have hjl : j < is[i].length := by omega
    refine Ev.step (fun k => by simp only [backhaulref14_Pairs.l1]; rfl) (Ev.pos (by omega) (Ev.pos (by omega) ?_))
    rw [rdI h, rdOf_nat (show i < ks.length by omega), rd_nat hjl, wrap_eq (x := (j : Int) + 1) (by omega) (by omega)]
    refine Ev.pos (by omega) (Ev.pos (by omega) (Ev.pos (by omega) (Ev.pos (by omega) ?_)))
    refine ih (j + 1) _ (by omega) (by omega) (by simp; omega) ?_
    rw [drop_cons hjl, List.map_cons] at hR
    rw [List.append_assoc, List.singleton_append]
    exact hR
theorem ipairs_l0 (hk : ks.length = is.length) (m : Nat) : ∀ (i : Nat) (out : List PrT), is.length - i = m → i ≤ is.length → out.length ≤ 5000 * i → Ev (fun k => backhaulref14_Pairs.l0 k ks is out (i : Int)) (if (is.drop i).any badB = true then ([], false) else (out ++ pairsOf (ks.drop i) (is.drop i), decide ((out ++ pairsOf (ks.drop i) (is.drop i)).length ≤ 2000))) := by
  have h2 := S.k2
  induction m with
  | zero =>
    intro i out hd hi ho
    refine Ev.step (fun k => by simp only [backhaulref14_Pairs.l0]; rfl) (Ev.neg (by omega) (Ev.ok ?_))
    rw [List.drop_eq_nil_of_le (by omega : is.length ≤ i), List.drop_eq_nil_of_le (by omega : ks.length ≤ i)]
    simp [pairsOf]
    omega
  | succ m ih =>
    intro i out hd hi ho
    have h : i < is.length := by omega
    have hk' : i < ks.length := by omega
    have h4 := S.k4 _ (List.getElem_mem h)
    rw [drop_cons h, drop_cons hk', List.any_cons]
    have bad : ∀ u : Bool, u = true → badB is[i] = true → Ev (fun k => backhaulref14_Pairs.j2 k ks is out (i : Int) u) (if (badB is[i] || (is.drop (i + 1)).any badB) = true then ([], false) else (out ++ pairsOf (ks[i] :: ks.drop (i + 1)) (is[i] :: is.drop (i + 1)), decide ((out ++ pairsOf (ks[i] :: ks.drop (i + 1)) (is[i] :: is.drop (i + 1))).length ≤ 2000))) := fun u hu hb =>
      Ev.step (fun k => by simp only [backhaulref14_Pairs.j2]; rfl) (Q.Ev.pos hu (Ev.ok (by rw [hb, Bool.true_or, if_pos rfl])))
    refine Ev.step (fun k => by simp only [backhaulref14_Pairs.l0]; rfl) (Ev.pos (by omega) (Ev.pos (by omega) (Ev.pos (by omega) ?_)))
    rw [rdI h]
    refine Q.Ev.ite (fun c => bad true rfl ?_) (fun c => Ev.bind (ref_Rising_f (by omega)) ?_)
    · unfold badB
      rw [decide_eq_true (by omega), Bool.true_or]
    by_cases c2 : rising 0 is[i] = 0
    · rw [c2]
      have hb : badB is[i] = false := badB_iff.2 ⟨fun e => c (by rw [e]; rfl), c2⟩
      rw [hb, Bool.false_or]
      refine Ev.step (fun k => by simp only [backhaulref14_Pairs.j2]; rfl) (Q.Ev.neg (by decide) ?_)
      refine ipairs_l1 S h hk is[i].length 0 out (by omega) (by omega) (by omega) ?_
      have := ih (i + 1) (out ++ is[i].map (fun n => (⟨ks[i], n⟩ : PrT))) (by omega) (by omega) (by simp; omega)
      rw [List.drop_zero]
      simp only [pairsOf, ← List.append_assoc]
      exact this
    refine bad _ (by simpa using c2) ?_
    unfold badB
    rw [Bool.or_eq_true]
    exact .inr (by simpa using c2)
theorem ref_pairs_f : Ev (fun k => backhaulref14_Pairs.f k ks is) (if okB ks is = true then (pairsOf ks is, decide (sumL is ≤ 2000)) else ([], false)) := by
  have hz := sizes_k S
  have j0 : ∀ u : Bool, u = true → ¬ okB ks is = true → Ev (fun k => backhaulref14_Pairs.j0 k ks is u) (if okB ks is = true then (pairsOf ks is, decide (sumL is ≤ 2000)) else ([], false)) := fun u hu hn =>
    Ev.step (fun k => by simp only [backhaulref14_Pairs.j0]; rfl) (Q.Ev.pos hu (Ev.ok (by rw [if_neg hn])))
  unfold backhaulref14_Pairs.f
  refine Ev.bind (ref01_row_f hz.1 hz.2) (Q.Ev.ite (fun c1 => ?_) (fun c1 => j0 true rfl (fun h => c1 (okB_iff.1 h).1)))
  by_cases c2 : ks.length = is.length
  · have e : ((ks.length : Int) != (is.length : Int)) = false := by simp [c2]
    rw [e]
    refine Ev.step (fun k => by simp only [backhaulref14_Pairs.j0]; rfl) (Q.Ev.neg (by decide) (Ev.eq (ipairs_l0 S c2 is.length 0 [] (by omega) (by omega) (by simp)) ?_))
    rw [List.drop_zero, List.drop_zero, List.nil_append, pairs_len ks is c2]
    have ho : okB ks is = !is.any badB := by unfold okB; rw [decide_eq_true c1, decide_eq_true c2]; rfl
    rw [ho]
    cases is.any badB <;> rfl
  have e : ((ks.length : Int) != (is.length : Int)) = true := by
    simp only [bne_iff_ne, ne_eq]
    omega
  exact j0 _ e (fun h => c2 (okB_iff.1 h).2.1)
end
end Go.Proofs.Ytdpcgigjlcpofaa.Q
namespace Go.Proofs.Ytdpcgigjlcpofaa.Q
open Go.RowKit Ytdpcgigjlcpofaa.F YtdpcgigjlcpofaaX YtdpcgigjlcpofaaW.PrintWords YtdpcgigjlcpofaaW.PrintLast YtdpcgigjlcpofaaW.PrintMore
theorem chk_zero {ks : List ByteArray} {is : List (List Int)} : chkI ks is = 0 ↔ okI ks is ∧ sumL is ≤ 2000 := by
  unfold chkI
  split
  · rename_i h
    exact ⟨fun _ => ⟨okB_iff.1 h.1, h.2⟩, fun _ => rfl⟩
  rename_i h
  exact ⟨fun g => (by cases g), fun g => (h ⟨okB_iff.2 g.1, g.2⟩).elim⟩
theorem find_split {ks : List ByteArray} {is : List (List Int)} {s : ByteArray} {j : Nat} (hk : ks.length = is.length) (h : ks[j]? = some s) : ∃ hj : j < is.length, ks = ks.take j ++ s :: ks.drop (j + 1) ∧ is = is.take j ++ is[j] :: is.drop (j + 1) ∧ (ks.take j).length = (is.take j).length := by
  obtain ⟨h1, rfl⟩ := List.getElem?_eq_some_iff.1 h
  refine ⟨by omega, ?_, ?_, by simp; omega⟩
  · rw [← List.drop_eq_getElem_cons h1, List.take_append_drop]
  rw [← List.drop_eq_getElem_cons (by omega), List.take_append_drop]
section
variable {ks : List ByteArray} {is : List (List Int)} (S : Small ks is)
include S
end
end Go.Proofs.Ytdpcgigjlcpofaa.Q
namespace Go.Proofs.Ytdpcgigjlcpofaa.Q
open Go.RowKit Ytdpcgigjlcpofaa.F YtdpcgigjlcpofaaX YtdpcgigjlcpofaaW.PrintWords YtdpcgigjlcpofaaW.PrintLast YtdpcgigjlcpofaaW.PrintMore
def fewI (ks : List ByteArray) (is : List (List Int)) : Bool := decide (ks.length ≤ 100) && (decide (is.length ≤ 100) && ((is.all fun l => decide (l.length ≤ 2100)) && ks.all fun x => decide (x.size ≤ 100)))
theorem ifew_l1 {ks : List ByteArray} {is : List (List Int)} (h1 : ks.length ≤ 100) (m : Nat) : ∀ i : Nat, ks.length - i = m → i ≤ ks.length → Ev (fun k => backhaullaw14_Few.l1 k (i : Int) ks is) ((ks.drop i).all fun x => decide (x.size ≤ 100)) := by
  induction m with
  | zero =>
    intro i hd hi
    refine Ev.step (fun k => by simp only [backhaullaw14_Few.l1]; rfl) (Ev.neg (by omega) (Ev.ok ?_))
    rw [List.drop_eq_nil_of_le (by omega)]
    rfl
  | succ m ih =>
    intro i hd hi
    have h : i < ks.length := by omega
    refine Ev.step (fun k => by simp only [backhaullaw14_Few.l1]; rfl) (Ev.pos (by omega) (Ev.pos (by omega) ?_))
    rw [rdOf_nat h, wrap_eq (x := (i : Int) + 1) (by omega) (by omega), drop_cons h, List.all_cons]
    refine Q.Ev.ite (fun c => Ev.ok ?_) (fun c => ?_)
    · rw [decide_eq_false (by omega), Bool.false_and]
    rw [decide_eq_true (by omega), Bool.true_and]
    exact ih (i + 1) (by omega) (by omega)
theorem ifew_l0 {ks : List ByteArray} {is : List (List Int)} (h1 : ks.length ≤ 100) (h2 : is.length ≤ 100) (m : Nat) : ∀ i : Nat, is.length - i = m → i ≤ is.length → Ev (fun k => backhaullaw14_Few.l0 k (i : Int) ks is) (((is.drop i).all fun l => decide (l.length ≤ 2100)) && ks.all fun x => decide (x.size ≤ 100)) := by
  induction m with
  | zero =>
    intro i hd hi
    have := ifew_l1 (is := is) h1 ks.length 0 (by omega) (by omega)
    rw [List.drop_zero] at this
    refine Ev.step (fun k => by simp only [backhaullaw14_Few.l0]; rfl) (Ev.neg (by omega) ?_)
    rw [List.drop_eq_nil_of_le (by omega)]
    exact this
  | succ m ih =>
    intro i hd hi
    have h : i < is.length := by omega
    refine Ev.step (fun k => by simp only [backhaullaw14_Few.l0]; rfl) (Ev.pos (by omega) (Ev.pos (by omega) ?_))
    rw [rdI h, wrap_eq (x := (i : Int) + 1) (by omega) (by omega), drop_cons h, List.all_cons]
    refine Q.Ev.ite (fun c => Ev.ok ?_) (fun c => ?_)
    · rw [decide_eq_false (by omega), Bool.false_and, Bool.false_and]
    rw [decide_eq_true (by omega), Bool.true_and]
    exact ih (i + 1) (by omega) (by omega)
theorem ifew_f (ks : List ByteArray) (is : List (List Int)) : Ev (fun k => backhaullaw14_Few.f k ks is) (fewI ks is) := by
  unfold backhaullaw14_Few.f fewI
  have bad : ∀ u : Bool, u = true → Ev (fun k => backhaullaw14_Few.j0 k u ks is) false := fun u hu =>
    Ev.step (fun k => by simp only [backhaullaw14_Few.j0]; rfl) (Q.Ev.pos hu (Ev.ok rfl))
  refine Q.Ev.ite (fun c => ?_) (fun c => ?_)
  · rw [decide_eq_false (show ¬ ks.length ≤ 100 by omega), Bool.false_and]
    exact bad true rfl
  rw [decide_eq_true (show ks.length ≤ 100 by omega), Bool.true_and]
  by_cases c2 : (is.length : Int) > 100
  · rw [decide_eq_true c2, decide_eq_false (show ¬ is.length ≤ 100 by omega), Bool.false_and]
    exact bad true rfl
  rw [decide_eq_false c2, decide_eq_true (show is.length ≤ 100 by omega), Bool.true_and]
  refine Ev.step (fun k => by simp only [backhaullaw14_Few.j0]; rfl) (Q.Ev.neg (by decide) ?_)
  have := ifew_l0 (ks := ks) (is := is) (by omega) (by omega) is.length 0 (by omega) (by omega)
  rw [List.drop_zero] at this
  exact this
theorem few_small {ks : List ByteArray} {is : List (List Int)} (h : fewI ks is = true) : Small ks is := by
  unfold fewI at h
  simp only [Bool.and_eq_true, decide_eq_true_eq, List.all_eq_true] at h
  exact ⟨by omega, by omega, fun x hx => by have := h.2.2.2 x hx; omega, fun l hl => by have := h.2.2.1 l hl; omega⟩
theorem ser_size {s : ByteArray} (h : checkS s = 0) : s.size ≤ 16 := by
  have := ((checkS_iff s).1 h).1.2.1
  rw [Array.length_toList] at this
  exact this
theorem sum_mem : ∀ {is : List (List Int)} {l : List Int}, l ∈ is → l.length ≤ sumL is
  | [], _, h => by simp at h
  | a :: is, l, h => by
    rw [sumL_cons]
    rcases List.mem_cons.1 h with rfl | h
    · omega
    have := sum_mem h
    omega
theorem sum_len : ∀ {is : List (List Int)}, (∀ l ∈ is, l ≠ []) → is.length ≤ sumL is
  | [], _ => by simp
  | a :: is, h => by
    rw [sumL_cons, List.length_cons]
    have := sum_len fun l hl => h l (List.mem_cons_of_mem _ hl)
    have := List.length_pos_iff.2 (h a List.mem_cons_self)
    omega
theorem chk_small {ks : List ByteArray} {is : List (List Int)} (h : chkI ks is = 0) : Small ks is := by
  obtain ⟨ho, h2⟩ := chk_zero.1 h
  have h3 := sum_len fun l hl => (ho.2.2 l hl).1
  have h4 := ho.2.1
  refine ⟨by omega, by omega, fun x hx => ?_, fun l hl => ?_⟩
  · have := ser_size ((rowG_zero ho.1).1 x hx)
    omega
  have := sum_mem hl
  omega
def ltb (q p : PrT) : Bool := Op.bytesLess q.f0.toList p.f0.toList || (decide (q.f0 = p.f0) && decide (q.f1 < p.f1))
theorem ltb_iff {q p : PrT} : ltb q p = true ↔ ltP q p := by
  unfold ltb ltP lt8
  rw [Bool.or_eq_true, Bool.and_eq_true, decide_eq_true_eq, decide_eq_true_eq]
def insP (p : PrT) : List PrT → List PrT
  | [] => [p]
  | q :: r => if ltb q p = true then q :: insP p r else p :: q :: r
theorem mem_insP {p x : PrT} : ∀ (l : List PrT), x ∈ insP p l ↔ x = p ∨ x ∈ l
  | [] => by simp [insP]
  | q :: r => by
    unfold insP
    split
    · rw [List.mem_cons, mem_insP r, List.mem_cons]
      exact ⟨fun h => h.elim (fun h => .inr (.inl h)) (fun h => h.elim .inl (fun h => .inr (.inr h))), fun h => h.elim (fun h => .inr (.inl h)) (fun h => h.elim .inl (fun h => .inr (.inr h)))⟩
    rw [List.mem_cons]
theorem len_insP {p : PrT} : ∀ (l : List PrT), (insP p l).length = l.length + 1
  | [] => rfl
  | q :: r => by
    unfold insP
    split
    · rw [List.length_cons, len_insP r, List.length_cons]
    rfl
theorem insP_sorted {p : PrT} : ∀ (l : List PrT), l.Pairwise ltP → p ∉ l → (insP p l).Pairwise ltP
  | [], _, _ => by simp [insP]
  | q :: r, h, hp => by
    obtain ⟨h1, h2⟩ := List.pairwise_cons.1 h
    unfold insP
    split
    · rename_i c
      refine List.pairwise_cons.2 ⟨fun x hx => ?_, insP_sorted r h2 fun g => hp (List.mem_cons_of_mem _ g)⟩
      rcases (mem_insP r).1 hx with rfl | g
      · exact ltb_iff.1 c
      exact h1 x g
    rename_i c
    have hq : ltP p q := Classical.byContradiction fun g => hp (by rw [ltP_total g (fun g' => c (ltb_iff.2 g'))]; exact List.mem_cons_self)
    refine List.pairwise_cons.2 ⟨fun x hx => ?_, h⟩
    rcases List.mem_cons.1 hx with rfl | g
    · exact hq
    exact ltP_trans hq (h1 x g)
def hasB (l : List PrT) (s : ByteArray) (id : Int) : Bool := l.any fun p => decide (p.f0 = s) && decide (p.f1 = id)
theorem hasB_iff {l : List PrT} {s : ByteArray} {id : Int} : hasB l s id = true ↔ (⟨s, id⟩ : PrT) ∈ l := by
  unfold hasB
  rw [List.any_eq_true]
  constructor
  · rintro ⟨p, hp, h⟩
    rw [Bool.and_eq_true, decide_eq_true_eq, decide_eq_true_eq] at h
    rwa [← prT_ext (p := p) (q := ⟨s, id⟩) h.1 h.2]
  intro h
  exact ⟨_, h, by simp⟩
def addR (s : ByteArray) : List PrT → List Int → List PrT × Int
  | l, [] => (l, 0)
  | l, id :: r => if id < 1 ∨ id > 999999 then ([], 31) else if hasB l s id = true then ([], 32) else if 2000 ≤ l.length then ([], 37) else addR s (insP ⟨s, id⟩ l) r
def dropP (l : List PrT) (s : ByteArray) (id : Int) : List PrT := l.filter fun p => !(decide (p.f0 = s) && decide (p.f1 = id))
theorem mem_dropP {l : List PrT} {s : ByteArray} {id : Int} {p : PrT} : p ∈ dropP l s id ↔ p ∈ l ∧ ¬ (p.f0 = s ∧ p.f1 = id) := by
  unfold dropP
  rw [List.mem_filter, Bool.not_eq_true', Bool.and_eq_false_iff, decide_eq_false_iff_not, decide_eq_false_iff_not]
  exact and_congr Iff.rfl Decidable.not_and_iff_not_or_not.symm
theorem dropP_sorted {l : List PrT} {s : ByteArray} {id : Int} (h : l.Pairwise ltP) : (dropP l s id).Pairwise ltP := h.sublist List.filter_sublist
theorem addR_ok {s : ByteArray} : ∀ (ids : List Int) (l : List PrT), l.Pairwise ltP → l.length ≤ 2000 → ((addR s l ids).2 = 0 ↔ (∀ id ∈ ids, 1 ≤ id ∧ id ≤ 999999 ∧ (⟨s, id⟩ : PrT) ∉ l) ∧ ids.Nodup ∧ l.length + ids.length ≤ 2000)
  | [], l, _, h => by simp [addR]; exact h
  | id :: r, l, hs, hl => by
    unfold addR
    have nv : ∀ {P : Prop} {e : Int}, e ≠ 0 → ¬ P → ((([] : List PrT), e).2 = 0 ↔ P) := fun he hP => ⟨fun g => (he g).elim, fun g => (hP g).elim⟩
    split
    · refine nv (by decide) fun g => ?_
      have := g.1 id List.mem_cons_self
      omega
    rename_i c1
    split
    · rename_i c2
      exact nv (by decide) fun g => (g.1 id List.mem_cons_self).2.2 (hasB_iff.1 c2)
    rename_i c2
    have c2' : (⟨s, id⟩ : PrT) ∉ l := fun g => c2 (hasB_iff.2 g)
    split
    · refine nv (by decide) fun g => ?_
      have := g.2.2
      rw [List.length_cons] at this
      omega
    rename_i c3
    have e := len_insP (p := ⟨s, id⟩) l
    rw [addR_ok r (insP ⟨s, id⟩ l) (insP_sorted l hs c2') (by omega), e, List.nodup_cons, List.length_cons]
    constructor
    · rintro ⟨g1, g2, g3⟩
      refine ⟨fun x hx => ?_, ⟨fun hm => (g1 id hm).2.2 ((mem_insP l).2 (.inl rfl)), g2⟩, by omega⟩
      rcases List.mem_cons.1 hx with rfl | hx
      · exact ⟨by omega, by omega, c2'⟩
      exact ⟨(g1 x hx).1, (g1 x hx).2.1, fun hm => (g1 x hx).2.2 ((mem_insP l).2 (.inr hm))⟩
    rintro ⟨g1, ⟨g2, g3⟩, g4⟩
    refine ⟨fun x hx => ?_, g3, by omega⟩
    have := g1 x (List.mem_cons_of_mem _ hx)
    refine ⟨this.1, this.2.1, fun hm => ?_⟩
    rcases (mem_insP l).1 hm with q | q
    · have q' : x = id := congrArg S146.f1 q
      exact g2 (q' ▸ hx)
    exact this.2.2 q
theorem addR_mem {s : ByteArray} : ∀ (ids : List Int) (l : List PrT), l.Pairwise ltP → (addR s l ids).2 = 0 → (addR s l ids).1.Pairwise ltP ∧ ∀ p, p ∈ (addR s l ids).1 ↔ p ∈ l ∨ (p.f0 = s ∧ p.f1 ∈ ids)
  | [], l, hs, _ => by unfold addR; exact ⟨hs, fun p => by simp⟩
  | id :: r, l, hs, h => by
    unfold addR at h ⊢
    split at h
    · exact absurd h (by decide)
    rename_i c1
    rw [if_neg c1]
    split at h
    · exact absurd h (by decide)
    rename_i c2
    rw [if_neg c2]
    split at h
    · exact absurd h (by decide)
    rename_i c3
    rw [if_neg c3]
    obtain ⟨g1, g2⟩ := addR_mem r (insP ⟨s, id⟩ l) (insP_sorted l hs fun g => c2 (hasB_iff.2 g)) h
    refine ⟨g1, fun p => ?_⟩
    rw [g2 p, mem_insP, List.mem_cons]
    constructor
    · rintro ((rfl | q) | q)
      · exact .inr ⟨rfl, .inl rfl⟩
      · exact .inl q
      exact .inr ⟨q.1, .inr q.2⟩
    rintro (q | ⟨q1, rfl | q2⟩)
    · exact .inl (.inr q)
    · exact .inl (.inl (prT_ext q1 rfl))
    exact .inr ⟨q1, q2⟩
theorem rsame_l0 {l : List PrT} (hl : l.length ≤ 30000000) (m : Nat) : ∀ i : Nat, l.length - i = m → i ≤ l.length → Ev (fun k => backhaulref14_Same.l0 k l l (i : Int)) true := by
  induction m with
  | zero =>
    intro i hd hi
    exact Ev.step (fun k => by simp only [backhaulref14_Same.l0]; rfl) (Ev.neg (by omega) (Ev.ok rfl))
  | succ m ih =>
    intro i hd hi
    refine Ev.step (fun k => by simp only [backhaulref14_Same.l0]; rfl) (Ev.pos (by omega) (Ev.pos (by omega) (Ev.pos (by omega) (Q.Ev.neg (by simp) ?_))))
    rw [wrap_eq (x := (i : Int) + 1) (by omega) (by omega)]
    exact ih (i + 1) (by omega) (by omega)
theorem same_pairs_f {ks : List ByteArray} {is : List (List Int)} {l : List PrT} (h : chkI ks is = 0) (e : pairsOf ks is = l) : Ev (fun k => backhaullaw14_same.f k ks is l) true := by
  subst e
  obtain ⟨ho, h2⟩ := chk_zero.1 h
  have hl : (pairsOf ks is).length ≤ 2000 := by rw [pairs_len ks is ho.2.1]; exact h2
  unfold backhaullaw14_same.f
  refine Ev.bind (ref_pairs_f (chk_small h)) ?_
  rw [if_pos (okB_iff.2 ho)]
  refine Q.Ev.pos (decide_eq_true h2) (Ev.bind (a := true) ?_ (Ev.ok rfl))
  unfold backhaulref14_Same.f
  exact Q.Ev.pos rfl (rsame_l0 (l := pairsOf ks is) (by omega) (pairsOf ks is).length 0 (by omega) (by omega))
theorem sumL_append (A B : List (List Int)) : sumL (A ++ B) = sumL A + sumL B := by unfold sumL; rw [List.map_append, List.sum_append]
theorem idxT_absent {ks : List ByteArray} {s : ByteArray} (e : idxT ks s = none) : s ∉ ks := fun hm => by
  unfold idxT at e
  rw [List.findIdx?_eq_none_iff] at e
  have := e s hm
  simp at this
theorem place_at {ks : List ByteArray} {s : ByteArray} (h : ks.Pairwise lt8) (hn : s ∉ ks) : (∀ x ∈ ks.take (ks.countP fun x => decide (lt8 x s)), lt8 x s) ∧ (∀ x ∈ ks.drop (ks.countP fun x => decide (lt8 x s)), lt8 s x) := by
  induction ks with
  | nil => simp
  | cons a r ih =>
    obtain ⟨h1, h2⟩ := List.pairwise_cons.1 h
    have hr : s ∉ r := fun g => hn (List.mem_cons_of_mem _ g)
    by_cases c : lt8 a s
    · rw [List.countP_cons_of_pos (by exact decide_eq_true c), List.take_succ_cons, List.drop_succ_cons]
      obtain ⟨g1, g2⟩ := ih h2 hr
      exact ⟨fun x hx => (List.mem_cons.1 hx).elim (fun e => e ▸ c) (g1 x), g2⟩
    have hsa : lt8 s a := Classical.byContradiction fun g => hn (by rw [lt8_total g c]; exact List.mem_cons_self)
    have e : (a :: r).countP (fun x => decide (lt8 x s)) = 0 := by
      rw [List.countP_eq_zero]
      intro x hx g
      have g' := of_decide_eq_true g
      rcases List.mem_cons.1 hx with rfl | hx
      · exact c g'
      exact lt8_irrefl s (lt8_trans (lt8_trans hsa (h1 x hx)) g')
    rw [e, List.take_zero, List.drop_zero]
    exact ⟨fun x hx => by simp at hx, fun x hx => (List.mem_cons.1 hx).elim (fun e => e ▸ hsa) (fun g => lt8_trans hsa (h1 x g))⟩
section
variable {ks : List ByteArray} {is : List (List Int)} (h : chkI ks is = 0) {s : ByteArray}
include h
theorem chk_len : ks.length ≤ 2000 ∧ is.length ≤ 2000 ∧ ks.length = is.length ∧ sumL is ≤ 2000 ∧ (pairsOf ks is).length = sumL is := by
  obtain ⟨ho, h2⟩ := chk_zero.1 h
  have h3 := sum_len fun l hl => (ho.2.2 l hl).1
  have h4 := ho.2.1
  exact ⟨by omega, by omega, h4, h2, pairs_len ks is h4⟩
theorem set_pairs {j : Nat} (hj : idxT ks s = some j) {l' : List Int} (h' : l' ≠ [] ∧ rising 0 l' = 0) : ∃ hji : j < is.length, okI ks (is.take j ++ l' :: is.drop (j + 1)) ∧ sumL (is.take j ++ l' :: is.drop (j + 1)) + is[j].length = sumL is + l'.length ∧ (∀ p, p ∈ pairsOf ks (is.take j ++ l' :: is.drop (j + 1)) ↔ (p.f0 = s ∧ p.f1 ∈ l') ∨ (p.f0 ≠ s ∧ p ∈ pairsOf ks is)) ∧ (∀ p, p ∈ pairsOf ks is → p.f0 = s → p.f1 ∈ is[j]) ∧ ∀ x ∈ is[j], (⟨s, x⟩ : PrT) ∈ pairsOf ks is := by
  obtain ⟨ho, h2⟩ := chk_zero.1 h
  obtain ⟨hjk, hjs, _⟩ := idxT_get hj
  obtain ⟨hji, e1, e2, e3⟩ := find_split (s := s) ho.2.1 (by rw [List.getElem?_eq_getElem hjk, hjs])
  refine ⟨hji, ?_⟩
  have ho' := ho
  rw [e1, e2] at ho'
  have hok := ok_set ho' h'
  have m1 := fun p => mem_part e3 ho' p
  have m2 := fun p => mem_part e3 hok p
  rw [← e1, ← e2] at m1
  rw [← e1] at hok m2
  refine ⟨hok, ?_, fun p => ?_, fun p hp hs => ?_, fun x hx => (m1 _).2 (.inl ⟨rfl, hx⟩)⟩
  · conv => rhs; rw [e2]
    rw [sumL_append, sumL_append, sumL_cons, sumL_cons]
    omega
  · rw [m2, m1]
    constructor
    · rintro (g | g)
      · exact .inl g
      exact .inr ⟨g.1, .inr g⟩
    rintro (g | ⟨g1, g⟩)
    · exact .inl g
    exact .inr (g.resolve_left fun q => g1 q.1)
  exact ((m1 p).1 hp).elim (fun g => g.2) (fun g => (g.1 hs).elim)
theorem new_pairs (hn : s ∉ ks) (hs : checkS s = 0) {l' : List Int} (h' : l' ≠ [] ∧ rising 0 l' = 0) {n : Nat} (e : n = ks.countP fun x => decide (lt8 x s)) : okI (ks.take n ++ s :: ks.drop n) (is.take n ++ l' :: is.drop n) ∧ sumL (is.take n ++ l' :: is.drop n) = sumL is + l'.length ∧ ∀ p, p ∈ pairsOf (ks.take n ++ s :: ks.drop n) (is.take n ++ l' :: is.drop n) ↔ (p.f0 = s ∧ p.f1 ∈ l') ∨ p ∈ pairsOf ks is := by
  obtain ⟨ho, h2⟩ := chk_zero.1 h
  have e3 : (ks.take n).length = (is.take n).length := by
    have := ho.2.1
    rw [List.length_take, List.length_take]
    omega
  obtain ⟨p1, p2⟩ := place_at (rowG_zero ho.1).2.1 hn
  rw [← e] at p1 p2
  have ho' : okI (ks.take n ++ ks.drop n) (is.take n ++ is.drop n) := by rw [List.take_append_drop, List.take_append_drop]; exact ho
  have hok := ok_new ho' hs p1 p2 h'
  refine ⟨hok, ?_, fun p => ?_⟩
  · conv => rhs; rw [← List.take_append_drop n is]
    rw [sumL_append, sumL_append, sumL_cons]
    omega
  have m := mem_cut (B := ks.drop n) (D := is.drop n) e3 p
  rw [List.take_append_drop, List.take_append_drop] at m
  rw [mem_part e3 hok p, ← m]
  constructor
  · rintro (g | g)
    · exact .inl g
    exact .inr g.2
  rintro (g | g)
  · exact .inl g
  exact .inr ⟨fun q => hn (by rw [← q]; exact pairs_key _ _ g), g⟩
theorem cut_pairs {j : Nat} (hj : idxT ks s = some j) : okI (ks.take j ++ ks.drop (j + 1)) (is.take j ++ is.drop (j + 1)) ∧ sumL (is.take j ++ is.drop (j + 1)) ≤ sumL is ∧ ∀ p, p ∈ pairsOf (ks.take j ++ ks.drop (j + 1)) (is.take j ++ is.drop (j + 1)) ↔ p.f0 ≠ s ∧ p ∈ pairsOf ks is := by
  obtain ⟨ho, h2⟩ := chk_zero.1 h
  obtain ⟨hjk, hjs, _⟩ := idxT_get hj
  obtain ⟨hji, e1, e2, e3⟩ := find_split (s := s) ho.2.1 (by rw [List.getElem?_eq_getElem hjk, hjs])
  have ho' := ho
  rw [e1, e2] at ho'
  have m1 := fun p => mem_part e3 ho' p
  obtain ⟨_, hA, hB⟩ := ok_part e3 ho'
  rw [← e1, ← e2] at m1
  refine ⟨ok_cut ho', ?_, fun p => ?_⟩
  · conv => rhs; rw [e2]
    rw [sumL_append, sumL_append, sumL_cons]
    omega
  rw [mem_cut e3, m1]
  constructor
  · rintro (g | g)
    · exact ⟨fun q => hA (by rw [← q]; exact pairs_key _ _ g), .inr ⟨fun q => hA (by rw [← q]; exact pairs_key _ _ g), .inl g⟩⟩
    exact ⟨fun q => hB (by rw [← q]; exact pairs_key _ _ g), .inr ⟨fun q => hB (by rw [← q]; exact pairs_key _ _ g), .inr g⟩⟩
  rintro ⟨g1, g | g⟩
  · exact (g1 g.1).elim
  exact g.2
theorem add_one (hs : checkS s = 0) (id : Int) : ∃ ks' is' e, Ev (fun k => index_add.f k ks is s id) (ks', is', e) ∧
    ((e ≠ 0 ∧ ks' = [] ∧ ∀ r, addR s (pairsOf ks is) (id :: r) = ([], e)) ∨ (e = 0 ∧ chkI ks' is' = 0 ∧ ∀ r, addR s (pairsOf ks is) (id :: r) = addR s (pairsOf ks' is') r)) := by
  obtain ⟨ho, h2⟩ := chk_zero.1 h
  obtain ⟨n1, n2, n3, n4, n5⟩ := chk_len h
  have S := chk_small h
  have hz := sizes_k S
  have bad : (id < 1 ∨ id > 999999) → ∃ ks' is' e, Ev (fun k => index_add.f k ks is s id) (ks', is', e) ∧
    ((e ≠ 0 ∧ ks' = [] ∧ ∀ r, addR s (pairsOf ks is) (id :: r) = ([], e)) ∨ (e = 0 ∧ chkI ks' is' = 0 ∧ ∀ r, addR s (pairsOf ks is) (id :: r) = addR s (pairsOf ks' is') r)) := fun c => by
    refine ⟨[], [], 31, ?_, .inl ⟨by decide, rfl, fun r => by unfold addR; rw [if_pos c]⟩⟩
    unfold index_add.f
    by_cases c1 : id < 1
    · exact Q.Ev.pos c1 (Ev.ok rfl)
    exact Q.Ev.neg c1 (Q.Ev.pos (c.resolve_left c1) (Ev.ok rfl))
  by_cases c : id < 1 ∨ id > 999999
  · exact bad c
  have c1 : ¬ id < 1 := fun g => c (.inl g)
  have c2 : ¬ id > 999999 := fun g => c (.inr g)
  have dup : hasB (pairsOf ks is) s id = true → ∀ r, addR s (pairsOf ks is) (id :: r) = ([], 32) := fun q r => by unfold addR; rw [if_neg c, if_pos q]
  have full : ¬ hasB (pairsOf ks is) s id = true → sumL is ≥ 2000 → ∀ r, addR s (pairsOf ks is) (id :: r) = ([], 37) := fun q g r => by unfold addR; rw [if_neg c, if_neg q, if_pos (by omega)]
  have good : ¬ hasB (pairsOf ks is) s id = true → ¬ sumL is ≥ 2000 → ∀ (ks' : List ByteArray) (is' : List (List Int)), okI ks' is' → (∀ p, p ∈ pairsOf ks' is' ↔ p = ⟨s, id⟩ ∨ p ∈ pairsOf ks is) → ∀ r, addR s (pairsOf ks is) (id :: r) = addR s (pairsOf ks' is') r := fun q g ks' is' hok hm r => by
    have e : pairsOf ks' is' = insP ⟨s, id⟩ (pairsOf ks is) := sorted_ext _ _ (ok_sorted hok) (insP_sorted _ (ok_sorted ho) fun x => q (hasB_iff.2 x)) fun p => by rw [hm, mem_insP]
    conv => lhs; unfold addR
    rw [if_neg c, if_neg q, if_neg (by omega), e]
  cases ej : idxT ks s with
  | none =>
    have hn := idxT_absent ej
    have q : ¬ hasB (pairsOf ks is) s id = true := fun g => hn (pairs_key _ _ (hasB_iff.1 g))
    have ef : findT ks s = ((ks.countP (fun x => decide (lt8 x s)) : Int), false) := by unfold findT; rw [ej]; simp only [if_pos ho.1]
    have er : find ([] : List Int) id = (0, false) := rfl
    obtain ⟨n, en⟩ : ∃ n, n = ks.countP fun x => decide (lt8 x s) := ⟨_, rfl⟩
    have hnl : n ≤ ks.length := by rw [en]; exact List.countP_le_length
    rw [← en] at ef
    by_cases c3 : sumL is ≥ 2000
    · refine ⟨[], [], 37, ?_, .inl ⟨by decide, rfl, full q c3⟩⟩
      unfold index_add.f
      refine Q.Ev.neg c1 (Q.Ev.neg c2 (Ev.bind (serial_find_f hz.1 hz.2) ?_))
      rw [ef]
      refine Q.Ev.neg Bool.false_ne_true (Ev.bind (rows_Find_f (by simp)) ?_)
      rw [er]
      exact Q.Ev.neg Bool.false_ne_true (Ev.bind (pairs_f S) (Q.Ev.pos (by omega) (Ev.ok rfl)))
    obtain ⟨g1, g2, g3⟩ := new_pairs h hn hs (l' := [id]) ⟨by simp, rising_of (fun x hx => by rw [List.mem_singleton] at hx; omega) (by simp)⟩ en
    refine ⟨_, _, 0, ?_, .inr ⟨rfl, chk_zero.2 ⟨g1, by rw [g2]; simp; omega⟩, good q c3 _ _ g1 fun p => ?_⟩⟩
    · unfold index_add.f
      refine Q.Ev.neg c1 (Q.Ev.neg c2 (Ev.bind (serial_find_f hz.1 hz.2) ?_))
      rw [ef]
      refine Q.Ev.neg Bool.false_ne_true (Ev.bind (rows_Find_f (by simp)) ?_)
      rw [er]
      refine Q.Ev.neg Bool.false_ne_true (Ev.bind (pairs_f S) (Q.Ev.neg (by omega) (Q.Ev.bindc (a := ([id], 0)) rfl (Q.Ev.pos rfl (Q.Ev.bindc (a := (ks.take n ++ s :: ks.drop n, is.take n ++ [id] :: is.drop n)) ?_ (Ev.ok rfl))))))
      unfold index_put.f
      rw [if_pos (by first | omega | (simp only; omega)), if_neg (fun g => by simp at g), if_neg (by simp), if_pos (by first | omega | (simp only; omega))]
      simp only [Int.toNat_natCast]
    rw [g3 p, List.mem_singleton]
    exact or_congr ⟨fun g => prT_ext g.1 g.2, fun g => by rw [g]; exact ⟨rfl, rfl⟩⟩ Iff.rfl
  | some j =>
    obtain ⟨hjk, hjs, _⟩ := idxT_get ej
    have ef : findT ks s = ((j : Int), true) := by unfold findT; rw [ej]
    obtain ⟨n', en'⟩ : ∃ n', n' = (is[j]'(by omega)).countP fun x => decide (x < id) := ⟨_, rfl⟩
    have hr := ho.2.2 (is[j]'(by omega)) (List.getElem_mem _)
    have hle := S.k4 (is[j]'(by omega)) (List.getElem_mem _)
    by_cases cm : id ∈ (is[j]'(by omega))
    · have q : hasB (pairsOf ks is) s id = true := by
        obtain ⟨_, _, _, _, _, g⟩ := set_pairs h ej hr
        exact hasB_iff.2 (g id cm)
      refine ⟨[], [], 32, ?_, .inl ⟨by decide, rfl, dup q⟩⟩
      unfold index_add.f
      refine Q.Ev.neg c1 (Q.Ev.neg c2 (Ev.bind (serial_find_f hz.1 hz.2) ?_))
      rw [ef]
      refine Q.Ev.pos rfl (Ev.pos (by first | omega | (simp only; omega)) (Ev.pos (by first | omega | (simp only; omega)) ?_))
      simp only [rdI (show j < is.length by omega)]
      refine Ev.bind (rows_Find_f (by omega)) (Q.Ev.pos ?_ (Ev.ok rfl))
      unfold find
      rw [if_pos cm]
    have er : find (is[j]'(by omega)) id = ((n' : Int), false) := by unfold find; rw [if_neg cm, if_pos hr.2, en']
    have hnl : n' ≤ (is[j]'(by omega)).length := by rw [en']; exact List.countP_le_length
    obtain ⟨hji, g1, g2, g3, g4, g5⟩ := set_pairs h ej (l' := (is[j]'(by omega)).take n' ++ id :: (is[j]'(by omega)).drop n') ⟨by simp, by rw [en']; exact rising_put hr.2 cm (by omega)⟩
    have q : ¬ hasB (pairsOf ks is) s id = true := fun g => cm (g4 _ (hasB_iff.1 g) rfl)
    by_cases c3 : sumL is ≥ 2000
    · refine ⟨[], [], 37, ?_, .inl ⟨by decide, rfl, full q c3⟩⟩
      unfold index_add.f
      refine Q.Ev.neg c1 (Q.Ev.neg c2 (Ev.bind (serial_find_f hz.1 hz.2) ?_))
      rw [ef]
      refine Q.Ev.pos rfl (Ev.pos (by first | omega | (simp only; omega)) (Ev.pos (by first | omega | (simp only; omega)) ?_))
      simp only [rdI hji]
      refine Ev.bind (rows_Find_f (by omega)) ?_
      rw [er]
      exact Q.Ev.neg Bool.false_ne_true (Ev.bind (pairs_f S) (Q.Ev.pos (by omega) (Ev.ok rfl)))
    have hlen : (is[j].take n' ++ id :: is[j].drop n').length = is[j].length + 1 := by
      simp
      omega
    refine ⟨_, _, 0, ?_, .inr ⟨rfl, chk_zero.2 ⟨g1, by omega⟩, good q c3 _ _ g1 fun p => ?_⟩⟩
    · unfold index_add.f
      refine Q.Ev.neg c1 (Q.Ev.neg c2 (Ev.bind (serial_find_f hz.1 hz.2) ?_))
      rw [ef]
      refine Q.Ev.pos rfl (Ev.pos (by first | omega | (simp only; omega)) (Ev.pos (by first | omega | (simp only; omega)) ?_))
      simp only [rdI hji]
      refine Ev.bind (rows_Find_f (by omega)) ?_
      rw [er]
      refine Q.Ev.neg Bool.false_ne_true (Ev.bind (pairs_f S) (Q.Ev.neg (by omega) (Q.Ev.bindc (a := (is[j].take n' ++ id :: is[j].drop n', 0)) ?_ (Q.Ev.pos rfl (Q.Ev.bindc (a := (ks, is.take j ++ (is[j].take n' ++ id :: is[j].drop n') :: is.drop (j + 1))) ?_ (Ev.ok rfl))))))
      · unfold rows_With_int.f
        rw [if_neg (by first | omega | (simp only; omega)), if_neg (by first | omega | (simp only; omega)), if_pos (by omega)]
        simp only [Int.toNat_natCast]
      unfold index_put.f
      rw [if_pos (by first | omega | (simp only; omega)), if_neg (fun g => by simp at g), if_pos rfl, if_pos (by first | omega | (simp only; omega))]
      simp only [Int.toNat_natCast]
    rw [g3 p, mem_put]
    constructor
    · rintro (⟨q1, q2 | q2⟩ | ⟨q1, q2⟩)
      · exact .inl (prT_ext q1 q2)
      · refine .inr ?_
        rw [show p = (⟨s, p.f1⟩ : PrT) from prT_ext q1 rfl]
        exact g5 _ q2
      exact .inr q2
    rintro (rfl | q2)
    · exact .inl ⟨rfl, .inl rfl⟩
    by_cases q1 : p.f0 = s
    · exact .inl ⟨q1, .inr (g4 p q2 q1)⟩
    exact .inr ⟨q1, q2⟩
theorem drop_one (id : Int) : ∃ ks' is' e, Ev (fun k => index_Drop.f k ks is s id) (ks', is', e) ∧
    ((e = 31 ∧ ks' = [] ∧ hasB (pairsOf ks is) s id = false) ∨ (e = 0 ∧ hasB (pairsOf ks is) s id = true ∧ chkI ks' is' = 0 ∧ pairsOf ks' is' = dropP (pairsOf ks is) s id)) := by
  obtain ⟨ho, h2⟩ := chk_zero.1 h
  obtain ⟨n1, n2, n3, n4, n5⟩ := chk_len h
  have S := chk_small h
  have hz := sizes_k S
  cases ej : idxT ks s with
  | none =>
    have hn := idxT_absent ej
    have ef : (findT ks s).2 = false := by unfold findT; rw [ej]
    refine ⟨[], [], 31, ?_, .inl ⟨rfl, rfl, Bool.eq_false_iff.2 fun g => hn (pairs_key _ _ (hasB_iff.1 g))⟩⟩
    unfold index_Drop.f
    exact Ev.bind (icheck_f S) (Q.Ev.pos h (Ev.bind (serial_find_f hz.1 hz.2) (Q.Ev.neg (by rw [ef]; decide) (Ev.ok rfl))))
  | some j =>
    obtain ⟨hjk, hjs, _⟩ := idxT_get ej
    have ef : findT ks s = ((j : Int), true) := by unfold findT; rw [ej]
    have hji : j < is.length := by omega
    have hr := ho.2.2 is[j] (List.getElem_mem _)
    have hle := S.k4 is[j] (List.getElem_mem _)
    obtain ⟨_, _, _, _, g4, g5⟩ := set_pairs h ej hr
    by_cases cm : id ∈ is[j]
    · have q : hasB (pairsOf ks is) s id = true := hasB_iff.2 (g5 id cm)
      obtain ⟨n', en'⟩ : ∃ n', n' = is[j].idxOf id := ⟨_, rfl⟩
      have hnl : n' < is[j].length := by rw [en']; exact List.idxOf_lt_length_of_mem cm
      have hat : is[j][n'] = id := by
        subst en'
        exact List.getElem_idxOf hnl
      have er : find is[j] id = ((n' : Int), true) := by unfold find; rw [if_pos cm, en']
      have hm := fun x => mem_cutI hr.2 hnl x
      rw [hat] at hm
      have hlen : (is[j].take n' ++ is[j].drop (n' + 1)).length + 1 = is[j].length := by
        rw [List.length_append, List.length_take, List.length_drop]
        omega
      have ew : rows_Without_int.f is[j] (n' : Int) = some (is[j].take n' ++ is[j].drop (n' + 1), 0) := by
        unfold rows_Without_int.f
        rw [if_neg (by omega), if_neg (by omega), if_pos (by omega)]
        simp only [Int.toNat_natCast]
      have walk : ∀ R, index_put.f ks is (j : Int) true s (is[j].take n' ++ is[j].drop (n' + 1)) = some R → Ev (fun k => index_Drop.f k ks is s id) (R.1, R.2, 0) := fun R hR => by
        unfold index_Drop.f
        refine Ev.bind (icheck_f S) (Q.Ev.pos h (Ev.bind (serial_find_f hz.1 hz.2) ?_))
        rw [ef]
        refine Q.Ev.pos rfl (Ev.pos (by first | omega | (simp only; omega)) (Ev.pos (by first | omega | (simp only; omega)) ?_))
        simp only [rdI hji]
        refine Ev.bind (rows_Find_f (by omega)) ?_
        rw [er]
        exact Q.Ev.pos rfl (Q.Ev.bindc ew (Q.Ev.pos rfl (Q.Ev.bindc hR (Ev.ok rfl))))
      have fin : ∀ (ks' : List ByteArray) (is' : List (List Int)), okI ks' is' → (∀ p, p ∈ pairsOf ks' is' ↔ p ∈ pairsOf ks is ∧ ¬ (p.f0 = s ∧ p.f1 = id)) → pairsOf ks' is' = dropP (pairsOf ks is) s id := fun ks' is' hok hmm =>
        sorted_ext _ _ (ok_sorted hok) (dropP_sorted (ok_sorted ho)) fun p => by rw [hmm, mem_dropP]
      by_cases cz : is[j].take n' ++ is[j].drop (n' + 1) = []
      · obtain ⟨k1, k2, k3⟩ := cut_pairs h ej
        refine ⟨_, _, 0, walk (ks.take j ++ ks.drop (j + 1), is.take j ++ is.drop (j + 1)) ?_, .inr ⟨rfl, q, chk_zero.2 ⟨k1, by simp only; omega⟩, fin _ _ k1 fun p => ?_⟩⟩
        · unfold index_put.f
          rw [if_pos (by omega), if_pos ⟨rfl, cz⟩, if_pos (by omega)]
          simp only [Int.toNat_natCast]
        rw [k3]
        constructor
        · rintro ⟨a, b⟩
          exact ⟨b, fun g => a g.1⟩
        rintro ⟨a, b⟩
        refine ⟨fun g => ?_, a⟩
        have hx := (hm p.f1).2 ⟨g4 p a g, fun q => b ⟨g, q⟩⟩
        rw [cz] at hx
        simp at hx
      obtain ⟨_, k1, k2, k3, _, _⟩ := set_pairs h ej (l' := is[j].take n' ++ is[j].drop (n' + 1)) ⟨cz, rising_cut n' hr.2⟩
      refine ⟨_, _, 0, walk (ks, is.take j ++ (is[j].take n' ++ is[j].drop (n' + 1)) :: is.drop (j + 1)) ?_, .inr ⟨rfl, q, chk_zero.2 ⟨k1, by simp only; omega⟩, fin _ _ k1 fun p => ?_⟩⟩
      · unfold index_put.f
        rw [if_pos (by omega), if_neg (fun g => cz g.2), if_pos rfl, if_pos (by omega)]
        simp only [Int.toNat_natCast]
      rw [k3, hm]
      constructor
      · rintro (⟨a, b, c⟩ | ⟨a, b⟩)
        · refine ⟨?_, fun g => c g.2⟩
          rw [show p = (⟨s, p.f1⟩ : PrT) from prT_ext a rfl]
          exact g5 _ b
        exact ⟨b, fun g => a g.1⟩
      rintro ⟨a, b⟩
      by_cases c : p.f0 = s
      · exact .inl ⟨c, g4 p a c, fun g => b ⟨c, g⟩⟩
      exact .inr ⟨c, a⟩
    refine ⟨[], [], 31, ?_, .inl ⟨rfl, rfl, Bool.eq_false_iff.2 fun g => cm (g4 _ (hasB_iff.1 g) rfl)⟩⟩
    unfold index_Drop.f
    refine Ev.bind (icheck_f S) (Q.Ev.pos h (Ev.bind (serial_find_f hz.1 hz.2) ?_))
    rw [ef]
    refine Q.Ev.pos rfl (Ev.pos (by first | omega | (simp only; omega)) (Ev.pos (by first | omega | (simp only; omega)) ?_))
    simp only [rdI hji]
    refine Ev.bind (rows_Find_f (by omega)) (Q.Ev.neg ?_ (Ev.ok rfl))
    unfold find
    rw [if_neg cm]
    exact Bool.false_ne_true
end
theorem iadd_l0 {s : ByteArray} {ids : List Int} (hs : checkS s = 0) (h2 : ids.length ≤ 5000) (m : Nat) : ∀ (i : Nat) (ks : List ByteArray) (is : List (List Int)), chkI ks is = 0 → ids.length - i = m → i ≤ ids.length →
    ∃ ks' is' e, Ev (fun k => index_Add.l0 k s ids (ids.length : Int) (i : Int) ks is) (ks', is', e) ∧ ((e ≠ 0 ∧ ks' = [] ∧ addR s (pairsOf ks is) (ids.drop i) = ([], e)) ∨ (e = 0 ∧ chkI ks' is' = 0 ∧ addR s (pairsOf ks is) (ids.drop i) = (pairsOf ks' is', 0))) := by
  induction m with
  | zero =>
    intro i ks is h hd hi
    refine ⟨ks, is, 0, Ev.step (fun k => by simp only [index_Add.l0]; rfl) (Ev.neg (by omega) (Ev.ok rfl)), .inr ⟨rfl, h, ?_⟩⟩
    rw [List.drop_eq_nil_of_le (by omega)]
    rfl
  | succ m ih =>
    intro i ks is h hd hi
    have hi' : i < ids.length := by omega
    rw [drop_cons hi']
    obtain ⟨k1, i1, e1, w1, r1⟩ := add_one h hs ids[i]
    rcases r1 with ⟨a, b, c⟩ | ⟨a, b, c⟩
    · refine ⟨[], [], e1, Ev.step (fun k => by simp only [index_Add.l0]; rfl) (Ev.pos (by omega) (Ev.pos (by omega) (Ev.pos (by omega) ?_))), .inl ⟨a, rfl, c _⟩⟩
      rw [rd_nat hi']
      exact Ev.bind w1 (Q.Ev.neg a (Ev.ok rfl))
    obtain ⟨k2, i2, e2, w2, r2⟩ := ih (i + 1) k1 i1 b (by omega) (by omega)
    refine ⟨k2, i2, e2, Ev.step (fun k => by simp only [index_Add.l0]; rfl) (Ev.pos (by omega) (Ev.pos (by omega) (Ev.pos (by omega) ?_))), by rw [c]; exact r2⟩
    rw [rd_nat hi', wrap_eq (x := (i : Int) + 1) (by omega) (by omega)]
    exact Ev.bind w1 (Q.Ev.pos a w2)
theorem iadd_f {s : ByteArray} {ids : List Int} (hz : s.size < 1099511627776) (h2 : ids.length ≤ 5000) {ks : List ByteArray} {is : List (List Int)} (h : chkI ks is = 0) :
    ∃ ks' is' e, Ev (fun k => index_Add.f k ks is s ids) (ks', is', e) ∧ ((e ≠ 0 ∧ ks' = [] ∧ (if checkS s = 0 then addR s (pairsOf ks is) ids else ([], 9)) = ([], e)) ∨ (e = 0 ∧ checkS s = 0 ∧ chkI ks' is' = 0 ∧ addR s (pairsOf ks is) ids = (pairsOf ks' is', 0))) := by
  have S := chk_small h
  by_cases c : checkS s = 0
  · obtain ⟨k1, i1, e1, w1, r1⟩ := iadd_l0 c h2 ids.length 0 ks is h (by omega) (by omega)
    rw [List.drop_zero] at r1
    refine ⟨k1, i1, e1, ?_, ?_⟩
    · unfold index_Add.f
      exact Ev.bind (icheck_f S) (Q.Ev.pos h (Q.Ev.bindc (serial_check_f s (by omega)) (Q.Ev.pos c w1)))
    rw [if_pos c]
    exact r1.imp id fun g => ⟨g.1, c, g.2⟩
  refine ⟨[], [], 9, ?_, .inl ⟨by decide, rfl, by rw [if_neg c]⟩⟩
  have e := (checkS_or s).resolve_left c
  unfold index_Add.f
  exact Ev.bind (icheck_f S) (Q.Ev.pos h (Q.Ev.bindc (serial_check_f s (by omega)) (Q.Ev.neg c (Ev.ok (by rw [e])))))
end Go.Proofs.Ytdpcgigjlcpofaa.Q
namespace Go.Proofs.Ytdpcgigjlcpofaa.Pure
open Go.RowKit Ytdpcgigjlcpofaa.F YtdpcgigjlcpofaaX Ytdpcgigjlcpofaa.Q YtdpcgigjlcpofaaW.PrintWords YtdpcgigjlcpofaaW.PrintLast
section
variable {ks : List ByteArray} {is : List (List Int)} (c : chkI ks is = 0) (haw : backhaullaw14_awake.f = some true)
include c haw
theorem turns_l1 {s : ByteArray} {ids : List Int} (h2 : ids.length ≤ 5000) (hn : ids.Nodup) (hf : ∀ id ∈ ids, (⟨s, id⟩ : PrT) ∉ pairsOf ks is) (m : Nat) : ∀ (i : Nat) (k1 : List ByteArray) (i1 : List (List Int)), ids.length - i = m → i ≤ ids.length → chkI k1 i1 = 0 → (∀ p, p ∈ pairsOf k1 i1 ↔ p ∈ pairsOf ks is ∨ (p.f0 = s ∧ p.f1 ∈ ids.drop i)) →
    Ev (fun k => backhaullaw14_IndexTurns.l1 k s ids (pairsOf ks is) (i : Int) ks is k1 i1) true := by
  induction m with
  | zero =>
    intro i k1 i1 hd hi h1 hm
    have e : pairsOf k1 i1 = pairsOf ks is := sorted_ext _ _ (ok_sorted (chk_zero.1 h1).1) (ok_sorted (chk_zero.1 c).1) fun p => by
      rw [hm, List.drop_eq_nil_of_le (by omega)]
      simp
    exact Ev.step (fun k => by simp only [backhaullaw14_IndexTurns.l1]; rfl) (Ev.neg (by omega) (Ev.bind (same_pairs_f h1 e) (Q.Ev.pos rfl (Ev.bind (same_pairs_f c rfl) (Q.Ev.pos rfl (Q.Ev.bindc haw (Q.Ev.pos rfl (Q.Ev.const rfl))))))))
  | succ m ih =>
    intro i k1 i1 hd hi h1 hm
    have h : i < ids.length := by omega
    have hdr := drop_cons h
    refine Ev.step (fun k => by simp only [backhaullaw14_IndexTurns.l1]; rfl) (Ev.pos (by omega) (Ev.pos (by omega) ?_))
    rw [rd_nat h, wrap_eq (x := (i : Int) + 1) (by omega) (by omega)]
    obtain ⟨k2, i2, e1, w1, r1⟩ := drop_one h1 (s := s) ids[i]
    have hh : hasB (pairsOf k1 i1) s ids[i] = true := hasB_iff.2 ((hm _).2 (.inr ⟨rfl, by rw [hdr]; exact List.mem_cons_self⟩))
    have hni : ids[i] ∉ ids.drop (i + 1) := by
      have := hn.sublist (List.drop_sublist i ids)
      rw [hdr, List.nodup_cons] at this
      exact this.1
    rcases r1 with ⟨_, _, r3⟩ | ⟨rfl, r2, r3, r4⟩
    · rw [hh] at r3
      cases r3
    refine Ev.bind w1 (Q.Ev.pos rfl (ih (i + 1) k2 i2 (by omega) (by omega) r3 fun p => ?_))
    rw [r4, mem_dropP, hm, hdr, List.mem_cons]
    constructor
    · rintro ⟨a | ⟨a, b⟩, d⟩
      · exact .inl a
      exact .inr ⟨a, b.resolve_left fun q => d ⟨a, q⟩⟩
    rintro (a | ⟨a, b⟩)
    · refine ⟨.inl a, fun g => ?_⟩
      have := hf ids[i] (List.getElem_mem h)
      rw [← prT_ext (p := p) (q := ⟨s, ids[i]⟩) g.1 g.2] at this
      exact this a
    exact ⟨.inr ⟨a, .inr b⟩, fun g => hni (g.2 ▸ b)⟩
theorem turns_l0 {s : ByteArray} {ids : List Int} (hz : s.size < 1099511627776) (h2 : ids.length ≤ 5000) {k1 : List ByteArray} {i1 : List (List Int)} (hs : checkS s = 0) (h1 : chkI k1 i1 = 0) (ha : addR s (pairsOf ks is) ids = (pairsOf k1 i1, 0)) (n : Nat) : ∀ (out : List Int), n ≤ ids.length → out = (ids.drop n).reverse →
    Ev (fun k => backhaullaw14_IndexTurns.l0 k s ids (pairsOf ks is) out ((n : Int) - 1) ks is k1 i1) true := by
  obtain ⟨n1, n2, n3, n4, n5⟩ := chk_len c
  have hsort := ok_sorted (chk_zero.1 c).1
  induction n with
  | zero =>
    intro out hn ho
    rw [List.drop_zero] at ho
    subst ho
    obtain ⟨a1, a2, a3⟩ := (addR_ok (s := s) ids (pairsOf ks is) hsort (by omega)).1 (by rw [ha])
    obtain ⟨b1, b2⟩ := addR_mem (s := s) ids (pairsOf ks is) hsort (by rw [ha])
    rw [ha] at b1 b2
    have q : (addR s (pairsOf ks is) ids.reverse).2 = 0 := (addR_ok (s := s) ids.reverse (pairsOf ks is) hsort (by omega)).2 ⟨fun x hx => a1 x (List.mem_reverse.1 hx), by unfold List.Nodup at a2 ⊢; rw [List.pairwise_reverse]; exact a2.imp fun h => h.symm, by rw [List.length_reverse]; exact a3⟩
    obtain ⟨d1, d2⟩ := addR_mem (s := s) ids.reverse (pairsOf ks is) hsort q
    obtain ⟨k2, i2, e2, w2, r2⟩ := iadd_f (s := s) (ids := ids.reverse) hz (by rw [List.length_reverse]; exact h2) c
    refine Ev.step (fun k => by simp only [backhaullaw14_IndexTurns.l0]; rfl) (Ev.neg (by omega) (Ev.bind w2 (Ev.bind (ref_pairs_f (chk_small h1)) ?_)))
    rw [if_pos (okB_iff.2 (chk_zero.1 h1).1)]
    rcases r2 with ⟨a, _, r⟩ | ⟨rfl, r2, r3, r⟩
    · rw [if_pos hs] at r
      rw [r] at q
      exact (a q).elim
    rw [r] at d1 d2
    have e : pairsOf k2 i2 = pairsOf k1 i1 := sorted_ext _ _ d1 b1 fun p => by rw [d2, b2, List.mem_reverse]
    refine Q.Ev.pos rfl (Q.Ev.pos (decide_eq_true (chk_zero.1 h1).2) (Ev.bind (same_pairs_f r3 e) (Ev.step (fun k => by simp only [backhaullaw14_IndexTurns.j2]; rfl) (Q.Ev.neg (by decide) ?_))))
    exact turns_l1 c haw h2 a2 (fun id hid => (a1 id hid).2.2) ids.length 0 k1 i1 (by omega) (by omega) h1 fun p => by rw [b2, List.drop_zero]
  | succ n ih =>
    intro out hn ho
    have hlen : out.length ≤ ids.length := by rw [ho, List.length_reverse, List.length_drop]; omega
    rw [show ((n + 1 : Nat) : Int) - 1 = (n : Int) by omega]
    refine Ev.step (fun k => by simp only [backhaullaw14_IndexTurns.l0]; rfl) (Ev.pos (by omega) (Ev.pos (by omega) (Ev.pos (by omega) (Ev.pos (by omega) ?_))))
    rw [rd_nat (show n < ids.length by omega), wrap_eq (x := (n : Int) - 1) (by omega) (by omega)]
    refine ih _ (by omega) ?_
    rw [ho, drop_cons (show n < ids.length by omega), List.reverse_cons]
end
theorem IndexTurns : backhaullaw14_IndexTurns.Pure := by
  intro ks is s ids hk hi hs hid
  refine Ev.rounds (r := true) ?_
  have haw : backhaullaw14_awake.f = some true := rfl
  have out : ∀ u : Bool, u = true → Ev (fun k => backhaullaw14_IndexTurns.j0 k s ids u ks is) true := fun u hu =>
    Ev.step (fun k => by simp only [backhaullaw14_IndexTurns.j0]; rfl) (Q.Ev.pos hu (Q.Ev.bindc haw (Q.Ev.pos rfl (Q.Ev.const rfl))))
  unfold backhaullaw14_IndexTurns.f
  refine Ev.bind (ifew_f _ _) (Q.Ev.ite (fun q => ?_) (fun _ => out true rfl))
  have S := few_small q
  refine Q.Ev.ite (fun _ => out true rfl) (fun hsz => Q.Ev.ite (fun _ => out true rfl) (fun hln => Ev.bind (icheck_f S) ?_))
  by_cases c : chkI ks is = 0
  · have e : (chkI ks is != 0) = false := by rw [c]; rfl
    rw [e]
    refine Ev.step (fun k => by simp only [backhaullaw14_IndexTurns.j0]; rfl) (Q.Ev.neg (by decide) (Ev.bind (ref_pairs_f S) ?_))
    rw [if_pos (okB_iff.2 (chk_zero.1 c).1)]
    obtain ⟨k1, i1, e1, w1, r1⟩ := iadd_f (s := s) (ids := ids) (by omega) (by omega) c
    refine Ev.bind w1 ?_
    rcases r1 with ⟨a, _, _⟩ | ⟨rfl, r2, r3, r⟩
    · exact Q.Ev.neg a (Ev.bind (same_pairs_f c rfl) (Q.Ev.pos rfl (Q.Ev.bindc haw (Q.Ev.pos rfl (Q.Ev.const rfl)))))
    refine Q.Ev.pos rfl ?_
    rw [wrap_eq (x := (ids.length : Int) - 1) (by omega) (by omega)]
    exact turns_l0 c haw (by omega) (by omega) r2 r3 r ids.length [] (by omega) (by rw [List.drop_length]; rfl)
  exact out _ (by simpa using c)
end Go.Proofs.Ytdpcgigjlcpofaa.Pure
namespace Go.Proofs.YtdpcgigjlcpofaaX
open Go.RowKit YtdpcgigjlcpofaaW.PrintWords YtdpcgigjlcpofaaW.PrintLast YtdpcgigjlcpofaaW.PrintMore
def Opens {α : Type} (P : Program) (t : TypeId) (k : Kd α) (Ok : α → Prop) : Prop :=
  ∀ {H : Type} {enc : TypeId × Value → H} {w : World} {base : Nat} {spare : Nat → Bool} {held : Bool} {fuel : Nat} {cs : List Value} {x : DataW H × List MemPlace},
    DataW.trod enc P w base spare held fuel t cs = some x → ∃ a : α, k.K w a cs ∧ Ok a
theorem Opens.int {P : Program} {t : TypeId} {k : IntKind} (ht : P.underlying t = some (.int k)) : Opens P t (Kd.int k) (fun a => (Lit.int k a).wf = true) := by
  intro H enc w base spare held fuel cs x h
  obtain ⟨n, rfl, _, hw⟩ := DataW.trod_int ht h
  exact ⟨n, rfl, hw⟩
theorem Opens.bool {P : Program} {t : TypeId} (ht : P.underlying t = some .bool) : Opens P t Kd.bool (fun _ => True) := by
  intro H enc w base spare held fuel cs x h
  obtain ⟨n, rfl, _⟩ := DataW.trod_bool ht h
  exact ⟨n, rfl, trivial⟩
theorem Opens.string {P : Program} {t : TypeId} (ht : P.underlying t = some .string) : Opens P t Kd.string (fun a => a.size ≤ maxLen) := by
  intro H enc w base spare held fuel cs x h
  obtain ⟨s, rfl, _, hw⟩ := DataW.trod_string ht h
  exact ⟨s, rfl, hw⟩
theorem list_of {α : Type} {p : Nat → α → Prop} : ∀ n, (∀ i, i < n → ∃ a, p i a) → ∃ xs : List α, xs.length = n ∧ ∀ i a, xs[i]? = some a → p i a
  | 0, _ => ⟨[], rfl, fun i a h => by simp at h⟩
  | n + 1, h => by
    obtain ⟨xs, hl, hx⟩ := list_of n (fun i hi => h i (by omega))
    obtain ⟨a, ha⟩ := h n (by omega)
    refine ⟨xs ++ [a], by simp [hl], fun i b hb => ?_⟩
    rcases Nat.lt_or_ge i xs.length with h1 | h1
    · rw [List.getElem?_append_left h1] at hb
      exact hx i b hb
    rw [List.getElem?_append_right h1] at hb
    have h2 : i - xs.length = 0 := by
      have := (List.getElem?_eq_some_iff.1 hb).1
      simp at this; omega
    rw [h2] at hb
    have : a = b := by simpa using hb
    subst this
    have : i = n := by omega
    rw [this]; exact ha
theorem Opens.slice {α : Type} {P : Program} {t e : TypeId} {k : Kd α} {Ok : α → Prop} (ht : P.underlying t = some (.slice e)) (hc : P.cellsOf e = k.sz) (h : Opens P e k Ok) :
    Opens P t (Kd.slice e k) (fun xs => xs.length ≤ maxLen ∧ ∀ x ∈ xs, Ok x) := by
  intro H enc w base spare held fuel cs x hx
  rcases Go.Deep.open_slice ht hx with ⟨rfl, rfl⟩ | ⟨a, len, cap, m, n, D, Pl, rfl, hb, hl, hm, hmm, rfl, hel⟩
  · exact ⟨[], ⟨none, 0, rfl, by simp, rfl, by simp, fun h => absurd h (by simp)⟩, by simp [maxLen], by simp⟩
  have hlm : len ≤ m := by rw [hmm]; split <;> omega
  obtain ⟨xs, hlen, hxs⟩ := list_of (p := fun i (a' : α) => ∃ cs', w.cells? base (a.add (i * P.cellsOf e)) (P.cellsOf e) = some cs' ∧ k.K w a' cs' ∧ Ok a') len (fun i hi => by
    obtain ⟨cs', h1, h2⟩ := hel i (by omega)
    obtain ⟨a', h3, h4⟩ := h h2
    exact ⟨a', cs', h1, h3, h4⟩)
  have hlm2 : len ≤ maxLen := by omega
  refine ⟨xs, ⟨some a, cap, by rw [hlen], by rw [hlen]; exact hl, rfl, by rw [hlen]; simpa [maxLen] using hlm2, fun _ => ⟨a, rfl, fun j p hj => ?_⟩⟩, by rw [hlen]; exact hlm2, fun y hy => ?_⟩
  · obtain ⟨cs', h1, h2, _⟩ := hxs j p hj
    refine ⟨cs', k.K_len h2, h2, fun i u hu => ?_⟩
    obtain ⟨_, _, h3⟩ := World.cells?_some h1
    have h4 := h3 i (by have := (List.getElem?_eq_some_iff.1 hu).1; have := k.K_len h2; omega)
    rw [← hc, ← Go.Proofs.YtdpcgigjlcpofaaW.PrintWords.add_add]
    rw [← hu]; exact h4
  obtain ⟨i, hi, rfl⟩ := List.mem_iff_getElem.1 hy
  obtain ⟨_, _, _, h3⟩ := hxs i _ (List.getElem?_eq_getElem hi)
  exact h3
theorem field_reads {H : Type} {enc : TypeId × Value → H} {P : Program} {w : World} {base : Nat} {spare : Nat → Bool} {held : Bool} {fuel : Nat} {t : TypeId} {cs : List Value} {x : DataW H × List MemPlace} {fs : Array Field}
    (ht : P.underlying t = some (.struct fs)) (h : DataW.trod enc P w base spare held fuel t cs = some x) :
    cs.length = P.cellsOf t ∧ ∃ n, ∀ (i : Nat) (f : Field), fs[i]? = some f → ∃ y, DataW.trod enc P w base spare held n f.type ((cs.drop f.offset).take (P.cellsOf f.type)) = some y := by
  obtain ⟨xs, n, _, _, hl, hx, hf⟩ := DataW.trod_struct ht h
  refine ⟨hl, n, fun i f hif => ?_⟩
  rw [hf i f hif]
  have hi := (Array.getElem?_eq_some_iff.1 hif).1
  exact ⟨_, List.getElem?_eq_getElem (by rw [hx]; exact hi)⟩
theorem slice_cells {α : Type} {k : Kd α} {e : Nat} {w : World} {xs : List α} {v : Value} (h : (Kd.slice e k).K w xs [v]) : ∃ A c, v = .slice A xs.length c ∧ xs.length ≤ c ∧ k.C w A xs.length xs := by
  obtain ⟨A, c, he, hl, hc⟩ := h
  injection he with he
  exact ⟨A, c, he, hl, hc⟩
theorem band {a b : Bool} (h1 : a = true) (h2 : b = true) : (a && b) = true := by rw [h1, h2]; rfl
theorem mayEnter_of {P : Program} {L c : List Char} {rest : List (List Char)} (h : P.initOrder.toList = L) (h1 : behindMainWord (wordsSigns L) = c :: rest) (h2 : ((stripLifts liftWords (c :: rest)).2.head? == some "cut".toList) = true) (h3 : P.laysLater = false) (h4 : P.bearsReflect = false) (h5 : (stripLifts liftWords (c :: rest)).1 = []) (h6 : P.doorFits [] = true) : P.mayEnter = true := by
  unfold Program.mayEnter
  rw [h, h1]
  dsimp only
  rw [h2, h3, h4, h5, h6]
  simp
theorem make_of {P : Program} {L : List Char} {rest : List (List Char)} (h : P.initOrder.toList = L) (h1 : behindMainWord (wordsSigns L) = "cut".toList :: rest) : P.make = some .cut := by
  unfold Program.make
  rw [h, h1]
  dsimp only
  rw [if_neg (by decide), if_pos (by simp)]
end Go.Proofs.YtdpcgigjlcpofaaX
set_option maxRecDepth 10000
namespace Go.Proofs.Ytdpcgigjlcpofaa.Join
open YtdpcgigjlcpofaaX
def initSigns : List Char := ['h', 'a', 'r', 'n', 'e', 's', 's', ' ', 'c', 'e', 'c', 'b', '8', '6', 'd', '2', '2', '8', '2', 'f', '6', '6', '6', '7', 'a', '3', 'b', '2', '0', 'd', '3', 'e', 'a', 'd', '2', 'c', 'f', 'e', '3', '7', '7', '5', 'b', '7', 'b', '3', 'd', '0', 'c', '6', '0', '2', '6', '1', '5', 'c', 'f', '5', '2', '5', '6', '6', 'c', '6', '0', '2', '7', '8', '5', 'c', '9', '9', ' ', 'c', 'u', 't', ' ', 'a', 't', ' ', 'b', 'a', 'c', 'k', 'h', 'a', 'u', 'l', '/', 'b', 'a', 'c', 'k', 'h', 'a', 'u', 'l', 'l', 'a', 'w', '0', '6', '.', 'S', 't', 'r', 'i', 'c', 't', 'F', 'i', 'r', 's', 't', ' ', 'b', 'a', 'c', 'k', 'h', 'a', 'u', 'l', '/', 'b', 'a', 'c', 'k', 'h', 'a', 'u', 'l', 'l', 'a', 'w', '1', '4', '.', 'I', 'n', 'd', 'e', 'x', 'T', 'e', 'l', 'l', 's', ' ', 'b', 'a', 'c', 'k', 'h', 'a', 'u', 'l', '/', 'b', 'a', 'c', 'k', 'h', 'a', 'u', 'l', 'l', 'a', 'w', '1', '4', '.', 'I', 'n', 'd', 'e', 'x', 'A', 'd', 'd', 's', ' ', 'b', 'a', 'c', 'k', 'h', 'a', 'u', 'l', '/', 'b', 'a', 'c', 'k', 'h', 'a', 'u', 'l', 'l', 'a', 'w', '1', '4', '.', 'I', 'n', 'd', 'e', 'x', 'T', 'u', 'r', 'n', 's', ' ', 'b', 'a', 'c', 'k', 'h', 'a', 'u', 'l', '/', 'b', 'a', 'c', 'k', 'h', 'a', 'u', 'l', 'l', 'a', 'w', '1', '4', '.', 'I', 'n', 'd', 'e', 'x', 'W', 'h', 'o', 'l', 'e', ' ', 'b', 'a', 'c', 'k', 'h', 'a', 'u', 'l', '/', 'b', 'a', 'c', 'k', 'h', 'a', 'u', 'l', 'l', 'a', 'w', '1', '5', '.', 'B', 'a', 't', 'c', 'h', 'A', 'p', 'p', 'l', 'i', 'e', 's', ' ', 'b', 'a', 'c', 'k', 'h', 'a', 'u', 'l', '/', 'b', 'a', 'c', 'k', 'h', 'a', 'u', 'l', 'l', 'a', 'w', '1', '5', '.', 'B', 'a', 't', 'c', 'h', 'C', 'o', 'd', 'e', 's', ' ', 'b', 'a', 'c', 'k', 'h', 'a', 'u', 'l', '/', 'b', 'a', 'c', 'k', 'h', 'a', 'u', 'l', 'l', 'a', 'w', '1', '5', '.', 'B', 'a', 't', 'c', 'h', 'W', 'h', 'o', 'l', 'e', ' ', 'b', 'a', 'c', 'k', 'h', 'a', 'u', 'l', '/', 'b', 'a', 'c', 'k', 'h', 'a', 'u', 'l', 'l', 'a', 'w', '1', '5', '.', 'B', 'a', 't', 'c', 'h', 'U', 'n', 'd', 'o', ' ', 'b', 'a', 'c', 'k', 'h', 'a', 'u', 'l', '/', 'b', 'a', 'c', 'k', 'h', 'a', 'u', 'l', 'l', 'a', 'w', '1', '5', '.', 'B', 'a', 't', 'c', 'h', 'D', 'i', 'f', 'f']
theorem initText : Try.pinned.checked.prog.initOrder = String.ofList initSigns := by kernel_rfl
theorem initList : Try.pinned.checked.prog.initOrder.toList = initSigns := (congrArg String.toList initText).trans String.toList_ofList
theorem mayEnter_is : Try.pinned.checked.prog.mayEnter = true :=
  mayEnter_of (L := initSigns) (c := "cut".toList) (rest := (behindMainWord (wordsSigns initSigns)).tail) initList (by kernel_rfl) (by kernel_rfl) (by kernel_rfl) (by kernel_rfl) (by kernel_rfl) (by kernel_rfl)
theorem make_is : Try.pinned.checked.prog.make = some .cut :=
  make_of (L := initSigns) (rest := (behindMainWord (wordsSigns initSigns)).tail) initList (by kernel_rfl)
theorem lifts_is : Try.pinned.checked.prog.liftsFinal = false := by
  unfold Program.liftsFinal Program.headLifts
  rw [initList]
  kernel_rfl
end Go.Proofs.Ytdpcgigjlcpofaa.Join
namespace Go.Proofs.Ytdpcgigjlcpofaa.indexTurns
open Go.ChangeShapes Go.WideShapes Go.ChangeAt Go.RowKit YtdpcgigjlcpofaaX Ytdpcgigjlcpofaa.F YtdpcgigjlcpofaaW.PrintWords YtdpcgigjlcpofaaW.PrintLast YtdpcgigjlcpofaaW.PrintMore
open Go.ChangeMaps (open_string shut_string)
theorem own : ownKnob Try.prog.godebug = none := by kernel_rfl
theorem laidOut : laidOutB Try.prog = true := by kernel_rfl
set_option maxRecDepth 100000 in
theorem opens_k51 : Opens Try.prog 51 k51 (fun x => ((x.f0.length ≤ maxLen ∧ ∀ y ∈ x.f0, y.size ≤ maxLen) ∧ (x.f1.length ≤ maxLen ∧ ∀ y ∈ x.f1, (y.length ≤ maxLen ∧ ∀ x ∈ y, (Lit.int .i64 x).wf = true)))) := by
  intro H enc w base spare held fuel cs x h
  obtain ⟨hl, n, hf⟩ := field_reads Try.underlying51 h
  have hl2 : cs.length = 2 := hl.trans (by kernel_rfl)
  match cs, hl2 with
  | [c0, c1], _ =>
    obtain ⟨y0, h0⟩ := hf 0 _ rfl
    have e0 : Try.prog.cellsOf 46 = 1 := by kernel_rfl
    (try dsimp only at h0)
    (try simp only [e0] at h0)
    obtain ⟨a0, k0, o0⟩ := (Opens.slice Try.underlying46 (by kernel_rfl) (Opens.string Try.underlying9)) h0
    have k0' : ((Kd.slice 9 Kd.string)).K w a0 [c0] := k0
    obtain ⟨y1, h1⟩ := hf 1 _ rfl
    have e1 : Try.prog.cellsOf 49 = 1 := by kernel_rfl
    (try dsimp only at h1)
    (try simp only [e1] at h1)
    obtain ⟨a1, k1, o1⟩ := (Opens.slice Try.underlying49 (by kernel_rfl) (Opens.slice Try.underlying44 (by kernel_rfl) (Opens.int Try.underlying3))) h1
    have k1' : ((Kd.slice 44 (Kd.slice 3 (Kd.int .i64)))).K w a1 [c1] := k1
    exact ⟨(⟨a0, a1⟩ : S51), ⟨[c0], [c1], rfl, k0', k1'⟩, ⟨o0, o1⟩⟩
set_option maxRecDepth 100000 in
theorem lifted (os : Os) (started : os.Started) (H : Type) (enc : TypeId × Value → H) :
    ReturnsInHanded {} Try.checked os 6 .any (Rows.indexTurnsSpec.pre6 enc Try.prog Try.f6 Rows.indexTurnsRow.domain false) (Rows.indexTurnsSpec.post enc Try.prog Try.f6 false true false false) := by
  refine returnsInHanded_of_change_sized (C := Try.checked) own started (by kernel_rfl) Try.func6
    (ChangeSpec.witness6 (enc := enc) (C := Try.checked) false ⟨#[], #[.agg #[.slice none 0 0, .slice none 0 0], .string ByteArray.empty, .slice none 0 0], []⟩ 8 (by kernel_rfl) (by kernel_rfl) (by kernel_rfl) (by kernel_rfl)) ?_
  intro W base args ds gs before hval0 hW hcnd hsz0 _
  have hval : ∀ (j : Nat) t v, Try.f6.params[j]? = some t → args[j]? = some v → Value.okWide Try.prog W .any base t v := hval0
  have hW' := hW
  obtain ⟨p, q, hA0, hV, rfl, hfz, hnd⟩ := hW
  have hA : DataW.TrodAll enc Try.prog W 0 (fun _ => true) true Try.f6.params.toList args.toList ds p := hA0
  rw [Try.params6] at hA hval
  obtain ⟨v0, vs0, d0, ds0, p0, q0, hargs, rfl, rfl, h0, r0⟩ := trodAll_cons hA
  obtain ⟨v1, vs1, d1, ds1, p1, q1, rfl, rfl, rfl, h1, r1⟩ := trodAll_cons r0
  obtain ⟨v2, vs2, d2, ds2, p2, q2, rfl, rfl, rfl, h2, r2⟩ := trodAll_cons r1
  obtain ⟨rfl, rfl, rfl⟩ := trodAll_nil r2
  obtain rfl : args = #[v0, v1, v2] := by cases args; simp_all
  obtain ⟨rfl, rfl⟩ := trodVars_none hV
  have k0 := h0
  have lt0 : ∀ x ∈ p0, x.block < W.heap.size := by obtain ⟨m, hm⟩ := k0; exact DataW.trod_lt m _ _ _ hm
  obtain ⟨cs0, rfl, _⟩ := okWide_struct Try.underlying51 (hval 0 51 v0 rfl rfl)
  obtain ⟨f0, hf0⟩ := h0
  obtain ⟨x0, hk0, ho0⟩ := opens_k51 hf0
  obtain ⟨A0_0, c0_0, A0_1, c0_1, he0, hl0_0, hc0_0, hl0_1, hc0_1⟩ := k51_open hk0
  obtain rfl : cs0 = _ := Array.toList_inj.1 (he0.trans (List.toList_toArray).symm)
  have k1 := h1
  have lt1 : ∀ x ∈ p1, x.block < W.heap.size := by obtain ⟨m, hm⟩ := k1; exact DataW.trod_lt m _ _ _ hm
  obtain ⟨x1, rfl⟩ := okWide_string Try.underlying9 (hval 1 9 v1 rfl rfl)
  obtain ⟨f1, hf1⟩ := h1
  obtain ⟨z1, hk1, ho1⟩ := (Opens.string Try.underlying9) hf1
  obtain rfl : x1 = z1 := by have := hk1; injection this with this; injection this
  have k2 := h2
  have lt2 : ∀ x ∈ p2, x.block < W.heap.size := by obtain ⟨m, hm⟩ := k2; exact DataW.trod_lt m _ _ _ hm
  obtain ⟨b2, len2, cap2, rfl⟩ := okWide_slice Try.underlying44 (hval 2 44 v2 rfl rfl)
  obtain ⟨f2, hf2⟩ := h2
  obtain ⟨x2, hk2, ho2⟩ := (Opens.slice Try.underlying44 (by kernel_rfl) (Opens.int Try.underlying3)) hf2
  obtain ⟨A2, c2, he2, hl2, hc2⟩ := slice_cells (show _ from hk2)
  injection he2 with e2_1 e2_2 e2_3
  subst e2_1 e2_2 e2_3
  obtain ⟨k, h⟩ : ∃ k, backhaullaw14_IndexTurns.f k x0.f0 x0.f1 x1 x2 = some true := Pure.IndexTurns x0.f0 x0.f1 x1 x2 ho0.1 ho0.2 ho1 ho2
  refine (backhaullaw14_IndexTurns.calls k _ _ x0.f0 _ _ x0.f1 x1 _ _ x2 W hc0_0 hl0_0 hc0_1 hl0_1 hc2 hl2 h).mono fun e W' hq => ?_
  obtain ⟨he, bel0⟩ := hq
  have bel : Below W.heap.size W W' := bel0
  subst he
  exact ⟨_, rfl, _, _, _, [], _, [], hW', trodAll_mk1 (shut_bool Try.underlying4 _), (trodAll_cons_mk (Below.trod laidOut (by kernel_rfl) (of_decide_eq_true (by kernel_rfl)) k0 bel lt0) (trodAll_cons_mk (Below.trod laidOut (by kernel_rfl) (of_decide_eq_true (by kernel_rfl)) k1 bel lt1) (trodAll_cons_mk (Below.trod laidOut (by kernel_rfl) (of_decide_eq_true (by kernel_rfl)) k2 bel lt2) trodAll_mk0))), rfl, bel.frame _, fun h => by cases h⟩
theorem closed_ : joinedFacts Try.pinned.checked.prog 6 Try.f6 Rows.indexTurnsSpec Rows.indexTurnsRow = true := by
  unfold joinedFacts
  repeat' (with_reducible apply band)
  any_goals with_reducible exact Join.mayEnter_is
  any_goals (rw [Join.make_is]; kernel_rfl)
  any_goals (rw [Join.lifts_is]; kernel_rfl)
  all_goals kernel_rfl
theorem over : Rows.indexTurnsRow.holds Try.pinned (OpenSpec.ofChange Rows.indexTurnsSpec) :=
  OpenClaim.holds_of_wide 6 Try.f6 rfl rfl rfl rfl rfl rfl rfl ⟨rfl, rfl, rfl, rfl, rfl⟩ rfl rfl rfl rfl rfl (by kernel_rfl) Try.func6 closed_
    (of_decide_eq_true (by kernel_rfl)) (by unfold Func.isWrapper; first | (rw [if_pos (by decide +kernel)]; kernel_rfl) | (rw [if_neg (by decide +kernel)]; exact ⟨rfl, rfl⟩))
    (fun os started H enc _ => lifted os started H enc)
theorem proved : Rows.IndexTurnsSaid := over
#print axioms proved
end Go.Proofs.Ytdpcgigjlcpofaa.indexTurns
namespace Go.Proofs.Ytdpcgigjlcpofaa
theorem indexTurns_holds : Rows.IndexTurnsSaid := indexTurns.proved
end Go.Proofs.Ytdpcgigjlcpofaa
