-- merged and pruned by prune.py (the session's own program); its words go back to the kit's print
import Derived.Test.YtefhljhpcpajgaaProg
import Derived.Below
import Derived.Deep.Draws
import Derived.Deep.AppendLies
import Derived.Maps.AppendAt
import Derived.OwnWalk
import Derived.Laws.BytesArg
import Derived.Laws.MakeOwn
import Derived.Laws.OwnMore
import Derived.Deep.OwnRows
import Derived.Tactics
import Derived.Lib.ConvBytes
import Derived.Laws.Slices
import Derived.WalkKit
import Derived.KernelRfl
import Derived.RowKit3
import Derived.Deep.LoopGhost
import Derived.Deep.QuietTactic
import Derived.BigQuiet
import Derived.WideLaws
import Derived.Deep.DeepCutAuto
import Derived.Deep.CutBlock
import Derived.Deep.RegionHeld3
import Derived.Laws.Rows
import Derived.Lib.AppendStr
import Derived.ArgAppend
import Derived.Laws.IdiomCopy
import Derived.OrdersHeld
import Derived.Laws.BitsLemmas
import Derived.RowKit
import Derived.Laws.StructEq
import Derived.Deep.RegionLawGrows
import Derived.Lib.SliceRun
import Derived.Shelf.SlSortCmp.Insertion1
import Derived.Shelf.Small.Bits
import Derived.Shelf.Strconv.Itoa0
import Derived.Shelf.Bits.Mul64
import Derived.Ground.SlsfProg
import Derived.Shelf.SlSortCmp.Insertion
import Derived.Sort.LotA
import Derived.Sort.OwnSortedInts
import Derived.Deep.Slices
import Derived.ChangeArms
import Derived.WideShapes
import Derived.OpenShut
import Derived.Test.YtefhljhpcpajgaaRows
import Derived.ProofKit
import Derived.ShutString
import Derived.ChangeOld
import Derived.SizedLaws
import Derived.Carry
import Derived.Test.YtefhljhpcpajgaaZShareDeals4
set_option linter.unusedVariables false
set_option linter.unusedSimpArgs false
namespace Go.Proofs.Ytefhljhpcpajgaa.Q
open Go.RowKit Go.Proofs.Ytefhljhpcpajgaa.F Go.Proofs.YtefhljhpcpajgaaW.PrintWords Go.Proofs.YtefhljhpcpajgaaW.PrintLast Go.Proofs.YtefhljhpcpajgaaW.PrintMore
theorem sames_l0 {l : List Int} (hl : l.length < 9223372036854775807) (d : Nat) : ∀ i : Nat, l.length - i = d → i ≤ l.length → Ev (fun k => backhaulref02_SameInts.l0 k l l (i : Int)) true := by
  induction d with
  | zero =>
    intro i hd hi
    refine Ev.step (fun k => by simp only [backhaulref02_SameInts.l0]; rfl) ?_
    exact Ev.neg (by omega) (Ev.const rfl)
  | succ d ih =>
    intro i hd hi
    refine Ev.step (fun k => by simp only [backhaulref02_SameInts.l0]; rfl) ?_
    refine Ev.pos (by omega) (Ev.pos (by omega) (Ev.pos (by omega) (Ev.pos (by simp) ?_)))
    rw [wrap_eq (by omega) (by omega)]
    exact ih (i + 1) (by omega) (by omega)
theorem sames_f {l : List Int} (hl : l.length < 9223372036854775807) : Ev (fun k => backhaulref02_SameInts.f k l l) true := by
  unfold backhaulref02_SameInts.f
  exact Ev.pos rfl (sames_l0 hl l.length 0 (by omega) (by omega))
section
variable {t s : Int} {w : List Int}
def oU (t s : Int) (w : List Int) (u : Nat) : List Int := (List.range w.length).map fun i => prt t s (wt w i) + if rank (fun j => rst t s (wt w j)) w.length i < u then 1 else 0
def cU (t s : Int) (w : List Int) (u : Nat) : List Int := (List.range w.length).map fun i => if rank (fun j => rst t s (wt w j)) w.length i < u then -1 else rst t s (wt w i)
theorem oU_len (u : Nat) : (oU t s w u).length = w.length := by unfold oU; simp
theorem cU_len (u : Nat) : (cU t s w u).length = w.length := by unfold cU; simp
theorem oU_at {u i : Nat} (h : i < (oU t s w u).length) : (oU t s w u)[i] = prt t s (wt w i) + if rank (fun j => rst t s (wt w j)) w.length i < u then 1 else 0 := by
  show ((List.range w.length).map _)[i]'(by rw [oU_len] at h; simpa using h) = _
  rw [List.getElem_map, List.getElem_range]
theorem cU_at {u i : Nat} (h : i < (cU t s w u).length) : (cU t s w u)[i] = if rank (fun j => rst t s (wt w j)) w.length i < u then -1 else rst t s (wt w i) := by
  show ((List.range w.length).map _)[i]'(by rw [cU_len] at h; simpa using h) = _
  rw [List.getElem_map, List.getElem_range]
theorem oU_zero : oU t s w 0 = w.map (prt t s) := by
  apply List.ext_getElem
  · rw [oU_len]; simp
  · intro i h1 h2
    rw [oU_at]
    rw [oU_len] at h1
    simp [wt, List.getD_eq_getElem?_getD, h1]
theorem cU_zero : cU t s w 0 = w.map (rst t s) := by
  apply List.ext_getElem
  · rw [cU_len]; simp
  · intro i h1 h2
    rw [cU_at]
    rw [cU_len] at h1
    simp [wt, List.getD_eq_getElem?_getD, h1]
def Best (c : List Int) (n b : Nat) : Prop := ∀ i, i < n → c.getD i 0 ≤ c.getD b 0 ∧ (i < b → c.getD i 0 < c.getD b 0)
theorem scan_l3 {l o c : List Int} {x : Int} {R : List Int × Int} (hl : l.length ≤ 200) (hc : c.length = l.length) (ho : o.length = l.length)
    (hR : ∀ K, K < l.length → Best c l.length K → Ev (fun k => backhaulref03_Out.l2 k l (o.set K (wrap64 (o.getD K 0 + 1))) (c.set K (-1)) (wrap64 (x - 1))) R) (d : Nat) : ∀ p b : Nat, l.length - p = d → p ≤ l.length → b < l.length → b ≤ p → Best c p b →
    Ev (fun k => backhaulref03_Out.l3 k l o c x (b : Int) (p : Int)) R := by
  induction d with
  | zero =>
    intro p b hd hp hb hbp hB
    obtain rfl : p = l.length := by omega
    refine Ev.step (fun k => by simp only [backhaulref03_Out.l3]; rfl) ?_
    refine Ev.neg (by omega) (Ev.pos (by omega) (Ev.pos (by omega) (Ev.pos (by omega) ?_)))
    have := hR b hb hB
    have e : rd o (b : Int) = o.getD b 0 := by unfold rd; rw [Int.toNat_natCast]
    rw [e, Int.toNat_natCast]
    exact this
  | succ d ih =>
    intro p b hd hp hb hbp hB
    have h : p < l.length := by omega
    refine Ev.step (fun k => by simp only [backhaulref03_Out.l3]; rfl) ?_
    refine Ev.pos (by omega) (Ev.pos (by omega) (Ev.pos (by omega) (Ev.pos (by omega) (Ev.pos (by omega) ?_))))
    have e : ∀ q : Nat, rd c (q : Int) = c.getD q 0 := fun q => by unfold rd; rw [Int.toNat_natCast]
    rw [e, e, wrap_eq (by omega) (by omega)]
    by_cases g : c.getD p 0 > c.getD b 0
    · refine Ev.pos g (ih (p + 1) p (by omega) (by omega) h (by omega) (fun i hi => ?_))
      by_cases e2 : i = p
      · subst e2; exact ⟨by omega, fun h => by omega⟩
      · have := hB i (by omega)
        omega
    · refine Ev.neg g (ih (p + 1) b (by omega) (by omega) hb (by omega) (fun i hi => ?_))
      by_cases e2 : i = p
      · subst e2; exact ⟨by omega, fun h => by omega⟩
      · exact hB i (by omega)
theorem rounds_l2 {l : List Int} {L : Nat} (hw : w.length = l.length) (hl : l.length ≤ 200) (hL : L ≤ l.length) (ht : 0 ≤ t) (ht2 : t ≤ 1000000000000) (hs : 1 ≤ s) (h0 : ∀ x ∈ w, 0 ≤ x ∧ x ≤ s) (d : Nat) : ∀ u : Nat, L - u = d → u ≤ L →
    Ev (fun k => backhaulref03_Out.l2 k l (oU t s w u) (cU t s w u) ((L - u : Nat) : Int)) (oU t s w L, 0) := by
  induction d with
  | zero =>
    intro u hd hu
    obtain rfl : u = L := by omega
    refine Ev.step (fun k => by simp only [backhaulref03_Out.l2]; rfl) ?_
    exact Ev.neg (by omega) (Ev.const rfl)
  | succ d ih =>
    intro u hd hu
    refine Ev.step (fun k => by simp only [backhaulref03_Out.l2]; rfl) ?_
    refine Ev.pos (by omega) ?_
    have hn : 0 < l.length := by omega
    have hp : ∀ i, i < l.length → 0 ≤ prt t s (wt w i) ∧ prt t s (wt w i) ≤ t ∧ 0 ≤ rst t s (wt w i) := fun i hi => by
      have hi' : i < w.length := by omega
      have e : wt w i = w[i] := by unfold wt; simp [List.getD_eq_getElem?_getD, hi']
      have hx := h0 _ (List.getElem_mem hi')
      have := prt_ok ht ht2 hs hx.1 hx.2
      rw [e]; exact ⟨this.1, this.2.1, this.2.2.1⟩
    refine scan_l3 hl (by rw [cU_len, hw]) (by rw [oU_len, hw]) (fun K hK hB => ?_) l.length 0 0 (by omega) (by omega) hn (by omega) (fun i hi => by omega)
    have hc : ∀ i, i < l.length → (cU t s w u).getD i 0 = if rank (fun j => rst t s (wt w j)) w.length i < u then -1 else rst t s (wt w i) := fun i hi => by
      have hi' : i < (cU t s w u).length := by rw [cU_len, hw]; exact hi
      rw [← cU_at hi']
      simp [List.getD_eq_getElem?_getD, hi']
    have hge : u ≤ rank (fun j => rst t s (wt w j)) w.length K := by
      apply Classical.byContradiction
      intro hlt
      obtain ⟨i, hi, he⟩ := rank_ex (r := fun j => rst t s (wt w j)) (n := w.length) (p := u) (by omega)
      have h1 := (hB i (by omega)).1
      rw [hc i (by omega), hc K hK, if_neg (by omega), if_pos (by omega)] at h1
      have := (hp i (by omega)).2.2
      omega
    have hrk : rank (fun j => rst t s (wt w j)) w.length K = u := by
      refine rank_next (rank_count _ _ u (by omega)) (by omega) hge (fun i hi hui hne => ?_)
      have h1 := hB i (by omega)
      rw [hc i (by omega), hc K hK, if_neg (by omega), if_neg (by omega)] at h1
      rw [bef_iff]
      have h2 := h1.1
      by_cases c : i < K
      · have := h1.2 c; left; omega
      · by_cases c2 : rst t s (wt w i) = rst t s (wt w K)
        · right; exact ⟨c2.symm, by omega⟩
        · left; omega
    have hKo : K < (oU t s w u).length := by rw [oU_len, hw]; exact hK
    have eK : (oU t s w u).getD K 0 = prt t s (wt w K) := by
      have := oU_at hKo
      rw [if_neg (by omega)] at this
      simp only [List.getD_eq_getElem?_getD, List.getElem?_eq_getElem hKo, Option.getD_some]
      omega
    have hpK := hp K hK
    rw [eK, wrap_eq (x := prt t s (wt w K) + 1) (by omega) (by omega), wrap_eq (by omega) (by omega)]
    have e1 : (oU t s w u).set K (prt t s (wt w K) + 1) = oU t s w (u + 1) := by
      apply List.ext_getElem
      · rw [List.length_set, oU_len, oU_len]
      · intro i h1 h2
        rw [List.getElem_set, oU_at, oU_at]
        rw [oU_len] at h2
        by_cases c : K = i
        · subst c; rw [if_pos rfl, if_pos (by omega)]
        · rw [if_neg c]
          have : rank (fun j => rst t s (wt w j)) w.length i ≠ u := fun e => c (rank_inj (by omega) h2 (hrk.trans e.symm))
          by_cases c2 : rank (fun j => rst t s (wt w j)) w.length i < u
          · rw [if_pos c2, if_pos (by omega)]
          · rw [if_neg c2, if_neg (by omega)]
    have e2 : (cU t s w u).set K (-1) = cU t s w (u + 1) := by
      apply List.ext_getElem
      · rw [List.length_set, cU_len, cU_len]
      · intro i h1 h2
        rw [List.getElem_set, cU_at, cU_at]
        rw [cU_len] at h2
        by_cases c : K = i
        · subst c; rw [if_pos rfl, if_pos (by omega)]
        · rw [if_neg c]
          have : rank (fun j => rst t s (wt w j)) w.length i ≠ u := fun e => c (rank_inj (by omega) h2 (hrk.trans e.symm))
          by_cases c2 : rank (fun j => rst t s (wt w j)) w.length i < u
          · rw [if_pos c2, if_pos (by omega)]
          · rw [if_neg c2, if_neg (by omega)]
    rw [e1, e2, show ((L - u : Nat) : Int) - 1 = ((L - (u + 1) : Nat) : Int) by omega]
    exact ih (u + 1) (by omega) (by omega)
end
theorem divR_at {t s w : Int} (ht : 0 ≤ t) (ht2 : t ≤ 1000000000000) (hs : 1 ≤ s) (hw : 0 ≤ w) (hws : w ≤ s) : divR t w s = (prt t s w, rst t s w) := by
  have h := prt_ok ht ht2 hs hw hws
  unfold divR
  rw [if_neg (by unfold prt at h; omega)]
  rfl
theorem rparts_l1 {t s : Int} {l : List Int} {R : List Int × Int} (hl : l.length ≤ 200) (ht : 0 ≤ t) (ht2 : t ≤ 1000000000000) (hs : 1 ≤ s) (hs2 : s ≤ 1000000000000) (h0 : ∀ x ∈ eff l, 0 ≤ x ∧ x ≤ s) (hR : Ev (fun k => backhaulref03_Out.l2 k l ((eff l).map (prt t s)) ((eff l).map (rst t s)) (leftI t s (eff l))) R) (d : Nat) : ∀ (i : Nat) (L : Int) (A B : List Int), l.length - i = d → i ≤ l.length → A = ((eff l).take i).map (prt t s) → B = ((eff l).take i).map (rst t s) → L = t - sumI (((eff l).take i).map (prt t s)) → L ≤ 1000000000000 → -((i : Int) * 1000000000000) ≤ L →
    Ev (fun k => backhaulref03_Out.l1 k t l s (sumI l) A B L (i : Int)) R := by
  induction d with
  | zero =>
    intro i L A B hd hi hA hB hL hL2 hL3
    refine Ev.step (fun k => by simp only [backhaulref03_Out.l1]; rfl) ?_
    refine Ev.neg (by omega) ?_
    rw [List.take_of_length_le (by rw [eff_len]; omega)] at hA hB hL
    rw [hA, hB, hL]
    exact hR
  | succ d ih =>
    intro i L A B hd hi hA hB hL hL2 hL3
    have h : i < l.length := by omega
    have hie : i < (eff l).length := by rw [eff_len]; exact h
    have hx := h0 _ (List.getElem_mem hie)
    have hp := prt_ok ht ht2 hs hx.1 hx.2
    have hAl : A.length = i := by rw [hA]; simp; omega
    have hBl : B.length = i := by rw [hB]; simp; omega
    have hdv := divR_at ht ht2 hs hx.1 hx.2
    have hrd := ref_div_f (a := t) (b := (eff l)[i]) (c := s) hs (by unfold may; omega)
    have et : (eff l).take (i + 1) = (eff l).take i ++ [(eff l)[i]] := List.take_succ_eq_append_getElem hie
    have nx := ih (i + 1) (L - prt t s (eff l)[i]) (A ++ [prt t s (eff l)[i]]) (B ++ [rst t s (eff l)[i]]) (by omega) (by omega) (by rw [et, List.map_append, hA]; rfl) (by rw [et, List.map_append, hB]; rfl) (by rw [et, List.map_append, sumI_append, hL]; simp [sumI]; omega) (by omega) (by omega)
    refine Ev.step (fun k => by simp only [backhaulref03_Out.l1]; rfl) ?_
    refine Ev.pos (by omega) (Ev.pos (by omega) ?_)
    rw [rd_nat h, wrap_eq (x := (i : Int) + 1) (by omega) (by omega)]
    by_cases c : sumI l = 0
    · have e1 : (eff l)[i] = 1 := by
        have : eff l = List.replicate l.length 1 := by unfold eff; rw [if_pos c]
        simp only [this, List.getElem_replicate]
      rw [e1] at hrd hdv nx hp
      refine Ev.pos c (Ev.bind hrd ?_)
      rw [hdv]
      refine Ev.pos (by omega) (Ev.pos (by omega) ?_)
      dsimp only
      rw [wrap_eq (by omega) (by omega)]
      exact nx
    · have e1 : (eff l)[i] = l[i] := by
        have : eff l = l := by unfold eff; rw [if_neg c]
        simp only [this]
      rw [e1] at hrd hdv nx hp
      refine Ev.neg c (Ev.bind hrd ?_)
      rw [hdv]
      refine Ev.pos (by omega) (Ev.pos (by omega) ?_)
      dsimp only
      rw [wrap_eq (by omega) (by omega)]
      exact nx
theorem rall_l0 {t s : Int} {l : List Int} {R : List Int × Int} (hl : l.length ≤ 200) (h0 : ∀ x ∈ l, 0 ≤ x) (hm : sumI l ≤ 1000000000000) (hR : Ev (fun k => backhaulref03_Out.l1 k t l s (sumI l) [] [] t 0) R) (d : Nat) : ∀ (i : Nat) (n : Int), l.length - i = d → i ≤ l.length → n = sumI (l.take i) →
    Ev (fun k => backhaulref03_Out.l0 k t l s n (i : Int)) R := by
  induction d with
  | zero =>
    intro i n hd hi hn
    refine Ev.step (fun k => by simp only [backhaulref03_Out.l0]; rfl) ?_
    refine Ev.neg (by omega) ?_
    rw [List.take_of_length_le (by omega)] at hn
    rw [hn]
    exact hR
  | succ d ih =>
    intro i n hd hi hn
    have h : i < l.length := by omega
    have hx := h0 _ (List.getElem_mem h)
    have hx2 := sumI_mem_le h0 (List.getElem_mem h)
    have e : l.take (i + 1) = l.take i ++ [l[i]] := List.take_succ_eq_append_getElem h
    have h1 := sumI_nonneg (l := l.take i) (fun y hy => h0 y (List.mem_of_mem_take hy))
    have h2 : sumI l = sumI (l.take i) + sumI (l.drop i) := by rw [← sumI_append, List.take_append_drop]
    have h3 := sumI_nonneg (l := l.drop i) (fun y hy => h0 y (List.mem_of_mem_drop hy))
    refine Ev.step (fun k => by simp only [backhaulref03_Out.l0]; rfl) ?_
    refine Ev.pos (by omega) (Ev.pos (by omega) ?_)
    rw [rd_nat h, wrap_eq (by omega) (by omega), wrap_eq (by omega) (by omega)]
    exact ih (i + 1) _ (by omega) (by omega) (by rw [e, sumI_append, hn]; simp [sumI])
theorem rout_f {t : Int} {l : List Int} (hl : l.length < 9223372036854775807) : Ev (fun k => backhaulref03_Out.f k t l) (outS t l) := by
  unfold backhaulref03_Out.f outS
  refine Ev.bind (rwhole_f hl) ?_
  by_cases hw : (wholeS l).2 = 0
  · rw [if_pos hw]
    refine Ev.pos hw ?_
    obtain ⟨h1, h2, h0, h3, h4, h5, h6, h7⟩ := whole_ok hw
    have hws : ∀ x ∈ eff l, 0 ≤ x ∧ x ≤ (wholeS l).1 := fun x hx => ⟨h7 x hx, by rw [← h6]; exact sumI_mem_le h7 hx⟩
    by_cases ht : t < 0
    · rw [if_pos (.inl ht)]
      refine Ev.pos ht ?_
      refine Ev.step (fun k => by simp only [backhaulref03_Out.j0]; rfl) ?_
      exact Ev.pos (by simp) (Ev.const rfl)
    · refine Ev.neg ht ?_
      refine Ev.step (fun k => by simp only [backhaulref03_Out.j0]; rfl) ?_
      by_cases ht2 : 1000000000000 < t
      · rw [if_pos (.inr ht2)]
        exact Ev.pos (decide_eq_true ht2) (Ev.const rfl)
      · rw [if_neg (by omega)]
        refine Ev.neg (by simp; omega) ?_
        obtain ⟨b0, b1, _⟩ := left_bound (t := t) h6 (by omega)
        have hc : (eff l).countP (fun w => decide (0 < rst t (wholeS l).1 w)) ≤ (eff l).length := List.countP_le_length
        rw [eff_len] at hc
        obtain ⟨L, hL⟩ := Int.eq_ofNat_of_zero_le b0
        refine rall_l0 h2 h0 h3 ?_ l.length 0 0 (by omega) (by omega) (by simp [sumI])
        refine rparts_l1 h2 (by omega) (by omega) h4 h5 hws ?_ l.length 0 t [] [] (by omega) (by omega) (by simp) (by simp) (by simp [sumI]) (by omega) (by omega)
        have := rounds_l2 (t := t) (s := (wholeS l).1) (w := eff l) (l := l) (L := L) (eff_len l) h2 (by omega) (by omega) (by omega) h4 hws L 0 (by omega) (by omega)
        rw [oU_zero, cU_zero, Nat.sub_zero] at this
        rw [hL]
        refine Ev.eq this ?_
        congr 1
        unfold oU outL
        refine List.map_congr_left fun i hi => ?_
        unfold outAt
        rw [hL]
        congr 1
        by_cases c : rank (fun j => rst t (wholeS l).1 (wt (eff l) j)) (eff l).length i < L
        · rw [if_pos c, if_pos (by omega)]
        · rw [if_neg c, if_neg (by omega)]
  · rw [if_neg hw]
    exact Ev.neg hw (Ev.ok rfl)
theorem outS_even {t : Int} {n : Nat} (h1 : 1 ≤ n) (h2 : n ≤ 200) : outS t (List.replicate n 0) = outS t (List.replicate n 1) := by
  have s0 : sumI (List.replicate n 0) = 0 := by
    have := sumI_mul (List.replicate n 1) 0
    simpa using this
  have w0 : wholeS (List.replicate n 0) = ((n : Int), 0) := by
    unfold wholeS
    rw [if_neg (by simp; omega), if_neg (by rw [negs_false.2 (fun x hx => by rw [(List.mem_replicate.1 hx).2]; omega)]; decide), s0, if_neg (by omega), if_pos rfl, List.length_replicate]
  have w1 : wholeS (List.replicate n 1) = ((n : Int), 0) := by
    unfold wholeS
    rw [if_neg (by simp; omega), if_neg (by rw [negs_false.2 (fun x hx => by rw [(List.mem_replicate.1 hx).2]; omega)]; decide), sumI_ones, if_neg (by omega), if_neg (by omega)]
  have e0 : eff (List.replicate n 0) = List.replicate n 1 := by unfold eff; rw [if_pos s0, List.length_replicate]
  have e1 : eff (List.replicate n 1) = List.replicate n 1 := by unfold eff; rw [if_neg (by rw [sumI_ones]; omega)]
  unfold outS
  rw [w0, w1, e0, e1]
def evenS (t n : Int) : List Int × Int := if n < 1 ∨ 200 < n then ([], 2) else outS t (List.replicate n.toNat 1)
theorem evenly_f (t n : Int) : Ev (fun k => share_Evenly.f k t n) (evenS t n) := by
  unfold share_Evenly.f evenS
  by_cases h1 : n < 1
  · rw [if_pos (.inl h1)]
    refine Ev.pos h1 ?_
    refine Ev.step (fun k => by simp only [share_Evenly.j0]; rfl) ?_
    exact Ev.pos (by simp) (Ev.const rfl)
  · refine Ev.neg h1 ?_
    refine Ev.step (fun k => by simp only [share_Evenly.j0]; rfl) ?_
    by_cases h2 : 200 < n
    · rw [if_pos (.inr h2)]
      exact Ev.pos (decide_eq_true h2) (Ev.const rfl)
    · rw [if_neg (by omega)]
      refine Ev.neg (by simp; omega) ?_
      obtain ⟨m, rfl⟩ := Int.eq_ofNat_of_zero_le (show 0 ≤ n by omega)
      rw [Int.toNat_natCast]
      exact Ev.bind (even_f (by omega)) (Ev.bind (out_f (by simp; omega)) (Ev.ok rfl))
theorem revenly_f (t n : Int) : Ev (fun k => backhaulref03_Evenly.f k t n) (evenS t n) := by
  unfold backhaulref03_Evenly.f evenS
  by_cases h1 : n < 1
  · rw [if_pos (.inl h1)]; exact Ev.pos h1 (Ev.const rfl)
  · refine Ev.neg h1 ?_
    by_cases h2 : 200 < n
    · rw [if_pos (.inr h2)]; exact Ev.pos h2 (Ev.const rfl)
    · rw [if_neg (by omega)]
      refine Ev.neg (by omega) (Ev.pos (by omega) (Ev.pos (by omega) ?_))
      have := rout_f (t := t) (l := List.replicate n.toNat 0) (by simp; omega)
      rw [outS_even (by omega) (by omega)] at this
      exact Ev.bind this (Ev.ok rfl)
def placeS (t : Int) (l : List Int) (i : Int) : Int × Int := if (outS t l).2 = 0 then (if i < 0 then (0, 2) else if i ≥ ((outS t l).1.length : Int) then (0, 2) else (rd (outS t l).1 i, 0)) else (0, (outS t l).2)
theorem place_f {t : Int} {l : List Int} (hl : l.length < 9223372036854775807) (i : Int) : Ev (fun k => share_Place.f k t l i) (placeS t l i) := by
  unfold share_Place.f placeS
  refine Ev.bind (out_f hl) ?_
  refine Q.Ev.ite (fun h => ?_) (fun h => Ev.ok (by rw [if_neg h]))
  rw [if_pos h]
  refine Q.Ev.ite (fun h => Ev.ok (by rw [if_pos h])) (fun h1 => ?_)
  rw [if_neg h1]
  refine Q.Ev.ite (fun h => Ev.ok (by rw [if_pos h])) (fun h2 => ?_)
  rw [if_neg h2]
  exact Ev.pos (by omega) (Ev.pos (by omega) (Ev.const rfl))
theorem rplace_f {t : Int} {l : List Int} (hl : l.length < 9223372036854775807) (i : Int) : Ev (fun k => backhaulref03_Place.f k t l i) (placeS t l i) := by
  unfold backhaulref03_Place.f placeS
  refine Ev.bind (rout_f hl) ?_
  refine Q.Ev.ite (fun h => ?_) (fun h => Ev.ok (by rw [if_neg h]))
  rw [if_pos h]
  refine Q.Ev.ite (fun h => Ev.ok (by rw [if_pos h])) (fun h1 => ?_)
  rw [if_neg h1]
  refine Q.Ev.ite (fun h => Ev.ok (by rw [if_pos h])) (fun h2 => ?_)
  rw [if_neg h2]
  exact Ev.pos (by omega) (Ev.pos (by omega) (Ev.const rfl))
theorem outS_len {t : Int} {l : List Int} (hl : l.length ≤ 400) : (outS t l).1.length ≤ 400 := by
  unfold outS
  split
  · split
    · simp
    · unfold outL; simp [eff_len]; exact hl
  · simp
end Go.Proofs.Ytefhljhpcpajgaa.Q
namespace Go.Proofs.Ytefhljhpcpajgaa.Pure
open Go.RowKit Go.Proofs.Ytefhljhpcpajgaa.F Go.Proofs.Ytefhljhpcpajgaa.Q Go.Proofs.YtefhljhpcpajgaaW.PrintWords Go.Proofs.YtefhljhpcpajgaaW.PrintLast
theorem ShareDeals : backhaullaw03_ShareDeals.Pure := by
  intro t l n ht0 hl0 hn0
  refine Ev.rounds (r := true) ?_
  have haw : backhaullaw03_awake.f = some true := rfl
  unfold backhaullaw03_ShareDeals.f
  by_cases hb : l.length > 300
  · exact Q.Ev.pos (by omega) (Q.Ev.bindc haw (Q.Ev.pos rfl (Q.Ev.const rfl)))
  · have h9 : l.length < 9223372036854775807 := by omega
    have ho : (outS t l).1.length < 9223372036854775807 := by have := outS_len (t := t) (l := l) (by omega); omega
    have he : (evenS t n).1.length < 9223372036854775807 := by
      unfold evenS
      split
      · simp
      · have := outS_len (t := t) (l := List.replicate n.toNat 1) (by simp; omega); omega
    refine Q.Ev.neg (by omega) (Ev.bind (out_f h9) (Ev.bind (rout_f h9) (Ev.bind (evenly_f t n) (Ev.bind (revenly_f t n) (Ev.bind (place_f h9 n) (Ev.bind (rplace_f h9 n) (Ev.bind (whole_f h9) (Ev.bind (rwhole_f h9) (Ev.bind (sames_f ho) (Q.Ev.pos rfl (Q.Ev.pos rfl (Ev.bind (sames_f he) (Q.Ev.pos rfl (Q.Ev.pos rfl (Q.Ev.pos rfl (Q.Ev.pos rfl (Q.Ev.pos rfl (Q.Ev.pos rfl (Q.Ev.bindc haw (Q.Ev.pos rfl (Q.Ev.const rfl)))))))))))))))))))))
end Go.Proofs.Ytefhljhpcpajgaa.Pure
set_option linter.unusedVariables false
set_option linter.unusedSimpArgs false
namespace Go.Proofs.YtefhljhpcpajgaaX
open Go.RowKit Go.Proofs.YtefhljhpcpajgaaW.PrintWords Go.Proofs.YtefhljhpcpajgaaW.PrintLast Go.Proofs.YtefhljhpcpajgaaW.PrintMore
def Opens {α : Type} (P : Program) (t : TypeId) (k : Kd α) (Ok : α → Prop) : Prop :=
  ∀ {H : Type} {enc : TypeId × Value → H} {w : World} {base : Nat} {spare : Nat → Bool} {held : Bool} {fuel : Nat} {cs : List Value} {x : DataW H × List MemPlace},
    DataW.trod enc P w base spare held fuel t cs = some x → ∃ a : α, k.K w a cs ∧ Ok a
theorem Opens.int {P : Program} {t : TypeId} {k : IntKind} (ht : P.underlying t = some (.int k)) : Opens P t (Kd.int k) (fun a => (Lit.int k a).wf = true) := by
  intro H enc w base spare held fuel cs x h
  obtain ⟨n, rfl, _, hw⟩ := DataW.trod_int ht h
  exact ⟨n, rfl, hw⟩
theorem Opens.bool {P : Program} {t : TypeId} (ht : P.underlying t = some .bool) : Opens P t Kd.bool (fun _ => True) := by
  intro H enc w base spare held fuel cs x h
  obtain ⟨n, rfl, _⟩ := DataW.trod_bool ht h
  exact ⟨n, rfl, trivial⟩
theorem Opens.string {P : Program} {t : TypeId} (ht : P.underlying t = some .string) : Opens P t Kd.string (fun a => a.size ≤ maxLen) := by
  intro H enc w base spare held fuel cs x h
  obtain ⟨s, rfl, _, hw⟩ := DataW.trod_string ht h
  exact ⟨s, rfl, hw⟩
theorem list_of {α : Type} {p : Nat → α → Prop} : ∀ n, (∀ i, i < n → ∃ a, p i a) → ∃ xs : List α, xs.length = n ∧ ∀ i a, xs[i]? = some a → p i a
  | 0, _ => ⟨[], rfl, fun i a h => by simp at h⟩
  | n + 1, h => by
    obtain ⟨xs, hl, hx⟩ := list_of n (fun i hi => h i (by omega))
    obtain ⟨a, ha⟩ := h n (by omega)
    refine ⟨xs ++ [a], by simp [hl], fun i b hb => ?_⟩
    rcases Nat.lt_or_ge i xs.length with h1 | h1
    · rw [List.getElem?_append_left h1] at hb
      exact hx i b hb
    · rw [List.getElem?_append_right h1] at hb
      have h2 : i - xs.length = 0 := by
        have := (List.getElem?_eq_some_iff.1 hb).1
        simp at this; omega
      rw [h2] at hb
      have : a = b := by simpa using hb
      subst this
      have : i = n := by omega
      rw [this]; exact ha
theorem Opens.slice {α : Type} {P : Program} {t e : TypeId} {k : Kd α} {Ok : α → Prop} (ht : P.underlying t = some (.slice e)) (hc : P.cellsOf e = k.sz) (h : Opens P e k Ok) :
    Opens P t (Kd.slice e k) (fun xs => xs.length ≤ maxLen ∧ ∀ x ∈ xs, Ok x) := by
  intro H enc w base spare held fuel cs x hx
  rcases Go.Deep.open_slice ht hx with ⟨rfl, rfl⟩ | ⟨a, len, cap, m, n, D, Pl, rfl, hb, hl, hm, hmm, rfl, hel⟩
  · exact ⟨[], ⟨none, 0, rfl, by simp, rfl, by simp, fun h => absurd h (by simp)⟩, by simp [maxLen], by simp⟩
  · have hlm : len ≤ m := by rw [hmm]; split <;> omega
    obtain ⟨xs, hlen, hxs⟩ := list_of (p := fun i (a' : α) => ∃ cs', w.cells? base (a.add (i * P.cellsOf e)) (P.cellsOf e) = some cs' ∧ k.K w a' cs' ∧ Ok a') len (fun i hi => by
      obtain ⟨cs', h1, h2⟩ := hel i (by omega)
      obtain ⟨a', h3, h4⟩ := h h2
      exact ⟨a', cs', h1, h3, h4⟩)
    have hlm2 : len ≤ maxLen := by omega
    refine ⟨xs, ⟨some a, cap, by rw [hlen], by rw [hlen]; exact hl, rfl, by rw [hlen]; simpa [maxLen] using hlm2, fun _ => ⟨a, rfl, fun j p hj => ?_⟩⟩, by rw [hlen]; exact hlm2, fun y hy => ?_⟩
    · obtain ⟨cs', h1, h2, _⟩ := hxs j p hj
      refine ⟨cs', k.K_len h2, h2, fun i u hu => ?_⟩
      obtain ⟨_, _, h3⟩ := World.cells?_some h1
      have h4 := h3 i (by have := (List.getElem?_eq_some_iff.1 hu).1; have := k.K_len h2; omega)
      rw [← hc, ← Go.Proofs.YtefhljhpcpajgaaW.PrintWords.add_add]
      rw [← hu]; exact h4
    · obtain ⟨i, hi, rfl⟩ := List.mem_iff_getElem.1 hy
      obtain ⟨_, _, _, h3⟩ := hxs i _ (List.getElem?_eq_getElem hi)
      exact h3
theorem slice_cells {α : Type} {k : Kd α} {e : Nat} {w : World} {xs : List α} {v : Value} (h : (Kd.slice e k).K w xs [v]) : ∃ A c, v = .slice A xs.length c ∧ xs.length ≤ c ∧ k.C w A xs.length xs := by
  obtain ⟨A, c, he, hl, hc⟩ := h
  injection he with he
  exact ⟨A, c, he, hl, hc⟩
theorem band {a b : Bool} (h1 : a = true) (h2 : b = true) : (a && b) = true := by rw [h1, h2]; rfl
theorem mayEnter_of {P : Program} {L c : List Char} {rest : List (List Char)} (h : P.initOrder.toList = L) (h1 : behindMainWord (wordsSigns L) = c :: rest) (h2 : ((stripLifts liftWords (c :: rest)).2.head? == some "cut".toList) = true) (h3 : P.laysLater = false) (h4 : P.bearsReflect = false) (h5 : (stripLifts liftWords (c :: rest)).1 = []) (h6 : P.doorFits [] = true) : P.mayEnter = true := by
  unfold Program.mayEnter
  rw [h, h1]
  dsimp only
  rw [h2, h3, h4, h5, h6]
  simp
theorem make_of {P : Program} {L : List Char} {rest : List (List Char)} (h : P.initOrder.toList = L) (h1 : behindMainWord (wordsSigns L) = "cut".toList :: rest) : P.make = some .cut := by
  unfold Program.make
  rw [h, h1]
  dsimp only
  rw [if_neg (by decide), if_pos (by simp)]
end Go.Proofs.YtefhljhpcpajgaaX
set_option maxRecDepth 10000
namespace Go.Proofs.Ytefhljhpcpajgaa.Join
open Go.Proofs.YtefhljhpcpajgaaX
def initSigns : List Char := ['h', 'a', 'r', 'n', 'e', 's', 's', ' ', '5', '6', '5', 'd', 'd', 'd', '3', '6', '6', '5', 'c', '5', '5', '9', 'c', '2', '4', '9', 'e', '2', 'e', '3', '7', '8', 'c', '7', '1', 'b', 'b', 'b', '4', '7', '4', '9', '6', '8', '7', '8', 'a', '7', '0', 'b', '1', 'c', '4', '8', '9', 'f', '4', '3', '5', '5', '6', 'b', 'b', '7', 'f', '7', 'f', '7', '4', '9', '2', 'f', ' ', 'c', 'u', 't', ' ', 'a', 't', ' ', 'b', 'a', 'c', 'k', 'h', 'a', 'u', 'l', '/', 'b', 'a', 'c', 'k', 'h', 'a', 'u', 'l', 'l', 'a', 'w', '0', '2', '.', 'C', 'e', 'n', 't', 's', 'S', 'u', 'm', 's', ' ', 'b', 'a', 'c', 'k', 'h', 'a', 'u', 'l', '/', 'b', 'a', 'c', 'k', 'h', 'a', 'u', 'l', 'l', 'a', 'w', '0', '2', '.', 'C', 'e', 'n', 't', 's', 'S', 'h', 'a', 'r', 'e', 's', ' ', 'b', 'a', 'c', 'k', 'h', 'a', 'u', 'l', '/', 'b', 'a', 'c', 'k', 'h', 'a', 'u', 'l', 'l', 'a', 'w', '0', '2', '.', 'C', 'e', 'n', 't', 's', 'O', 'v', 'e', 'r', ' ', 'b', 'a', 'c', 'k', 'h', 'a', 'u', 'l', '/', 'b', 'a', 'c', 'k', 'h', 'a', 'u', 'l', 'l', 'a', 'w', '0', '2', '.', 'C', 'e', 'n', 't', 's', 'D', 'i', 'v', 's', ' ', 'b', 'a', 'c', 'k', 'h', 'a', 'u', 'l', '/', 'b', 'a', 'c', 'k', 'h', 'a', 'u', 'l', 'l', 'a', 'w', '0', '4', '.', 'F', 'e', 'e', 'T', 'e', 'l', 'l', 's', ' ', 'b', 'a', 'c', 'k', 'h', 'a', 'u', 'l', '/', 'b', 'a', 'c', 'k', 'h', 'a', 'u', 'l', 'l', 'a', 'w', '0', '4', '.', 'F', 'e', 'e', 'B', 'o', 'u', 'n', 'd', 's', ' ', 'b', 'a', 'c', 'k', 'h', 'a', 'u', 'l', '/', 'b', 'a', 'c', 'k', 'h', 'a', 'u', 'l', 'l', 'a', 'w', '0', '4', '.', 'F', 'e', 'e', 'S', 't', 'e', 'p', 's', ' ', 'b', 'a', 'c', 'k', 'h', 'a', 'u', 'l', '/', 'b', 'a', 'c', 'k', 'h', 'a', 'u', 'l', 'l', 'a', 'w', '0', '3', '.', 'S', 'h', 'a', 'r', 'e', 'D', 'e', 'a', 'l', 's', ' ', 'b', 'a', 'c', 'k', 'h', 'a', 'u', 'l', '/', 'b', 'a', 'c', 'k', 'h', 'a', 'u', 'l', 'l', 'a', 'w', '0', '3', '.', 'S', 'h', 'a', 'r', 'e', 'A', 'l', 'l', ' ', 'b', 'a', 'c', 'k', 'h', 'a', 'u', 'l', '/', 'b', 'a', 'c', 'k', 'h', 'a', 'u', 'l', 'l', 'a', 'w', '0', '3', '.', 'S', 'h', 'a', 'r', 'e', 'F', 'a', 'i', 'r', ' ', 'b', 'a', 'c', 'k', 'h', 'a', 'u', 'l', '/', 'b', 'a', 'c', 'k', 'h', 'a', 'u', 'l', 'l', 'a', 'w', '2', '1', '.', 'L', 'i', 'n', 'e', 'D', 'e', 'a', 'l', 's', ' ', 'b', 'a', 'c', 'k', 'h', 'a', 'u', 'l', '/', 'b', 'a', 'c', 'k', 'h', 'a', 'u', 'l', 'l', 'a', 'w', '2', '1', '.', 'L', 'i', 'n', 'e', 'T', 'e', 'l', 'l', 's', ' ', 'b', 'a', 'c', 'k', 'h', 'a', 'u', 'l', '/', 'b', 'a', 'c', 'k', 'h', 'a', 'u', 'l', 'l', 'a', 'w', '2', '1', '.', 'L', 'i', 'n', 'e', 'A', 'l', 'l', ' ', 'b', 'a', 'c', 'k', 'h', 'a', 'u', 'l', '/', 'b', 'a', 'c', 'k', 'h', 'a', 'u', 'l', 'l', 'a', 'w', '2', '1', '.', 'L', 'i', 'n', 'e', 'U', 'n', 'i', 't', 's', ' ', 'b', 'a', 'c', 'k', 'h', 'a', 'u', 'l', '/', 'b', 'a', 'c', 'k', 'h', 'a', 'u', 'l', 'l', 'a', 'w', '2', '2', '.', 'V', 'a', 'l', 'u', 'e', 'T', 'e', 'l', 'l', 's', ' ', 'b', 'a', 'c', 'k', 'h', 'a', 'u', 'l', '/', 'b', 'a', 'c', 'k', 'h', 'a', 'u', 'l', 'l', 'a', 'w', '2', '2', '.', 'V', 'a', 'l', 'u', 'e', 'B', 'o', 'u', 'n', 'd', 's', ' ', 'b', 'a', 'c', 'k', 'h', 'a', 'u', 'l', '/', 'b', 'a', 'c', 'k', 'h', 'a', 'u', 'l', 'l', 'a', 'w', '2', '2', '.', 'V', 'a', 'l', 'u', 'e', 'W', 'h', 'o', 'l', 'e', ' ', 'b', 'a', 'c', 'k', 'h', 'a', 'u', 'l', '/', 'b', 'a', 'c', 'k', 'h', 'a', 'u', 'l', 'l', 'a', 'w', '2', '6', '.', 'O', 'r', 'd', 'e', 'r', 'M', 'a', 'k', 'e', 's', ' ', 'b', 'a', 'c', 'k', 'h', 'a', 'u', 'l', '/', 'b', 'a', 'c', 'k', 'h', 'a', 'u', 'l', 'l', 'a', 'w', '2', '6', '.', 'O', 'r', 'd', 'e', 'r', 'T', 'e', 'l', 'l', 's', ' ', 'b', 'a', 'c', 'k', 'h', 'a', 'u', 'l', '/', 'b', 'a', 'c', 'k', 'h', 'a', 'u', 'l', 'l', 'a', 'w', '2', '6', '.', 'O', 'r', 'd', 'e', 'r', 'D', 'e', 'a', 'l', 's', ' ', 'b', 'a', 'c', 'k', 'h', 'a', 'u', 'l', '/', 'b', 'a', 'c', 'k', 'h', 'a', 'u', 'l', 'l', 'a', 'w', '2', '6', '.', 'O', 'r', 'd', 'e', 'r', 'F', 'i', 'n', 'd', 's']
theorem initText : Try.pinned.checked.prog.initOrder = String.ofList initSigns := by kernel_rfl
theorem initList : Try.pinned.checked.prog.initOrder.toList = initSigns := (congrArg String.toList initText).trans String.toList_ofList
theorem mayEnter_is : Try.pinned.checked.prog.mayEnter = true :=
  mayEnter_of (L := initSigns) (c := "cut".toList) (rest := (behindMainWord (wordsSigns initSigns)).tail) initList (by kernel_rfl) (by kernel_rfl) (by kernel_rfl) (by kernel_rfl) (by kernel_rfl) (by kernel_rfl)
theorem make_is : Try.pinned.checked.prog.make = some .cut :=
  make_of (L := initSigns) (rest := (behindMainWord (wordsSigns initSigns)).tail) initList (by kernel_rfl)
theorem lifts_is : Try.pinned.checked.prog.liftsFinal = false := by
  unfold Program.liftsFinal Program.headLifts
  rw [initList]
  kernel_rfl
end Go.Proofs.Ytefhljhpcpajgaa.Join
namespace Go.Proofs.Ytefhljhpcpajgaa.shareDeals
open Go.ChangeShapes Go.WideShapes Go.ChangeAt Go.RowKit Go.Proofs.YtefhljhpcpajgaaX Go.Proofs.Ytefhljhpcpajgaa.F Go.Proofs.YtefhljhpcpajgaaW.PrintWords Go.Proofs.YtefhljhpcpajgaaW.PrintLast Go.Proofs.YtefhljhpcpajgaaW.PrintMore
open Go.ChangeMaps (open_string shut_string)
set_option linter.unusedVariables false
set_option linter.unusedSimpArgs false
theorem own : ownKnob Try.prog.godebug = none := by kernel_rfl
theorem laidOut : laidOutB Try.prog = true := by kernel_rfl
set_option maxRecDepth 100000 in
theorem lifted (os : Os) (started : os.Started) (H : Type) (enc : TypeId × Value → H) :
    ReturnsInHanded {} Try.checked os 10 .any (Rows.shareDealsSpec.pre6 enc Try.prog Try.f10 Rows.shareDealsRow.domain false) (Rows.shareDealsSpec.post enc Try.prog Try.f10 false true false false) := by
  refine returnsInHanded_of_change_sized (C := Try.checked) own started (by kernel_rfl) Try.func10
    (ChangeSpec.witness6 (enc := enc) (C := Try.checked) false ⟨#[], #[.int .i64 0, .slice none 0 0, .int .i64 0], []⟩ 8 (by kernel_rfl) (by kernel_rfl) (by kernel_rfl) (by kernel_rfl)) ?_
  intro W base args ds gs before hval0 hW hcnd hsz0 _
  have hval : ∀ (j : Nat) t v, Try.f10.params[j]? = some t → args[j]? = some v → Value.okWide Try.prog W .any base t v := hval0
  have hW' := hW
  obtain ⟨p, q, hA0, hV, rfl, hfz, hnd⟩ := hW
  have hA : DataW.TrodAll enc Try.prog W 0 (fun _ => true) true Try.f10.params.toList args.toList ds p := hA0
  rw [Try.params10] at hA hval
  obtain ⟨v0, vs0, d0, ds0, p0, q0, hargs, rfl, rfl, h0, r0⟩ := trodAll_cons hA
  obtain ⟨v1, vs1, d1, ds1, p1, q1, rfl, rfl, rfl, h1, r1⟩ := trodAll_cons r0
  obtain ⟨v2, vs2, d2, ds2, p2, q2, rfl, rfl, rfl, h2, r2⟩ := trodAll_cons r1
  obtain ⟨rfl, rfl, rfl⟩ := trodAll_nil r2
  obtain rfl : args = #[v0, v1, v2] := by cases args; simp_all
  obtain ⟨rfl, rfl⟩ := trodVars_none hV
  have k0 := h0
  have lt0 : ∀ x ∈ p0, x.block < W.heap.size := by obtain ⟨m, hm⟩ := k0; exact DataW.trod_lt m _ _ _ hm
  obtain ⟨x0, rfl⟩ := okWide_int Try.underlying3 (hval 0 3 v0 rfl rfl)
  obtain ⟨f0, hf0⟩ := h0
  obtain ⟨z0, hk0, ho0⟩ := (Opens.int Try.underlying3) hf0
  obtain rfl : x0 = z0 := by have := hk0; injection this with this; injection this
  have k1 := h1
  have lt1 : ∀ x ∈ p1, x.block < W.heap.size := by obtain ⟨m, hm⟩ := k1; exact DataW.trod_lt m _ _ _ hm
  obtain ⟨b1, len1, cap1, rfl⟩ := okWide_slice Try.underlying22 (hval 1 22 v1 rfl rfl)
  obtain ⟨f1, hf1⟩ := h1
  obtain ⟨x1, hk1, ho1⟩ := (Opens.slice Try.underlying22 (by kernel_rfl) (Opens.int Try.underlying3)) hf1
  obtain ⟨A1, c1, he1, hl1, hc1⟩ := slice_cells (show _ from hk1)
  injection he1 with e1_1 e1_2 e1_3
  subst e1_1 e1_2 e1_3
  have k2 := h2
  have lt2 : ∀ x ∈ p2, x.block < W.heap.size := by obtain ⟨m, hm⟩ := k2; exact DataW.trod_lt m _ _ _ hm
  obtain ⟨x2, rfl⟩ := okWide_int Try.underlying3 (hval 2 3 v2 rfl rfl)
  obtain ⟨f2, hf2⟩ := h2
  obtain ⟨z2, hk2, ho2⟩ := (Opens.int Try.underlying3) hf2
  obtain rfl : x2 = z2 := by have := hk2; injection this with this; injection this
  obtain ⟨k, h⟩ : ∃ k, backhaullaw03_ShareDeals.f k x0 x1 x2 = some true := Pure.ShareDeals x0 x1 x2 ho0 ho1 ho2
  refine (backhaullaw03_ShareDeals.calls k x0 _ _ x1 x2 W hc1 hl1 h).mono fun e W' hq => ?_
  obtain ⟨he, bel0⟩ := hq
  have bel : Below W.heap.size W W' := bel0
  subst he
  exact ⟨_, rfl, _, _, _, [], _, [], hW', trodAll_mk1 (shut_bool Try.underlying4 _), (trodAll_cons_mk (Below.trod laidOut (by kernel_rfl) (of_decide_eq_true (by kernel_rfl)) k0 bel lt0) (trodAll_cons_mk (Below.trod laidOut (by kernel_rfl) (of_decide_eq_true (by kernel_rfl)) k1 bel lt1) (trodAll_cons_mk (Below.trod laidOut (by kernel_rfl) (of_decide_eq_true (by kernel_rfl)) k2 bel lt2) trodAll_mk0))), rfl, bel.frame _, fun h => by cases h⟩
theorem closed_ : joinedFacts Try.pinned.checked.prog 10 Try.f10 Rows.shareDealsSpec Rows.shareDealsRow = true := by
  unfold joinedFacts
  repeat' (with_reducible apply band)
  any_goals with_reducible exact Join.mayEnter_is
  any_goals (rw [Join.make_is]; kernel_rfl)
  any_goals (rw [Join.lifts_is]; kernel_rfl)
  all_goals kernel_rfl
theorem over : Rows.shareDealsRow.holds Try.pinned (OpenSpec.ofChange Rows.shareDealsSpec) :=
  OpenClaim.holds_of_wide 10 Try.f10 rfl rfl rfl rfl rfl rfl rfl ⟨rfl, rfl, rfl, rfl, rfl⟩ rfl rfl rfl rfl rfl (by kernel_rfl) Try.func10 closed_
    (of_decide_eq_true (by kernel_rfl)) (by unfold Func.isWrapper; first | (rw [if_pos (by decide +kernel)]; kernel_rfl) | (rw [if_neg (by decide +kernel)]; exact ⟨rfl, rfl⟩))
    (fun os started H enc _ => lifted os started H enc)
theorem proved : Rows.ShareDealsSaid := over
#print axioms proved
end Go.Proofs.Ytefhljhpcpajgaa.shareDeals
namespace Go.Proofs.Ytefhljhpcpajgaa
theorem shareDeals_holds : Rows.ShareDealsSaid := shareDeals.proved
end Go.Proofs.Ytefhljhpcpajgaa
