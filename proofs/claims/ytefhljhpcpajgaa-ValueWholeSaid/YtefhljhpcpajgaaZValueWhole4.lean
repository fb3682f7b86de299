-- merged and pruned by prune.py (the session's own program); its words go back to the kit's print
import Derived.Test.YtefhljhpcpajgaaProg
import Derived.Below
import Derived.Deep.Draws
import Derived.Deep.AppendLies
import Derived.Maps.AppendAt
import Derived.OwnWalk
import Derived.Laws.BytesArg
import Derived.Laws.MakeOwn
import Derived.Laws.OwnMore
import Derived.Deep.OwnRows
import Derived.Tactics
import Derived.Lib.ConvBytes
import Derived.Laws.Slices
import Derived.WalkKit
import Derived.KernelRfl
import Derived.RowKit3
import Derived.Deep.LoopGhost
import Derived.Deep.QuietTactic
import Derived.BigQuiet
import Derived.WideLaws
import Derived.Deep.DeepCutAuto
import Derived.Deep.CutBlock
import Derived.Deep.RegionHeld3
import Derived.Laws.Rows
import Derived.Lib.AppendStr
import Derived.ArgAppend
import Derived.Laws.IdiomCopy
import Derived.OrdersHeld
import Derived.Laws.BitsLemmas
import Derived.RowKit
import Derived.Laws.StructEq
import Derived.Deep.RegionLawGrows
import Derived.Lib.SliceRun
import Derived.Shelf.SlSortCmp.Insertion1
import Derived.Shelf.Small.Bits
import Derived.Shelf.Utf8.RuneCount
import Derived.Shelf.Strconv.Itoa0
import Derived.Shelf.Strings.Prefix
import Derived.Shelf.Bits.Mul64
import Derived.Ground.SlsfProg
import Derived.Shelf.SlSortCmp.Insertion
import Derived.Sort.LotA
import Derived.Sort.OwnSortedInts
import Derived.Lib.OthersKept
import Derived.Lib.RuneCount
import Derived.Laws.Cover4
import Derived.Outline
import Derived.Test.YtefhljhpcpajgaaZValueWhole3
set_option linter.unusedVariables false
set_option linter.unusedSimpArgs false
set_option linter.unusedVariables false
namespace Go.Proofs.Ytefhljhpcpajgaa.F
open Go.Sort Go.Shelf Go.Lib
open Go.RowKit Go.Proofs.YtefhljhpcpajgaaX Go.Proofs.YtefhljhpcpajgaaW.PrintWords Go.Proofs.YtefhljhpcpajgaaW.PrintLast Go.Proofs.YtefhljhpcpajgaaW.PrintMore
open Go.Proofs.Ytefhljhpcpajgaa.Stable
theorem sym_calls {α : Type} [Inhabited α] (enc : α → Value) (cf : α → α → Int) (g : Nat) (cb : Array Value) (blk off cap : Nat) (d0 : Array α) (w0 : World) (eg : ∀ args w, (callFunc g args).run Try.prog w = .ok (.enter g args) w) (hcmp : CmpLays1 Try.prog g cb enc cf blk off d0.size w0) (R : Row1 enc w0 blk off d0) (hsz : d0.size < 4611686018427387904) :
    ∀ (f a m b : Nat) (d : Array α) (w : World), b - a ≤ f → a < m → m < b → b ≤ d.size → d0.size = d.size → SW enc w0 blk off d w → Calls Try.prog 156 #[.slice (some ⟨blk, off, none⟩) d.size cap, .int .i64 a, .int .i64 m, .int .i64 b, .func (.func g) #[] cb] w fun e w' => e = .returned (.tuple #[]) ∧ SW enc w0 blk off (sym (ltOf cf) f a m b d) w'
  | 0, a, m, b, d, w, h0, h1, h2, _, _, _ => by omega
  | f + 1, a, m, b, d, w, h0, h1, h2, hb, hs, S => by
    by_cases e1 : m - a = 1
    · have := sym_up enc cf g cb blk off cap a m b d0 d w0 w eg hcmp R hs S h1 (by omega) h2 hb (by omega)
      rw [sym, if_pos e1]
      exact this
    by_cases e2 : b - m = 1
    · have := sym_down enc cf g cb blk off cap a m b d0 d w0 w eg hcmp R hs S h1 (by omega) h2 (by omega) hb (by omega)
      rw [sym, if_neg e1, if_pos e2]
      exact this
    have ih := sym_calls enc cf g cb blk off cap d0 w0 eg hcmp R hsz f
    by_cases c : (a + b) / 2 < m
    · exact sym_midA enc cf g cb blk off cap a m b ((a + b) / 2) f d0 d w0 w eg hcmp R hs S (by omega) (by omega) rfl c hb (by omega) (fun a m b d w h1 h2 h0 hb hs S => ih a m b d w h0 h1 h2 hb hs S) h0
    exact sym_midB enc cf g cb blk off cap a m b ((a + b) / 2) f d0 d w0 w eg hcmp R hs S (by omega) (by omega) rfl (by omega) hb (by omega) (fun a m b d w h1 h2 h0 hb hs S => ih a m b d w h0 h1 h2 hb hs S) h0
set_option maxHeartbeats 8000000 in
set_option maxRecDepth 100000 in
theorem sort_stable {α : Type} [Inhabited α] (enc : α → Value) (cf : α → α → Int) (g : Nat) (cb : Array Value) (blk off cap : Nat) (d : Array α) (w0 w : World) (eg : ∀ args w, (callFunc g args).run Try.prog w = .ok (.enter g args) w) (hcmp : CmpLays1 Try.prog g cb enc cf blk off d.size w0) (R : Row1 enc w0 blk off d) (S : SW enc w0 blk off d w) (hsz : d.size < 1152921504606846976) :
    Calls Try.prog 138 #[.slice (some ⟨blk, off, none⟩) d.size cap, .func (.func g) #[] cb] w fun e w' => e = .returned (.tuple #[]) ∧ SW enc w0 blk off (stable (ltOf cf) d.size d) w' := by
  have hC := fun (wr : World) (S : SW enc w0 blk off d wr) => stable_calls enc cf g cb blk off cap d w0 wr eg hcmp R S hsz (fun f a m b dk w h0 h1 h2 hb hs S => sym_calls enc cf g cb blk off cap d w0 eg hcmp R (by omega) f a m b dk w h0 h1 h2 hb hs S)
  have HC := Aside0.mk hC
  have S1 : Aside (SW enc w0 blk off d w) := S
  clear hC hcmp S
  go_enter Try.func138, Try.ntmps138
  go_wp2_with fail
  refine (HC.out _ S1.out).mono ?_
  rintro e w' ⟨rfl, S2⟩
  have S3 : Aside (SW enc w0 blk off (stable (ltOf cf) d.size d) w') := S2
  clear S2
  go_wp2
  go_end0
  exact ⟨rfl, S3.out⟩
def byArr (l : List Int) : Array Nat := stable (ltK (keyOf l)) l.length (Array.range l.length)
def byPins (l : List Int) : List Int := (byArr l).toList.map fun i => ((pinN l.length i : Nat) : Int)
theorem byArr_size (l : List Int) : (byArr l).size = l.length := by unfold byArr stable; rw [mrgs_size, blk_size, Array.size_range]
def upTo (n i : Nat) : List Int := (List.range n).map fun j => if j < i then (j : Int) else 0
theorem upTo_zero (n : Nat) : upTo n 0 = List.replicate n 0 := by
  unfold upTo
  apply List.ext_getElem
  · simp
  intro k h1 h2; simp
theorem upTo_set (n i : Nat) (h : i < n) : (upTo n i).set i (i : Int) = upTo n (i + 1) := by
  unfold upTo
  apply List.ext_getElem
  · simp
  intro k h1 h2
  rw [List.getElem_set]
  simp only [List.getElem_map, List.getElem_range]
  by_cases e : i = k
  · subst e; rw [if_pos rfl, if_pos (by omega)]
  rw [if_neg e]
  by_cases c : k < i
  · rw [if_pos c, if_pos (by omega)]
  rw [if_neg c, if_neg (by omega)]
theorem upTo_len (n i : Nat) : (upTo n i).length = n := by unfold upTo; simp
theorem putRow_pin (l : List Int) (w : World) (g : Nat) (d : Array Nat) : putRow (encP l.length) w g 0 d = putRow (Value.int .i64) w g 0 (d.toList.map fun i => ((pinN l.length i : Nat) : Int)).toArray := by
  have e : putCells (encP l.length) 0 d = putCells (Value.int .i64) 0 (d.toList.map fun i => ((pinN l.length i : Nat) : Int)).toArray := by
    funext cur
    unfold putCells
    congr 1
    funext k x
    have hz : (d.toList.map fun i => ((pinN l.length i : Nat) : Int)).toArray.size = d.size := by simp
    rw [hz]
    by_cases c : 0 ≤ k ∧ k < 0 + d.size
    · rw [if_pos c, if_pos c]
      have h1 : k - 0 < d.size := by omega
      rw [getElem!_pos d (k - 0) h1, getElem!_pos _ (k - 0) (by rw [hz]; exact h1)]
      simp [encP]
    rw [if_neg c, if_neg c]
  unfold putRow
  rw [e]
theorem holds_pin {w : World} {g : Nat} {cur : Array Value} {e : TypeId} (l : List Int) (hb : w.heap[g]? = some (.cells cur e (0, 0))) (ht : cur.toList.take l.length = (upTo l.length l.length).map (Value.int .i64)) : Holds (encP l.length) w g 0 (Array.range l.length) := by
  have h := holds_of_blockI (ss := upTo l.length l.length) hb (by rw [upTo_len]; exact ht)
  intro j hj
  have hj' : j < l.length := by simpa using hj
  have := h j (by simpa [upTo_len] using hj')
  refine ⟨?_, this.2⟩
  rw [this.1, getElem!_pos _ j (by simpa [upTo_len] using hj'), getElem!_pos _ j hj]
  simp [upTo, encP, pin_of hj', hj']
theorem byPins_len (l : List Int) : (byPins l).length = l.length := by
  unfold byPins; rw [List.length_map, Array.length_toList, byArr_size]
open Go.Proofs.Ytefhljhpcpajgaa.Q in
def byList (l : List Int) : List Int := (List.range l.length).map fun p => ((((List.range l.length).find? fun i => rank (fun j => l.getD j 0) l.length i == p).getD 0 : Nat) : Int)
open Go.Proofs.Ytefhljhpcpajgaa.Q in
theorem byPins_is (l : List Int) : byPins l = byList l := by
  have hr0 : (Array.range l.length).toList = List.range l.length := by simp
  have sp := stable_spec (fun x => x) (keyOf l) l.length (Array.range l.length) (by simp) (fun i hi => by rw [getElem!_pos _ i (by simpa using hi)]; simp)
  have hz : (byArr l).size = l.length := byArr_size l
  have hL : ∃ L, L = (byArr l).toList := ⟨_, rfl⟩
  obtain ⟨L, hL⟩ := hL
  have hp : L.Perm (List.range l.length) := by
    have := sp.1.2.2
    rw [show ((Array.range l.length).extract 0 l.length) = Array.range l.length by simp, hr0] at this
    rw [hL]
    refine List.Perm.trans ?_ this
    rw [show (stable (ltK (keyOf l)) l.length (Array.range l.length)).extract 0 l.length = byArr l by
      show (byArr l).extract 0 l.length = byArr l
      rw [← hz]; simp]
  have hll : L.length = l.length := by rw [hL, Array.length_toList, hz]
  have hs : L.Pairwise (fun a b => bef (keyOf l) a b = true) := by
    rw [List.pairwise_iff_getElem]
    intro i j hi hj hij
    have := sp.2 i j (Nat.zero_le _) hij (by omega)
    have e : ∀ q (hq : q < L.length), L[q] = (stable (ltK (keyOf l)) l.length (Array.range l.length))[q]! := fun q hq => by
      subst hL
      rw [getElem!_pos _ q (show q < (byArr l).size by simpa using hq)]
      rw [Array.getElem_toList]
      rfl
    rw [e i hi, e j hj, bef_iff]
    unfold RK at this
    omega
  have hk : ∀ i, rank (keyOf l) l.length i = rank (keyOf l) l.length i := fun _ => rfl
  have hrk : ∀ i, i < l.length → rank (keyOf l) l.length i = rank (fun j => l.getD j 0) l.length i := fun i hi => by
    unfold rank
    refine List.countP_congr fun j hj => ?_
    have hj := List.mem_range.1 hj
    rw [bef_iff, bef_iff]
    unfold keyOf
    rw [pin_of hi, pin_of hj]
  unfold byPins byList
  rw [← hL]
  apply List.ext_getElem
  · simp [hll]
  intro p h1 h2
  have hpl : p < L.length := by simpa using h1
  simp only [List.getElem_map, List.getElem_range]
  have hm : L[p] < l.length := List.mem_range.1 (hp.mem_iff.1 (List.getElem_mem hpl))
  have hrp := rank_sorted hp hs hpl
  rw [pin_of hm]
  rw [hrk _ hm] at hrp
  congr 1
  cases hf : (List.range l.length).find? (fun i => rank (fun j => l.getD j 0) l.length i == p) with
  | none =>
    exact absurd (show (rank (fun j => l.getD j 0) l.length L[p] == p) = true by rw [hrp]; exact beq_self_eq_true p) (List.find?_eq_none.1 hf L[p] (List.mem_range.2 hm))
  | some i =>
    have hi1 := List.find?_some hf
    have hi2 := List.mem_range.1 (List.mem_of_find?_eq_some hf)
    have hi3 : rank (fun j => l.getD j 0) l.length i = p := by simpa using hi1
    exact (rank_inj hi2 hm (hi3.trans hrp.symm)).symm
def byF (a0 : Int) (l1_0_0 : List Int) : Option (List Int) := if a0 = (l1_0_0.length : Int) ∧ 0 < l1_0_0.length ∧ l1_0_0.length < 35184372088832 then some (byList l1_0_0) else none
set_option maxHeartbeats 8000000 in
set_option maxRecDepth 100000 in
theorem by_calls (a0 : Int) (g1_0 : Nat) (A1_0_0 : Option Addr) (c1_0_0 : Nat) (l1_0_0 : List Int) (r : List Int) (w : World) (hk1_0 : w.heap[g1_0]? = some (.cells #[.slice A1_0_0 l1_0_0.length c1_0_0] 22 (0, 0))) (hr1_0_0 : Kd.C (Kd.int .i64) w A1_0_0 l1_0_0.length l1_0_0) (hc1_0_0 : l1_0_0.length ≤ c1_0_0) (h : byF a0 l1_0_0 = some r) :
    Calls Try.prog 108 #[.int .i64 a0, .func (.func 109) #[] #[.pointer (some ⟨g1_0, 0, none⟩)]] w fun e w' => ∃ v0_ : Value, e = .returned (v0_) ∧ Kd.R (Kd.int .i64) 3 w' w.heap.size (fun _ => True) v0_ r ∧ Below w.heap.size w w' := by
  unfold byF at h
  by_cases hg : a0 = (l1_0_0.length : Int) ∧ 0 < l1_0_0.length ∧ l1_0_0.length < 35184372088832
  case neg => rw [if_neg hg] at h; cases h
  rw [if_pos hg] at h
  obtain ⟨rfl, hp, hm⟩ := hg
  have hrr := (Option.some.inj h).symm
  have HRR := Aside0.mk hrr
  obtain ⟨n, hn⟩ : ∃ q, q = l1_0_0.length := ⟨_, rfl⟩
  have hp0 : (0 : Int) ≤ (l1_0_0.length : Int) := by omega
  have hp1 : ((l1_0_0.length : Int)).toNat * 8 ≤ 281474976710656 := by omega
  have HK := Aside0.mk hk1_0
  have HR := Aside0.mk hr1_0_0
  have HP := Aside0.mk hp
  have HM := Aside0.mk hm
  have HB0 := Aside0.mk (Below.refl w.heap.size w)
  obtain ⟨WB, hWB⟩ : ∃ x, x = (w.alloc (.cells #[(.func (.func 109) #[] #[.pointer (some ⟨g1_0, 0, none⟩)] : Value)] 131)) := ⟨_, rfl⟩
  have HX := Aside0.mk hWB
  have HY : Aside0 (WB.cell? ⟨w.heap.size, 0, none⟩ = some (.func (.func 109) #[] #[.pointer (some ⟨g1_0, 0, none⟩)] : Value) ∧ Below w.heap.size w WB ∧ WB.heap.size = w.heap.size + 1) := ⟨by rw [hWB]; exact ⟨by simp, below_alloc (Below.refl _ _) _, by simp⟩⟩
  have HN := Aside0.mk hn
  clear h hrr hk1_0 hr1_0_0 hc1_0_0 hp hm hWB
  rw [← hn]
  rw [← hn] at hp0 hp1
  have HL : Aside0 ((List.replicate ((n : Int)).toNat 0 : List Int) = upTo n 0) := ⟨by rw [upTo_zero, Int.toNat_natCast]⟩
  clear hn
  go_enter Try.func108, Try.ntmps108
  go_wp2_with (first | ((with_reducible refine gate_dst (N := 8) rfl ?_); refine Kd.R_make (Kd.int .i64) (w0 := (w.alloc (.cells #[(.func (.func 109) #[] #[.pointer (some ⟨g1_0, 0, none⟩)] : Value)] 131))) ((w.alloc (.cells #[(.func (.func 109) #[] #[.pointer (some ⟨g1_0, 0, none⟩)] : Value)] 131))).heap.size 3 rfl (N := 8) rfl 22 _ _ rfl (n : Int) rfl rfl Try.underlying22 (.int .i64 0) 8 info3 rfl (by decide) (by omega) 0 (ok := fun _ => True) (okp := fun _ => True) rfl (fun _ hk => hk) trivial hp0 hp1 (Below.refl _ _) (Nat.le_refl _) ?_; intro v102 w4 ho5 hb hg_ hnew_; clear hg_ hnew_; rw [← HX.out] at hb ho5; rw [HL.out] at ho5; have HO := Aside0.mk ho5; have HB := Aside0.mk hb; clear ho5 hb; obtain ⟨Ao6, co6, eo6⟩ := Kd.R_slice HO.out; rw [upTo_len] at eo6; subst eo6))
  go_loopg [11] n (fun g1 v11 w' => ∃ (i : Nat), v11 = .int .i64 i ∧ i ≤ n ∧ n ≤ g1 + i ∧ Aside0 (Kd.R (Kd.int .i64) 3 w' WB.heap.size (fun _ => True) (.slice Ao6 n co6) (upTo n i)) ∧ Aside0 (Below WB.heap.size WB w'))
  case atStart => exact ⟨0, by first | rfl | go_num, by omega, by omega, ⟨by (with_reducible repeat (first | apply Kd.R_alloc | apply Kd.R_drewN | apply Kd.R_drew)); exact HO.out⟩, ⟨qB⟩⟩
  case round =>
    clear HO HB HL hp0 hp1
    obtain ⟨i, rfl, hin, hg1, HO, HB⟩ := hrel
    by_cases hlt : i < n
    · have hltz : decide ((i : Int) < (n : Int)) = true := decide_eq_true (by omega)
      have hwr : IntKind.i64.wrap ((i : Int) + 1) = (i : Int) + 1 := by have := HM.out; have := HN.out; rw [IntKind.wrap_i64]; omega
      have p10 : 0 ≤ (i : Int) := by omega
      have q10 : (i : Int) < ((upTo n i).length : Int) := by rw [upTo_len]; omega
      have HO1 : Kd.R (Kd.int .i64) 3 wr WB.heap.size (fun _ => True) (.slice Ao6 (upTo n i).length co6) (upTo n i) := by rw [upTo_len]; exact HO.out
      obtain ⟨go10, co10, eo10, gb10, gl10, cl10, HG10⟩ := Kd.R_form HO1 (by rw [upTo_len]; omega)
      (first | cases eo10 | (injection eo10 with ea_ en_ ec_; (first | subst ea_ | (injection ea_ with ea_; subst ea_)); subst ec_; clear en_))
      have GB10 := Aside0.mk gb10
      clear gb10 gl10 HG10
      obtain ⟨hx10_0, hf10_0⟩ := Kd.R_celln 0 HO1 (i : Int) p10 q10
      rw [upTo_len] at q10
      replace p10 := eq_true p10
      replace q10 := eq_true q10
      have HP11 := Kd.R_putg HO1 (i : Int) (i : Int)
      have HQ : Aside0 ((upTo n i).set ((i : Int)).toNat (i : Int) = upTo n (i + 1)) := ⟨by rw [Int.toNat_natCast]; exact upTo_set n i hlt⟩
      rw [HQ.out, upTo_len] at HP11
      simp only [Int.toNat_natCast] at HP11 hx10_0 hf10_0
      clear HO1
      go_wp2_with (first | ((with_reducible refine gate_store (t := 3) (p := 17) rfl ?_); refine store_event (t := 3) (p := 17) (v := ?vo_w12) (w1 := (wr.setCell ⟨go10, i, none⟩ (.int .i64 (i : Int)))) ?hg ?ho ?hn ?hr ?_; (case ho => rfl); (case hg => rfl); (case hn => rfl); (case hr => first | (go_simp; done) | (go_simp; rfl)); intro w12 hw; have hg : wr.grownBy w12 (some go10) := (by rw [hw]; exact HP11.2); have hp_ : Kd.R (Kd.int .i64) 3 w12 WB.heap.size (fun _ => True) (.slice (some ⟨go10, 0, none⟩) n co6) (upTo n (i + 1)) := (by rw [hw]; exact HP11.1); clear HP11; have n0_ := Aside0.mk (hp_); have n1_ := Aside0.mk ((by rw [hw]; exact below_set (HB.out) GB10.out : Below WB.heap.size WB w12)); clear HO HB; have HO := n0_; have HB := n1_; clear n0_ n1_ hg hw hp_))
      go_roundg (n - (i + 1))
      case measure => omega
      case rel => exact ⟨i + 1, by first | rfl | (congr 1; omega), by omega, by omega, ⟨by (with_reducible repeat (first | apply Kd.R_alloc | apply Kd.R_drewN | apply Kd.R_drew)); exact HO.out⟩, ⟨qB⟩⟩
    have hltz : decide ((i : Int) < (n : Int)) = false := decide_eq_false (by omega)
    obtain rfl : i = n := by omega
    have hN := HN.out
    have hl0 := HP.out
    have hlm := HM.out
    have ho := Kd.own_of_R HO.out
    obtain ⟨gb, cap, cur, hv, hbase, hheap, h1, h2, h3, h4⟩ : ∃ gb cap cur, Value.slice Ao6 i co6 = .slice (some ⟨gb, 0, none⟩) (upTo i i).length cap ∧ WB.heap.size ≤ gb ∧ wr.heap[gb]? = some (.cells cur 3 (0, 0)) ∧ (upTo i i).length ≤ cap ∧ cap ≤ maxLen ∧ cur.size = cap * 1 ∧ cur.toList.take ((upTo i i).length * 1) = encs (Value.int .i64) (upTo i i) := by
      rcases ho.2 with ⟨_, hz⟩ | h
      · rw [upTo_len] at hz; omega
      exact h
    rw [upTo_len] at hv h1 h4
    injection hv with ea_ en_ ec_
    subst ea_ ec_
    have eN : i = l1_0_0.length := hN
    have hh := holds_pin l1_0_0 hheap (by rw [← eN]; rw [Nat.mul_one] at h4; exact h4)
    rw [← eN] at hh
    have hy := HY.out
    have hbw : Below w.heap.size w wr := hy.2.1.trans ⟨HB.out.os, HB.out.tape, HB.out.output, HB.out.size, fun k hk => HB.out.block k (by omega)⟩
    have hgs : gb < wr.heap.size := (Array.getElem?_eq_some_iff.1 hheap).1
    have hcm := share_cmp.lays w.heap.size g1_0 A1_0_0 c1_0_0 l1_0_0 hl0 gb 0 (Array.range i).size w wr (by rw [blk_cell HK.out 0]; rfl) HR.out hbw (by omega) (by omega) (by omega) ((HB.out.cell (p := ⟨w.heap.size, 0, none⟩) (by show w.heap.size < _; omega)).trans hy.1)
    rw [← eN] at hcm
    have hst := sort_stable (encP i) (cfP l1_0_0) 139 #[.pointer (some ⟨w.heap.size, 0, none⟩)] gb 0 co6 (Array.range i) wr wr (enters_of Try.func139 (by kernel_rfl) rfl) hcm ⟨fun _ => rfl, hh, hgs⟩ (SW.start hh) (by rw [Array.size_range]; omega)
    rw [cfP_lt] at hst
    simp only [Array.size_range] at hst
    have HS := Aside0.mk hst
    have hmf : ∀ (fn : Fn) (first cap : Array Value) (w : World), (Instr.makeFunc fn first cap).run Try.prog w = .ok (.func fn first cap) w := fun _ _ _ _ => rfl
    have HF := Aside0.mk (And.intro hbw (And.intro hbase (And.intro hheap (And.intro h1 (And.intro h2 (And.intro h3 (And.intro hgs eN)))))))
    clear hst hcm hh hbw hgs hbase hheap h1 h2 h3 h4 ho hy hN hl0 hlm eN HO HB
    go_wp2_with fail
    refine HS.out.mono ?_
    rintro e1 w1 ⟨rfl, hsw⟩
    have HW : Aside (SW (encP i) wr gb 0 (stable (ltK (keyOf l1_0_0)) i (Array.range i)) w1) := hsw
    clear hsw HS
    go_wp2
    go_ret
    obtain ⟨hbw, hbase, hheap, h1, h2, h3, hgs, eN⟩ := HF.out
    have hy := HY.out.2.2
    obtain ⟨m, os, hw1⟩ := HW.out
    have eA : stable (ltK (keyOf l1_0_0)) i (Array.range i) = byArr l1_0_0 := by unfold byArr; rw [← eN]
    rw [eA] at hw1
    have eP : w1 = grow (putRow (Value.int .i64) (Sort.ahead wr m) gb 0 (byPins l1_0_0).toArray) os := by
      rw [hw1]
      unfold sortWorld
      rw [eN, putRow_pin]
      rfl
    refine ⟨_, rfl, ?_, ?_⟩
    · rw [HRR.out, ← byPins_is, eP]
      have := ownsRow_sortedI (w := wr) (base := w.heap.size) (n := m) (os := os) (ss := upTo i i) (ts := byPins l1_0_0) (by rw [byPins_len, upTo_len, eN]) (by omega) hheap (by rw [upTo_len]; exact h1) h2 h3
      rw [upTo_len] at this
      refine Kd.R_of_own ?_ (fun _ _ => trivial)
      rw [byPins_len, ← eN]
      exact this
    rw [hw1]
    exact sorted_below (encP i) hbw (by omega) hbw.size
def share_by_share_Out_1_v22.f (a0 : Int) (l1_0_0 : List Int) : Option (List Int) := if a0 = (l1_0_0.length : Int) ∧ 0 < l1_0_0.length ∧ l1_0_0.length < 35184372088832 then some (byList l1_0_0) else none
theorem share_by_share_Out_1_v22.calls (a0 : Int) (g1_0 : Nat) (A1_0_0 : Option Addr) (c1_0_0 : Nat) (l1_0_0 : List Int) (r : List Int) (w : World) (hk1_0 : w.heap[g1_0]? = some (.cells #[.slice A1_0_0 l1_0_0.length c1_0_0] 22 (0, 0))) (hr1_0_0 : Kd.C (Kd.int .i64) w A1_0_0 l1_0_0.length l1_0_0) (hc1_0_0 : l1_0_0.length ≤ c1_0_0) (h : share_by_share_Out_1_v22.f a0 l1_0_0 = some r) :
    Calls Try.prog 108 #[.int .i64 a0, .func (.func 109) #[] #[.pointer (some ⟨g1_0, 0, none⟩)]] w fun e w' => ∃ v0_ : Value, e = .returned (v0_) ∧ Kd.R (Kd.int .i64) 3 w' w.heap.size (fun _ => True) v0_ r ∧ Below w.heap.size w w' :=
  by_calls a0 g1_0 A1_0_0 c1_0_0 l1_0_0 r w hk1_0 hr1_0_0 hc1_0_0 h
theorem own_len {A : Option Addr} {n m c d k : Nat} (h : some k ≠ (Value.slice A n c).ownBlock) : some k ≠ (Value.slice A m d).ownBlock := by cases A <;> exact h
def share_Out.l0 : Nat → List Int → List Int → Int → Int → Option (List Int × Int)
  | 0, _, _, _, _ => none
  | k + 1, x8, x51, x52, x53 => if x53 < x52 then (if 0 ≤ x53 then (if x53 < (x51.length : Int) then (if 0 ≤ (rd x51 x53) then (if (rd x51 x53) < (x8.length : Int) then (share_Out.l0 k (x8.set ((rd x51 x53) : Int).toNat (wrap64 ((rd x8 (rd x51 x53)) + 1))) x51 x52 (wrap64 (x53 + 1))) else (none)) else (none)) else (none)) else (none)) else (some (x8, 0))
def share_Out.f (k : Nat) (a0 : Int) (l1 : List Int) : Option (List Int × Int) := (share_Whole.f k l1).bind fun bt101 => (if bt101.2 = 0 then (if a0 < 0 then (some (([] : List Int), 8)) else ((cents_In.f a0).bind fun t103 => (if t103 = true then ((slices_Max_int_int.f k l1).bind fun t104 => (if t104 = 0 then ((share_even.f k (l1.length : Int)).bind fun t105 => ((share_parts.f k a0 bt101.1 t105).bind fun bt108 => (if bt108.2.2.2 = 0 then ((share_by_share_Out_1_v22.f (bt108.1.length : Int) bt108.2.1).bind fun t117 => (if 0 ≤ bt108.2.2.1 then (if bt108.2.2.1 ≤ (t117.length : Int) then ((some (t117.take (bt108.2.2.1 : Int).toNat : List Int)).bind fun y120 => (share_Out.l0 k bt108.1 y120 (y120.length : Int) 0)) else (none)) else (none))) else (some (([] : List Int), bt108.2.2.2))))) else ((share_parts.f k a0 bt101.1 l1).bind fun bt126 => (if bt126.2.2.2 = 0 then ((share_by_share_Out_1_v22.f (bt126.1.length : Int) bt126.2.1).bind fun t135 => (if 0 ≤ bt126.2.2.1 then (if bt126.2.2.1 ≤ (t135.length : Int) then ((some (t135.take (bt126.2.2.1 : Int).toNat : List Int)).bind fun y138 => (share_Out.l0 k bt126.1 y138 (y138.length : Int) 0)) else (none)) else (none))) else (some (([] : List Int), bt126.2.2.2)))))) else (some (([] : List Int), 8))))) else (some (([] : List Int), bt101.2)))
theorem share_Out.mono_l : ∀ k, (∀ y0 y1 y2 y3, LeO (share_Out.l0 k y0 y1 y2 y3) (share_Out.l0 (k + 1) y0 y1 y2 y3))
  | 0 => fun _ _ _ _ r h => by simp [share_Out.l0] at h
  | k + 1 => by
    have ih0 := share_Out.mono_l k
    intro y0 y1 y2 y3
    unfold share_Out.l0
    repeat' first
    | (with_reducible exact ih0 _ _ _ _)
    | (with_reducible exact share_Whole.mono _ _)
    | (with_reducible exact share_even.mono _ _)
    | (with_reducible exact share_parts.mono _ _ _ _)
    | (with_reducible exact slices_Max_int_int.mono _ _)
    | (with_reducible exact LeO.refl _)
    | (with_reducible exact LeO.none _)
    | (with_reducible refine LeO.ite ?_ ?_)
    | (with_reducible refine LeO.bind ?_ (fun _ => ?_))
    | exact ih0 _ _ _ _
    | exact share_Whole.mono _ _
    | exact share_even.mono _ _
    | exact share_parts.mono _ _ _ _
    | exact slices_Max_int_int.mono _ _
    | exact LeO.none _
    | refine LeO.ite ?_ ?_
    | refine LeO.bind ?_ (fun _ => ?_)
theorem share_Out.mono : ∀ a0 a1 k, LeO (share_Out.f k a0 a1) (share_Out.f (k + 1) a0 a1) := by
  intro a0 a1 k
  have ih0 := share_Out.mono_l k
  unfold share_Out.f
  repeat' first
      | (with_reducible exact ih0 _ _ _ _)
      | (with_reducible exact share_Whole.mono _ _)
      | (with_reducible exact share_even.mono _ _)
      | (with_reducible exact share_parts.mono _ _ _ _)
      | (with_reducible exact slices_Max_int_int.mono _ _)
      | (with_reducible exact LeO.refl _)
      | (with_reducible exact LeO.none _)
      | (with_reducible refine LeO.ite ?_ ?_)
      | (with_reducible refine LeO.bind ?_ (fun _ => ?_))
      | exact ih0 _ _ _ _
      | exact share_Whole.mono _ _
      | exact share_even.mono _ _
      | exact share_parts.mono _ _ _ _
      | exact slices_Max_int_int.mono _ _
      | exact LeO.none _
      | refine LeO.ite ?_ ?_
      | refine LeO.bind ?_ (fun _ => ?_)
set_option maxHeartbeats 8000000 in
set_option maxRecDepth 100000 in
theorem share_Out.calls (k : Nat) (a0 : Int) (A1 : Option Addr) (c1 : Nat) (l1 : List Int) (r1 : List Int) (r2 : Int) (w : World) (hr1 : Kd.C (Kd.int .i64) w A1 l1.length l1) (hc1 : l1.length ≤ c1) (h : share_Out.f k a0 l1 = some (r1, r2)) :
    Calls Try.prog 51 #[.int .i64 a0, .slice A1 l1.length c1] w fun e w' => ∃ v0_ : Value, e = .returned (.tuple #[v0_, .int .i64 r2]) ∧ Kd.R (Kd.int .i64) 3 w' w.heap.size (fun _ => True) v0_ r1 ∧ Below w.heap.size w w' := by
  have hmf : ∀ (fn : Fn) (first cap : Array Value) (w : World), (Instr.makeFunc fn first cap).run Try.prog w = .ok (.func fn first cap) w := fun _ _ _ _ => rfl
  have HR1 := zA hr1
  have HC1 := zA hc1
  clear hr1 hc1
  have HB := zA (Below.refl w.heap.size w)
  have H : ((share_Whole.f k l1).bind fun bt101 => (if bt101.2 = 0 then (if a0 < 0 then (some (([] : List Int), 8)) else ((cents_In.f a0).bind fun t103 => (if t103 = true then ((slices_Max_int_int.f k l1).bind fun t104 => (if t104 = 0 then ((share_even.f k (l1.length : Int)).bind fun t105 => ((share_parts.f k a0 bt101.1 t105).bind fun bt108 => (if bt108.2.2.2 = 0 then ((share_by_share_Out_1_v22.f (bt108.1.length : Int) bt108.2.1).bind fun t117 => (if 0 ≤ bt108.2.2.1 then (if bt108.2.2.1 ≤ (t117.length : Int) then ((some (t117.take (bt108.2.2.1 : Int).toNat : List Int)).bind fun y120 => (share_Out.l0 k bt108.1 y120 (y120.length : Int) 0)) else (none)) else (none))) else (some (([] : List Int), bt108.2.2.2))))) else ((share_parts.f k a0 bt101.1 l1).bind fun bt126 => (if bt126.2.2.2 = 0 then ((share_by_share_Out_1_v22.f (bt126.1.length : Int) bt126.2.1).bind fun t135 => (if 0 ≤ bt126.2.2.1 then (if bt126.2.2.1 ≤ (t135.length : Int) then ((some (t135.take (bt126.2.2.1 : Int).toNat : List Int)).bind fun y138 => (share_Out.l0 k bt126.1 y138 (y138.length : Int) 0)) else (none)) else (none))) else (some (([] : List Int), bt126.2.2.2)))))) else (some (([] : List Int), 8))))) else (some (([] : List Int), bt101.2)))) = some (r1, r2) := h
  clear h
  replace H := Option.bind_eq_some_iff.mp H
  obtain ⟨⟨t101, t102⟩, A30, H⟩ := H
  replace H : (if t102 = 0 then (if a0 < 0 then (some (([] : List Int), 8)) else ((cents_In.f a0).bind fun t103 => (if t103 = true then ((slices_Max_int_int.f k l1).bind fun t104 => (if t104 = 0 then ((share_even.f k (l1.length : Int)).bind fun t105 => ((share_parts.f k a0 t101 t105).bind fun bt108 => (if bt108.2.2.2 = 0 then ((share_by_share_Out_1_v22.f (bt108.1.length : Int) bt108.2.1).bind fun t117 => (if 0 ≤ bt108.2.2.1 then (if bt108.2.2.1 ≤ (t117.length : Int) then ((some (t117.take (bt108.2.2.1 : Int).toNat : List Int)).bind fun y120 => (share_Out.l0 k bt108.1 y120 (y120.length : Int) 0)) else (none)) else (none))) else (some (([] : List Int), bt108.2.2.2))))) else ((share_parts.f k a0 t101 l1).bind fun bt126 => (if bt126.2.2.2 = 0 then ((share_by_share_Out_1_v22.f (bt126.1.length : Int) bt126.2.1).bind fun t135 => (if 0 ≤ bt126.2.2.1 then (if bt126.2.2.1 ≤ (t135.length : Int) then ((some (t135.take (bt126.2.2.1 : Int).toNat : List Int)).bind fun y138 => (share_Out.l0 k bt126.1 y138 (y138.length : Int) 0)) else (none)) else (none))) else (some (([] : List Int), bt126.2.2.2)))))) else (some (([] : List Int), 8))))) else (some (([] : List Int), t102))) = some (r1, r2) := H
  have A3 := zA A30
  clear A30
  by_cases c4 : t102 = 0
  · rw [if_pos c4] at H
    have c4b0 : (t102 == 0) = true := beq_iff_eq.mpr c4; have c4b1 : (t102 != 0) = false := bne_eq_false_iff_eq.mpr c4; clear c4; by_cases c5 : a0 < 0
    · rw [if_pos c5] at H
      have c5b0 : decide (a0 < 0) = true := zFq c5; clear c5; simp only [zNq, zOq] at H; obtain ⟨rfl, rfl⟩ := H; go_enter Try.func51, Try.ntmps51; go_wp2_with (first | ((with_reducible refine zJq (f := 57) rfl ?_); refine goesL_ (some 15) rfl rfl Try.func57 (by kernel_rfl) rfl #[.slice A1 l1.length c1] rfl (by (try simp only [zR, zS, zT]); first | done | rfl | (simp only [zP, zQ]; rfl)) ?_; (with_reducible refine (share_Whole.calls k _ _ l1 t101 t102 _ ?side1 ?side2 A3.out).mono ?_); (case side1 => repeat (first | exact HR1.out | (with_reducible refine Kd.C_alloc ?_ _) | (with_reducible refine Kd.C_drewN ?_ _) | (with_reducible refine Kd.C_drew ?_))); (case side2 => exact HC1.out); rintro e w' ⟨rfl, ⟨nd, rfl⟩⟩; refine ⟨_, rfl, ?_⟩)); go_ret2; exact ⟨_, qE, qN, qB⟩
    rw [if_neg c5] at H; have c5b0 : decide (a0 < 0) = false := zGq c5; clear c5; replace H := Option.bind_eq_some_iff.mp H; obtain ⟨t103, A60, H⟩ := H; replace H : (if t103 = true then ((slices_Max_int_int.f k l1).bind fun t104 => (if t104 = 0 then ((share_even.f k (l1.length : Int)).bind fun t105 => ((share_parts.f k a0 t101 t105).bind fun bt108 => (if bt108.2.2.2 = 0 then ((share_by_share_Out_1_v22.f (bt108.1.length : Int) bt108.2.1).bind fun t117 => (if 0 ≤ bt108.2.2.1 then (if bt108.2.2.1 ≤ (t117.length : Int) then ((some (t117.take (bt108.2.2.1 : Int).toNat : List Int)).bind fun y120 => (share_Out.l0 k bt108.1 y120 (y120.length : Int) 0)) else (none)) else (none))) else (some (([] : List Int), bt108.2.2.2))))) else ((share_parts.f k a0 t101 l1).bind fun bt126 => (if bt126.2.2.2 = 0 then ((share_by_share_Out_1_v22.f (bt126.1.length : Int) bt126.2.1).bind fun t135 => (if 0 ≤ bt126.2.2.1 then (if bt126.2.2.1 ≤ (t135.length : Int) then ((some (t135.take (bt126.2.2.1 : Int).toNat : List Int)).bind fun y138 => (share_Out.l0 k bt126.1 y138 (y138.length : Int) 0)) else (none)) else (none))) else (some (([] : List Int), bt126.2.2.2)))))) else (some (([] : List Int), 8))) = some (r1, r2) := H; have A6 := zA A60; clear A60; by_cases c7 : t103 = true
    · subst c7
      have H1 : ((slices_Max_int_int.f k l1).bind fun t104 => (if t104 = 0 then ((share_even.f k (l1.length : Int)).bind fun t105 => ((share_parts.f k a0 t101 t105).bind fun bt108 => (if bt108.2.2.2 = 0 then ((share_by_share_Out_1_v22.f (bt108.1.length : Int) bt108.2.1).bind fun t117 => (if 0 ≤ bt108.2.2.1 then (if bt108.2.2.1 ≤ (t117.length : Int) then ((some (t117.take (bt108.2.2.1 : Int).toNat : List Int)).bind fun y120 => (share_Out.l0 k bt108.1 y120 (y120.length : Int) 0)) else (none)) else (none))) else (some (([] : List Int), bt108.2.2.2))))) else ((share_parts.f k a0 t101 l1).bind fun bt126 => (if bt126.2.2.2 = 0 then ((share_by_share_Out_1_v22.f (bt126.1.length : Int) bt126.2.1).bind fun t135 => (if 0 ≤ bt126.2.2.1 then (if bt126.2.2.1 ≤ (t135.length : Int) then ((some (t135.take (bt126.2.2.1 : Int).toNat : List Int)).bind fun y138 => (share_Out.l0 k bt126.1 y138 (y138.length : Int) 0)) else (none)) else (none))) else (some (([] : List Int), bt126.2.2.2)))))) = some (r1, r2) := by first | (rw [if_pos rfl] at H; exact H) | rfl
      clear H; have H := H1; clear H1; replace H := Option.bind_eq_some_iff.mp H; obtain ⟨t104, A80, H⟩ := H; replace H : (if t104 = 0 then ((share_even.f k (l1.length : Int)).bind fun t105 => ((share_parts.f k a0 t101 t105).bind fun bt108 => (if bt108.2.2.2 = 0 then ((share_by_share_Out_1_v22.f (bt108.1.length : Int) bt108.2.1).bind fun t117 => (if 0 ≤ bt108.2.2.1 then (if bt108.2.2.1 ≤ (t117.length : Int) then ((some (t117.take (bt108.2.2.1 : Int).toNat : List Int)).bind fun y120 => (share_Out.l0 k bt108.1 y120 (y120.length : Int) 0)) else (none)) else (none))) else (some (([] : List Int), bt108.2.2.2))))) else ((share_parts.f k a0 t101 l1).bind fun bt126 => (if bt126.2.2.2 = 0 then ((share_by_share_Out_1_v22.f (bt126.1.length : Int) bt126.2.1).bind fun t135 => (if 0 ≤ bt126.2.2.1 then (if bt126.2.2.1 ≤ (t135.length : Int) then ((some (t135.take (bt126.2.2.1 : Int).toNat : List Int)).bind fun y138 => (share_Out.l0 k bt126.1 y138 (y138.length : Int) 0)) else (none)) else (none))) else (some (([] : List Int), bt126.2.2.2))))) = some (r1, r2) := H; have A8 := zA A80; clear A80; by_cases c9 : t104 = 0
      · rw [if_pos c9] at H
        have c9b0 : (t104 == 0) = true := beq_iff_eq.mpr c9; have c9b1 : (t104 != 0) = false := bne_eq_false_iff_eq.mpr c9; clear c9; replace H := Option.bind_eq_some_iff.mp H; obtain ⟨t105, A100, H⟩ := H; replace H : ((share_parts.f k a0 t101 t105).bind fun bt108 => (if bt108.2.2.2 = 0 then ((share_by_share_Out_1_v22.f (bt108.1.length : Int) bt108.2.1).bind fun t117 => (if 0 ≤ bt108.2.2.1 then (if bt108.2.2.1 ≤ (t117.length : Int) then ((some (t117.take (bt108.2.2.1 : Int).toNat : List Int)).bind fun y120 => (share_Out.l0 k bt108.1 y120 (y120.length : Int) 0)) else (none)) else (none))) else (some (([] : List Int), bt108.2.2.2)))) = some (r1, r2) := H; have A10 := zA A100; clear A100; replace H := Option.bind_eq_some_iff.mp H; obtain ⟨⟨t108, t109, t110, t111⟩, A110, H⟩ := H; replace H : (if t111 = 0 then ((share_by_share_Out_1_v22.f (t108.length : Int) t109).bind fun t117 => (if 0 ≤ t110 then (if t110 ≤ (t117.length : Int) then ((some (t117.take (t110 : Int).toNat : List Int)).bind fun y120 => (share_Out.l0 k t108 y120 (y120.length : Int) 0)) else (none)) else (none))) else (some (([] : List Int), t111))) = some (r1, r2) := H; have A11 := zA A110; clear A110; by_cases c12 : t111 = 0
        · rw [if_pos c12] at H
          have c12b0 : (t111 == 0) = true := beq_iff_eq.mpr c12; have c12b1 : (t111 != 0) = false := bne_eq_false_iff_eq.mpr c12; clear c12; replace H := Option.bind_eq_some_iff.mp H; obtain ⟨t117, A130, H⟩ := H; replace H : (if 0 ≤ t110 then (if t110 ≤ (t117.length : Int) then ((some (t117.take (t110 : Int).toNat : List Int)).bind fun y120 => (share_Out.l0 k t108 y120 (y120.length : Int) 0)) else (none)) else (none)) = some (r1, r2) := H; have A13 := zA A130; clear A130; by_cases c14 : 0 ≤ t110
          · rw [if_pos c14] at H
            have c14b0 := eq_true c14; have c14b1 : decide (0 ≤ t110) = true := zFq c14; clear c14; by_cases c15 : t110 ≤ (t117.length : Int)
            · rw [if_pos c15] at H
              have c15b0 := eq_true c15; have c15b1 : decide (t110 ≤ (t117.length : Int)) = true := zFq c15; clear c15; obtain ⟨y120, hy120⟩ : ∃ y_ : List Int, y_ = (t117.take (t110 : Int).toNat) := ⟨_, rfl⟩
              replace H : (share_Out.l0 k t108 y120 (y120.length : Int) 0) = some (r1, r2) := by first | (rw [hy120]; with_reducible exact H) | (have H2_ := (Option.bind_some _ _).symm.trans H; rw [hy120]; with_reducible exact H2_) | (have H2_ := (Option.bind_some _ _).symm.trans H; with_reducible exact H2_) | with_reducible exact H | (rw [hy120]; exact H) | exact H
              have Ny120 := zA hy120; clear hy120; have H' := zA H; clear H; go_enter Try.func51, Try.ntmps51; go_wp2_with (first | ((with_reducible refine zJq (f := 57) rfl ?_); refine goesL_ (some 15) rfl rfl Try.func57 (by kernel_rfl) rfl #[.slice A1 l1.length c1] rfl (by (try simp only [zR, zS, zT]); first | done | rfl | (simp only [zP, zQ]; rfl)) ?_; (with_reducible refine (share_Whole.calls k _ _ l1 t101 t102 _ ?side1 ?side2 A3.out).mono ?_); (case side1 => repeat (first | exact HR1.out | (with_reducible refine Kd.C_alloc ?_ _) | (with_reducible refine Kd.C_drewN ?_ _) | (with_reducible refine Kd.C_drew ?_))); (case side2 => exact HC1.out); rintro e w' ⟨rfl, ⟨nd, rfl⟩⟩; refine ⟨_, rfl, ?_⟩) | (go_at_call 31; (with_reducible refine (cents_In.calls a0 true _ A6.out).mono ?_); rintro e w' ⟨rfl, ⟨nd, rfl⟩⟩) | ((with_reducible refine zJq (f := 105) rfl ?_); refine goesL_ (some 29) rfl rfl Try.func105 (by kernel_rfl) rfl #[.slice A1 l1.length c1] rfl (by (try simp only [zR, zS, zT]); first | done | rfl | (simp only [zP, zQ]; rfl)) ?_; (with_reducible refine (slices_Max_int_int.calls k _ _ l1 t104 _ ?side1 ?side2 A8.out).mono ?_); (case side1 => repeat (first | exact HR1.out | (with_reducible refine Kd.C_alloc ?_ _) | (with_reducible refine Kd.C_drewN ?_ _) | (with_reducible refine Kd.C_drew ?_))); (case side2 => exact HC1.out); rintro e w16 ⟨rfl, hb⟩; refine ⟨_, rfl, ?_⟩; have n0_ := zA (zV qB hb); clear HB; have HB := n0_; clear n0_; (try clear hb); (try clear hb2); (try clear hk); (try clear hi)) | ((with_reducible refine zJq (f := 106) rfl ?_); refine goesL_ (some 33) rfl rfl Try.func106 (by kernel_rfl) rfl #[.int .i64 (l1.length : Int)] rfl (by (try simp only [zR, zS, zT]); first | done | rfl | (simp only [zP, zQ]; rfl)) ?_; (with_reducible refine (share_even.calls k (l1.length : Int) t105 _ A10.out).mono ?_); rintro e w17 ⟨v106, rfl, ho0, hb⟩; refine ⟨_, rfl, ?_⟩; have n0_ := zA (Kd.R_lower ho0 (zW qB)); have n1_ := zA (zV qB hb); clear HB; have HO107 := n0_; have HB := n1_; clear n0_ n1_; (try clear hb); (try clear hb2); (try clear hk); (try clear hi); (try clear ho0); obtain ⟨Ao18, co18, eo18⟩ := Kd.R_slice HO107.out; subst eo18) | ((with_reducible refine zJq (f := 107) rfl ?_); refine goesL_ (some 38) rfl rfl Try.func107 (by kernel_rfl) rfl #[.int .i64 a0, .int .i64 t101, .slice Ao18 t105.length co18] rfl (by (try simp only [zR, zS, zT]); first | done | rfl | (simp only [zP, zQ]; rfl)) ?_; (with_reducible refine (share_parts.calls k a0 t101 _ _ t105 t108 t109 t110 t111 _ ?side1 ?side2 A11.out).mono ?_); (case side1 => repeat (first | exact (Kd.R_reads' HO107.out).2.2 | (with_reducible refine Kd.C_alloc ?_ _) | (with_reducible refine Kd.C_drewN ?_ _) | (with_reducible refine Kd.C_drew ?_))); (case side2 => exact (Kd.R_reads' HO107.out).2.1); rintro e w19 ⟨v112, v114, rfl, ho0, ho1, hb⟩; refine ⟨_, rfl, ?_⟩; have n0_ := zA (Kd.R_mono (Kd.R_told (Kd.R_told (Kd.R_old (by (with_reducible repeat (first | apply Kd.R_alloc | apply Kd.R_drewN | apply Kd.R_drew)); exact HO107.out) hb) (Kd.R_base ho0)) (Kd.R_base ho1)) (fun _ h_ => h_.1)); have n1_ := zA (Kd.R_lower (Kd.R_new' ho0 (Kd.R_lt (by (with_reducible repeat (first | apply Kd.R_alloc | apply Kd.R_drewN | apply Kd.R_drew)); exact HO107.out))) (zW qB)); have n2_ := zA (Kd.R_lower (Kd.R_new' ho1 (Kd.R_lt (by (with_reducible repeat (first | apply Kd.R_alloc | apply Kd.R_drewN | apply Kd.R_drew)); exact HO107.out))) (zW qB)); have n3_ := zA (zV qB hb); clear HO107 HB; have HO107 := n0_; have HO113 := n1_; have HO115 := n2_; have HB := n3_; clear n0_ n1_ n2_ n3_; (try clear hb); (try clear hb2); (try clear hk); (try clear hi); (try clear ho0); (try clear ho1)) | ((with_reducible refine gate_dst (N := 9) rfl ?_); refine box_event qr (N := 9) qr (cs := #[.slice none 0 0]) (t := 22) qg ?_; intro gb116 hg w20 hbox hb; have n0_ := zA (Kd.R_below (by (with_reducible repeat (first | apply Kd.R_alloc | apply Kd.R_drewN | apply Kd.R_drew)); exact HO107.out) hb); have n1_ := zA (Kd.R_below (by (with_reducible repeat (first | apply Kd.R_alloc | apply Kd.R_drewN | apply Kd.R_drew)); exact HO113.out) hb); have n2_ := zA (Kd.R_below (by (with_reducible repeat (first | apply Kd.R_alloc | apply Kd.R_drewN | apply Kd.R_drew)); exact HO115.out) hb); have n3_ := zA (zV qB hb); have n4_ := zA (hbox); have n5_ := zA ((qS : w.heap.size ≤ gb116)); have n6_ := zA ((qS : w.heap.size ≤ gb116)); clear HO107 HO113 HO115 HB; have HO107 := n0_; have HO113 := n1_; have HO115 := n2_; have HB := n3_; have BK116 := n4_; have GW116 := n5_; have GE116 := n6_; clear n0_ n1_ n2_ n3_ n4_ n5_ n6_ hb hbox hg; obtain ⟨Ao21, co21, eo21⟩ := Kd.R_slice HO115.out; subst eo21; have hcz22_0 : w20.cell? ⟨gb116, 0, none⟩ = some (.slice none 0 0) := (zF BK116.out 0).trans rfl; have hfz22_0 := zG BK116.out 0; obtain ⟨Ao23, co23, eo23⟩ := Kd.R_slice HO113.out; subst eo23) | (go_at_call 108; (with_reducible refine (share_by_share_Out_1_v22.calls (t108.length : Int) gb116 Ao21 co21 t109 t117 _ ?side1 ?side2 ?side3 A13.out).mono ?_); (case side1 => exact (by (with_reducible repeat (first | refine zY ?_ _ | refine zAq ?_ | refine zZ ?_ _)); refine blk_put (cs := #[.slice none 0 0]) ?_ 0 _ rfl; exact BK116.out)); (case side2 => refine (Kd.R_reads' (e := 3) (base := w.heap.size) (ok := fun k_ => (some k_ ≠ (.slice Ao23 t108.length co23 : Value).ownBlock ∧ some k_ ≠ (.slice Ao18 t105.length co18 : Value).ownBlock)) (n := t109.length) (c := co21) ?_).2.2; exact (by (with_reducible repeat (first | apply Kd.R_alloc | apply Kd.R_drewN | apply Kd.R_drew)); exact (Kd.R_mono (Kd.R_far (p := ⟨gb116, 0, none⟩) (Kd.R_types HO115.out BK116.out (by decide)) (fun _ hk => hk.2) (.slice Ao21 t109.length co21)) (fun _ h_ => h_.1)))); (case side3 => exact (Kd.R_reads' HO115.out).2.1); rintro e w24 ⟨v118, rfl, ho0, hb⟩; have n0_ := zA (Kd.R_elder' (by (with_reducible repeat (first | apply Kd.R_alloc | apply Kd.R_drewN | apply Kd.R_drew)); exact (Kd.R_mono (Kd.R_far (p := ⟨gb116, 0, none⟩) (Kd.R_types HO107.out BK116.out (by decide)) (fun _ hk => hk.2) (.slice Ao21 t109.length co21)) (fun _ h_ => h_.1))) (Kd.R_base ho0) hb); have n1_ := zA (Kd.R_elder' (by (with_reducible repeat (first | apply Kd.R_alloc | apply Kd.R_drewN | apply Kd.R_drew)); exact (Kd.R_mono (Kd.R_far (p := ⟨gb116, 0, none⟩) (Kd.R_types HO113.out BK116.out (by decide)) (fun _ hk => hk.2) (.slice Ao21 t109.length co21)) (fun _ h_ => h_.1))) (Kd.R_base ho0) hb); have n2_ := zA (Kd.R_elder' (by (with_reducible repeat (first | apply Kd.R_alloc | apply Kd.R_drewN | apply Kd.R_drew)); exact (Kd.R_mono (Kd.R_far (p := ⟨gb116, 0, none⟩) (Kd.R_types HO115.out BK116.out (by decide)) (fun _ hk => hk.2) (.slice Ao21 t109.length co21)) (fun _ h_ => h_.1))) (Kd.R_base ho0) hb); have n3_ := zA (Kd.R_lower (Kd.R_new' (Kd.R_new' (Kd.R_new' ho0 (Kd.R_lt (by (with_reducible repeat (first | apply Kd.R_alloc | apply Kd.R_drewN | apply Kd.R_drew)); exact (Kd.R_mono (Kd.R_far (p := ⟨gb116, 0, none⟩) (Kd.R_types HO107.out BK116.out (by decide)) (fun _ hk => hk.2) (.slice Ao21 t109.length co21)) (fun _ h_ => h_.1))))) (Kd.R_lt (by (with_reducible repeat (first | apply Kd.R_alloc | apply Kd.R_drewN | apply Kd.R_drew)); exact (Kd.R_mono (Kd.R_far (p := ⟨gb116, 0, none⟩) (Kd.R_types HO113.out BK116.out (by decide)) (fun _ hk => hk.2) (.slice Ao21 t109.length co21)) (fun _ h_ => h_.1))))) (Kd.R_lt (by (with_reducible repeat (first | apply Kd.R_alloc | apply Kd.R_drewN | apply Kd.R_drew)); exact (Kd.R_mono (Kd.R_far (p := ⟨gb116, 0, none⟩) (Kd.R_types HO115.out BK116.out (by decide)) (fun _ hk => hk.2) (.slice Ao21 t109.length co21)) (fun _ h_ => h_.1))))) (zW qB)); have n4_ := zA (zX (g := gb116) (o := .cells #[.slice Ao21 t109.length co21] 22 (0, 0)) (by (with_reducible repeat (first | refine zY ?_ _ | refine zAq ?_ | refine zZ ?_ _)); refine blk_put (cs := #[.slice none 0 0]) ?_ 0 _ rfl; exact BK116.out) hb); have n5_ := zA (zV qB hb); clear HO107 HO113 HO115 BK116 HB; have HO107 := n0_; have HO113 := n1_; have HO115 := n2_; have HO119 := n3_; have BK116 := n4_; have HB := n5_; clear n0_ n1_ n2_ n3_ n4_ n5_; (try clear hb); (try clear hb2); (try clear hk); (try clear hi); (try clear ho0); obtain ⟨Ao25, co25, eo25⟩ := Kd.R_slice HO119.out; subst eo25; have q26 : (t110 : Int) ≤ ((t117.length : Int) : Int) := of_decide_eq_true qA; obtain ⟨i026, hi026, _, hsz26, _⟩ := info_parts info3; have hcut26 := cut_to (P := Try.prog) 22 3 .i64 Try.underlying22 hi026 Ao25 t117.length co25 t110 (of_decide_eq_true qA) q26 (Kd.R_reads' HO119.out).2.1; have hr26 := Kd.R_take (m := (t110 : Int).toNat) HO119.out (by omega); have hy26 : y120.length = (t110 : Int).toNat := (by rw [Ny120.out, zQ]; omega); rw [← Ny120.out] at hr26; rw [← hy26] at hr26 hcut26; clear hy26 hi026 hsz26 HO119; have HO122 := zA hr26; clear hr26; replace q26 := eq_true q26))
              go_loopg [53] k (fun kq v53 w' => ∃ (x8_1 : List Int) (x53_1 : Int), v53 = .int .i64 x53_1 ∧ Aside0 (share_Out.l0 kq x8_1 y120 (y120.length : Int) x53_1 = some (r1, r2)) ∧ Aside0 (kq ≤ k) ∧ Aside0 (Kd.R (Kd.int .i64) 3 w' w.heap.size (fun k_ => some k_ ≠ ((.slice Ao25 y120.length co25) : Value).ownBlock ∧ some k_ ≠ ((.slice Ao21 t109.length co21) : Value).ownBlock) (.slice Ao23 t108.length co23) x8_1) ∧ Aside0 (Kd.R (Kd.int .i64) 3 w' w.heap.size (fun k_ => some k_ ≠ ((.slice Ao23 t108.length co23) : Value).ownBlock ∧ some k_ ≠ ((.slice Ao21 t109.length co21) : Value).ownBlock) (.slice Ao25 y120.length co25) y120) ∧ Aside0 (Kd.R (Kd.int .i64) 3 w' w.heap.size (fun k_ => some k_ ≠ ((.slice Ao23 t108.length co23) : Value).ownBlock ∧ some k_ ≠ ((.slice Ao25 y120.length co25) : Value).ownBlock) (.slice Ao21 t109.length co21) t109) ∧ Aside0 (w'.heap[gb116]? = some (.cells #[(.slice Ao21 t109.length co21)] 22 (0, 0))) ∧ Aside0 (Below w.heap.size w w'))
              case atStart => exact ⟨(t108), (0), (by first | rfl | (simp; done) | (simp [*]; done)), H', ⟨Nat.le_refl _⟩, ⟨by (with_reducible repeat (first | apply Kd.R_alloc | apply Kd.R_drewN | apply Kd.R_drew)); exact Kd.R_mono HO113.out (fun _ hk => ⟨own_len hk.2, hk.1.1⟩)⟩, ⟨by (with_reducible repeat (first | apply Kd.R_alloc | apply Kd.R_drewN | apply Kd.R_drew)); exact Kd.R_mono HO122.out (fun _ hk => ⟨hk.1.2, hk.2⟩)⟩, ⟨by (with_reducible repeat (first | apply Kd.R_alloc | apply Kd.R_drewN | apply Kd.R_drew)); exact Kd.R_mono HO115.out (fun _ hk => ⟨hk.1.1, own_len hk.2⟩)⟩, ⟨by exact BK116.out⟩, ⟨qB⟩⟩
              case round =>
                clear H'; try clear c1
                try clear p2
                try clear q2
                try clear c4
                try clear c4b0
                try clear c4b1
                try clear c5
                try clear c5b0
                try clear c7
                try clear c9
                try clear c9b0
                try clear c9b1
                try clear c10
                try clear c12
                try clear c12b0
                try clear c12b1
                try clear c14
                try clear c14b0
                try clear c14b1
                try clear c15
                try clear c15b0
                try clear c15b1
                try clear q26
                try clear hcz22_0
                try clear hfz22_0
                try clear q26
                obtain ⟨x8_1, x53_1, rfl, HA, HK1, HO_8, HO_51, HO_117000, BK116, HB⟩ := hrel; have hl8_1 := (Kd.R_reads' HO_8.out).1; rw [hl8_1] at HO_8; (try simp only [hl8_1])
                (try simp only [hl8_1] at BK116)
                (try simp only [hl8_1] at HO_51)
                (try simp only [hl8_1] at HO_117000)
                cases gk with
                | zero => exact absurd HA.out (by simp [share_Out.l0])
                | succ k1 =>
                  have H := HA.out; clear HA; simp only [share_Out.l0] at H; by_cases c27 : x53_1 < (y120.length : Int)
                  · rw [if_pos c27] at H
                    have c27b0 : decide (x53_1 < (y120.length : Int)) = true := zFq c27; clear c27; by_cases c28 : 0 ≤ x53_1
                    · rw [if_pos c28] at H
                      have c28b0 : decide (0 ≤ x53_1) = true := zFq c28; clear c28; by_cases c29 : x53_1 < (y120.length : Int)
                      · rw [if_pos c29] at H
                        have c29b0 : decide (x53_1 < (y120.length : Int)) = true := zFq c29; clear c29; by_cases c30 : 0 ≤ (rd y120 x53_1)
                        · rw [if_pos c30] at H
                          have c30b0 : decide (0 ≤ (rd y120 x53_1)) = true := zFq c30; clear c30; by_cases c31 : (rd y120 x53_1) < (x8_1.length : Int)
                          · rw [if_pos c31] at H
                            have c31b0 : decide ((rd y120 x53_1) < (x8_1.length : Int)) = true := zFq c31; clear c31; obtain ⟨y125, hy125⟩ : ∃ y_ : List Int, y_ = (x8_1.set ((rd y120 x53_1) : Int).toNat (wrap64 ((rd x8_1 (rd y120 x53_1)) + 1))) := ⟨_, rfl⟩
                            replace H : (share_Out.l0 k1 y125 y120 (y120.length : Int) (wrap64 (x53_1 + 1))) = some (r1, r2) := by first | (rw [hy125]; with_reducible exact H) | (have H2_ := (Option.bind_some _ _).symm.trans H; rw [hy125]; with_reducible exact H2_) | (have H2_ := (Option.bind_some _ _).symm.trans H; with_reducible exact H2_) | with_reducible exact H | (rw [hy125]; exact H) | exact H
                            have Ny125 := zA hy125; clear hy125; have H' := zA H; clear H; have p123 : 0 ≤ (x53_1 : Int) := of_decide_eq_true qA; have q123 : x53_1 < (y120.length : Int) := of_decide_eq_true qA; obtain ⟨ad123, e123, hx123_0⟩ := Kd.at_int (Kd.R_reads' HO_51.out).2.2 x53_1 p123 q123; cases e123
                            replace p123 := eq_true p123; replace q123 := eq_true q123; have p124 : 0 ≤ ((rd y120 x53_1) : Int) := of_decide_eq_true qA; have q124 : (rd y120 x53_1) < (x8_1.length : Int) := of_decide_eq_true qA; obtain ⟨ad124, e124, hx124_0⟩ := Kd.at_int (Kd.R_reads' HO_8.out).2.2 (rd y120 x53_1) p124 q124; cases e124
                            replace p124 := eq_true p124; replace q124 := eq_true q124; have p32 : 0 ≤ ((rd y120 x53_1) : Int) := of_decide_eq_true qA; have q32 : ((rd y120 x53_1) : Int) < ((x8_1.length : Int) : Int) := of_decide_eq_true qA; obtain ⟨go32, co32, eo32, gb32, gl32, cl32, HG32⟩ := Kd.R_form HO_8.out (by omega); (first | cases eo32 | (injection eo32 with ea_ en_ ec_; (first | subst ea_ | (injection ea_ with ea_; subst ea_)); subst ec_; clear en_))
                            have GB32 := zA gb32; have GG32 := zA HG32; clear gb32 gl32 HG32; (first | simp only [add_plain] at hx124_0 | skip)
                            obtain ⟨hx32_0, hf32_0⟩ := Kd.R_celln 0 HO_8.out ((rd y120 x53_1) : Int) p32 q32; replace p32 := eq_true p32; replace q32 := eq_true q32; have HP33 := Kd.R_putg HO_8.out ((rd y120 x53_1) : Int) (wrap64 ((rd x8_1 (rd y120 x53_1)) + 1)); go_wp2_with (first | ((with_reducible refine gate_store (t := 3) (p := 62) rfl ?_); refine store_event (t := 3) (p := 62) (v := ?vo_w34) (w1 := (wr.setCell ⟨go32, ((rd y120 x53_1) : Int).toNat, none⟩ (.int .i64 (wrap64 ((rd x8_1 (rd y120 x53_1)) + 1))))) ?hg ?ho ?hn ?hr ?_; (case ho => rfl); (case hg => rfl); (case hn => rfl); (case hr => first | (go_simp; done) | (go_simp; rfl)); intro w34 hw; have hg : wr.grownBy w34 (some go32) := (by rw [hw]; exact HP33.2); have hp_ : Kd.R (Kd.int .i64) 3 w34 w.heap.size (fun k_ => some k_ ≠ (.slice (some ad123) y120.length co25 : Value).ownBlock ∧ some k_ ≠ (.slice Ao21 t109.length co21 : Value).ownBlock) (.slice (some ⟨go32, 0, none⟩) x8_1.length co23) y125 := (by rw [hw, Ny125.out]; exact HP33.1); clear HP33; have n0_ := zA (hp_); have n1_ := zA (Kd.R_after (v := (.slice (some ⟨go32, 0, none⟩) x8_1.length co23)) (v1 := (.slice (some ⟨go32, 0, none⟩) x8_1.length co23)) (ok := (fun k_ => some k_ ≠ (.slice Ao21 t109.length co21 : Value).ownBlock)) (by (with_reducible repeat (first | apply Kd.R_alloc | apply Kd.R_drewN | apply Kd.R_drew)); exact Kd.R_mono HO_51.out (fun _ hk => ⟨hk.2, hk.1⟩)) hg (.inl rfl)); have n2_ := zA (Kd.R_after (v := (.slice (some ⟨go32, 0, none⟩) x8_1.length co23)) (v1 := (.slice (some ⟨go32, 0, none⟩) x8_1.length co23)) (ok := (fun k_ => some k_ ≠ (.slice (some ad123) y120.length co25 : Value).ownBlock)) (by (with_reducible repeat (first | apply Kd.R_alloc | apply Kd.R_drewN | apply Kd.R_drew)); exact Kd.R_mono HO_117000.out (fun _ hk => ⟨hk.2, hk.1⟩)) hg (.inl rfl)); have n3_ := zA (blk_grown (g := gb116) (o := .cells #[.slice Ao21 t109.length co21] 22 (0, 0)) (qW BK116.out) hg (Kd.R_ne HO_8.out BK116.out (by decide))); have n4_ := zA ((by rw [hw]; exact zE (HB.out) GB32.out : Below w.heap.size w w34)); clear HO_8 HO_51 HO_117000 BK116 HB; have HO_8 := n0_; have HO_51 := n1_; have HO_117000 := n2_; have BK116 := n3_; have HB := n4_; clear n0_ n1_ n2_ n3_ n4_ hg hw hp_)); (try simp only [← hl8_1])
                            go_roundg k1
                            case measure => have := HK1.out; omega
                            case rel => exact ⟨(y125), (wrap64 (x53_1 + 1)), (by first | rfl | (simp; done) | (simp [*]; done)), H', ⟨by have := HK1.out; omega⟩, ⟨by (try simp only [hl8_1]); (with_reducible repeat (first | apply Kd.R_alloc | apply Kd.R_drewN | apply Kd.R_drew)); exact HO_8.out⟩, ⟨by (try simp only [hl8_1]); (with_reducible repeat (first | apply Kd.R_alloc | apply Kd.R_drewN | apply Kd.R_drew)); exact Kd.R_mono HO_51.out (fun _ hk => ⟨hk.2, hk.1⟩)⟩, ⟨by (try simp only [hl8_1]); (with_reducible repeat (first | apply Kd.R_alloc | apply Kd.R_drewN | apply Kd.R_drew)); exact Kd.R_mono HO_117000.out (fun _ hk => ⟨hk.2, hk.1⟩)⟩, ⟨by (try simp only [hl8_1]); exact BK116.out⟩, ⟨qB⟩⟩
                          rw [if_neg c31] at H; exact absurd H (by simp)
                        rw [if_neg c30] at H; exact absurd H (by simp)
                      rw [if_neg c29] at H; exact absurd H (by simp)
                    rw [if_neg c28] at H; exact absurd H (by simp)
                  rw [if_neg c27] at H; have c27b0 : decide (x53_1 < (y120.length : Int)) = false := zGq c27; clear c27; simp only [zNq, zOq] at H; obtain ⟨rfl, rfl⟩ := H; go_wp2; go_ret2; exact ⟨_, qE, by (with_reducible repeat (first | apply Kd.R_alloc | apply Kd.R_drewN | apply Kd.R_drew)); exact Kd.R_mono HO_8.out (fun _ hk => trivial), qB⟩
            rw [if_neg c15] at H; exact absurd H (by simp)
          rw [if_neg c14] at H; exact absurd H (by simp)
        rw [if_neg c12] at H; have c12b0 : (t111 == 0) = false := beq_eq_false_iff_ne.mpr c12; have c12b1 : (t111 != 0) = true := bne_iff_ne.mpr c12; simp only [zNq, zOq] at H; obtain ⟨rfl, rfl⟩ := H; go_enter Try.func51, Try.ntmps51; go_wp2_with (first | ((with_reducible refine zJq (f := 57) rfl ?_); refine goesL_ (some 15) rfl rfl Try.func57 (by kernel_rfl) rfl #[.slice A1 l1.length c1] rfl (by (try simp only [zR, zS, zT]); first | done | rfl | (simp only [zP, zQ]; rfl)) ?_; (with_reducible refine (share_Whole.calls k _ _ l1 t101 t102 _ ?side1 ?side2 A3.out).mono ?_); (case side1 => repeat (first | exact HR1.out | (with_reducible refine Kd.C_alloc ?_ _) | (with_reducible refine Kd.C_drewN ?_ _) | (with_reducible refine Kd.C_drew ?_))); (case side2 => exact HC1.out); rintro e w' ⟨rfl, ⟨nd, rfl⟩⟩; refine ⟨_, rfl, ?_⟩) | (go_at_call 31; (with_reducible refine (cents_In.calls a0 true _ A6.out).mono ?_); rintro e w' ⟨rfl, ⟨nd, rfl⟩⟩) | ((with_reducible refine zJq (f := 105) rfl ?_); refine goesL_ (some 29) rfl rfl Try.func105 (by kernel_rfl) rfl #[.slice A1 l1.length c1] rfl (by (try simp only [zR, zS, zT]); first | done | rfl | (simp only [zP, zQ]; rfl)) ?_; (with_reducible refine (slices_Max_int_int.calls k _ _ l1 t104 _ ?side1 ?side2 A8.out).mono ?_); (case side1 => repeat (first | exact HR1.out | (with_reducible refine Kd.C_alloc ?_ _) | (with_reducible refine Kd.C_drewN ?_ _) | (with_reducible refine Kd.C_drew ?_))); (case side2 => exact HC1.out); rintro e w35 ⟨rfl, hb⟩; refine ⟨_, rfl, ?_⟩; have n0_ := zA (zV qB hb); clear HB; have HB := n0_; clear n0_; (try clear hb); (try clear hb2); (try clear hk); (try clear hi)) | ((with_reducible refine zJq (f := 106) rfl ?_); refine goesL_ (some 33) rfl rfl Try.func106 (by kernel_rfl) rfl #[.int .i64 (l1.length : Int)] rfl (by (try simp only [zR, zS, zT]); first | done | rfl | (simp only [zP, zQ]; rfl)) ?_; (with_reducible refine (share_even.calls k (l1.length : Int) t105 _ A10.out).mono ?_); rintro e w36 ⟨v106, rfl, ho0, hb⟩; refine ⟨_, rfl, ?_⟩; have n0_ := zA (Kd.R_lower ho0 (zW qB)); have n1_ := zA (zV qB hb); clear HB; have HO107 := n0_; have HB := n1_; clear n0_ n1_; (try clear hb); (try clear hb2); (try clear hk); (try clear hi); (try clear ho0); obtain ⟨Ao37, co37, eo37⟩ := Kd.R_slice HO107.out; subst eo37) | ((with_reducible refine zJq (f := 107) rfl ?_); refine goesL_ (some 38) rfl rfl Try.func107 (by kernel_rfl) rfl #[.int .i64 a0, .int .i64 t101, .slice Ao37 t105.length co37] rfl (by (try simp only [zR, zS, zT]); first | done | rfl | (simp only [zP, zQ]; rfl)) ?_; (with_reducible refine (share_parts.calls k a0 t101 _ _ t105 t108 t109 t110 t111 _ ?side1 ?side2 A11.out).mono ?_); (case side1 => repeat (first | exact (Kd.R_reads' HO107.out).2.2 | (with_reducible refine Kd.C_alloc ?_ _) | (with_reducible refine Kd.C_drewN ?_ _) | (with_reducible refine Kd.C_drew ?_))); (case side2 => exact (Kd.R_reads' HO107.out).2.1); rintro e w38 ⟨v112, v114, rfl, ho0, ho1, hb⟩; refine ⟨_, rfl, ?_⟩; have n0_ := zA (Kd.R_mono (Kd.R_told (Kd.R_told (Kd.R_old (by (with_reducible repeat (first | apply Kd.R_alloc | apply Kd.R_drewN | apply Kd.R_drew)); exact HO107.out) hb) (Kd.R_base ho0)) (Kd.R_base ho1)) (fun _ h_ => h_.1)); have n1_ := zA (Kd.R_lower (Kd.R_new' ho0 (Kd.R_lt (by (with_reducible repeat (first | apply Kd.R_alloc | apply Kd.R_drewN | apply Kd.R_drew)); exact HO107.out))) (zW qB)); have n2_ := zA (Kd.R_lower (Kd.R_new' ho1 (Kd.R_lt (by (with_reducible repeat (first | apply Kd.R_alloc | apply Kd.R_drewN | apply Kd.R_drew)); exact HO107.out))) (zW qB)); have n3_ := zA (zV qB hb); clear HO107 HB; have HO107 := n0_; have HO113 := n1_; have HO115 := n2_; have HB := n3_; clear n0_ n1_ n2_ n3_; (try clear hb); (try clear hb2); (try clear hk); (try clear hi); (try clear ho0); (try clear ho1)) | ((with_reducible refine gate_dst (N := 9) rfl ?_); refine box_event qr (N := 9) qr (cs := #[.slice none 0 0]) (t := 22) qg ?_; intro gb116 hg w39 hbox hb; have n0_ := zA (Kd.R_below (by (with_reducible repeat (first | apply Kd.R_alloc | apply Kd.R_drewN | apply Kd.R_drew)); exact HO107.out) hb); have n1_ := zA (Kd.R_below (by (with_reducible repeat (first | apply Kd.R_alloc | apply Kd.R_drewN | apply Kd.R_drew)); exact HO113.out) hb); have n2_ := zA (Kd.R_below (by (with_reducible repeat (first | apply Kd.R_alloc | apply Kd.R_drewN | apply Kd.R_drew)); exact HO115.out) hb); have n3_ := zA (zV qB hb); have n4_ := zA (hbox); have n5_ := zA ((qS : w.heap.size ≤ gb116)); have n6_ := zA ((qS : w.heap.size ≤ gb116)); clear HO107 HO113 HO115 HB; have HO107 := n0_; have HO113 := n1_; have HO115 := n2_; have HB := n3_; have BK116 := n4_; have GW116 := n5_; have GE116 := n6_; clear n0_ n1_ n2_ n3_ n4_ n5_ n6_ hb hbox hg; obtain ⟨Ao40, co40, eo40⟩ := Kd.R_slice HO115.out; subst eo40; have hcz41_0 : w39.cell? ⟨gb116, 0, none⟩ = some (.slice none 0 0) := (zF BK116.out 0).trans rfl; have hfz41_0 := zG BK116.out 0))
        go_ret2; exact ⟨_, qE, qN, qB⟩
      rw [if_neg c9] at H; have c9b0 : (t104 == 0) = false := beq_eq_false_iff_ne.mpr c9; have c9b1 : (t104 != 0) = true := bne_iff_ne.mpr c9; replace H := Option.bind_eq_some_iff.mp H; obtain ⟨⟨t126, t127, t128, t129⟩, A420, H⟩ := H; replace H : (if t129 = 0 then ((share_by_share_Out_1_v22.f (t126.length : Int) t127).bind fun t135 => (if 0 ≤ t128 then (if t128 ≤ (t135.length : Int) then ((some (t135.take (t128 : Int).toNat : List Int)).bind fun y138 => (share_Out.l0 k t126 y138 (y138.length : Int) 0)) else (none)) else (none))) else (some (([] : List Int), t129))) = some (r1, r2) := H; have A42 := zA A420; clear A420; by_cases c43 : t129 = 0
      · rw [if_pos c43] at H
        have c43b0 : (t129 == 0) = true := beq_iff_eq.mpr c43; have c43b1 : (t129 != 0) = false := bne_eq_false_iff_eq.mpr c43; clear c43; replace H := Option.bind_eq_some_iff.mp H; obtain ⟨t135, A440, H⟩ := H; replace H : (if 0 ≤ t128 then (if t128 ≤ (t135.length : Int) then ((some (t135.take (t128 : Int).toNat : List Int)).bind fun y138 => (share_Out.l0 k t126 y138 (y138.length : Int) 0)) else (none)) else (none)) = some (r1, r2) := H; have A44 := zA A440; clear A440; by_cases c45 : 0 ≤ t128
        · rw [if_pos c45] at H
          have c45b0 := eq_true c45; have c45b1 : decide (0 ≤ t128) = true := zFq c45; clear c45; by_cases c46 : t128 ≤ (t135.length : Int)
          · rw [if_pos c46] at H
            have c46b0 := eq_true c46; have c46b1 : decide (t128 ≤ (t135.length : Int)) = true := zFq c46; clear c46; obtain ⟨y138, hy138⟩ : ∃ y_ : List Int, y_ = (t135.take (t128 : Int).toNat) := ⟨_, rfl⟩
            replace H : (share_Out.l0 k t126 y138 (y138.length : Int) 0) = some (r1, r2) := by first | (rw [hy138]; with_reducible exact H) | (have H2_ := (Option.bind_some _ _).symm.trans H; rw [hy138]; with_reducible exact H2_) | (have H2_ := (Option.bind_some _ _).symm.trans H; with_reducible exact H2_) | with_reducible exact H | (rw [hy138]; exact H) | exact H
            have Ny138 := zA hy138; clear hy138; have H' := zA H; clear H; go_enter Try.func51, Try.ntmps51; go_wp2_with (first | ((with_reducible refine zJq (f := 57) rfl ?_); refine goesL_ (some 15) rfl rfl Try.func57 (by kernel_rfl) rfl #[.slice A1 l1.length c1] rfl (by (try simp only [zR, zS, zT]); first | done | rfl | (simp only [zP, zQ]; rfl)) ?_; (with_reducible refine (share_Whole.calls k _ _ l1 t101 t102 _ ?side1 ?side2 A3.out).mono ?_); (case side1 => repeat (first | exact HR1.out | (with_reducible refine Kd.C_alloc ?_ _) | (with_reducible refine Kd.C_drewN ?_ _) | (with_reducible refine Kd.C_drew ?_))); (case side2 => exact HC1.out); rintro e w' ⟨rfl, ⟨nd, rfl⟩⟩; refine ⟨_, rfl, ?_⟩) | (go_at_call 31; (with_reducible refine (cents_In.calls a0 true _ A6.out).mono ?_); rintro e w' ⟨rfl, ⟨nd, rfl⟩⟩) | ((with_reducible refine zJq (f := 105) rfl ?_); refine goesL_ (some 29) rfl rfl Try.func105 (by kernel_rfl) rfl #[.slice A1 l1.length c1] rfl (by (try simp only [zR, zS, zT]); first | done | rfl | (simp only [zP, zQ]; rfl)) ?_; (with_reducible refine (slices_Max_int_int.calls k _ _ l1 t104 _ ?side1 ?side2 A8.out).mono ?_); (case side1 => repeat (first | exact HR1.out | (with_reducible refine Kd.C_alloc ?_ _) | (with_reducible refine Kd.C_drewN ?_ _) | (with_reducible refine Kd.C_drew ?_))); (case side2 => exact HC1.out); rintro e w47 ⟨rfl, hb⟩; refine ⟨_, rfl, ?_⟩; have n0_ := zA (zV qB hb); clear HB; have HB := n0_; clear n0_; (try clear hb); (try clear hb2); (try clear hk); (try clear hi)) | ((with_reducible refine zJq (f := 107) rfl ?_); refine goesL_ (some 38) rfl rfl Try.func107 (by kernel_rfl) rfl #[.int .i64 a0, .int .i64 t101, .slice A1 l1.length c1] rfl (by (try simp only [zR, zS, zT]); first | done | rfl | (simp only [zP, zQ]; rfl)) ?_; (with_reducible refine (share_parts.calls k a0 t101 _ _ l1 t126 t127 t128 t129 _ ?side1 ?side2 A42.out).mono ?_); (case side1 => exact qC (Kd.C_below HR1.out HB.out)); (case side2 => exact HC1.out); rintro e w48 ⟨v130, v132, rfl, ho0, ho1, hb⟩; refine ⟨_, rfl, ?_⟩; have n0_ := zA (Kd.R_lower ho0 (zW qB)); have n1_ := zA (Kd.R_lower ho1 (zW qB)); have n2_ := zA (zV qB hb); clear HB; have HO131 := n0_; have HO133 := n1_; have HB := n2_; clear n0_ n1_ n2_; (try clear hb); (try clear hb2); (try clear hk); (try clear hi); (try clear ho0); (try clear ho1)) | ((with_reducible refine gate_dst (N := 9) rfl ?_); refine box_event qr (N := 9) qr (cs := #[.slice none 0 0]) (t := 22) qg ?_; intro gb134 hg w49 hbox hb; have n0_ := zA (Kd.R_below (by (with_reducible repeat (first | apply Kd.R_alloc | apply Kd.R_drewN | apply Kd.R_drew)); exact HO131.out) hb); have n1_ := zA (Kd.R_below (by (with_reducible repeat (first | apply Kd.R_alloc | apply Kd.R_drewN | apply Kd.R_drew)); exact HO133.out) hb); have n2_ := zA (zV qB hb); have n3_ := zA (hbox); have n4_ := zA ((qS : w.heap.size ≤ gb134)); have n5_ := zA ((qS : w.heap.size ≤ gb134)); clear HO131 HO133 HB; have HO131 := n0_; have HO133 := n1_; have HB := n2_; have BK134 := n3_; have GW134 := n4_; have GE134 := n5_; clear n0_ n1_ n2_ n3_ n4_ n5_ hb hbox hg; obtain ⟨Ao50, co50, eo50⟩ := Kd.R_slice HO133.out; subst eo50; have hcz51_0 : w49.cell? ⟨gb134, 0, none⟩ = some (.slice none 0 0) := (zF BK134.out 0).trans rfl; have hfz51_0 := zG BK134.out 0; obtain ⟨Ao52, co52, eo52⟩ := Kd.R_slice HO131.out; subst eo52) | (go_at_call 108; (with_reducible refine (share_by_share_Out_1_v22.calls (t126.length : Int) gb134 Ao50 co50 t127 t135 _ ?side1 ?side2 ?side3 A44.out).mono ?_); (case side1 => exact (by (with_reducible repeat (first | refine zY ?_ _ | refine zAq ?_ | refine zZ ?_ _)); refine blk_put (cs := #[.slice none 0 0]) ?_ 0 _ rfl; exact BK134.out)); (case side2 => refine (Kd.R_reads' (e := 3) (base := w.heap.size) (ok := fun k_ => some k_ ≠ (.slice Ao52 t126.length co52 : Value).ownBlock) (n := t127.length) (c := co50) ?_).2.2; exact (by (with_reducible repeat (first | apply Kd.R_alloc | apply Kd.R_drewN | apply Kd.R_drew)); exact (Kd.R_mono (Kd.R_far (p := ⟨gb134, 0, none⟩) (Kd.R_types HO133.out BK134.out (by decide)) (fun _ hk => hk.2) (.slice Ao50 t127.length co50)) (fun _ h_ => h_.1)))); (case side3 => exact (Kd.R_reads' HO133.out).2.1); rintro e w53 ⟨v136, rfl, ho0, hb⟩; have n0_ := zA (Kd.R_elder' (by (with_reducible repeat (first | apply Kd.R_alloc | apply Kd.R_drewN | apply Kd.R_drew)); exact (Kd.R_mono (Kd.R_far (p := ⟨gb134, 0, none⟩) (Kd.R_types HO131.out BK134.out (by decide)) (fun _ hk => hk.2) (.slice Ao50 t127.length co50)) (fun _ h_ => h_.1))) (Kd.R_base ho0) hb); have n1_ := zA (Kd.R_elder' (by (with_reducible repeat (first | apply Kd.R_alloc | apply Kd.R_drewN | apply Kd.R_drew)); exact (Kd.R_mono (Kd.R_far (p := ⟨gb134, 0, none⟩) (Kd.R_types HO133.out BK134.out (by decide)) (fun _ hk => hk.2) (.slice Ao50 t127.length co50)) (fun _ h_ => h_.1))) (Kd.R_base ho0) hb); have n2_ := zA (Kd.R_lower (Kd.R_new' (Kd.R_new' ho0 (Kd.R_lt (by (with_reducible repeat (first | apply Kd.R_alloc | apply Kd.R_drewN | apply Kd.R_drew)); exact (Kd.R_mono (Kd.R_far (p := ⟨gb134, 0, none⟩) (Kd.R_types HO131.out BK134.out (by decide)) (fun _ hk => hk.2) (.slice Ao50 t127.length co50)) (fun _ h_ => h_.1))))) (Kd.R_lt (by (with_reducible repeat (first | apply Kd.R_alloc | apply Kd.R_drewN | apply Kd.R_drew)); exact (Kd.R_mono (Kd.R_far (p := ⟨gb134, 0, none⟩) (Kd.R_types HO133.out BK134.out (by decide)) (fun _ hk => hk.2) (.slice Ao50 t127.length co50)) (fun _ h_ => h_.1))))) (zW qB)); have n3_ := zA (zX (g := gb134) (o := .cells #[.slice Ao50 t127.length co50] 22 (0, 0)) (by (with_reducible repeat (first | refine zY ?_ _ | refine zAq ?_ | refine zZ ?_ _)); refine blk_put (cs := #[.slice none 0 0]) ?_ 0 _ rfl; exact BK134.out) hb); have n4_ := zA (zV qB hb); clear HO131 HO133 BK134 HB; have HO131 := n0_; have HO133 := n1_; have HO137 := n2_; have BK134 := n3_; have HB := n4_; clear n0_ n1_ n2_ n3_ n4_; (try clear hb); (try clear hb2); (try clear hk); (try clear hi); (try clear ho0); obtain ⟨Ao54, co54, eo54⟩ := Kd.R_slice HO137.out; subst eo54; have q55 : (t128 : Int) ≤ ((t135.length : Int) : Int) := of_decide_eq_true qA; obtain ⟨i055, hi055, _, hsz55, _⟩ := info_parts info3; have hcut55 := cut_to (P := Try.prog) 22 3 .i64 Try.underlying22 hi055 Ao54 t135.length co54 t128 (of_decide_eq_true qA) q55 (Kd.R_reads' HO137.out).2.1; have hr55 := Kd.R_take (m := (t128 : Int).toNat) HO137.out (by omega); have hy55 : y138.length = (t128 : Int).toNat := (by rw [Ny138.out, zQ]; omega); rw [← Ny138.out] at hr55; rw [← hy55] at hr55 hcut55; clear hy55 hi055 hsz55 HO137; have HO140 := zA hr55; clear hr55; replace q55 := eq_true q55))
            go_loopg [53] k (fun kq v53 w' => ∃ (x8_1 : List Int) (x53_1 : Int), v53 = .int .i64 x53_1 ∧ Aside0 (share_Out.l0 kq x8_1 y138 (y138.length : Int) x53_1 = some (r1, r2)) ∧ Aside0 (kq ≤ k) ∧ Aside0 (Kd.R (Kd.int .i64) 3 w' w.heap.size (fun k_ => some k_ ≠ ((.slice Ao54 y138.length co54) : Value).ownBlock) (.slice Ao52 t126.length co52) x8_1) ∧ Aside0 (Kd.R (Kd.int .i64) 3 w' w.heap.size (fun k_ => some k_ ≠ ((.slice Ao52 t126.length co52) : Value).ownBlock) (.slice Ao54 y138.length co54) y138) ∧ Aside0 (Below w.heap.size w w'))
            case atStart => exact ⟨(t126), (0), (by first | rfl | (simp; done) | (simp [*]; done)), H', ⟨Nat.le_refl _⟩, ⟨by (with_reducible repeat (first | apply Kd.R_alloc | apply Kd.R_drewN | apply Kd.R_drew)); exact Kd.R_mono HO131.out (fun _ hk => own_len hk.2)⟩, ⟨by (with_reducible repeat (first | apply Kd.R_alloc | apply Kd.R_drewN | apply Kd.R_drew)); exact Kd.R_mono HO140.out (fun _ hk => hk.1.2)⟩, ⟨qB⟩⟩
            case round =>
              clear H'; try clear c1
              try clear p1
              try clear q1
              try clear hx1
              try clear c2
              try clear p2
              try clear q2
              try clear c3
              try clear p3
              try clear q3
              try clear hx3
              try clear hf3
              try clear c4
              try clear c4b0
              try clear c4b1
              try clear c5
              try clear c5b0
              try clear q5
              try clear p6
              try clear c7
              try clear c9
              try clear c9b0
              try clear c9b1
              try clear c10
              try clear c12
              try clear c12b0
              try clear c12b1
              try clear p12
              try clear q12
              try clear hx12
              try clear c14
              try clear c14b0
              try clear c14b1
              try clear c15
              try clear c15b0
              try clear c15b1
              try clear q26
              try clear c27
              try clear c27b0
              try clear c28
              try clear c28b0
              try clear c29
              try clear c29b0
              try clear c30
              try clear c30b0
              try clear c31
              try clear c31b0
              try clear p32
              try clear q32
              try clear hx32
              try clear hf32
              try clear c43
              try clear c43b0
              try clear c43b1
              try clear c45
              try clear c45b0
              try clear c45b1
              try clear c46
              try clear c46b0
              try clear c46b1
              try clear c51
              try clear q55
              try clear hcz22_0
              try clear hcz41_0
              try clear hcz51_0
              try clear hfz22_0
              try clear hfz41_0
              try clear hfz51_0
              try clear hx123_0
              try clear hx124_0
              try clear hx32_0
              try clear p123
              try clear p124
              try clear p2
              try clear p32
              try clear q123
              try clear q124
              try clear q2
              try clear q26
              try clear q32
              try clear q55
              obtain ⟨x8_1, x53_1, rfl, HA, HK1, HO_8, HO_51, HB⟩ := hrel; have hl8_1 := (Kd.R_reads' HO_8.out).1; rw [hl8_1] at HO_8; (try simp only [hl8_1])
              (try simp only [hl8_1] at HO_51)
              cases gk with
              | zero => exact absurd HA.out (by simp [share_Out.l0])
              | succ k1 =>
                have H := HA.out; clear HA; simp only [share_Out.l0] at H; by_cases c56 : x53_1 < (y138.length : Int)
                · rw [if_pos c56] at H
                  have c56b0 : decide (x53_1 < (y138.length : Int)) = true := zFq c56; clear c56; by_cases c57 : 0 ≤ x53_1
                  · rw [if_pos c57] at H
                    have c57b0 : decide (0 ≤ x53_1) = true := zFq c57; clear c57; by_cases c58 : x53_1 < (y138.length : Int)
                    · rw [if_pos c58] at H
                      have c58b0 : decide (x53_1 < (y138.length : Int)) = true := zFq c58; clear c58; by_cases c59 : 0 ≤ (rd y138 x53_1)
                      · rw [if_pos c59] at H
                        have c59b0 : decide (0 ≤ (rd y138 x53_1)) = true := zFq c59; clear c59; by_cases c60 : (rd y138 x53_1) < (x8_1.length : Int)
                        · rw [if_pos c60] at H
                          have c60b0 : decide ((rd y138 x53_1) < (x8_1.length : Int)) = true := zFq c60; clear c60; obtain ⟨y125, hy125⟩ : ∃ y_ : List Int, y_ = (x8_1.set ((rd y138 x53_1) : Int).toNat (wrap64 ((rd x8_1 (rd y138 x53_1)) + 1))) := ⟨_, rfl⟩
                          replace H : (share_Out.l0 k1 y125 y138 (y138.length : Int) (wrap64 (x53_1 + 1))) = some (r1, r2) := by first | (rw [hy125]; with_reducible exact H) | (have H2_ := (Option.bind_some _ _).symm.trans H; rw [hy125]; with_reducible exact H2_) | (have H2_ := (Option.bind_some _ _).symm.trans H; with_reducible exact H2_) | with_reducible exact H | (rw [hy125]; exact H) | exact H
                          have Ny125 := zA hy125; clear hy125; have H' := zA H; clear H; have p123 : 0 ≤ (x53_1 : Int) := of_decide_eq_true qA; have q123 : x53_1 < (y138.length : Int) := of_decide_eq_true qA; obtain ⟨ad123, e123, hx123_0⟩ := Kd.at_int (Kd.R_reads' HO_51.out).2.2 x53_1 p123 q123; cases e123
                          replace p123 := eq_true p123; replace q123 := eq_true q123; have p124 : 0 ≤ ((rd y138 x53_1) : Int) := of_decide_eq_true qA; have q124 : (rd y138 x53_1) < (x8_1.length : Int) := of_decide_eq_true qA; obtain ⟨ad124, e124, hx124_0⟩ := Kd.at_int (Kd.R_reads' HO_8.out).2.2 (rd y138 x53_1) p124 q124; cases e124
                          replace p124 := eq_true p124; replace q124 := eq_true q124; have p61 : 0 ≤ ((rd y138 x53_1) : Int) := of_decide_eq_true qA; have q61 : ((rd y138 x53_1) : Int) < ((x8_1.length : Int) : Int) := of_decide_eq_true qA; obtain ⟨go61, co61, eo61, gb61, gl61, cl61, HG61⟩ := Kd.R_form HO_8.out (by omega); (first | cases eo61 | (injection eo61 with ea_ en_ ec_; (first | subst ea_ | (injection ea_ with ea_; subst ea_)); subst ec_; clear en_))
                          have GB61 := zA gb61; have GG61 := zA HG61; clear gb61 gl61 HG61; (first | simp only [add_plain] at hx124_0 | skip)
                          obtain ⟨hx61_0, hf61_0⟩ := Kd.R_celln 0 HO_8.out ((rd y138 x53_1) : Int) p61 q61; replace p61 := eq_true p61; replace q61 := eq_true q61; have HP62 := Kd.R_putg HO_8.out ((rd y138 x53_1) : Int) (wrap64 ((rd x8_1 (rd y138 x53_1)) + 1)); go_wp2_with (first | ((with_reducible refine gate_store (t := 3) (p := 62) rfl ?_); refine store_event (t := 3) (p := 62) (v := ?vo_w63) (w1 := (wr.setCell ⟨go61, ((rd y138 x53_1) : Int).toNat, none⟩ (.int .i64 (wrap64 ((rd x8_1 (rd y138 x53_1)) + 1))))) ?hg ?ho ?hn ?hr ?_; (case ho => rfl); (case hg => rfl); (case hn => rfl); (case hr => first | (go_simp; done) | (go_simp; rfl)); intro w63 hw; have hg : wr.grownBy w63 (some go61) := (by rw [hw]; exact HP62.2); have hp_ : Kd.R (Kd.int .i64) 3 w63 w.heap.size (fun k_ => some k_ ≠ (.slice (some ad123) y138.length co54 : Value).ownBlock) (.slice (some ⟨go61, 0, none⟩) x8_1.length co52) y125 := (by rw [hw, Ny125.out]; exact HP62.1); clear HP62; have n0_ := zA (hp_); have n1_ := zA (Kd.R_after (v := (.slice (some ⟨go61, 0, none⟩) x8_1.length co52)) (v1 := (.slice (some ⟨go61, 0, none⟩) x8_1.length co52)) (ok := (fun _ => True)) (by (with_reducible repeat (first | apply Kd.R_alloc | apply Kd.R_drewN | apply Kd.R_drew)); exact Kd.R_mono HO_51.out (fun _ hk => ⟨trivial, hk⟩)) hg (.inl rfl)); have n2_ := zA ((by rw [hw]; exact zE (HB.out) GB61.out : Below w.heap.size w w63)); clear HO_8 HO_51 HB; have HO_8 := n0_; have HO_51 := n1_; have HB := n2_; clear n0_ n1_ n2_ hg hw hp_)); (try simp only [← hl8_1])
                          go_roundg k1
                          case measure => have := HK1.out; omega
                          case rel => exact ⟨(y125), (wrap64 (x53_1 + 1)), (by first | rfl | (simp; done) | (simp [*]; done)), H', ⟨by have := HK1.out; omega⟩, ⟨by (try simp only [hl8_1]); (with_reducible repeat (first | apply Kd.R_alloc | apply Kd.R_drewN | apply Kd.R_drew)); exact HO_8.out⟩, ⟨by (try simp only [hl8_1]); (with_reducible repeat (first | apply Kd.R_alloc | apply Kd.R_drewN | apply Kd.R_drew)); exact Kd.R_mono HO_51.out (fun _ hk => hk.2)⟩, ⟨qB⟩⟩
                        rw [if_neg c60] at H; exact absurd H (by simp)
                      rw [if_neg c59] at H; exact absurd H (by simp)
                    rw [if_neg c58] at H; exact absurd H (by simp)
                  rw [if_neg c57] at H; exact absurd H (by simp)
                rw [if_neg c56] at H; have c56b0 : decide (x53_1 < (y138.length : Int)) = false := zGq c56; clear c56; simp only [zNq, zOq] at H; obtain ⟨rfl, rfl⟩ := H; go_wp2; go_ret2; exact ⟨_, qE, by (with_reducible repeat (first | apply Kd.R_alloc | apply Kd.R_drewN | apply Kd.R_drew)); exact Kd.R_mono HO_8.out (fun _ hk => trivial), qB⟩
          rw [if_neg c46] at H; exact absurd H (by simp)
        rw [if_neg c45] at H; exact absurd H (by simp)
      rw [if_neg c43] at H; have c43b0 : (t129 == 0) = false := beq_eq_false_iff_ne.mpr c43; have c43b1 : (t129 != 0) = true := bne_iff_ne.mpr c43; simp only [zNq, zOq] at H; obtain ⟨rfl, rfl⟩ := H; go_enter Try.func51, Try.ntmps51; go_wp2_with (first | ((with_reducible refine zJq (f := 57) rfl ?_); refine goesL_ (some 15) rfl rfl Try.func57 (by kernel_rfl) rfl #[.slice A1 l1.length c1] rfl (by (try simp only [zR, zS, zT]); first | done | rfl | (simp only [zP, zQ]; rfl)) ?_; (with_reducible refine (share_Whole.calls k _ _ l1 t101 t102 _ ?side1 ?side2 A3.out).mono ?_); (case side1 => repeat (first | exact HR1.out | (with_reducible refine Kd.C_alloc ?_ _) | (with_reducible refine Kd.C_drewN ?_ _) | (with_reducible refine Kd.C_drew ?_))); (case side2 => exact HC1.out); rintro e w' ⟨rfl, ⟨nd, rfl⟩⟩; refine ⟨_, rfl, ?_⟩) | (go_at_call 31; (with_reducible refine (cents_In.calls a0 true _ A6.out).mono ?_); rintro e w' ⟨rfl, ⟨nd, rfl⟩⟩) | ((with_reducible refine zJq (f := 105) rfl ?_); refine goesL_ (some 29) rfl rfl Try.func105 (by kernel_rfl) rfl #[.slice A1 l1.length c1] rfl (by (try simp only [zR, zS, zT]); first | done | rfl | (simp only [zP, zQ]; rfl)) ?_; (with_reducible refine (slices_Max_int_int.calls k _ _ l1 t104 _ ?side1 ?side2 A8.out).mono ?_); (case side1 => repeat (first | exact HR1.out | (with_reducible refine Kd.C_alloc ?_ _) | (with_reducible refine Kd.C_drewN ?_ _) | (with_reducible refine Kd.C_drew ?_))); (case side2 => exact HC1.out); rintro e w64 ⟨rfl, hb⟩; refine ⟨_, rfl, ?_⟩; have n0_ := zA (zV qB hb); clear HB; have HB := n0_; clear n0_; (try clear hb); (try clear hb2); (try clear hk); (try clear hi)) | ((with_reducible refine zJq (f := 107) rfl ?_); refine goesL_ (some 38) rfl rfl Try.func107 (by kernel_rfl) rfl #[.int .i64 a0, .int .i64 t101, .slice A1 l1.length c1] rfl (by (try simp only [zR, zS, zT]); first | done | rfl | (simp only [zP, zQ]; rfl)) ?_; (with_reducible refine (share_parts.calls k a0 t101 _ _ l1 t126 t127 t128 t129 _ ?side1 ?side2 A42.out).mono ?_); (case side1 => exact qC (Kd.C_below HR1.out HB.out)); (case side2 => exact HC1.out); rintro e w65 ⟨v130, v132, rfl, ho0, ho1, hb⟩; refine ⟨_, rfl, ?_⟩; have n0_ := zA (Kd.R_lower ho0 (zW qB)); have n1_ := zA (Kd.R_lower ho1 (zW qB)); have n2_ := zA (zV qB hb); clear HB; have HO131 := n0_; have HO133 := n1_; have HB := n2_; clear n0_ n1_ n2_; (try clear hb); (try clear hb2); (try clear hk); (try clear hi); (try clear ho0); (try clear ho1)) | ((with_reducible refine gate_dst (N := 9) rfl ?_); refine box_event qr (N := 9) qr (cs := #[.slice none 0 0]) (t := 22) qg ?_; intro gb134 hg w66 hbox hb; have n0_ := zA (Kd.R_below (by (with_reducible repeat (first | apply Kd.R_alloc | apply Kd.R_drewN | apply Kd.R_drew)); exact HO131.out) hb); have n1_ := zA (Kd.R_below (by (with_reducible repeat (first | apply Kd.R_alloc | apply Kd.R_drewN | apply Kd.R_drew)); exact HO133.out) hb); have n2_ := zA (zV qB hb); have n3_ := zA (hbox); have n4_ := zA ((qS : w.heap.size ≤ gb134)); have n5_ := zA ((qS : w.heap.size ≤ gb134)); clear HO131 HO133 HB; have HO131 := n0_; have HO133 := n1_; have HB := n2_; have BK134 := n3_; have GW134 := n4_; have GE134 := n5_; clear n0_ n1_ n2_ n3_ n4_ n5_ hb hbox hg; obtain ⟨Ao67, co67, eo67⟩ := Kd.R_slice HO133.out; subst eo67; have hcz68_0 : w66.cell? ⟨gb134, 0, none⟩ = some (.slice none 0 0) := (zF BK134.out 0).trans rfl; have hfz68_0 := zG BK134.out 0))
      go_ret2; exact ⟨_, qE, qN, qB⟩
    replace c7 := Bool.eq_false_iff.mpr c7; subst c7; have H1 : (some (([] : List Int), 8)) = some (r1, r2) := by first | (rw [if_neg (show ¬ (false = true) by decide)] at H; exact H) | rfl
    clear H; have H := H1; clear H1; simp only [zNq, zOq] at H; obtain ⟨rfl, rfl⟩ := H; go_enter Try.func51, Try.ntmps51; go_wp2_with (first | ((with_reducible refine zJq (f := 57) rfl ?_); refine goesL_ (some 15) rfl rfl Try.func57 (by kernel_rfl) rfl #[.slice A1 l1.length c1] rfl (by (try simp only [zR, zS, zT]); first | done | rfl | (simp only [zP, zQ]; rfl)) ?_; (with_reducible refine (share_Whole.calls k _ _ l1 t101 t102 _ ?side1 ?side2 A3.out).mono ?_); (case side1 => repeat (first | exact HR1.out | (with_reducible refine Kd.C_alloc ?_ _) | (with_reducible refine Kd.C_drewN ?_ _) | (with_reducible refine Kd.C_drew ?_))); (case side2 => exact HC1.out); rintro e w' ⟨rfl, ⟨nd, rfl⟩⟩; refine ⟨_, rfl, ?_⟩) | (go_at_call 31; (with_reducible refine (cents_In.calls a0 false _ A6.out).mono ?_); rintro e w' ⟨rfl, ⟨nd, rfl⟩⟩)); go_ret2; exact ⟨_, qE, qN, qB⟩
  rw [if_neg c4] at H
  have c4b0 : (t102 == 0) = false := beq_eq_false_iff_ne.mpr c4
  have c4b1 : (t102 != 0) = true := bne_iff_ne.mpr c4
  simp only [zNq, zOq] at H
  obtain ⟨rfl, rfl⟩ := H
  go_enter Try.func51, Try.ntmps51
  go_wp2_with (first | ((with_reducible refine zJq (f := 57) rfl ?_); refine goesL_ (some 15) rfl rfl Try.func57 (by kernel_rfl) rfl #[.slice A1 l1.length c1] rfl (by (try simp only [zR, zS, zT]); first | done | rfl | (simp only [zP, zQ]; rfl)) ?_; (with_reducible refine (share_Whole.calls k _ _ l1 t101 t102 _ ?side1 ?side2 A3.out).mono ?_); (case side1 => repeat (first | exact HR1.out | (with_reducible refine Kd.C_alloc ?_ _) | (with_reducible refine Kd.C_drewN ?_ _) | (with_reducible refine Kd.C_drew ?_))); (case side2 => exact HC1.out); rintro e w' ⟨rfl, ⟨nd, rfl⟩⟩; refine ⟨_, rfl, ?_⟩))
  go_ret2
  exact ⟨_, qE, qN, qB⟩
def share_Evenly.j0 : Nat → Int → Int → Bool → Option (List Int × Int)
  | 0, _, _, _ => none
  | k + 1, x0, x1, x11 => if x11 = true then (some (([] : List Int), 2)) else ((share_even.f k x1).bind fun t101 => ((share_Out.f k x0 t101).bind fun bt104 => (some (bt104.1, bt104.2))))
def share_Evenly.f (k : Nat) (a0 : Int) (a1 : Int) : Option (List Int × Int) := if a1 < 1 then (share_Evenly.j0 k a0 a1 true) else (share_Evenly.j0 k a0 a1 (decide (a1 > 200)))
theorem share_Evenly.mono_l : ∀ k, (∀ y0 y1 y2, LeO (share_Evenly.j0 k y0 y1 y2) (share_Evenly.j0 (k + 1) y0 y1 y2))
  | 0 => fun _ _ _ r h => by simp [share_Evenly.j0] at h
  | k + 1 => by
    have ih0 := share_Evenly.mono_l k
    intro y0 y1 y2
    unfold share_Evenly.j0
    repeat' first
    | (with_reducible exact ih0 _ _ _)
    | (with_reducible exact share_Out.mono _ _ _)
    | (with_reducible exact share_even.mono _ _)
    | (with_reducible exact LeO.refl _)
    | (with_reducible exact LeO.none _)
    | (with_reducible refine LeO.ite ?_ ?_)
    | (with_reducible refine LeO.bind ?_ (fun _ => ?_))
    | exact ih0 _ _ _
    | exact share_Out.mono _ _ _
    | exact share_even.mono _ _
    | exact LeO.none _
    | refine LeO.ite ?_ ?_
    | refine LeO.bind ?_ (fun _ => ?_)
theorem share_Evenly.mono : ∀ a0 a1 k, LeO (share_Evenly.f k a0 a1) (share_Evenly.f (k + 1) a0 a1) := by
  intro a0 a1 k
  have ih0 := share_Evenly.mono_l k
  unfold share_Evenly.f
  repeat' first
      | (with_reducible exact ih0 _ _ _)
      | (with_reducible exact share_Out.mono _ _ _)
      | (with_reducible exact share_even.mono _ _)
      | (with_reducible exact LeO.refl _)
      | (with_reducible exact LeO.none _)
      | (with_reducible refine LeO.ite ?_ ?_)
      | (with_reducible refine LeO.bind ?_ (fun _ => ?_))
      | exact ih0 _ _ _
      | exact share_Out.mono _ _ _
      | exact share_even.mono _ _
      | exact LeO.none _
      | refine LeO.ite ?_ ?_
      | refine LeO.bind ?_ (fun _ => ?_)
set_option maxHeartbeats 8000000 in
set_option maxRecDepth 100000 in
theorem share_Evenly.calls (k : Nat) (a0 : Int) (a1 : Int) (r1 : List Int) (r2 : Int) (w : World) (h : share_Evenly.f k a0 a1 = some (r1, r2)) :
    Calls Try.prog 53 #[.int .i64 a0, .int .i64 a1] w fun e w' => ∃ v0_ : Value, e = .returned (.tuple #[v0_, .int .i64 r2]) ∧ Kd.R (Kd.int .i64) 3 w' w.heap.size (fun _ => True) v0_ r1 ∧ Below w.heap.size w w' := by
  have HB := zA (Below.refl w.heap.size w)
  have H : (if a1 < 1 then (share_Evenly.j0 k a0 a1 true) else (share_Evenly.j0 k a0 a1 (decide (a1 > 200)))) = some (r1, r2) := h
  clear h
  have HC3 := zA H
  clear H
  go_enter Try.func53, Try.ntmps53
  go_upto_region 1 with (fail)
  go_cut [11] (fun v11 wc => ∃ (kq : Nat) (x11_2 : Bool), v11 = .bool x11_2 ∧ Aside0 (share_Evenly.j0 kq a0 a1 x11_2 = some (r1, r2)) ∧ Aside0 (kq ≤ k) ∧ Aside0 (Below w.heap.size w wc))
  case first =>
    have H := HC3.out; clear HC3; by_cases c4 : a1 < 1
    · rw [if_pos c4] at H
      have c4b0 : decide (a1 < 1) = true := zFq c4; clear c4; (first | rw [c4b0] | (simp only [i64_w, i32_w]; rw [c4b0]) | skip)
      have H' := zA H; clear H; go_wp2; go_meet
      case rel => exact ⟨_, (true), (by first | rfl | (simp; done) | (simp [*]; done)), H', ⟨by first | omega | exact Nat.le_refl _⟩, ⟨qB⟩⟩
    rw [if_neg c4] at H; have c4b0 : decide (a1 < 1) = false := zGq c4; clear c4; (first | rw [c4b0] | (simp only [i64_w, i32_w]; rw [c4b0]) | skip)
    have H' := zA H; clear H; go_wp2; go_meet
    case rel => exact ⟨_, (decide (a1 > 200)), (by first | rfl | (simp; done) | (simp [*]; done)), H', ⟨by first | omega | exact Nat.le_refl _⟩, ⟨qB⟩⟩
  case rest =>
    clear HC3; try clear p2
    try clear c4
    try clear c4b0
    obtain ⟨kq, x11_2, rfl, HA, HJ2, HB⟩ := hcut; cases kq with
    | zero => exact absurd HA.out (by simp [share_Evenly.j0])
    | succ kj2 =>
      have H := HA.out; clear HA; simp only [share_Evenly.j0] at H; by_cases c5 : x11_2 = true
      · subst c5
        have H1 : (some (([] : List Int), 2)) = some (r1, r2) := by first | (rw [if_pos rfl] at H; exact H) | rfl
        clear H; have H := H1; clear H1; simp only [zNq, zOq] at H; obtain ⟨rfl, rfl⟩ := H; go_wp2; go_ret2; exact ⟨_, qE, qN, qB⟩
      replace c5 := Bool.eq_false_iff.mpr c5; subst c5; have H1 : ((share_even.f kj2 a1).bind fun t101 => ((share_Out.f kj2 a0 t101).bind fun bt104 => (some (bt104.1, bt104.2)))) = some (r1, r2) := by first | (rw [if_neg (show ¬ (false = true) by decide)] at H; exact H) | rfl
      clear H; have H := H1; clear H1; replace H := Option.bind_eq_some_iff.mp H; obtain ⟨t101, A60, H⟩ := H; replace H : ((share_Out.f kj2 a0 t101).bind fun bt104 => (some (bt104.1, bt104.2))) = some (r1, r2) := H; have A6 := zA A60; clear A60; replace H := Option.bind_eq_some_iff.mp H; obtain ⟨⟨t104, t105⟩, A70, H⟩ := H; replace H : (some (t104, t105)) = some (r1, r2) := H; have A7 := zA A70; clear A70; simp only [zNq, zOq] at H; obtain ⟨rfl, rfl⟩ := H; go_wp2_with (first | ((with_reducible refine zJq (f := 106) rfl ?_); refine goesL_ (some 14) rfl rfl Try.func106 (by kernel_rfl) rfl #[.int .i64 a1] rfl (by (try simp only [zR, zS, zT]); first | done | rfl | (simp only [zP, zQ]; rfl)) ?_; (with_reducible refine (share_even.calls kj2 a1 t101 _ A6.out).mono ?_); rintro e w8 ⟨v102, rfl, ho0, hb⟩; refine ⟨_, rfl, ?_⟩; have n0_ := zA (Kd.R_lower ho0 (zW qB)); have n1_ := zA (zV qB hb); clear HB; have HO103 := n0_; have HB := n1_; clear n0_ n1_; (try clear hb); (try clear hb2); (try clear hk); (try clear hi); (try clear ho0); obtain ⟨Ao9, co9, eo9⟩ := Kd.R_slice HO103.out; subst eo9) | ((with_reducible refine zJq (f := 51) rfl ?_); refine goesL_ (some 15) rfl rfl Try.func51 (by kernel_rfl) rfl #[.int .i64 a0, .slice Ao9 t101.length co9] rfl (by (try simp only [zR, zS, zT]); first | done | rfl | (simp only [zP, zQ]; rfl)) ?_; (with_reducible refine (share_Out.calls kj2 a0 _ _ t101 t104 t105 _ ?side1 ?side2 A7.out).mono ?_); (case side1 => repeat (first | exact (Kd.R_reads' HO103.out).2.2 | (with_reducible refine Kd.C_alloc ?_ _) | (with_reducible refine Kd.C_drewN ?_ _) | (with_reducible refine Kd.C_drew ?_))); (case side2 => exact (Kd.R_reads' HO103.out).2.1); rintro e w10 ⟨v106, rfl, ho0, hb⟩; refine ⟨_, rfl, ?_⟩; have n0_ := zA (Kd.R_elder' (by (with_reducible repeat (first | apply Kd.R_alloc | apply Kd.R_drewN | apply Kd.R_drew)); exact HO103.out) (Kd.R_base ho0) hb); have n1_ := zA (Kd.R_lower (Kd.R_new' ho0 (Kd.R_lt (by (with_reducible repeat (first | apply Kd.R_alloc | apply Kd.R_drewN | apply Kd.R_drew)); exact HO103.out))) (zW qB)); have n2_ := zA (zV qB hb); clear HO103 HB; have HO103 := n0_; have HO107 := n1_; have HB := n2_; clear n0_ n1_ n2_; (try clear hb); (try clear hb2); (try clear hk); (try clear hi); (try clear ho0))); go_ret2; exact ⟨_, qE, by (with_reducible repeat (first | apply Kd.R_alloc | apply Kd.R_drewN | apply Kd.R_drew)); exact Kd.R_mono HO107.out (fun _ hk => trivial), qB⟩
def line_Unit_1_v3_v24_v3.f (k : Nat) (a0 : Int) (a1_0 : Int) (a2_0 : Int) (a3_0 : Int) : Option (Int) := (share_Evenly.f k a0 a1_0).bind fun bt104 => (if bt104.2 = 0 then (if 0 ≤ a3_0 then (if a3_0 < (bt104.1.length : Int) then (some (rd bt104.1 a3_0)) else (none)) else (none)) else (none))
theorem line_Unit_1_v3_v24_v3.mono : ∀ a0 a1 a2 a3 k, LeO (line_Unit_1_v3_v24_v3.f k a0 a1 a2 a3) (line_Unit_1_v3_v24_v3.f (k + 1) a0 a1 a2 a3) := by
  intro a0 a1 a2 a3 k
  unfold line_Unit_1_v3_v24_v3.f
  repeat' first
      | (with_reducible exact share_Evenly.mono _ _ _)
      | (with_reducible exact LeO.refl _)
      | (with_reducible exact LeO.none _)
      | (with_reducible refine LeO.ite ?_ ?_)
      | (with_reducible refine LeO.bind ?_ (fun _ => ?_))
      | exact share_Evenly.mono _ _ _
      | exact LeO.none _
      | refine LeO.ite ?_ ?_
      | refine LeO.bind ?_ (fun _ => ?_)
set_option maxHeartbeats 8000000 in
set_option maxRecDepth 100000 in
theorem line_Unit_1_v3_v24_v3.calls (k : Nat) (a0 : Int) (g1 : Nat) (a1_0 : Int) (g2 : Nat) (a2_0 : Int) (g3 : Nat) (a3_0 : Int) (r : Int) (w : World) (hk1 : w.heap[g1]? = some (.cells #[.int .i64 a1_0] 3 (0, 0))) (hk2 : w.heap[g2]? = some (.cells #[.int .i64 a2_0] 24 (0, 0))) (hk3 : w.heap[g3]? = some (.cells #[.int .i64 a3_0] 3 (0, 0))) (h : line_Unit_1_v3_v24_v3.f k a0 a1_0 a2_0 a3_0 = some r) :
    Calls Try.prog 117 #[.int .i64 a0, .pointer (some ⟨g1, 0, none⟩), .pointer (some ⟨g2, 0, none⟩), .pointer (some ⟨g3, 0, none⟩)] w fun e w' => e = .returned (.int .i64 r) ∧ Below w.heap.size w w' := by
  have BK101 := zA hk1
  clear hk1
  have BK102 := zA hk2
  clear hk2
  have BK103 := zA hk3
  clear hk3
  have HB := zA (Below.refl w.heap.size w)
  have H : ((share_Evenly.f k a0 a1_0).bind fun bt104 => (if bt104.2 = 0 then (if 0 ≤ a3_0 then (if a3_0 < (bt104.1.length : Int) then (some (rd bt104.1 a3_0)) else (none)) else (none)) else (none))) = some r := h
  clear h
  replace H := Option.bind_eq_some_iff.mp H
  obtain ⟨⟨t104, t105⟩, A50, H⟩ := H
  replace H : (if t105 = 0 then (if 0 ≤ a3_0 then (if a3_0 < (t104.length : Int) then (some (rd t104 a3_0)) else (none)) else (none)) else (none)) = some r := H
  have A5 := zA A50
  clear A50
  by_cases c6 : t105 = 0
  · rw [if_pos c6] at H
    have c6b0 : (t105 == 0) = true := beq_iff_eq.mpr c6; have c6b1 : (t105 != 0) = false := bne_eq_false_iff_eq.mpr c6; clear c6; by_cases c7 : 0 ≤ a3_0
    · rw [if_pos c7] at H
      have c7b0 : decide (0 ≤ a3_0) = true := zFq c7; clear c7; by_cases c8 : a3_0 < (t104.length : Int)
      · rw [if_pos c8] at H
        have c8b0 : decide (a3_0 < (t104.length : Int)) = true := zFq c8; clear c8; obtain rfl := zKq H; have hcz11_0 : w.cell? ⟨g1, 0, none⟩ = some (.int .i64 a1_0) := (zF BK101.out 0).trans rfl; have hfz11_0 := zG BK101.out 0; go_enter Try.func117, Try.ntmps117; go_wp2_with (first | ((with_reducible refine zJq (f := 53) rfl ?_); refine goesL_ (some 11) rfl rfl Try.func53 (by kernel_rfl) rfl #[.int .i64 a0, .int .i64 a1_0] rfl (by (try simp only [zR, zS, zT]); first | done | rfl | (simp only [zP, zQ]; rfl)) ?_; (with_reducible refine (share_Evenly.calls k a0 a1_0 t104 t105 _ A5.out).mono ?_); rintro e w12 ⟨v106, rfl, ho0, hb⟩; refine ⟨_, rfl, ?_⟩; have n0_ := zA (Kd.R_lower (Kd.R_newB (Kd.R_newB ho0 (g := g1) (o := .cells #[.int .i64 a1_0] 3 (0, 0)) (qW BK101.out)) (g := g3) (o := .cells #[.int .i64 a3_0] 3 (0, 0)) (qW BK103.out)) (zW qB)); have n1_ := zA (qX BK101.out hb); have n2_ := zA (qX BK102.out hb); have n3_ := zA (qX BK103.out hb); have n4_ := zA (zV qB hb); clear BK101 BK102 BK103 HB; have HO107 := n0_; have BK101 := n1_; have BK102 := n2_; have BK103 := n3_; have HB := n4_; clear n0_ n1_ n2_ n3_ n4_; (try clear hb); (try clear hb2); (try clear hk); (try clear hi); (try clear ho0); have hcz14_0 : w12.cell? ⟨g3, 0, none⟩ = some (.int .i64 a3_0) := (zF BK103.out 0).trans rfl; have hfz14_0 := zG BK103.out 0; obtain ⟨Ao15, co15, eo15⟩ := Kd.R_slice HO107.out; subst eo15; have p108 : 0 ≤ (a3_0 : Int) := of_decide_eq_true qA; have q108 : a3_0 < (t104.length : Int) := of_decide_eq_true qA; obtain ⟨ad108, e108, hx108_0⟩ := Kd.at_int (Kd.R_reads' HO107.out).2.2 a3_0 p108 q108; cases e108; replace p108 := eq_true p108; replace q108 := eq_true q108)); go_ret; exact ⟨qE, qB⟩
      rw [if_neg c8] at H; exact absurd H (by simp)
    rw [if_neg c7] at H; exact absurd H (by simp)
  rw [if_neg c6] at H
  exact absurd H (by simp)
end Go.Proofs.Ytefhljhpcpajgaa.F
set_option linter.unusedVariables false
set_option linter.unusedSimpArgs false
namespace Go.Proofs.YtefhljhpcpajgaaX
open Go.RowKit Go.Proofs.YtefhljhpcpajgaaW.PrintWords Go.Proofs.YtefhljhpcpajgaaW.PrintLast Go.Proofs.YtefhljhpcpajgaaW.PrintMore
section
variable {P : Program} {ops : Array Oper} {Q : Exit → Act → World → Prop}
theorem goesC_ {oi : Oper} {N : Option Tmp} {a : Act} {w : World} {K : Act → World → Prop} {f : FuncId} {fn : Func} {cal : Operand} {fs cs : Array Value} {ar_ : Array Operand} {ts : Array TypeId} (hf : P.funcs[f]? = some fn) (hname : (fn.name == "runtime.NumGoroutine") = false) (hb : fn.body.isSome = true) (args : Array Value)
    (hw : Region.wanted oi (yielded ops a.tmps) = true) (hN : oi.dst = N) (hop : oi.op = .call { callee := .value cal, args := ar_, argTypes := ts }) (hcal : a.eval cal = .func (.func f) fs cs) (hargs : fs ++ ar_.map a.eval ++ cs = args)
    (h : Calls P f args w fun e w' => ∃ v, e = .returned v ∧ K (a.put N v) w') : if Region.wanted oi (yielded ops a.tmps) = true then Oper.wp P oi a w K Q else K (a.put N undef) w := by
  refine call_ f args hw hN ?_ h
  have he := enters_ hf hname hb args w
  unfold execOp
  subst hargs
  simpa [hop, resolve, Deferred.ofValue, invoke, hcal] using he
end
theorem run_loadVar_one {P : Program} {w : World} {t : TypeId} {g : Nat} {v : Value} (hA : (isAgg t).run P w = .ok false w) (hc : w.cell? ⟨g, 0, none⟩ = some v) : (loadVar t ⟨g, 0, none⟩).run P w = .ok v w := by
  unfold loadVar
  simp [hA, hc]
inductive Vals1 (P : Program) (tmps : Array Value) (w : World) : List ResultVar → List Value → Prop where
  | nil : Vals1 P tmps w [] []
  | tmp {u : Tmp} {rs : List ResultVar} {vs : List Value} (h : Vals1 P tmps w rs vs) : Vals1 P tmps w (.tmp u :: rs) (tmps.getD u undef :: vs)
  | cell1 {p : Tmp} {ty : TypeId} {rs : List ResultVar} {vs : List Value} (g : Nat) {v : Value} (hp : tmps.getD p undef = .pointer (some ⟨g, 0, none⟩)) (hl : (loadVar ty ⟨g, 0, none⟩).run P w = .ok v w) (h : Vals1 P tmps w rs vs) : Vals1 P tmps w (.cell p ty :: rs) (v :: vs)
theorem vals1_run {P : Program} {tmps : Array Value} {w : World} {rs : List ResultVar} {vs : List Value} (hv : Vals1 P tmps w rs vs) (f : ResultVar → Sem Value) (hf : ∀ u, f (.tmp u) = pure (tmps.getD u undef)) (hc : ∀ a t, f (.cell a t) = (do loadVar t (← asAddr (tmps.getD a undef)))) :
    (rs.mapM f).run P w = .ok vs w := by
  induction hv with
  | nil => simp
  | tmp h ih => simp [List.mapM_cons, hf, ih]
  | cell1 g hp hl h ih =>
    rw [List.mapM_cons, hc, hp]
    simp [asAddr, hl, ih]
theorem results_list1 {P : Program} {tmps : Array Value} {w : World} {fn : Func} {rs : List ResultVar} {vs : List Value} (h : fn.results = rs.toArray) (hl : vs.length ≠ 1) (hv : Vals1 P tmps w rs vs) : (results fn tmps).run P w = .ok (.tuple vs.toArray) w := by
  unfold results
  rw [h, List.mapM_toArray]
  simp only [Sem.run_bind, Sem.run_map]
  rw [vals1_run hv]
  · simp [hl]
  · intro u
    rfl
  intro a t
  rfl
end Go.Proofs.YtefhljhpcpajgaaX
namespace Go.Proofs.Ytefhljhpcpajgaa.F
open Go.RowKit Go.Proofs.YtefhljhpcpajgaaX Go.Proofs.YtefhljhpcpajgaaW.PrintWords Go.Proofs.YtefhljhpcpajgaaW.PrintLast Go.Proofs.YtefhljhpcpajgaaW.PrintMore
attribute [local go_sem] max2_int min2_int max_two min_two max_three min_three max_four min_four   
attribute [local go_sem high] str_geq str_leq str_gtr
set_option linter.unusedVariables false
set_option linter.unusedSimpArgs false
def line_Unit.j0 : Nat → Bool → Int → Int → Int → Int → List ByteArray → Int → Int → Int → Option (Int × Int × Int)
  | 0, _, _, _, _, _, _, _, _, _ => none
  | k + 1, x24, x102000, x102001, x102002, x102003, x102004, x103000, x104000, x106000 => if x24 = true then (some (0, 0, 2)) else ((line_Unit_1_v3_v24_v3.f k x102002 x106000 x104000 x103000).bind fun t106 => ((line_Unit_1_v3_v24_v3.f k x102003 x106000 x104000 x103000).bind fun t107 => (some (t106, t107, x104000))))
def line_Unit.f (k : Nat) (a0_0 : Int) (a0_1 : Int) (a0_2 : Int) (a0_3 : Int) (l0_4 : List ByteArray) (a1 : Int) : Option (Int × Int × Int) := (line_Check.f k a0_0 a0_1 a0_2 a0_3 l0_4).bind fun t104 => (if t104 = 0 then (if a1 < 0 then (line_Unit.j0 k true a0_0 a0_1 a0_2 a0_3 l0_4 a1 0 (l0_4.length : Int)) else (line_Unit.j0 k (decide (a1 ≥ (l0_4.length : Int))) a0_0 a0_1 a0_2 a0_3 l0_4 a1 0 (l0_4.length : Int))) else (some (0, 0, t104)))
theorem line_Unit.mono_l : ∀ k, (∀ y0 y1 y2 y3 y4 y5 y6 y7 y8, LeO (line_Unit.j0 k y0 y1 y2 y3 y4 y5 y6 y7 y8) (line_Unit.j0 (k + 1) y0 y1 y2 y3 y4 y5 y6 y7 y8))
  | 0 => fun _ _ _ _ _ _ _ _ _ r h => by simp [line_Unit.j0] at h
  | k + 1 => by
    have ih0 := line_Unit.mono_l k
    intro y0 y1 y2 y3 y4 y5 y6 y7 y8
    unfold line_Unit.j0
    repeat' first
    | (with_reducible exact ih0 _ _ _ _ _ _ _ _ _)
    | (with_reducible exact line_Check.mono _ _ _ _ _ _)
    | (with_reducible exact line_Unit_1_v3_v24_v3.mono _ _ _ _ _)
    | (with_reducible exact LeO.refl _)
    | (with_reducible exact LeO.none _)
    | (with_reducible refine LeO.ite ?_ ?_)
    | (with_reducible refine LeO.bind ?_ (fun _ => ?_))
    | exact ih0 _ _ _ _ _ _ _ _ _
    | exact line_Check.mono _ _ _ _ _ _
    | exact line_Unit_1_v3_v24_v3.mono _ _ _ _ _
    | exact LeO.none _
    | refine LeO.ite ?_ ?_
    | refine LeO.bind ?_ (fun _ => ?_)
theorem line_Unit.mono : ∀ a0 a1 a2 a3 a4 a5 k, LeO (line_Unit.f k a0 a1 a2 a3 a4 a5) (line_Unit.f (k + 1) a0 a1 a2 a3 a4 a5) := by
  intro a0 a1 a2 a3 a4 a5 k
  have ih0 := line_Unit.mono_l k
  unfold line_Unit.f
  repeat' first
      | (with_reducible exact ih0 _ _ _ _ _ _ _ _ _)
      | (with_reducible exact line_Check.mono _ _ _ _ _ _)
      | (with_reducible exact line_Unit_1_v3_v24_v3.mono _ _ _ _ _)
      | (with_reducible exact LeO.refl _)
      | (with_reducible exact LeO.none _)
      | (with_reducible refine LeO.ite ?_ ?_)
      | (with_reducible refine LeO.bind ?_ (fun _ => ?_))
      | exact ih0 _ _ _ _ _ _ _ _ _
      | exact line_Check.mono _ _ _ _ _ _
      | exact line_Unit_1_v3_v24_v3.mono _ _ _ _ _
      | exact LeO.none _
      | refine LeO.ite ?_ ?_
      | refine LeO.bind ?_ (fun _ => ?_)
def line_Unit.T8 : Bool × List (List Nat × List Nat) := (true, [([], []), ([], []), ([1], [1]), ([0, 2], [0, 2]), ([], []), ([], []), ([5], [5]), ([4, 6, 3], [4, 6]), ([3, 7, 0, 1, 2, 3], [3]), ([7, 8, 0, 1, 2, 3, 4, 5, 6, 7, 8], [7])])
def line_Unit.B8 : List Nat := [0, 0, 2, 7, 0, 0, 32, 127, 255, 511]
theorem line_Unit.tab8 : rtab .any (opsOf Try.f65 8) = line_Unit.T8 := by kernel_rfl
theorem line_Unit.bits8 : waitsOk line_Unit.T8.2 line_Unit.B8 = true := by kernel_rfl
set_option maxHeartbeats 8000000 in
set_option maxRecDepth 100000 in
theorem line_Unit.calls (k : Nat) (a0_0 : Int) (a0_1 : Int) (a0_2 : Int) (a0_3 : Int) (A0_4 : Option Addr) (c0_4 : Nat) (l0_4 : List ByteArray) (a1 : Int) (r1 : Int) (r2 : Int) (r3 : Int) (w : World) (hr0_4 : Kd.C Kd.string w A0_4 l0_4.length l0_4) (hc0_4 : l0_4.length ≤ c0_4) (h : line_Unit.f k a0_0 a0_1 a0_2 a0_3 l0_4 a1 = some (r1, r2, r3)) :
    Calls Try.prog 65 #[.agg #[.int .i64 a0_0, .int .i64 a0_1, .int .i64 a0_2, .int .i64 a0_3, .slice A0_4 l0_4.length c0_4], .int .i64 a1] w fun e w' => e = .returned (.tuple #[.int .i64 r1, .int .i64 r2, .int .i64 r3]) ∧ Below w.heap.size w w' := by
  have hu71 := Try.underlying71
  have hmf : ∀ (fn : Fn) (first cap : Array Value) (w : World), (Instr.makeFunc fn first cap).run Try.prog w = .ok (.func fn first cap) w := fun _ _ _ _ => rfl
  have HR0_4 := zA hr0_4
  have HC0_4 := zA hc0_4
  clear hr0_4 hc0_4
  have HB := zA (Below.refl w.heap.size w)
  have H : ((line_Check.f k a0_0 a0_1 a0_2 a0_3 l0_4).bind fun t104 => (if t104 = 0 then (if a1 < 0 then (line_Unit.j0 k true a0_0 a0_1 a0_2 a0_3 l0_4 a1 0 (l0_4.length : Int)) else (line_Unit.j0 k (decide (a1 ≥ (l0_4.length : Int))) a0_0 a0_1 a0_2 a0_3 l0_4 a1 0 (l0_4.length : Int))) else (some (0, 0, t104)))) = some (r1, r2, r3) := h
  clear h
  replace H := Option.bind_eq_some_iff.mp H
  obtain ⟨t104, A30, H⟩ := H
  replace H : (if t104 = 0 then (if a1 < 0 then (line_Unit.j0 k true a0_0 a0_1 a0_2 a0_3 l0_4 a1 0 (l0_4.length : Int)) else (line_Unit.j0 k (decide (a1 ≥ (l0_4.length : Int))) a0_0 a0_1 a0_2 a0_3 l0_4 a1 0 (l0_4.length : Int))) else (some (0, 0, t104))) = some (r1, r2, r3) := H
  have A3 := zA A30
  clear A30
  by_cases c4 : t104 = 0
  · rw [if_pos c4] at H
    have c4b0 : (t104 == 0) = true := beq_iff_eq.mpr c4; have c4b1 : (t104 != 0) = false := bne_eq_false_iff_eq.mpr c4; clear c4; have HC5 := zA H; clear H; go_enter Try.func65, Try.ntmps65; go_upto_region 5 with (first | ((with_reducible refine gate_dst (N := 2) rfl ?_); refine box_event qr (N := 2) qr (cs := #[.int .i64 a0_0, .int .i64 a0_1, .int .i64 a0_2, .int .i64 a0_3, .slice A0_4 l0_4.length c0_4]) (t := 71) qg ?_; intro gb101 hg w6 hbox hb; have n0_ := zA (zV qB hb); have n1_ := zA (hbox); have n2_ := zA ((qS : w.heap.size ≤ gb101)); have n3_ := zA ((qS : w.heap.size ≤ gb101)); clear HB; have HB := n0_; have BK101 := n1_; have GW101 := n2_; have GE101 := n3_; clear n0_ n1_ n2_ n3_ hb hbox hg) | ((with_reducible refine gate_dst (N := 3) rfl ?_); refine box_event qr (N := 3) qr (cs := #[.int .i64 a1]) (t := 3) qg ?_; intro gb102 hg w7 hbox hb; have n0_ := zA (qX BK101.out hb); have n1_ := zA (zV qB hb); have n2_ := zA (hbox); have n3_ := zA ((qS : w.heap.size ≤ gb102)); have n4_ := zA ((qS : w.heap.size ≤ gb102)); have n5_ := zA ((by rw [hg]; exact zLq (qL BK101.out) : gb101 ≠ gb102)); have n6_ := zA ((by rw [hg]; exact zMq (qL BK101.out) : gb102 ≠ gb101)); clear BK101 HB; have BK101 := n0_; have HB := n1_; have BK102 := n2_; have GW102 := n3_; have GE102 := n4_; have NB101_102 := n5_; have NB102_101 := n6_; clear n0_ n1_ n2_ n3_ n4_ n5_ n6_ hb hbox hg) | ((with_reducible refine gate_dst (N := 6) rfl ?_); refine box_event qr (N := 6) qr (cs := #[.int .i64 0]) (t := 24) qg ?_; intro gb103 hg w8 hbox hb; have n0_ := zA (qX BK101.out hb); have n1_ := zA (qX BK102.out hb); have n2_ := zA (zV qB hb); have n3_ := zA (hbox); have n4_ := zA ((qS : w.heap.size ≤ gb103)); have n5_ := zA ((qS : w.heap.size ≤ gb103)); have n6_ := zA ((by rw [hg]; exact zLq (qL BK101.out) : gb101 ≠ gb103)); have n7_ := zA ((by rw [hg]; exact zMq (qL BK101.out) : gb103 ≠ gb101)); have n8_ := zA ((by rw [hg]; exact zLq (qL BK102.out) : gb102 ≠ gb103)); have n9_ := zA ((by rw [hg]; exact zMq (qL BK102.out) : gb103 ≠ gb102)); clear BK101 BK102 HB; have BK101 := n0_; have BK102 := n1_; have HB := n2_; have BK103 := n3_; have GW103 := n4_; have GE103 := n5_; have NB101_103 := n6_; have NB103_101 := n7_; have NB102_103 := n8_; have NB103_102 := n9_; clear n0_ n1_ n2_ n3_ n4_ n5_ n6_ n7_ n8_ n9_ hb hbox hg; have hnb9 := NB101_102.out; have hnc9 := NB102_101.out; have hnb10 := NB101_103.out; have hnc10 := NB103_101.out; obtain ⟨_, _, _, _, _, _, _, _, _, _⟩ := qc5f BK101.out) | ((with_reducible refine zJq (f := 69) rfl ?_); refine goesL_ (some 11) rfl rfl Try.func69 (by kernel_rfl) rfl #[.agg #[.int .i64 a0_0, .int .i64 a0_1, .int .i64 a0_2, .int .i64 a0_3, .slice A0_4 l0_4.length c0_4]] rfl (by (try simp only [zR, zS, zT]); first | done | rfl | (simp only [zP, zQ]; rfl)) ?_; (with_reducible refine (line_Check.calls k a0_0 a0_1 a0_2 a0_3 _ _ l0_4 t104 _ ?side1 ?side2 A3.out).mono ?_); (case side1 => exact qC (Kd.C_below HR0_4.out HB.out)); (case side2 => exact HC0_4.out); rintro e w12 ⟨rfl, hb⟩; refine ⟨_, rfl, ?_⟩; have n0_ := zA (qX BK101.out hb); have n1_ := zA (qX BK102.out hb); have n2_ := zA (qX BK103.out hb); have n3_ := zA (zV qB hb); clear BK101 BK102 BK103 HB; have BK101 := n0_; have BK102 := n1_; have BK103 := n2_; have HB := n3_; clear n0_ n1_ n2_ n3_; (try clear hb); (try clear hb2); (try clear hk); (try clear hi); obtain ⟨_, _, _, _, _, _, _, _, _, _⟩ := qc5f BK101.out) | ((with_reducible refine gate_dst (N := 8) rfl ?_); refine box_event qr (N := 8) qr (cs := #[.int .i64 0]) (t := 3) qg ?_; intro gb105 hg w14 hbox hb; have n0_ := zA (qX BK101.out hb); have n1_ := zA (qX BK102.out hb); have n2_ := zA (qX BK103.out hb); have n3_ := zA (zV qB hb); have n4_ := zA (hbox); have n5_ := zA ((qS : w.heap.size ≤ gb105)); have n6_ := zA ((qS : w.heap.size ≤ gb105)); have n7_ := zA ((by rw [hg]; exact zLq (qL BK101.out) : gb101 ≠ gb105)); have n8_ := zA ((by rw [hg]; exact zMq (qL BK101.out) : gb105 ≠ gb101)); have n9_ := zA ((by rw [hg]; exact zLq (qL BK102.out) : gb102 ≠ gb105)); have n10_ := zA ((by rw [hg]; exact zMq (qL BK102.out) : gb105 ≠ gb102)); have n11_ := zA ((by rw [hg]; exact zLq (qL BK103.out) : gb103 ≠ gb105)); have n12_ := zA ((by rw [hg]; exact zMq (qL BK103.out) : gb105 ≠ gb103)); clear BK101 BK102 BK103 HB; have BK101 := n0_; have BK102 := n1_; have BK103 := n2_; have HB := n3_; have BK105 := n4_; have GW105 := n5_; have GE105 := n6_; have NB101_105 := n7_; have NB105_101 := n8_; have NB102_105 := n9_; have NB105_102 := n10_; have NB103_105 := n11_; have NB105_103 := n12_; clear n0_ n1_ n2_ n3_ n4_ n5_ n6_ n7_ n8_ n9_ n10_ n11_ n12_ hb hbox hg; have hnb15 := NB105_101.out; have hnc15 := NB101_105.out; have hnb16 := NB105_102.out; have hnc16 := NB102_105.out; have hnb17 := NB105_103.out; have hnc17 := NB103_105.out; have hcz18_0 : w14.cell? ⟨gb105, 0, none⟩ = some (.int .i64 0) := (zF BK105.out 0).trans rfl; have hfz18_0 := zG BK105.out 0))
    (try simp only [Act.put, zH, zI, zJ])
    go_cut [24] (fun v24 wc => ∃ (kq : Nat) (x24_4 : Bool), v24 = .bool x24_4 ∧ Aside0 (line_Unit.j0 kq x24_4 a0_0 a0_1 a0_2 a0_3 l0_4 a1 0 (l0_4.length : Int) = some (r1, r2, r3)) ∧ Aside0 (kq ≤ k) ∧ Aside0 (wc.heap[gb101]? = some (.cells #[.int .i64 a0_0, .int .i64 a0_1, .int .i64 a0_2, .int .i64 a0_3, (.slice A0_4 l0_4.length c0_4)] 71 (0, 0))) ∧ Aside0 (wc.heap[gb102]? = some (.cells #[.int .i64 a1] 3 (0, 0))) ∧ Aside0 (wc.heap[gb103]? = some (.cells #[.int .i64 0] 24 (0, 0))) ∧ Aside0 (wc.heap[gb105]? = some (.cells #[.int .i64 (l0_4.length : Int)] 3 (0, 0))) ∧ Aside0 (Below w.heap.size w wc))
    case first =>
      have H := HC5.out; clear HC5; by_cases c19 : a1 < 0
      · rw [if_pos c19] at H
        have c19b0 : decide (a1 < 0) = true := zFq c19; clear c19; (first | rw [c19b0] | (simp only [i64_w, i32_w]; rw [c19b0]) | skip)
        have H' := zA H; clear H; have hnb20 := NB102_101.out; have hnc20 := NB101_102.out; have hnb21 := NB102_103.out; have hnc21 := NB103_102.out; have hnb22 := NB102_105.out; have hnc22 := NB105_102.out; have hcz23_0 : w14.cell? ⟨gb102, 0, none⟩ = some (.int .i64 a1) := (zF BK102.out 0).trans rfl; have hfz23_0 := zG BK102.out 0; go_wp2; go_meet
        case rel => exact ⟨_, (true), (by first | rfl | (simp; done) | (simp [*]; done)), H', ⟨by first | omega | exact Nat.le_refl _⟩, ⟨by (with_reducible repeat (first | refine zY ?_ _ | refine zAq ?_ | refine zZ ?_ _)); refine blk_far ?_ NB101_105.out _; exact BK101.out⟩, ⟨by (with_reducible repeat (first | refine zY ?_ _ | refine zAq ?_ | refine zZ ?_ _)); refine blk_far ?_ NB102_105.out _; exact BK102.out⟩, ⟨by (with_reducible repeat (first | refine zY ?_ _ | refine zAq ?_ | refine zZ ?_ _)); refine blk_far ?_ NB103_105.out _; exact BK103.out⟩, ⟨by (with_reducible repeat (first | refine zY ?_ _ | refine zAq ?_ | refine zZ ?_ _)); refine blk_put (cs := #[.int .i64 0]) ?_ 0 _ rfl; exact BK105.out⟩, ⟨qB⟩⟩
      rw [if_neg c19] at H; have c19b0 : decide (a1 < 0) = false := zGq c19; clear c19; (first | rw [c19b0] | (simp only [i64_w, i32_w]; rw [c19b0]) | skip)
      have H' := zA H; clear H; have hnb24 := NB102_101.out; have hnc24 := NB101_102.out; have hnb25 := NB102_103.out; have hnc25 := NB103_102.out; have hnb26 := NB102_105.out; have hnc26 := NB105_102.out; have hcz27_0 : w14.cell? ⟨gb102, 0, none⟩ = some (.int .i64 a1) := (zF BK102.out 0).trans rfl; have hfz27_0 := zG BK102.out 0; have hnb28 := NB105_101.out; have hnc28 := NB101_105.out; have hnb29 := NB105_103.out; have hnc29 := NB103_105.out; have hcz30_0 : w14.cell? ⟨gb105, 0, none⟩ = some (.int .i64 0) := (zF BK105.out 0).trans rfl; have hfz30_0 := zG BK105.out 0; go_wp2; go_meet
      case rel => exact ⟨_, (decide (a1 ≥ (l0_4.length : Int))), (by first | rfl | (simp; done) | (simp [*]; done)), H', ⟨by first | omega | exact Nat.le_refl _⟩, ⟨by (with_reducible repeat (first | refine zY ?_ _ | refine zAq ?_ | refine zZ ?_ _)); refine blk_far ?_ NB101_105.out _; exact BK101.out⟩, ⟨by (with_reducible repeat (first | refine zY ?_ _ | refine zAq ?_ | refine zZ ?_ _)); refine blk_far ?_ NB102_105.out _; exact BK102.out⟩, ⟨by (with_reducible repeat (first | refine zY ?_ _ | refine zAq ?_ | refine zZ ?_ _)); refine blk_far ?_ NB103_105.out _; exact BK103.out⟩, ⟨by (with_reducible repeat (first | refine zY ?_ _ | refine zAq ?_ | refine zZ ?_ _)); refine blk_put (cs := #[.int .i64 0]) ?_ 0 _ rfl; exact BK105.out⟩, ⟨qB⟩⟩
    case rest =>
      clear HC5; try clear c1
      try clear c2
      try clear p2
      try clear c4
      try clear c4b0
      try clear c4b1
      try clear c6
      try clear c9
      try clear c10
      try clear c15
      try clear c16
      try clear c17
      try clear c19
      try clear c19b0
      try clear c20
      try clear c21
      try clear c22
      try clear c24
      try clear c25
      try clear c26
      try clear c28
      try clear c29
      try clear hcz18_0
      try clear hcz23_0
      try clear hcz27_0
      try clear hcz30_0
      try clear hfz18_0
      try clear hfz23_0
      try clear hfz27_0
      try clear hfz30_0
      obtain ⟨kq, x24_4, rfl, HA, HJ4, BK101, BK102, BK103, BK105, HB⟩ := hcut; cases kq with
      | zero => exact absurd HA.out (by simp [line_Unit.j0])
      | succ kj4 =>
        have H := HA.out; clear HA; simp only [line_Unit.j0] at H; by_cases c31 : x24_4 = true
        · subst c31
          have H1 : (some (0, 0, 2)) = some (r1, r2, r3) := by first | (rw [if_pos rfl] at H; exact H) | rfl
          clear H; have H := H1; clear H1; simp only [zNq, zOq] at H; obtain ⟨rfl, rfl, rfl⟩ := H; have hnb32 := NB103_101.out; have hnc32 := NB101_103.out; have hnb33 := NB103_102.out; have hnc33 := NB102_103.out; have hnb34 := NB103_105.out; have hnc34 := NB105_103.out; have hcz35_0 : wc.cell? ⟨gb103, 0, none⟩ = some (.int .i64 0) := (zF BK103.out 0).trans rfl; have hfz35_0 := zG BK103.out 0; go_wp2; refine bodyPost_ret (results_list1 (rs := [.tmp 4, .tmp 5, .cell 6 24]) rfl (by simp) (.tmp (.tmp (.cell1 gb103 rfl (run_loadVar_one (Try.isAgg24 _) ((zF (cs := #[.int .i64 2]) (t := 24) (by (with_reducible repeat (first | refine zY ?_ _ | refine zAq ?_ | refine zZ ?_ _)); refine blk_put (cs := #[.int .i64 0]) ?_ 0 _ rfl; exact BK103.out) 0).trans rfl)) .nil)))) rfl ?_; exact ⟨qE, qB⟩
        replace c31 := Bool.eq_false_iff.mpr c31; subst c31; have H1 : ((line_Unit_1_v3_v24_v3.f kj4 a0_2 (l0_4.length : Int) 0 a1).bind fun t106 => ((line_Unit_1_v3_v24_v3.f kj4 a0_3 (l0_4.length : Int) 0 a1).bind fun t107 => (some (t106, t107, 0)))) = some (r1, r2, r3) := by first | (rw [if_neg (show ¬ (false = true) by decide)] at H; exact H) | rfl
        clear H; have H := H1; clear H1; replace H := Option.bind_eq_some_iff.mp H; obtain ⟨t106, A360, H⟩ := H; replace H : ((line_Unit_1_v3_v24_v3.f kj4 a0_3 (l0_4.length : Int) 0 a1).bind fun t107 => (some (t106, t107, 0))) = some (r1, r2, r3) := H; have A36 := zA A360; clear A360; replace H := Option.bind_eq_some_iff.mp H; obtain ⟨t107, A370, H⟩ := H; replace H : (some (t106, t107, 0)) = some (r1, r2, r3) := H; have A37 := zA A370; clear A370; simp only [zNq, zOq] at H; obtain ⟨rfl, rfl, rfl⟩ := H; try go_wp2
        have n0_ := zA (zAq BK101.out); have n1_ := zA (zAq BK102.out); have n2_ := zA (zAq BK103.out); have n3_ := zA (zAq BK105.out); have n4_ := zA (zC HB.out); clear BK101; clear BK102; clear BK103; clear BK105; clear HB; have BK101 := n0_; have BK102 := n1_; have BK103 := n2_; have BK105 := n3_; have HB := n4_; clear n0_ n1_ n2_ n3_ n4_; refine start_ (n := 10) (S := fun w' => w'.cell? ⟨gb101, 0, none⟩ = some (.int .i64 a0_0) ∧ w'.cell? ⟨gb101, 1, none⟩ = some (.int .i64 a0_1) ∧ w'.cell? ⟨gb101, 2, none⟩ = some (.int .i64 a0_2) ∧ w'.cell? ⟨gb101, 3, none⟩ = some (.int .i64 a0_3) ∧ w'.cell? ⟨gb101, 4, none⟩ = some (.slice A0_4 l0_4.length c0_4) ∧ w'.cell? ⟨gb102, 0, none⟩ = some (.int .i64 a1) ∧ w'.cell? ⟨gb103, 0, none⟩ = some (.int .i64 0) ∧ w'.cell? ⟨gb105, 0, none⟩ = some (.int .i64 (l0_4.length : Int))) (ds := []) #[o0, o0, o0, o0, o0, o0, o0, o0, o0, o0] (by kernel_rfl) rfl rfl ⟨(zF BK101.out 0).trans rfl, (zF BK101.out 1).trans rfl, (zF BK101.out 2).trans rfl, (zF BK101.out 3).trans rfl, (zF BK101.out 4).trans rfl, (zF BK102.out 0).trans rfl, (zF BK103.out 0).trans rfl, (zF BK105.out 0).trans rfl⟩ (fun hHeld => ?_); refine with_tabW line_Unit.tab8 line_Unit.bits8 (fun HT_ HW_ => ?_); generalize wc.drew = w38 at BK101 BK102 BK103 BK105 HB hHeld ⊢; refine pure_ (i := 0) (N := some 26) #[o1, o0, o0, o0, o0, o0, o0, o0, o0, o0] rfl rfl (any_of HT_.out (by kernel_rfl)) (fun _ _ _ h => h) (Or.inl ⟨by rfl, qy⟩) qz ?_; refine pure_ (i := 1) (N := some 27) #[o1, o1, o0, o0, o0, o0, o0, o0, o0, o0] rfl rfl (any_of HT_.out (by kernel_rfl)) (fun _ _ _ h => h) (Or.inl ⟨by rfl, qy⟩) qz ?_; refine pure_ (i := 4) (N := some 30) #[o1, o1, o0, o0, o1, o0, o0, o0, o0, o0] rfl rfl (any_of HT_.out (by kernel_rfl)) (fun _ _ _ h => h) (Or.inl ⟨by rfl, qy⟩) qz ?_; refine pure_ (i := 5) (N := some 31) #[o1, o1, o0, o0, o1, o1, o0, o0, o0, o0] rfl rfl (any_of HT_.out (by kernel_rfl)) (fun _ _ _ h => h) (Or.inl ⟨by rfl, qy⟩) qz ?_; refine take_ (i := 2) (N := some 28) (v := ?_) (a' := ?_) #[o1, o1, o1, o0, o1, o1, o0, o0, o0, o0] rfl rfl (take_ofW HT_.out HW_.out (by kernel_rfl)) (fun _ _ _ h => h) (Or.inl ⟨by rfl, ?_⟩) hHeld ?_ ?_; rotate_left
        · rintro w' ⟨s0, s1, s2, s3, s4, s5, s6, s7⟩
          go_simp; with_reducible rfl
        rotate_left
        · simp only [Act.put, zH, zI, zJ, i64_w, i32_w]
          rfl
        refine take_ (i := 6) (N := some 32) (v := ?_) (a' := ?_) #[o1, o1, o1, o0, o1, o1, o1, o0, o0, o0] rfl rfl (take_ofW HT_.out HW_.out (by kernel_rfl)) (fun _ _ _ h => h) (Or.inl ⟨by rfl, ?_⟩) hHeld ?_ ?_; rotate_left
        · rintro w' ⟨s0, s1, s2, s3, s4, s5, s6, s7⟩
          go_simp; with_reducible rfl
        rotate_left
        · simp only [Act.put, zH, zI, zJ, i64_w, i32_w]
          rfl
        refine one_ (i := 3) (N := some 29) #[o1, o1, o1, o1, o1, o1, o1, o0, o0, o0] rfl rfl (one_of HT_.out (by kernel_rfl)) (by decide) (fun K hK => ?_); refine goesC_ Try.func117 (by kernel_rfl) rfl #[.int .i64 a0_2, .pointer (some ⟨gb105, 0, none⟩), .pointer (some ⟨gb103, 0, none⟩), .pointer (some ⟨gb102, 0, none⟩)] (by rfl) rfl rfl rfl (by first | rfl | (simp only [zR, zS, zT]; rfl) | (simp only [zR, zS, zT, List.append_toArray, List.nil_append, List.cons_append]; rfl) | (simp [Act.eval]; done)) ?_; with_reducible refine (line_Unit_1_v3_v24_v3.calls kj4 a0_2 gb105 (l0_4.length : Int) gb103 0 gb102 a1 t106 _ ?side1 ?side2 ?side3 A36.out).mono ?_
        (case side1 => exact (qW BK105.out))
        (case side2 => exact (qW BK103.out))
        (case side3 => exact (qW BK102.out))
        rintro e w39 ⟨rfl, hb⟩; refine ⟨_, rfl, ?_⟩; have n0_ := zA (qX BK101.out hb); have n1_ := zA (qX BK102.out hb); have n2_ := zA (qX BK103.out hb); have n3_ := zA (qX BK105.out hb); have n4_ := zA (zV qB hb); clear BK101; clear BK102; clear BK103; clear BK105; clear HB; have BK101 := n0_; have BK102 := n1_; have BK103 := n2_; have BK105 := n3_; have HB := n4_; clear n0_ n1_ n2_ n3_ n4_; (try clear hb); (try clear hb2); (try clear hk); (try clear hi); refine hK.out _ _ ⟨(zF BK101.out 0).trans rfl, (zF BK101.out 1).trans rfl, (zF BK101.out 2).trans rfl, (zF BK101.out 3).trans rfl, (zF BK101.out 4).trans rfl, (zF BK102.out 0).trans rfl, (zF BK103.out 0).trans rfl, (zF BK105.out 0).trans rfl⟩ (fun hHeld => ?_); clear hK K; refine norm_ (a' := ?_) ?_ ?_; rotate_left
        · show Act.put _ (some 29) _ = _
          simp only [Act.put, zH, zI, zJ, i64_w, i32_w]; rfl
        refine one_ (i := 7) (N := some 33) #[o1, o1, o1, o1, o1, o1, o1, o1, o0, o0] rfl rfl (one_of HT_.out (by kernel_rfl)) (by decide) (fun K hK => ?_); refine goesC_ Try.func117 (by kernel_rfl) rfl #[.int .i64 a0_3, .pointer (some ⟨gb105, 0, none⟩), .pointer (some ⟨gb103, 0, none⟩), .pointer (some ⟨gb102, 0, none⟩)] (by rfl) rfl rfl rfl (by first | rfl | (simp only [zR, zS, zT]; rfl) | (simp only [zR, zS, zT, List.append_toArray, List.nil_append, List.cons_append]; rfl) | (simp [Act.eval]; done)) ?_; with_reducible refine (line_Unit_1_v3_v24_v3.calls kj4 a0_3 gb105 (l0_4.length : Int) gb103 0 gb102 a1 t107 _ ?side1 ?side2 ?side3 A37.out).mono ?_
        (case side1 => exact (qW BK105.out))
        (case side2 => exact (qW BK103.out))
        (case side3 => exact (qW BK102.out))
        rintro e w40 ⟨rfl, hb⟩; refine ⟨_, rfl, ?_⟩; have n0_ := zA (qX BK101.out hb); have n1_ := zA (qX BK102.out hb); have n2_ := zA (qX BK103.out hb); have n3_ := zA (qX BK105.out hb); have n4_ := zA (zV qB hb); clear BK101; clear BK102; clear BK103; clear BK105; clear HB; have BK101 := n0_; have BK102 := n1_; have BK103 := n2_; have BK105 := n3_; have HB := n4_; clear n0_ n1_ n2_ n3_ n4_; (try clear hb); (try clear hb2); (try clear hk); (try clear hi); refine hK.out _ _ ⟨(zF BK101.out 0).trans rfl, (zF BK101.out 1).trans rfl, (zF BK101.out 2).trans rfl, (zF BK101.out 3).trans rfl, (zF BK101.out 4).trans rfl, (zF BK102.out 0).trans rfl, (zF BK103.out 0).trans rfl, (zF BK105.out 0).trans rfl⟩ (fun hHeld => ?_); clear hK K; refine norm_ (a' := ?_) ?_ ?_; rotate_left
        · show Act.put _ (some 33) _ = _
          simp only [Act.put, zH, zI, zJ, i64_w, i32_w]; rfl
        refine pure_ (i := 8) (N := some 4) #[o1, o1, o1, o1, o1, o1, o1, o1, o1, o0] rfl rfl (any_of HT_.out (by kernel_rfl)) (fun _ _ _ h => h) (Or.inl ⟨by rfl, qy⟩) qz ?_; refine pure_ (i := 9) (N := some 5) #[o1, o1, o1, o1, o1, o1, o1, o1, o1, o1] rfl rfl (any_of HT_.out (by kernel_rfl)) (fun _ _ _ h => h) (Or.inl ⟨by rfl, qy⟩) qz ?_; refine done_ (done_of HT_.out (by kernel_rfl)) ?_; try go_wp2
        have n0_ := zA (zAq BK101.out); have n1_ := zA (zAq BK102.out); have n2_ := zA (zAq BK103.out); have n3_ := zA (zAq BK105.out); have n4_ := zA (zC HB.out); clear BK101; clear BK102; clear BK103; clear BK105; clear HB; have BK101 := n0_; have BK102 := n1_; have BK103 := n2_; have BK105 := n3_; have HB := n4_; clear n0_ n1_ n2_ n3_ n4_; refine start_ (n := 6) (S := fun w' => w'.cell? ⟨gb103, 0, none⟩ = some (.int .i64 0)) (ds := [5]) #[o0, o0, o0, o0, o0, o0] (by kernel_rfl) rfl rfl ((zF BK103.out 0).trans rfl) (fun hHeld => ?_); generalize w40.drew = w41 at BK101 BK102 BK103 BK105 HB hHeld ⊢; refine pure_ (i := 0) (N := some 34) (v := ?_) (a' := ?_) #[o1, o0, o0, o0, o0, o0] rfl rfl (by kernel_rfl) (fun _ _ _ h => h) (Or.inl ⟨by rfl, ?_⟩) ?_ ?_; rotate_left
        · intro w'
          go_simp; with_reducible rfl
        rotate_left
        · simp only [Act.put, zH, zI, zJ, i64_w, i32_w]
          rfl
        refine pure_ (i := 1) (N := some 35) (v := ?_) (a' := ?_) #[o1, o1, o0, o0, o0, o0] rfl rfl (by kernel_rfl) (fun _ _ _ h => h) (Or.inl ⟨by rfl, ?_⟩) ?_ ?_; rotate_left
        · intro w'
          go_simp; with_reducible rfl
        rotate_left
        · simp only [Act.put, zH, zI, zJ, i64_w, i32_w]
          rfl
        refine pure_ (i := 3) (N := some 4) (v := ?_) (a' := ?_) #[o1, o1, o0, o1, o0, o0] rfl rfl (by kernel_rfl) (fun _ _ _ h => h) (Or.inl ⟨by rfl, ?_⟩) ?_ ?_; rotate_left
        · intro w'
          go_simp; with_reducible rfl
        rotate_left
        · simp only [Act.put, zH, zI, zJ, i64_w, i32_w]
          rfl
        refine pure_ (i := 4) (N := some 5) (v := ?_) (a' := ?_) #[o1, o1, o0, o1, o1, o0] rfl rfl (by kernel_rfl) (fun _ _ _ h => h) (Or.inl ⟨by rfl, ?_⟩) ?_ ?_; rotate_left
        · intro w'
          go_simp; with_reducible rfl
        rotate_left
        · simp only [Act.put, zH, zI, zJ, i64_w, i32_w]
          rfl
        refine take_ (i := 2) (N := some 36) (v := ?_) (a' := ?_) #[o1, o1, o1, o1, o1, o0] rfl rfl (by kernel_rfl) (fun _ _ _ h => h) (Or.inl ⟨by rfl, ?_⟩) hHeld ?_ ?_; rotate_left
        · intro w' s0
          go_simp; with_reducible rfl
        rotate_left
        · simp only [Act.put, zH, zI, zJ, i64_w, i32_w]
          rfl
        refine last_ (i := 5) (N := none) #[o1, o1, o1, o1, o1, o1] rfl rfl (by kernel_rfl) (by decide) (fun K hK => ?_); have hs42 : w41.cell? ⟨gb103, 0, none⟩ = some (.int .i64 0) := (zF BK103.out 0).trans rfl; have hfs42 := zG BK103.out 0; have hns42_0 := NB101_103.out; have hns42_1 := NB102_103.out; have hns42_3 := NB105_103.out; have hms42_0 := NB103_101.out; have hms42_1 := NB103_102.out; have hms42_3 := NB103_105.out; refine skip_ (w1 := ?_) (by rfl) rfl ?_ ?_; rotate_left
        · go_simp
          rfl
        refine hK.out _ _ ?_; clear hK K; refine done_ (by kernel_rfl) ?_; try go_wp2
        refine bodyPost_ret (results_list1 (rs := [.tmp 4, .tmp 5, .cell 6 24]) rfl (by simp) (.tmp (.tmp (.cell1 gb103 rfl (run_loadVar_one (Try.isAgg24 _) ((zF (cs := #[.int .i64 0]) (t := 24) (by (with_reducible repeat (first | refine zY ?_ _ | refine zAq ?_ | refine zZ ?_ _)); refine blk_put (cs := #[.int .i64 0]) ?_ 0 _ rfl; exact BK103.out) 0).trans rfl)) .nil)))) rfl ?_; exact ⟨qE, qB⟩
  rw [if_neg c4] at H
  have c4b0 : (t104 == 0) = false := beq_eq_false_iff_ne.mpr c4
  have c4b1 : (t104 != 0) = true := bne_iff_ne.mpr c4
  simp only [zNq, zOq] at H
  obtain ⟨rfl, rfl, rfl⟩ := H
  go_enter Try.func65, Try.ntmps65
  go_wp2_with (first | ((with_reducible refine gate_dst (N := 2) rfl ?_); refine box_event qr (N := 2) qr (cs := #[.int .i64 a0_0, .int .i64 a0_1, .int .i64 a0_2, .int .i64 a0_3, .slice A0_4 l0_4.length c0_4]) (t := 71) qg ?_; intro gb101 hg w43 hbox hb; have n0_ := zA (zV qB hb); have n1_ := zA (hbox); have n2_ := zA ((qS : w.heap.size ≤ gb101)); have n3_ := zA ((qS : w.heap.size ≤ gb101)); clear HB; have HB := n0_; have BK101 := n1_; have GW101 := n2_; have GE101 := n3_; clear n0_ n1_ n2_ n3_ hb hbox hg) | ((with_reducible refine gate_dst (N := 3) rfl ?_); refine box_event qr (N := 3) qr (cs := #[.int .i64 a1]) (t := 3) qg ?_; intro gb102 hg w44 hbox hb; have n0_ := zA (qX BK101.out hb); have n1_ := zA (zV qB hb); have n2_ := zA (hbox); have n3_ := zA ((qS : w.heap.size ≤ gb102)); have n4_ := zA ((qS : w.heap.size ≤ gb102)); have n5_ := zA ((by rw [hg]; exact zLq (qL BK101.out) : gb101 ≠ gb102)); have n6_ := zA ((by rw [hg]; exact zMq (qL BK101.out) : gb102 ≠ gb101)); clear BK101 HB; have BK101 := n0_; have HB := n1_; have BK102 := n2_; have GW102 := n3_; have GE102 := n4_; have NB101_102 := n5_; have NB102_101 := n6_; clear n0_ n1_ n2_ n3_ n4_ n5_ n6_ hb hbox hg) | ((with_reducible refine gate_dst (N := 6) rfl ?_); refine box_event qr (N := 6) qr (cs := #[.int .i64 0]) (t := 24) qg ?_; intro gb103 hg w45 hbox hb; have n0_ := zA (qX BK101.out hb); have n1_ := zA (qX BK102.out hb); have n2_ := zA (zV qB hb); have n3_ := zA (hbox); have n4_ := zA ((qS : w.heap.size ≤ gb103)); have n5_ := zA ((qS : w.heap.size ≤ gb103)); have n6_ := zA ((by rw [hg]; exact zLq (qL BK101.out) : gb101 ≠ gb103)); have n7_ := zA ((by rw [hg]; exact zMq (qL BK101.out) : gb103 ≠ gb101)); have n8_ := zA ((by rw [hg]; exact zLq (qL BK102.out) : gb102 ≠ gb103)); have n9_ := zA ((by rw [hg]; exact zMq (qL BK102.out) : gb103 ≠ gb102)); clear BK101 BK102 HB; have BK101 := n0_; have BK102 := n1_; have HB := n2_; have BK103 := n3_; have GW103 := n4_; have GE103 := n5_; have NB101_103 := n6_; have NB103_101 := n7_; have NB102_103 := n8_; have NB103_102 := n9_; clear n0_ n1_ n2_ n3_ n4_ n5_ n6_ n7_ n8_ n9_ hb hbox hg; have hnb46 := NB101_102.out; have hnc46 := NB102_101.out; have hnb47 := NB101_103.out; have hnc47 := NB103_101.out; obtain ⟨_, _, _, _, _, _, _, _, _, _⟩ := qc5f BK101.out) | ((with_reducible refine zJq (f := 69) rfl ?_); refine goesL_ (some 11) rfl rfl Try.func69 (by kernel_rfl) rfl #[.agg #[.int .i64 a0_0, .int .i64 a0_1, .int .i64 a0_2, .int .i64 a0_3, .slice A0_4 l0_4.length c0_4]] rfl (by (try simp only [zR, zS, zT]); first | done | rfl | (simp only [zP, zQ]; rfl)) ?_; (with_reducible refine (line_Check.calls k a0_0 a0_1 a0_2 a0_3 _ _ l0_4 t104 _ ?side1 ?side2 A3.out).mono ?_); (case side1 => exact qC (Kd.C_below HR0_4.out HB.out)); (case side2 => exact HC0_4.out); rintro e w49 ⟨rfl, hb⟩; refine ⟨_, rfl, ?_⟩; have n0_ := zA (qX BK101.out hb); have n1_ := zA (qX BK102.out hb); have n2_ := zA (qX BK103.out hb); have n3_ := zA (zV qB hb); clear BK101 BK102 BK103 HB; have BK101 := n0_; have BK102 := n1_; have BK103 := n2_; have HB := n3_; clear n0_ n1_ n2_ n3_; (try clear hb); (try clear hb2); (try clear hk); (try clear hi); have hnb50 := NB103_102.out; have hnc50 := NB102_103.out; have hcz51_0 : w49.cell? ⟨gb103, 0, none⟩ = some (.int .i64 0) := (zF BK103.out 0).trans rfl; have hfz51_0 := zG BK103.out 0))
  refine bodyPost_ret (results_list1 (rs := [.tmp 4, .tmp 5, .cell 6 24]) rfl (by simp) (.tmp (.tmp (.cell1 gb103 rfl (run_loadVar_one (Try.isAgg24 _) ((zF (cs := #[.int .i64 t104]) (t := 24) (by (with_reducible repeat (first | refine zY ?_ _ | refine zAq ?_ | refine zZ ?_ _)); refine blk_put (cs := #[.int .i64 0]) ?_ 0 _ rfl; exact BK103.out) 0).trans rfl)) .nil)))) rfl ?_
  exact ⟨qE, qB⟩
def value_Full.f (k : Nat) (a0_0 : Int) (a0_1 : Int) (a0_2 : Int) (a0_3 : Int) (l0_4 : List ByteArray) (a1 : Int) : Option (Int × Int) := (line_Unit.f k a0_0 a0_1 a0_2 a0_3 l0_4 a1).bind fun bt102 => (if bt102.2.2 = 0 then ((cents_Add.f k (([bt102.1, bt102.2.1] : List Int))).bind fun bt108 => (some (bt108.1, bt108.2))) else (some (0, bt102.2.2)))
theorem value_Full.mono : ∀ a0 a1 a2 a3 a4 a5 k, LeO (value_Full.f k a0 a1 a2 a3 a4 a5) (value_Full.f (k + 1) a0 a1 a2 a3 a4 a5) := by
  intro a0 a1 a2 a3 a4 a5 k
  unfold value_Full.f
  repeat' first
      | (with_reducible exact cents_Add.mono _ _)
      | (with_reducible exact line_Unit.mono _ _ _ _ _ _ _)
      | (with_reducible exact LeO.refl _)
      | (with_reducible exact LeO.none _)
      | (with_reducible refine LeO.ite ?_ ?_)
      | (with_reducible refine LeO.bind ?_ (fun _ => ?_))
      | exact cents_Add.mono _ _
      | exact line_Unit.mono _ _ _ _ _ _ _
      | exact LeO.none _
      | refine LeO.ite ?_ ?_
      | refine LeO.bind ?_ (fun _ => ?_)
set_option maxHeartbeats 8000000 in
set_option maxRecDepth 100000 in
theorem value_Full.calls (k : Nat) (a0_0 : Int) (a0_1 : Int) (a0_2 : Int) (a0_3 : Int) (A0_4 : Option Addr) (c0_4 : Nat) (l0_4 : List ByteArray) (a1 : Int) (r1 : Int) (r2 : Int) (w : World) (hr0_4 : Kd.C Kd.string w A0_4 l0_4.length l0_4) (hc0_4 : l0_4.length ≤ c0_4) (h : value_Full.f k a0_0 a0_1 a0_2 a0_3 l0_4 a1 = some (r1, r2)) :
    Calls Try.prog 74 #[.agg #[.int .i64 a0_0, .int .i64 a0_1, .int .i64 a0_2, .int .i64 a0_3, .slice A0_4 l0_4.length c0_4], .int .i64 a1] w fun e w' => e = .returned (.tuple #[.int .i64 r1, .int .i64 r2]) ∧ Below w.heap.size w w' := by
  have hu71 := Try.underlying71
  have HR0_4 := zA hr0_4
  have HC0_4 := zA hc0_4
  clear hr0_4 hc0_4
  have HB := zA (Below.refl w.heap.size w)
  have H : ((line_Unit.f k a0_0 a0_1 a0_2 a0_3 l0_4 a1).bind fun bt102 => (if bt102.2.2 = 0 then ((cents_Add.f k (([bt102.1, bt102.2.1] : List Int))).bind fun bt108 => (some (bt108.1, bt108.2))) else (some (0, bt102.2.2)))) = some (r1, r2) := h
  clear h
  replace H := Option.bind_eq_some_iff.mp H
  obtain ⟨⟨t102, t103, t104⟩, A30, H⟩ := H
  replace H : (if t104 = 0 then ((cents_Add.f k (([t102, t103] : List Int))).bind fun bt108 => (some (bt108.1, bt108.2))) else (some (0, t104))) = some (r1, r2) := H
  have A3 := zA A30
  clear A30
  by_cases c4 : t104 = 0
  · rw [if_pos c4] at H
    have c4b0 : (t104 == 0) = true := beq_iff_eq.mpr c4; have c4b1 : (t104 != 0) = false := bne_eq_false_iff_eq.mpr c4; clear c4; obtain ⟨y105, hy105⟩ : ∃ y_ : List Int, y_ = (([t102, t103] : List Int)) := ⟨_, rfl⟩
    replace H : ((cents_Add.f k y105).bind fun bt108 => (some (bt108.1, bt108.2))) = some (r1, r2) := by first | (rw [hy105]; with_reducible exact H) | (have H2_ := (Option.bind_some _ _).symm.trans H; rw [hy105]; with_reducible exact H2_) | (have H2_ := (Option.bind_some _ _).symm.trans H; with_reducible exact H2_) | with_reducible exact H | (rw [hy105]; exact H) | exact H
    have Ny105 := zA hy105; clear hy105; replace H := Option.bind_eq_some_iff.mp H; obtain ⟨⟨t108, t109⟩, A50, H⟩ := H; replace H : (some (t108, t109)) = some (r1, r2) := H; have A5 := zA A50; clear A50; simp only [zNq, zOq] at H; obtain ⟨rfl, rfl⟩ := H; go_enter Try.func74, Try.ntmps74; go_wp2_with (first | ((with_reducible refine gate_dst (N := 2) rfl ?_); refine box_event qr (N := 2) qr (cs := #[.int .i64 a0_0, .int .i64 a0_1, .int .i64 a0_2, .int .i64 a0_3, .slice A0_4 l0_4.length c0_4]) (t := 71) qg ?_; intro gb101 hg w6 hbox hb; have n0_ := zA (zV qB hb); have n1_ := zA (hbox); have n2_ := zA ((qS : w.heap.size ≤ gb101)); have n3_ := zA ((qS : w.heap.size ≤ gb101)); clear HB; have HB := n0_; have BK101 := n1_; have GW101 := n2_; have GE101 := n3_; clear n0_ n1_ n2_ n3_ hb hbox hg; obtain ⟨_, _, _, _, _, _, _, _, _, _⟩ := qc5f BK101.out) | ((with_reducible refine zJq (f := 65) rfl ?_); refine goesL_ (some 12) rfl rfl Try.func65 (by kernel_rfl) rfl #[.agg #[.int .i64 a0_0, .int .i64 a0_1, .int .i64 a0_2, .int .i64 a0_3, .slice A0_4 l0_4.length c0_4], .int .i64 a1] rfl (by (try simp only [zR, zS, zT]); first | done | rfl | (simp only [zP, zQ]; rfl)) ?_; (with_reducible refine (line_Unit.calls k a0_0 a0_1 a0_2 a0_3 _ _ l0_4 a1 t102 t103 t104 _ ?side1 ?side2 A3.out).mono ?_); (case side1 => exact qC (Kd.C_below HR0_4.out HB.out)); (case side2 => exact HC0_4.out); rintro e w8 ⟨rfl, hb⟩; refine ⟨_, rfl, ?_⟩; have n0_ := zA (qX BK101.out hb); have n1_ := zA (zV qB hb); clear BK101 HB; have BK101 := n0_; have HB := n1_; clear n0_ n1_; (try clear hb); (try clear hb2); (try clear hk); (try clear hi)) | ((with_reducible refine gate_dst (N := 21) rfl ?_); refine Kd.R_lit (Kd.int .i64) _ 3 ?hg (N := 21) ?hd (xs := ([t102, t103] : List Int)) (inner := [.int .i64 t102, .int .i64 t103]) (ok := fun _ => True) (okp := fun _ => True) ?hr ?hp (fun _ hk => hk) trivial (Below.refl _ _) (Nat.le_refl _) (by simp) ?_; (case hd => rfl); (case hg => rfl); (case hr => first | (go_simp; done) | (go_simp; rfl)); (case hp => exact (Reps.one (show Kd.M (Kd.int .i64) _ _ _ t102 [.int .i64 t102] from rfl) (Reps.one (show Kd.M (Kd.int .i64) _ _ _ t103 [.int .i64 t103] from rfl) (Reps.none _ _)))); intro v106 w9 ho10 hb hg_ hnew_; clear hg_ hnew_; (first | rw [← Ny105.out] at ho10 | (simp only [Int.reduceToNat] at ho10; rw [← Ny105.out] at ho10)); have n0_ := zA (Kd.R_lower ho10 (zW qB)); have n1_ := zA (qX BK101.out hb); have n2_ := zA (zV qB hb); clear BK101 HB; have HO107 := n0_; have BK101 := n1_; have HB := n2_; clear n0_ n1_ n2_ hb ho10; obtain ⟨Ao11, co11, eo11⟩ := Kd.R_slice HO107.out; subst eo11) | ((with_reducible refine zJq (f := 25) rfl ?_); refine goesL_ (some 22) rfl rfl Try.func25 (by kernel_rfl) rfl #[.slice Ao11 y105.length co11] rfl (by (try simp only [zR, zS, zT]); first | done | rfl | (simp only [zP, zQ]; rfl)) ?_; (with_reducible refine (cents_Add.calls k _ _ y105 t108 t109 _ ?side1 ?side2 A5.out).mono ?_); (case side1 => repeat (first | exact (Kd.R_reads' HO107.out).2.2 | (with_reducible refine Kd.C_alloc ?_ _) | (with_reducible refine Kd.C_drewN ?_ _) | (with_reducible refine Kd.C_drew ?_))); (case side2 => exact (Kd.R_reads' HO107.out).2.1); rintro e w' ⟨rfl, ⟨nd, rfl⟩⟩; refine ⟨_, rfl, ?_⟩))
    go_ret2; exact ⟨qE, qB⟩
  rw [if_neg c4] at H
  have c4b0 : (t104 == 0) = false := beq_eq_false_iff_ne.mpr c4
  have c4b1 : (t104 != 0) = true := bne_iff_ne.mpr c4
  simp only [zNq, zOq] at H
  obtain ⟨rfl, rfl⟩ := H
  go_enter Try.func74, Try.ntmps74
  go_wp2_with (first | ((with_reducible refine gate_dst (N := 2) rfl ?_); refine box_event qr (N := 2) qr (cs := #[.int .i64 a0_0, .int .i64 a0_1, .int .i64 a0_2, .int .i64 a0_3, .slice A0_4 l0_4.length c0_4]) (t := 71) qg ?_; intro gb101 hg w12 hbox hb; have n0_ := zA (zV qB hb); have n1_ := zA (hbox); have n2_ := zA ((qS : w.heap.size ≤ gb101)); have n3_ := zA ((qS : w.heap.size ≤ gb101)); clear HB; have HB := n0_; have BK101 := n1_; have GW101 := n2_; have GE101 := n3_; clear n0_ n1_ n2_ n3_ hb hbox hg; obtain ⟨_, _, _, _, _, _, _, _, _, _⟩ := qc5f BK101.out) | ((with_reducible refine zJq (f := 65) rfl ?_); refine goesL_ (some 12) rfl rfl Try.func65 (by kernel_rfl) rfl #[.agg #[.int .i64 a0_0, .int .i64 a0_1, .int .i64 a0_2, .int .i64 a0_3, .slice A0_4 l0_4.length c0_4], .int .i64 a1] rfl (by (try simp only [zR, zS, zT]); first | done | rfl | (simp only [zP, zQ]; rfl)) ?_; (with_reducible refine (line_Unit.calls k a0_0 a0_1 a0_2 a0_3 _ _ l0_4 a1 t102 t103 t104 _ ?side1 ?side2 A3.out).mono ?_); (case side1 => exact qC (Kd.C_below HR0_4.out HB.out)); (case side2 => exact HC0_4.out); rintro e w14 ⟨rfl, hb⟩; refine ⟨_, rfl, ?_⟩; have n0_ := zA (qX BK101.out hb); have n1_ := zA (zV qB hb); clear BK101 HB; have BK101 := n0_; have HB := n1_; clear n0_ n1_; (try clear hb); (try clear hb2); (try clear hk); (try clear hi)))
  go_ret2
  exact ⟨qE, qB⟩
def cents_Sub.f (a0 : Int) (a1 : Int) : Option (Int × Int) := (cents_In.f a0).bind fun t101 => (if t101 = true then ((cents_In.f a1).bind fun t102 => (if t102 = true then ((cents_told.f (wrap64 (a0 - a1))).bind fun bt103 => (some (bt103.1, bt103.2))) else (some (0, 8)))) else (some (0, 8)))
set_option maxHeartbeats 8000000 in
set_option maxRecDepth 100000 in
theorem cents_Sub.calls (a0 : Int) (a1 : Int) (r1 : Int) (r2 : Int) (w : World) (h : cents_Sub.f a0 a1 = some (r1, r2)) :
    Calls Try.prog 27 #[.int .i64 a0, .int .i64 a1] w fun e w' => e = .returned (.tuple #[.int .i64 r1, .int .i64 r2]) ∧ Drawn0 w w' := by
  have H : ((cents_In.f a0).bind fun t101 => (if t101 = true then ((cents_In.f a1).bind fun t102 => (if t102 = true then ((cents_told.f (wrap64 (a0 - a1))).bind fun bt103 => (some (bt103.1, bt103.2))) else (some (0, 8)))) else (some (0, 8)))) = some (r1, r2) := h
  clear h
  replace H := Option.bind_eq_some_iff.mp H
  obtain ⟨t101, A30, H⟩ := H
  replace H : (if t101 = true then ((cents_In.f a1).bind fun t102 => (if t102 = true then ((cents_told.f (wrap64 (a0 - a1))).bind fun bt103 => (some (bt103.1, bt103.2))) else (some (0, 8)))) else (some (0, 8))) = some (r1, r2) := H
  have A3 := zA A30
  clear A30
  by_cases c4 : t101 = true
  · subst c4
    have H1 : ((cents_In.f a1).bind fun t102 => (if t102 = true then ((cents_told.f (wrap64 (a0 - a1))).bind fun bt103 => (some (bt103.1, bt103.2))) else (some (0, 8)))) = some (r1, r2) := by first | (rw [if_pos rfl] at H; exact H) | rfl
    clear H; have H := H1; clear H1; replace H := Option.bind_eq_some_iff.mp H; obtain ⟨t102, A50, H⟩ := H; replace H : (if t102 = true then ((cents_told.f (wrap64 (a0 - a1))).bind fun bt103 => (some (bt103.1, bt103.2))) else (some (0, 8))) = some (r1, r2) := H; have A5 := zA A50; clear A50; by_cases c6 : t102 = true
    · subst c6
      have H1 : ((cents_told.f (wrap64 (a0 - a1))).bind fun bt103 => (some (bt103.1, bt103.2))) = some (r1, r2) := by first | (rw [if_pos rfl] at H; exact H) | rfl
      clear H; have H := H1; clear H1; replace H := Option.bind_eq_some_iff.mp H; obtain ⟨⟨t103, t104⟩, A70, H⟩ := H; replace H : (some (t103, t104)) = some (r1, r2) := H; have A7 := zA A70; clear A70; simp only [zNq, zOq] at H; obtain ⟨rfl, rfl⟩ := H; go_enter Try.func27, Try.ntmps27; go_wp2_with (first | ((with_reducible refine zJq (f := 31) rfl ?_); refine goesL_ (some 7) rfl rfl Try.func31 (by kernel_rfl) rfl #[.int .i64 a0] rfl (by (try simp only [zR, zS, zT]); first | done | rfl | (simp only [zP, zQ]; rfl)) ?_; (with_reducible refine (cents_In.calls a0 true _ A3.out).mono ?_); rintro e w' ⟨rfl, ⟨nd, rfl⟩⟩; refine ⟨_, rfl, ?_⟩) | (go_at_call 31; (with_reducible refine (cents_In.calls a1 true _ A5.out).mono ?_); rintro e w' ⟨rfl, ⟨nd, rfl⟩⟩) | ((with_reducible refine zJq (f := 96) rfl ?_); refine goesL_ (some 17) rfl rfl Try.func96 (by kernel_rfl) rfl #[.int .i64 (wrap64 (a0 - a1))] rfl (by (try simp only [zR, zS, zT]); first | done | rfl | (simp only [zP, zQ]; rfl)) ?_; (with_reducible refine (cents_told.calls (wrap64 (a0 - a1)) t103 t104 _ A7.out).mono ?_); rintro e w' ⟨rfl, ⟨nd, rfl⟩⟩; refine ⟨_, rfl, ?_⟩)); go_ret2; exact ⟨by first | rfl | (simp; done) | (simp [*]; done), by repeat (first | exact Drawn0.refl _ | apply Drawn0.step)⟩
    replace c6 := Bool.eq_false_iff.mpr c6; subst c6; have H1 : (some (0, 8)) = some (r1, r2) := by first | (rw [if_neg (show ¬ (false = true) by decide)] at H; exact H) | rfl
    clear H; have H := H1; clear H1; simp only [zNq, zOq] at H; obtain ⟨rfl, rfl⟩ := H; go_enter Try.func27, Try.ntmps27; go_wp2_with (first | ((with_reducible refine zJq (f := 31) rfl ?_); refine goesL_ (some 7) rfl rfl Try.func31 (by kernel_rfl) rfl #[.int .i64 a0] rfl (by (try simp only [zR, zS, zT]); first | done | rfl | (simp only [zP, zQ]; rfl)) ?_; (with_reducible refine (cents_In.calls a0 true _ A3.out).mono ?_); rintro e w' ⟨rfl, ⟨nd, rfl⟩⟩; refine ⟨_, rfl, ?_⟩) | (go_at_call 31; (with_reducible refine (cents_In.calls a1 false _ A5.out).mono ?_); rintro e w' ⟨rfl, ⟨nd, rfl⟩⟩)); go_ret2; exact ⟨by first | rfl | (simp; done) | (simp [*]; done), by repeat (first | exact Drawn0.refl _ | apply Drawn0.step)⟩
  replace c4 := Bool.eq_false_iff.mpr c4
  subst c4
  have H1 : (some (0, 8)) = some (r1, r2) := by first | (rw [if_neg (show ¬ (false = true) by decide)] at H; exact H) | rfl
  clear H
  have H := H1
  clear H1
  simp only [zNq, zOq] at H
  obtain ⟨rfl, rfl⟩ := H
  go_enter Try.func27, Try.ntmps27
  go_wp2_with (first | ((with_reducible refine zJq (f := 31) rfl ?_); refine goesL_ (some 7) rfl rfl Try.func31 (by kernel_rfl) rfl #[.int .i64 a0] rfl (by (try simp only [zR, zS, zT]); first | done | rfl | (simp only [zP, zQ]; rfl)) ?_; (with_reducible refine (cents_In.calls a0 false _ A3.out).mono ?_); rintro e w' ⟨rfl, ⟨nd, rfl⟩⟩; refine ⟨_, rfl, ?_⟩))
  go_ret2
  exact ⟨by first | rfl | (simp; done) | (simp [*]; done), by repeat (first | exact Drawn0.refl _ | apply Drawn0.step)⟩
def fee_may.f (a0 : Int) : Option (Bool) := if a0 ≥ 0 then (some (decide (a0 ≤ 10000))) else (some false)
set_option maxHeartbeats 8000000 in
set_option maxRecDepth 100000 in
theorem fee_may.calls (a0 : Int) (r : Bool) (w : World) (h : fee_may.f a0 = some r) :
    Calls Try.prog 103 #[.int .i64 a0] w fun e w' => e = .returned (.bool r) ∧ Drawn0 w w' := by
  have H : (if a0 ≥ 0 then (some (decide (a0 ≤ 10000))) else (some false)) = some r := h
  clear h
  by_cases c2 : a0 ≥ 0
  · rw [if_pos c2] at H
    have c2b0 : decide (0 ≤ a0) = true := zFq c2; clear c2; obtain rfl := zKq H; go_enter Try.func103, Try.ntmps103; go_wp2; go_ret; exact ⟨by first | rfl | (simp; done) | (simp [*]; done), by repeat (first | exact Drawn0.refl _ | apply Drawn0.step)⟩
  rw [if_neg c2] at H
  have c2b0 : decide (0 ≤ a0) = false := zGq c2
  clear c2
  obtain rfl := zKq H
  go_enter Try.func103, Try.ntmps103
  go_wp2
  go_ret
  exact ⟨by first | rfl | (simp; done) | (simp [*]; done), by repeat (first | exact Drawn0.refl _ | apply Drawn0.step)⟩
def cents_Half.f (k : Nat) (a0 : Int) (a1 : Int) (a2 : Int) : Option (Int × Int) := (cents_divided.f k a0 a1 a2).bind fun bt101 => (if bt101.2.2 = 0 then (if bt101.2.1 ≥ (wrap64 (a2 - bt101.2.1)) then ((cents_told.f (wrap64 (bt101.1 + 1))).bind fun bt104 => (some (bt104.1, bt104.2))) else ((cents_told.f bt101.1).bind fun bt106 => (some (bt106.1, bt106.2)))) else (some (0, bt101.2.2)))
theorem cents_Half.mono : ∀ a0 a1 a2 k, LeO (cents_Half.f k a0 a1 a2) (cents_Half.f (k + 1) a0 a1 a2) := by
  intro a0 a1 a2 k
  unfold cents_Half.f
  repeat' first
      | (with_reducible exact cents_divided.mono _ _ _ _)
      | (with_reducible exact LeO.refl _)
      | (with_reducible exact LeO.none _)
      | (with_reducible refine LeO.ite ?_ ?_)
      | (with_reducible refine LeO.bind ?_ (fun _ => ?_))
      | exact cents_divided.mono _ _ _ _
      | exact LeO.none _
      | refine LeO.ite ?_ ?_
      | refine LeO.bind ?_ (fun _ => ?_)
set_option maxHeartbeats 8000000 in
set_option maxRecDepth 100000 in
theorem cents_Half.calls (k : Nat) (a0 : Int) (a1 : Int) (a2 : Int) (r1 : Int) (r2 : Int) (w : World) (h : cents_Half.f k a0 a1 a2 = some (r1, r2)) :
    Calls Try.prog 35 #[.int .i64 a0, .int .i64 a1, .int .i64 a2] w fun e w' => e = .returned (.tuple #[.int .i64 r1, .int .i64 r2]) ∧ Below w.heap.size w w' := by
  have HB := zA (Below.refl w.heap.size w)
  have H : ((cents_divided.f k a0 a1 a2).bind fun bt101 => (if bt101.2.2 = 0 then (if bt101.2.1 ≥ (wrap64 (a2 - bt101.2.1)) then ((cents_told.f (wrap64 (bt101.1 + 1))).bind fun bt104 => (some (bt104.1, bt104.2))) else ((cents_told.f bt101.1).bind fun bt106 => (some (bt106.1, bt106.2)))) else (some (0, bt101.2.2)))) = some (r1, r2) := h
  clear h
  replace H := Option.bind_eq_some_iff.mp H
  obtain ⟨⟨t101, t102, t103⟩, A40, H⟩ := H
  replace H : (if t103 = 0 then (if t102 ≥ (wrap64 (a2 - t102)) then ((cents_told.f (wrap64 (t101 + 1))).bind fun bt104 => (some (bt104.1, bt104.2))) else ((cents_told.f t101).bind fun bt106 => (some (bt106.1, bt106.2)))) else (some (0, t103))) = some (r1, r2) := H
  have A4 := zA A40
  clear A40
  by_cases c5 : t103 = 0
  · rw [if_pos c5] at H
    have c5b0 : (t103 == 0) = true := beq_iff_eq.mpr c5; have c5b1 : (t103 != 0) = false := bne_eq_false_iff_eq.mpr c5; clear c5; by_cases c6 : t102 ≥ (wrap64 (a2 - t102))
    · rw [if_pos c6] at H
      have c6b0 : decide ((wrap64 (a2 - t102)) ≤ t102) = true := zFq c6; clear c6; replace H := Option.bind_eq_some_iff.mp H; obtain ⟨⟨t104, t105⟩, A70, H⟩ := H; replace H : (some (t104, t105)) = some (r1, r2) := H; have A7 := zA A70; clear A70; simp only [zNq, zOq] at H; obtain ⟨rfl, rfl⟩ := H; go_enter Try.func35, Try.ntmps35; go_wp2_with (first | ((with_reducible refine zJq (f := 100) rfl ?_); refine goesL_ (some 15) rfl rfl Try.func100 (by kernel_rfl) rfl #[.int .i64 a0, .int .i64 a1, .int .i64 a2] rfl (by (try simp only [zR, zS, zT]); first | done | rfl | (simp only [zP, zQ]; rfl)) ?_; (with_reducible refine (cents_divided.calls k a0 a1 a2 t101 t102 t103 _ A4.out).mono ?_); rintro e w8 ⟨rfl, hb⟩; refine ⟨_, rfl, ?_⟩; have n0_ := zA (zV qB hb); clear HB; have HB := n0_; clear n0_; (try clear hb); (try clear hb2); (try clear hk); (try clear hi)) | ((with_reducible refine zJq (f := 96) rfl ?_); refine goesL_ (some 30) rfl rfl Try.func96 (by kernel_rfl) rfl #[.int .i64 (wrap64 (t101 + 1))] rfl (by (try simp only [zR, zS, zT]); first | done | rfl | (simp only [zP, zQ]; rfl)) ?_; (with_reducible refine (cents_told.calls (wrap64 (t101 + 1)) t104 t105 _ A7.out).mono ?_); rintro e w' ⟨rfl, ⟨nd, rfl⟩⟩; refine ⟨_, rfl, ?_⟩)); go_ret2; exact ⟨qE, qB⟩
    rw [if_neg c6] at H; have c6b0 : decide ((wrap64 (a2 - t102)) ≤ t102) = false := zGq c6; clear c6; replace H := Option.bind_eq_some_iff.mp H; obtain ⟨⟨t106, t107⟩, A90, H⟩ := H; replace H : (some (t106, t107)) = some (r1, r2) := H; have A9 := zA A90; clear A90; simp only [zNq, zOq] at H; obtain ⟨rfl, rfl⟩ := H; go_enter Try.func35, Try.ntmps35; go_wp2_with (first | ((with_reducible refine zJq (f := 100) rfl ?_); refine goesL_ (some 15) rfl rfl Try.func100 (by kernel_rfl) rfl #[.int .i64 a0, .int .i64 a1, .int .i64 a2] rfl (by (try simp only [zR, zS, zT]); first | done | rfl | (simp only [zP, zQ]; rfl)) ?_; (with_reducible refine (cents_divided.calls k a0 a1 a2 t101 t102 t103 _ A4.out).mono ?_); rintro e w10 ⟨rfl, hb⟩; refine ⟨_, rfl, ?_⟩; have n0_ := zA (zV qB hb); clear HB; have HB := n0_; clear n0_; (try clear hb); (try clear hb2); (try clear hk); (try clear hi)) | ((with_reducible refine zJq (f := 96) rfl ?_); refine goesL_ (some 30) rfl rfl Try.func96 (by kernel_rfl) rfl #[.int .i64 t101] rfl (by (try simp only [zR, zS, zT]); first | done | rfl | (simp only [zP, zQ]; rfl)) ?_; (with_reducible refine (cents_told.calls t101 t106 t107 _ A9.out).mono ?_); rintro e w' ⟨rfl, ⟨nd, rfl⟩⟩; refine ⟨_, rfl, ?_⟩)); go_ret2; exact ⟨qE, qB⟩
  rw [if_neg c5] at H
  have c5b0 : (t103 == 0) = false := beq_eq_false_iff_ne.mpr c5
  have c5b1 : (t103 != 0) = true := bne_iff_ne.mpr c5
  simp only [zNq, zOq] at H
  obtain ⟨rfl, rfl⟩ := H
  go_enter Try.func35, Try.ntmps35
  go_wp2_with (first | ((with_reducible refine zJq (f := 100) rfl ?_); refine goesL_ (some 15) rfl rfl Try.func100 (by kernel_rfl) rfl #[.int .i64 a0, .int .i64 a1, .int .i64 a2] rfl (by (try simp only [zR, zS, zT]); first | done | rfl | (simp only [zP, zQ]; rfl)) ?_; (with_reducible refine (cents_divided.calls k a0 a1 a2 t101 t102 t103 _ A4.out).mono ?_); rintro e w11 ⟨rfl, hb⟩; refine ⟨_, rfl, ?_⟩; have n0_ := zA (zV qB hb); clear HB; have HB := n0_; clear n0_; (try clear hb); (try clear hb2); (try clear hk); (try clear hi)))
  go_ret2
  exact ⟨qE, qB⟩
def fee_Of.f (k : Nat) (a0 : Int) (a1 : Int) : Option (Int × Int) := (fee_may.f a1).bind fun t101 => (if t101 = true then (if a0 < 0 then (some (0, 8)) else ((cents_In.f a0).bind fun t102 => (if t102 = true then ((cents_Half.f k a0 a1 10000).bind fun bt103 => (some (bt103.1, bt103.2))) else (some (0, 8))))) else (some (0, 2)))
theorem fee_Of.mono : ∀ a0 a1 k, LeO (fee_Of.f k a0 a1) (fee_Of.f (k + 1) a0 a1) := by
  intro a0 a1 k
  unfold fee_Of.f
  repeat' first
      | (with_reducible exact cents_Half.mono _ _ _ _)
      | (with_reducible exact LeO.refl _)
      | (with_reducible exact LeO.none _)
      | (with_reducible refine LeO.ite ?_ ?_)
      | (with_reducible refine LeO.bind ?_ (fun _ => ?_))
      | exact cents_Half.mono _ _ _ _
      | exact LeO.none _
      | refine LeO.ite ?_ ?_
      | refine LeO.bind ?_ (fun _ => ?_)
set_option maxHeartbeats 8000000 in
set_option maxRecDepth 100000 in
theorem fee_Of.calls (k : Nat) (a0 : Int) (a1 : Int) (r1 : Int) (r2 : Int) (w : World) (h : fee_Of.f k a0 a1 = some (r1, r2)) :
    Calls Try.prog 40 #[.int .i64 a0, .int .i64 a1] w fun e w' => e = .returned (.tuple #[.int .i64 r1, .int .i64 r2]) ∧ Below w.heap.size w w' := by
  have HB := zA (Below.refl w.heap.size w)
  have H : ((fee_may.f a1).bind fun t101 => (if t101 = true then (if a0 < 0 then (some (0, 8)) else ((cents_In.f a0).bind fun t102 => (if t102 = true then ((cents_Half.f k a0 a1 10000).bind fun bt103 => (some (bt103.1, bt103.2))) else (some (0, 8))))) else (some (0, 2)))) = some (r1, r2) := h
  clear h
  replace H := Option.bind_eq_some_iff.mp H
  obtain ⟨t101, A30, H⟩ := H
  replace H : (if t101 = true then (if a0 < 0 then (some (0, 8)) else ((cents_In.f a0).bind fun t102 => (if t102 = true then ((cents_Half.f k a0 a1 10000).bind fun bt103 => (some (bt103.1, bt103.2))) else (some (0, 8))))) else (some (0, 2))) = some (r1, r2) := H
  have A3 := zA A30
  clear A30
  by_cases c4 : t101 = true
  · subst c4
    have H1 : (if a0 < 0 then (some (0, 8)) else ((cents_In.f a0).bind fun t102 => (if t102 = true then ((cents_Half.f k a0 a1 10000).bind fun bt103 => (some (bt103.1, bt103.2))) else (some (0, 8))))) = some (r1, r2) := by first | (rw [if_pos rfl] at H; exact H) | rfl
    clear H; have H := H1; clear H1; by_cases c5 : a0 < 0
    · rw [if_pos c5] at H
      have c5b0 : decide (a0 < 0) = true := zFq c5; clear c5; simp only [zNq, zOq] at H; obtain ⟨rfl, rfl⟩ := H; go_enter Try.func40, Try.ntmps40; go_wp2_with (first | ((with_reducible refine zJq (f := 103) rfl ?_); refine goesL_ (some 8) rfl rfl Try.func103 (by kernel_rfl) rfl #[.int .i64 a1] rfl (by (try simp only [zR, zS, zT]); first | done | rfl | (simp only [zP, zQ]; rfl)) ?_; (with_reducible refine (fee_may.calls a1 true _ A3.out).mono ?_); rintro e w' ⟨rfl, ⟨nd, rfl⟩⟩; refine ⟨_, rfl, ?_⟩)); go_ret2; exact ⟨qE, qB⟩
    rw [if_neg c5] at H; have c5b0 : decide (a0 < 0) = false := zGq c5; clear c5; replace H := Option.bind_eq_some_iff.mp H; obtain ⟨t102, A60, H⟩ := H; replace H : (if t102 = true then ((cents_Half.f k a0 a1 10000).bind fun bt103 => (some (bt103.1, bt103.2))) else (some (0, 8))) = some (r1, r2) := H; have A6 := zA A60; clear A60; by_cases c7 : t102 = true
    · subst c7
      have H1 : ((cents_Half.f k a0 a1 10000).bind fun bt103 => (some (bt103.1, bt103.2))) = some (r1, r2) := by first | (rw [if_pos rfl] at H; exact H) | rfl
      clear H; have H := H1; clear H1; replace H := Option.bind_eq_some_iff.mp H; obtain ⟨⟨t103, t104⟩, A80, H⟩ := H; replace H : (some (t103, t104)) = some (r1, r2) := H; have A8 := zA A80; clear A80; simp only [zNq, zOq] at H; obtain ⟨rfl, rfl⟩ := H; go_enter Try.func40, Try.ntmps40; go_wp2_with (first | ((with_reducible refine zJq (f := 103) rfl ?_); refine goesL_ (some 8) rfl rfl Try.func103 (by kernel_rfl) rfl #[.int .i64 a1] rfl (by (try simp only [zR, zS, zT]); first | done | rfl | (simp only [zP, zQ]; rfl)) ?_; (with_reducible refine (fee_may.calls a1 true _ A3.out).mono ?_); rintro e w' ⟨rfl, ⟨nd, rfl⟩⟩; refine ⟨_, rfl, ?_⟩) | (go_at_call 31; (with_reducible refine (cents_In.calls a0 true _ A6.out).mono ?_); rintro e w' ⟨rfl, ⟨nd, rfl⟩⟩) | ((with_reducible refine zJq (f := 35) rfl ?_); refine goesL_ (some 20) rfl rfl Try.func35 (by kernel_rfl) rfl #[.int .i64 a0, .int .i64 a1, .int .i64 10000] rfl (by (try simp only [zR, zS, zT]); first | done | rfl | (simp only [zP, zQ]; rfl)) ?_; (with_reducible refine (cents_Half.calls k a0 a1 10000 t103 t104 _ A8.out).mono ?_); rintro e w9 ⟨rfl, hb⟩; refine ⟨_, rfl, ?_⟩; have n0_ := zA (zV qB hb); clear HB; have HB := n0_; clear n0_; (try clear hb); (try clear hb2); (try clear hk); (try clear hi))); go_ret2; exact ⟨qE, qB⟩
    replace c7 := Bool.eq_false_iff.mpr c7; subst c7; have H1 : (some (0, 8)) = some (r1, r2) := by first | (rw [if_neg (show ¬ (false = true) by decide)] at H; exact H) | rfl
    clear H; have H := H1; clear H1; simp only [zNq, zOq] at H; obtain ⟨rfl, rfl⟩ := H; go_enter Try.func40, Try.ntmps40; go_wp2_with (first | ((with_reducible refine zJq (f := 103) rfl ?_); refine goesL_ (some 8) rfl rfl Try.func103 (by kernel_rfl) rfl #[.int .i64 a1] rfl (by (try simp only [zR, zS, zT]); first | done | rfl | (simp only [zP, zQ]; rfl)) ?_; (with_reducible refine (fee_may.calls a1 true _ A3.out).mono ?_); rintro e w' ⟨rfl, ⟨nd, rfl⟩⟩; refine ⟨_, rfl, ?_⟩) | (go_at_call 31; (with_reducible refine (cents_In.calls a0 false _ A6.out).mono ?_); rintro e w' ⟨rfl, ⟨nd, rfl⟩⟩)); go_ret2; exact ⟨qE, qB⟩
  replace c4 := Bool.eq_false_iff.mpr c4
  subst c4
  have H1 : (some (0, 2)) = some (r1, r2) := by first | (rw [if_neg (show ¬ (false = true) by decide)] at H; exact H) | rfl
  clear H
  have H := H1
  clear H1
  simp only [zNq, zOq] at H
  obtain ⟨rfl, rfl⟩ := H
  go_enter Try.func40, Try.ntmps40
  go_wp2_with (first | ((with_reducible refine zJq (f := 103) rfl ?_); refine goesL_ (some 8) rfl rfl Try.func103 (by kernel_rfl) rfl #[.int .i64 a1] rfl (by (try simp only [zR, zS, zT]); first | done | rfl | (simp only [zP, zQ]; rfl)) ?_; (with_reducible refine (fee_may.calls a1 false _ A3.out).mono ?_); rintro e w' ⟨rfl, ⟨nd, rfl⟩⟩; refine ⟨_, rfl, ?_⟩))
  go_ret2
  exact ⟨qE, qB⟩
def fee_paid_less.f (k : Nat) (a0 : Int) (a1 : Int) : Option (Int × Int) := (fee_Of.f k a0 a1).bind fun bt101 => (if bt101.2 = 0 then ((cents_Sub.f a0 bt101.1).bind fun bt103 => (some (bt103.1, bt103.2))) else (some (0, bt101.2)))
theorem fee_paid_less.mono : ∀ a0 a1 k, LeO (fee_paid_less.f k a0 a1) (fee_paid_less.f (k + 1) a0 a1) := by
  intro a0 a1 k
  unfold fee_paid_less.f
  repeat' first
      | (with_reducible exact fee_Of.mono _ _ _)
      | (with_reducible exact LeO.refl _)
      | (with_reducible exact LeO.none _)
      | (with_reducible refine LeO.ite ?_ ?_)
      | (with_reducible refine LeO.bind ?_ (fun _ => ?_))
      | exact fee_Of.mono _ _ _
      | exact LeO.none _
      | refine LeO.ite ?_ ?_
      | refine LeO.bind ?_ (fun _ => ?_)
set_option maxHeartbeats 8000000 in
set_option maxRecDepth 100000 in
theorem fee_paid_less.calls (k : Nat) (a0 : Int) (a1 : Int) (r1 : Int) (r2 : Int) (w : World) (h : fee_paid_less.f k a0 a1 = some (r1, r2)) :
    Calls Try.prog 104 #[.int .i64 a0, .int .i64 a1] w fun e w' => e = .returned (.tuple #[.int .i64 r1, .int .i64 r2]) ∧ Below w.heap.size w w' := by
  have HB := zA (Below.refl w.heap.size w)
  have H : ((fee_Of.f k a0 a1).bind fun bt101 => (if bt101.2 = 0 then ((cents_Sub.f a0 bt101.1).bind fun bt103 => (some (bt103.1, bt103.2))) else (some (0, bt101.2)))) = some (r1, r2) := h
  clear h
  replace H := Option.bind_eq_some_iff.mp H
  obtain ⟨⟨t101, t102⟩, A30, H⟩ := H
  replace H : (if t102 = 0 then ((cents_Sub.f a0 t101).bind fun bt103 => (some (bt103.1, bt103.2))) else (some (0, t102))) = some (r1, r2) := H
  have A3 := zA A30
  clear A30
  by_cases c4 : t102 = 0
  · rw [if_pos c4] at H
    have c4b0 : (t102 == 0) = true := beq_iff_eq.mpr c4; have c4b1 : (t102 != 0) = false := bne_eq_false_iff_eq.mpr c4; clear c4; replace H := Option.bind_eq_some_iff.mp H; obtain ⟨⟨t103, t104⟩, A50, H⟩ := H; replace H : (some (t103, t104)) = some (r1, r2) := H; have A5 := zA A50; clear A50; simp only [zNq, zOq] at H; obtain ⟨rfl, rfl⟩ := H; go_enter Try.func104, Try.ntmps104; go_wp2_with (first | ((with_reducible refine zJq (f := 40) rfl ?_); refine goesL_ (some 11) rfl rfl Try.func40 (by kernel_rfl) rfl #[.int .i64 a0, .int .i64 a1] rfl (by (try simp only [zR, zS, zT]); first | done | rfl | (simp only [zP, zQ]; rfl)) ?_; (with_reducible refine (fee_Of.calls k a0 a1 t101 t102 _ A3.out).mono ?_); rintro e w6 ⟨rfl, hb⟩; refine ⟨_, rfl, ?_⟩; have n0_ := zA (zV qB hb); clear HB; have HB := n0_; clear n0_; (try clear hb); (try clear hb2); (try clear hk); (try clear hi)) | ((with_reducible refine zJq (f := 27) rfl ?_); refine goesL_ (some 19) rfl rfl Try.func27 (by kernel_rfl) rfl #[.int .i64 a0, .int .i64 t101] rfl (by (try simp only [zR, zS, zT]); first | done | rfl | (simp only [zP, zQ]; rfl)) ?_; (with_reducible refine (cents_Sub.calls a0 t101 t103 t104 _ A5.out).mono ?_); rintro e w' ⟨rfl, ⟨nd, rfl⟩⟩; refine ⟨_, rfl, ?_⟩)); go_ret2; exact ⟨qE, qB⟩
  rw [if_neg c4] at H
  have c4b0 : (t102 == 0) = false := beq_eq_false_iff_ne.mpr c4
  have c4b1 : (t102 != 0) = true := bne_iff_ne.mpr c4
  simp only [zNq, zOq] at H
  obtain ⟨rfl, rfl⟩ := H
  go_enter Try.func104, Try.ntmps104
  go_wp2_with (first | ((with_reducible refine zJq (f := 40) rfl ?_); refine goesL_ (some 11) rfl rfl Try.func40 (by kernel_rfl) rfl #[.int .i64 a0, .int .i64 a1] rfl (by (try simp only [zR, zS, zT]); first | done | rfl | (simp only [zP, zQ]; rfl)) ?_; (with_reducible refine (fee_Of.calls k a0 a1 t101 t102 _ A3.out).mono ?_); rintro e w7 ⟨rfl, hb⟩; refine ⟨_, rfl, ?_⟩; have n0_ := zA (zV qB hb); clear HB; have HB := n0_; clear n0_; (try clear hb); (try clear hb2); (try clear hk); (try clear hi)))
  go_ret2
  exact ⟨qE, qB⟩
def fee_Less.f (k : Nat) (a0 : Int) (a1 : Int) : Option (Int × Int) := (fee_paid_less.f k a0 a1).bind fun bt101 => (some (bt101.1, bt101.2))
theorem fee_Less.mono : ∀ a0 a1 k, LeO (fee_Less.f k a0 a1) (fee_Less.f (k + 1) a0 a1) := by
  intro a0 a1 k
  unfold fee_Less.f
  repeat' first
      | (with_reducible exact fee_paid_less.mono _ _ _)
      | (with_reducible exact LeO.refl _)
      | (with_reducible exact LeO.none _)
      | (with_reducible refine LeO.ite ?_ ?_)
      | (with_reducible refine LeO.bind ?_ (fun _ => ?_))
      | exact fee_paid_less.mono _ _ _
      | exact LeO.none _
      | refine LeO.ite ?_ ?_
      | refine LeO.bind ?_ (fun _ => ?_)
set_option maxHeartbeats 8000000 in
set_option maxRecDepth 100000 in
theorem fee_Less.calls (k : Nat) (a0 : Int) (a1 : Int) (r1 : Int) (r2 : Int) (w : World) (h : fee_Less.f k a0 a1 = some (r1, r2)) :
    Calls Try.prog 42 #[.int .i64 a0, .int .i64 a1] w fun e w' => e = .returned (.tuple #[.int .i64 r1, .int .i64 r2]) ∧ Below w.heap.size w w' := by
  have HB := zA (Below.refl w.heap.size w)
  have H : ((fee_paid_less.f k a0 a1).bind fun bt101 => (some (bt101.1, bt101.2))) = some (r1, r2) := h
  clear h
  replace H := Option.bind_eq_some_iff.mp H
  obtain ⟨⟨t101, t102⟩, A30, H⟩ := H
  replace H : (some (t101, t102)) = some (r1, r2) := H
  have A3 := zA A30
  clear A30
  simp only [zNq, zOq] at H
  obtain ⟨rfl, rfl⟩ := H
  go_enter Try.func42, Try.ntmps42
  go_wp2_with (first | ((with_reducible refine zJq (f := 104) rfl ?_); refine goesL_ (some 8) rfl rfl Try.func104 (by kernel_rfl) rfl #[.int .i64 a0, .int .i64 a1] rfl (by (try simp only [zR, zS, zT]); first | done | rfl | (simp only [zP, zQ]; rfl)) ?_; (with_reducible refine (fee_paid_less.calls k a0 a1 t101 t102 _ A3.out).mono ?_); rintro e w4 ⟨rfl, hb⟩; refine ⟨_, rfl, ?_⟩; have n0_ := zA (zV qB hb); clear HB; have HB := n0_; clear n0_; (try clear hb); (try clear hb2); (try clear hk); (try clear hi)))
  go_ret2
  exact ⟨qE, qB⟩
def fee_Check.l0 : Nat → Int → List Int → Int → Int → Option (Int)
  | 0, _, _, _, _ => none
  | k + 1, x3, x9, x10, x11 => if x11 < x10 then (if 0 ≤ x11 then (if x11 < (x9.length : Int) then ((fee_may.f (rd x9 x11)).bind fun t102 => (if t102 = true then (if (rd x9 x11) < x3 then (some 36) else (fee_Check.l0 k (rd x9 x11) x9 x10 (wrap64 (x11 + 1)))) else (some 36))) else (none)) else (none)) else (some 0)
def fee_Check.f (k : Nat) (l0 : List Int) : Option (Int) := if (l0.length : Int) = 4 then (fee_Check.l0 k 0 l0 (l0.length : Int) 0) else (some 36)
theorem fee_Check.mono_l : ∀ k, (∀ y0 y1 y2 y3, LeO (fee_Check.l0 k y0 y1 y2 y3) (fee_Check.l0 (k + 1) y0 y1 y2 y3))
  | 0 => fun _ _ _ _ r h => by simp [fee_Check.l0] at h
  | k + 1 => by
    have ih0 := fee_Check.mono_l k
    intro y0 y1 y2 y3
    unfold fee_Check.l0
    repeat' first
    | (with_reducible exact ih0 _ _ _ _)
    | (with_reducible exact LeO.refl _)
    | (with_reducible exact LeO.none _)
    | (with_reducible refine LeO.ite ?_ ?_)
    | (with_reducible refine LeO.bind ?_ (fun _ => ?_))
    | exact ih0 _ _ _ _
    | exact LeO.none _
    | refine LeO.ite ?_ ?_
    | refine LeO.bind ?_ (fun _ => ?_)
theorem fee_Check.mono : ∀ a0 k, LeO (fee_Check.f k a0) (fee_Check.f (k + 1) a0) := by
  intro a0 k
  have ih0 := fee_Check.mono_l k
  unfold fee_Check.f
  repeat' first
      | (with_reducible exact ih0 _ _ _ _)
      | (with_reducible exact LeO.refl _)
      | (with_reducible exact LeO.none _)
      | (with_reducible refine LeO.ite ?_ ?_)
      | (with_reducible refine LeO.bind ?_ (fun _ => ?_))
      | exact ih0 _ _ _ _
      | exact LeO.none _
      | refine LeO.ite ?_ ?_
      | refine LeO.bind ?_ (fun _ => ?_)
set_option maxHeartbeats 8000000 in
set_option maxRecDepth 100000 in
theorem fee_Check.calls (k : Nat) (A0 : Option Addr) (c0 : Nat) (l0 : List Int) (r : Int) (w : World) (hr0 : Kd.C (Kd.int .i64) w A0 l0.length l0) (hc0 : l0.length ≤ c0) (h : fee_Check.f k l0 = some r) :
    Calls Try.prog 48 #[.slice A0 l0.length c0] w fun e w' => e = .returned (.int .i64 r) ∧ Drawn0 w w' := by
  have HR0 := zA hr0
  have HC0 := zA hc0
  clear hr0 hc0
  have H : (if (l0.length : Int) = 4 then (fee_Check.l0 k 0 l0 (l0.length : Int) 0) else (some 36)) = some r := h
  clear h
  by_cases c2 : (l0.length : Int) = 4
  · rw [if_pos c2] at H
    have c2b0 : ((l0.length : Int) == 4) = true := beq_iff_eq.mpr c2; have c2b1 : ((l0.length : Int) != 4) = false := bne_eq_false_iff_eq.mpr c2; clear c2; have H' := zA H; clear H; go_enter Try.func48, Try.ntmps48; go_wp2; go_loopg [3, 11] k (fun kq v3 v11 w' => ∃ (x3_1 : Int) (x11_1 : Int), v3 = .int .i64 x3_1 ∧ v11 = .int .i64 x11_1 ∧ Aside0 (fee_Check.l0 kq x3_1 l0 (l0.length : Int) x11_1 = some r) ∧ Aside0 (kq ≤ k) ∧ Drawn0 w w')
    case atStart => exact ⟨(0), (0), (by first | rfl | (simp; done) | (simp [*]; done)), (by first | rfl | (simp; done) | (simp [*]; done)), H', ⟨Nat.le_refl _⟩, by repeat (first | exact Drawn0.refl _ | apply Drawn0.step)⟩
    case round =>
      clear H'; try clear c2
      try clear c2b0
      try clear c2b1
      try clear p2
      obtain ⟨x3_1, x11_1, rfl, rfl, HA, HK1, ⟨m1, rfl⟩⟩ := hrel; cases gk with
      | zero => exact absurd HA.out (by simp [fee_Check.l0])
      | succ k1 =>
        have H := HA.out; clear HA; simp only [fee_Check.l0] at H; by_cases c3 : x11_1 < (l0.length : Int)
        · rw [if_pos c3] at H
          have c3b0 : decide (x11_1 < (l0.length : Int)) = true := zFq c3; clear c3; by_cases c4 : 0 ≤ x11_1
          · rw [if_pos c4] at H
            have c4b0 : decide (0 ≤ x11_1) = true := zFq c4; clear c4; by_cases c5 : x11_1 < (l0.length : Int)
            · rw [if_pos c5] at H
              have c5b0 : decide (x11_1 < (l0.length : Int)) = true := zFq c5; clear c5; replace H := Option.bind_eq_some_iff.mp H; obtain ⟨t102, A60, H⟩ := H; replace H : (if t102 = true then (if (rd l0 x11_1) < x3_1 then (some 36) else (fee_Check.l0 k1 (rd l0 x11_1) l0 (l0.length : Int) (wrap64 (x11_1 + 1)))) else (some 36)) = some r := H; have A6 := zA A60; clear A60; by_cases c7 : t102 = true
              · subst c7
                have H1 : (if (rd l0 x11_1) < x3_1 then (some 36) else (fee_Check.l0 k1 (rd l0 x11_1) l0 (l0.length : Int) (wrap64 (x11_1 + 1)))) = some r := by first | (rw [if_pos rfl] at H; exact H) | rfl
                clear H; have H := H1; clear H1; by_cases c8 : (rd l0 x11_1) < x3_1
                · rw [if_pos c8] at H
                  have c8b0 : decide ((rd l0 x11_1) < x3_1) = true := zFq c8; clear c8; obtain rfl := zKq H; have p101 : 0 ≤ (x11_1 : Int) := of_decide_eq_true qA; have q101 : x11_1 < (l0.length : Int) := of_decide_eq_true qA; obtain ⟨ad101, e101, hx101_0⟩ := Kd.at_int HR0.out x11_1 p101 q101; cases e101
                  replace p101 := eq_true p101; replace q101 := eq_true q101; go_wp2_with (first | ((with_reducible refine zJq (f := 103) rfl ?_); refine goesL_ (some 16) rfl rfl Try.func103 (by kernel_rfl) rfl #[.int .i64 (rd l0 x11_1)] rfl (by (try simp only [zR, zS, zT]); first | done | rfl | (simp only [zP, zQ]; rfl)) ?_; (with_reducible refine (fee_may.calls (rd l0 x11_1) true _ A6.out).mono ?_); rintro e w' ⟨rfl, ⟨nd, rfl⟩⟩; refine ⟨_, rfl, ?_⟩)); go_ret; exact ⟨by first | rfl | (simp; done) | (simp [*]; done), by repeat (first | exact Drawn0.refl _ | apply Drawn0.step)⟩
                rw [if_neg c8] at H; have c8b0 : decide ((rd l0 x11_1) < x3_1) = false := zGq c8; clear c8; have H' := zA H; clear H; have p101 : 0 ≤ (x11_1 : Int) := of_decide_eq_true qA; have q101 : x11_1 < (l0.length : Int) := of_decide_eq_true qA; obtain ⟨ad101, e101, hx101_0⟩ := Kd.at_int HR0.out x11_1 p101 q101; cases e101
                replace p101 := eq_true p101; replace q101 := eq_true q101; go_wp2_with (first | ((with_reducible refine zJq (f := 103) rfl ?_); refine goesL_ (some 16) rfl rfl Try.func103 (by kernel_rfl) rfl #[.int .i64 (rd l0 x11_1)] rfl (by (try simp only [zR, zS, zT]); first | done | rfl | (simp only [zP, zQ]; rfl)) ?_; (with_reducible refine (fee_may.calls (rd l0 x11_1) true _ A6.out).mono ?_); rintro e w' ⟨rfl, ⟨nd, rfl⟩⟩; refine ⟨_, rfl, ?_⟩)); go_roundg k1
                case measure => have := HK1.out; omega
                case rel => exact ⟨(rd l0 x11_1), (wrap64 (x11_1 + 1)), (by first | rfl | (simp; done) | (simp [*]; done)), (by first | rfl | (simp; done) | (simp [*]; done)), H', ⟨by have := HK1.out; omega⟩, by repeat (first | exact Drawn0.refl _ | apply Drawn0.step)⟩
              replace c7 := Bool.eq_false_iff.mpr c7; subst c7; have H1 : (some 36) = some r := by first | (rw [if_neg (show ¬ (false = true) by decide)] at H; exact H) | rfl
              clear H; have H := H1; clear H1; obtain rfl := zKq H; have p101 : 0 ≤ (x11_1 : Int) := of_decide_eq_true qA; have q101 : x11_1 < (l0.length : Int) := of_decide_eq_true qA; obtain ⟨ad101, e101, hx101_0⟩ := Kd.at_int HR0.out x11_1 p101 q101; cases e101
              replace p101 := eq_true p101; replace q101 := eq_true q101; go_wp2_with (first | ((with_reducible refine zJq (f := 103) rfl ?_); refine goesL_ (some 16) rfl rfl Try.func103 (by kernel_rfl) rfl #[.int .i64 (rd l0 x11_1)] rfl (by (try simp only [zR, zS, zT]); first | done | rfl | (simp only [zP, zQ]; rfl)) ?_; (with_reducible refine (fee_may.calls (rd l0 x11_1) false _ A6.out).mono ?_); rintro e w' ⟨rfl, ⟨nd, rfl⟩⟩; refine ⟨_, rfl, ?_⟩)); go_ret; exact ⟨by first | rfl | (simp; done) | (simp [*]; done), by repeat (first | exact Drawn0.refl _ | apply Drawn0.step)⟩
            rw [if_neg c5] at H; exact absurd H (by simp)
          rw [if_neg c4] at H; exact absurd H (by simp)
        rw [if_neg c3] at H; have c3b0 : decide (x11_1 < (l0.length : Int)) = false := zGq c3; clear c3; obtain rfl := zKq H; go_wp2; go_ret; exact ⟨by first | rfl | (simp; done) | (simp [*]; done), by repeat (first | exact Drawn0.refl _ | apply Drawn0.step)⟩
  rw [if_neg c2] at H
  have c2b0 : ((l0.length : Int) == 4) = false := beq_eq_false_iff_ne.mpr c2
  have c2b1 : ((l0.length : Int) != 4) = true := bne_iff_ne.mpr c2
  obtain rfl := zKq H
  go_enter Try.func48, Try.ntmps48
  go_wp2
  go_ret
  exact ⟨by first | rfl | (simp; done) | (simp [*]; done), by repeat (first | exact Drawn0.refl _ | apply Drawn0.step)⟩
def fee_Grade.f (k : Nat) (a0 : Int) (l1 : List Int) (a2 : Int) : Option (Int × Int) := (fee_Check.f k l1).bind fun t101 => (if t101 = 0 then (if a2 < 0 then (some (0, 2)) else (if a2 ≥ 4 then (some (0, 2)) else (if 0 ≤ a2 then (if a2 < (l1.length : Int) then ((fee_Less.f k a0 (rd l1 a2)).bind fun bt103 => (some (bt103.1, bt103.2))) else (none)) else (none)))) else (some (0, t101)))
theorem fee_Grade.mono : ∀ a0 a1 a2 k, LeO (fee_Grade.f k a0 a1 a2) (fee_Grade.f (k + 1) a0 a1 a2) := by
  intro a0 a1 a2 k
  unfold fee_Grade.f
  repeat' first
      | (with_reducible exact fee_Check.mono _ _)
      | (with_reducible exact fee_Less.mono _ _ _)
      | (with_reducible exact LeO.refl _)
      | (with_reducible exact LeO.none _)
      | (with_reducible refine LeO.ite ?_ ?_)
      | (with_reducible refine LeO.bind ?_ (fun _ => ?_))
      | exact fee_Check.mono _ _
      | exact fee_Less.mono _ _ _
      | exact LeO.none _
      | refine LeO.ite ?_ ?_
      | refine LeO.bind ?_ (fun _ => ?_)
set_option maxHeartbeats 8000000 in
set_option maxRecDepth 100000 in
theorem fee_Grade.calls (k : Nat) (a0 : Int) (A1 : Option Addr) (c1 : Nat) (l1 : List Int) (a2 : Int) (r1 : Int) (r2 : Int) (w : World) (hr1 : Kd.C (Kd.int .i64) w A1 l1.length l1) (hc1 : l1.length ≤ c1) (h : fee_Grade.f k a0 l1 a2 = some (r1, r2)) :
    Calls Try.prog 44 #[.int .i64 a0, .slice A1 l1.length c1, .int .i64 a2] w fun e w' => e = .returned (.tuple #[.int .i64 r1, .int .i64 r2]) ∧ Below w.heap.size w w' := by
  have HR1 := zA hr1
  have HC1 := zA hc1
  clear hr1 hc1
  have HB := zA (Below.refl w.heap.size w)
  have H : ((fee_Check.f k l1).bind fun t101 => (if t101 = 0 then (if a2 < 0 then (some (0, 2)) else (if a2 ≥ 4 then (some (0, 2)) else (if 0 ≤ a2 then (if a2 < (l1.length : Int) then ((fee_Less.f k a0 (rd l1 a2)).bind fun bt103 => (some (bt103.1, bt103.2))) else (none)) else (none)))) else (some (0, t101)))) = some (r1, r2) := h
  clear h
  replace H := Option.bind_eq_some_iff.mp H
  obtain ⟨t101, A40, H⟩ := H
  replace H : (if t101 = 0 then (if a2 < 0 then (some (0, 2)) else (if a2 ≥ 4 then (some (0, 2)) else (if 0 ≤ a2 then (if a2 < (l1.length : Int) then ((fee_Less.f k a0 (rd l1 a2)).bind fun bt103 => (some (bt103.1, bt103.2))) else (none)) else (none)))) else (some (0, t101))) = some (r1, r2) := H
  have A4 := zA A40
  clear A40
  by_cases c5 : t101 = 0
  · rw [if_pos c5] at H
    have c5b0 : (t101 == 0) = true := beq_iff_eq.mpr c5; have c5b1 : (t101 != 0) = false := bne_eq_false_iff_eq.mpr c5; clear c5; by_cases c6 : a2 < 0
    · rw [if_pos c6] at H
      have c6b0 : decide (a2 < 0) = true := zFq c6; clear c6; simp only [zNq, zOq] at H; obtain ⟨rfl, rfl⟩ := H; go_enter Try.func44, Try.ntmps44; go_wp2_with (first | ((with_reducible refine zJq (f := 48) rfl ?_); refine goesL_ (some 10) rfl rfl Try.func48 (by kernel_rfl) rfl #[.slice A1 l1.length c1] rfl (by (try simp only [zR, zS, zT]); first | done | rfl | (simp only [zP, zQ]; rfl)) ?_; (with_reducible refine (fee_Check.calls k _ _ l1 t101 _ ?side1 ?side2 A4.out).mono ?_); (case side1 => repeat (first | exact HR1.out | (with_reducible refine Kd.C_alloc ?_ _) | (with_reducible refine Kd.C_drewN ?_ _) | (with_reducible refine Kd.C_drew ?_))); (case side2 => exact HC1.out); rintro e w' ⟨rfl, ⟨nd, rfl⟩⟩; refine ⟨_, rfl, ?_⟩)); go_ret2; exact ⟨qE, qB⟩
    rw [if_neg c6] at H; have c6b0 : decide (a2 < 0) = false := zGq c6; clear c6; by_cases c7 : a2 ≥ 4
    · rw [if_pos c7] at H
      have c7b0 : decide (4 ≤ a2) = true := zFq c7; clear c7; simp only [zNq, zOq] at H; obtain ⟨rfl, rfl⟩ := H; go_enter Try.func44, Try.ntmps44; go_wp2_with (first | ((with_reducible refine zJq (f := 48) rfl ?_); refine goesL_ (some 10) rfl rfl Try.func48 (by kernel_rfl) rfl #[.slice A1 l1.length c1] rfl (by (try simp only [zR, zS, zT]); first | done | rfl | (simp only [zP, zQ]; rfl)) ?_; (with_reducible refine (fee_Check.calls k _ _ l1 t101 _ ?side1 ?side2 A4.out).mono ?_); (case side1 => repeat (first | exact HR1.out | (with_reducible refine Kd.C_alloc ?_ _) | (with_reducible refine Kd.C_drewN ?_ _) | (with_reducible refine Kd.C_drew ?_))); (case side2 => exact HC1.out); rintro e w' ⟨rfl, ⟨nd, rfl⟩⟩; refine ⟨_, rfl, ?_⟩)); go_ret2; exact ⟨qE, qB⟩
    rw [if_neg c7] at H; have c7b0 : decide (4 ≤ a2) = false := zGq c7; clear c7; by_cases c8 : 0 ≤ a2
    · rw [if_pos c8] at H
      have c8b0 : decide (0 ≤ a2) = true := zFq c8; clear c8; by_cases c9 : a2 < (l1.length : Int)
      · rw [if_pos c9] at H
        have c9b0 : decide (a2 < (l1.length : Int)) = true := zFq c9; clear c9; replace H := Option.bind_eq_some_iff.mp H; obtain ⟨⟨t103, t104⟩, A100, H⟩ := H; replace H : (some (t103, t104)) = some (r1, r2) := H; have A10 := zA A100; clear A100; simp only [zNq, zOq] at H; obtain ⟨rfl, rfl⟩ := H; go_enter Try.func44, Try.ntmps44; go_wp2_with (first | ((with_reducible refine zJq (f := 48) rfl ?_); refine goesL_ (some 10) rfl rfl Try.func48 (by kernel_rfl) rfl #[.slice A1 l1.length c1] rfl (by (try simp only [zR, zS, zT]); first | done | rfl | (simp only [zP, zQ]; rfl)) ?_; (with_reducible refine (fee_Check.calls k _ _ l1 t101 _ ?side1 ?side2 A4.out).mono ?_); (case side1 => repeat (first | exact HR1.out | (with_reducible refine Kd.C_alloc ?_ _) | (with_reducible refine Kd.C_drewN ?_ _) | (with_reducible refine Kd.C_drew ?_))); (case side2 => exact HC1.out); rintro e w' ⟨rfl, ⟨nd, rfl⟩⟩; refine ⟨_, rfl, ?_⟩; have p102 : 0 ≤ (a2 : Int) := of_decide_eq_true qA; have q102 : a2 < (l1.length : Int) := of_decide_eq_true qA; obtain ⟨ad102, e102, hx102_0⟩ := Kd.at_int HR1.out a2 p102 q102; cases e102; replace p102 := eq_true p102; replace q102 := eq_true q102) | ((with_reducible refine zJq (f := 42) rfl ?_); refine goesL_ (some 25) rfl rfl Try.func42 (by kernel_rfl) rfl #[.int .i64 a0, .int .i64 (rd l1 a2)] rfl (by (try simp only [zR, zS, zT]); first | done | rfl | (simp only [zP, zQ]; rfl)) ?_; (with_reducible refine (fee_Less.calls k a0 (rd l1 a2) t103 t104 _ A10.out).mono ?_); rintro e w11 ⟨rfl, hb⟩; refine ⟨_, rfl, ?_⟩; have n0_ := zA (zV qB hb); clear HB; have HB := n0_; clear n0_; (try clear hb); (try clear hb2); (try clear hk); (try clear hi))); go_ret2; exact ⟨qE, qB⟩
      rw [if_neg c9] at H; exact absurd H (by simp)
    rw [if_neg c8] at H; exact absurd H (by simp)
  rw [if_neg c5] at H
  have c5b0 : (t101 == 0) = false := beq_eq_false_iff_ne.mpr c5
  have c5b1 : (t101 != 0) = true := bne_iff_ne.mpr c5
  simp only [zNq, zOq] at H
  obtain ⟨rfl, rfl⟩ := H
  go_enter Try.func44, Try.ntmps44
  go_wp2_with (first | ((with_reducible refine zJq (f := 48) rfl ?_); refine goesL_ (some 10) rfl rfl Try.func48 (by kernel_rfl) rfl #[.slice A1 l1.length c1] rfl (by (try simp only [zR, zS, zT]); first | done | rfl | (simp only [zP, zQ]; rfl)) ?_; (with_reducible refine (fee_Check.calls k _ _ l1 t101 _ ?side1 ?side2 A4.out).mono ?_); (case side1 => repeat (first | exact HR1.out | (with_reducible refine Kd.C_alloc ?_ _) | (with_reducible refine Kd.C_drewN ?_ _) | (with_reducible refine Kd.C_drew ?_))); (case side2 => exact HC1.out); rintro e w' ⟨rfl, ⟨nd, rfl⟩⟩; refine ⟨_, rfl, ?_⟩))
  go_ret2
  exact ⟨qE, qB⟩
def value_terms_left.f (k : Nat) (l0 : List Int) (a1 : Int) (a2 : Int) : Option (Int × Int) := (fee_Grade.f k a1 l0 a2).bind fun bt101 => (some (bt101.1, bt101.2))
theorem value_terms_left.mono : ∀ a0 a1 a2 k, LeO (value_terms_left.f k a0 a1 a2) (value_terms_left.f (k + 1) a0 a1 a2) := by
  intro a0 a1 a2 k
  unfold value_terms_left.f
  repeat' first
      | (with_reducible exact fee_Grade.mono _ _ _ _)
      | (with_reducible exact LeO.refl _)
      | (with_reducible exact LeO.none _)
      | (with_reducible refine LeO.ite ?_ ?_)
      | (with_reducible refine LeO.bind ?_ (fun _ => ?_))
      | exact fee_Grade.mono _ _ _ _
      | exact LeO.none _
      | refine LeO.ite ?_ ?_
      | refine LeO.bind ?_ (fun _ => ?_)
set_option maxHeartbeats 8000000 in
set_option maxRecDepth 100000 in
theorem value_terms_left.calls (k : Nat) (A0 : Option Addr) (c0 : Nat) (l0 : List Int) (a1 : Int) (a2 : Int) (r1 : Int) (r2 : Int) (w : World) (hr0 : Kd.C (Kd.int .i64) w A0 l0.length l0) (hc0 : l0.length ≤ c0) (h : value_terms_left.f k l0 a1 a2 = some (r1, r2)) :
    Calls Try.prog 123 #[.slice A0 l0.length c0, .int .i64 a1, .int .i64 a2] w fun e w' => e = .returned (.tuple #[.int .i64 r1, .int .i64 r2]) ∧ Below w.heap.size w w' := by
  have HR0 := zA hr0
  have HC0 := zA hc0
  clear hr0 hc0
  have HB := zA (Below.refl w.heap.size w)
  have H : ((fee_Grade.f k a1 l0 a2).bind fun bt101 => (some (bt101.1, bt101.2))) = some (r1, r2) := h
  clear h
  replace H := Option.bind_eq_some_iff.mp H
  obtain ⟨⟨t101, t102⟩, A40, H⟩ := H
  replace H : (some (t101, t102)) = some (r1, r2) := H
  have A4 := zA A40
  clear A40
  simp only [zNq, zOq] at H
  obtain ⟨rfl, rfl⟩ := H
  go_enter Try.func123, Try.ntmps123
  go_wp2_with (first | ((with_reducible refine zJq (f := 44) rfl ?_); refine goesL_ (some 11) rfl rfl Try.func44 (by kernel_rfl) rfl #[.int .i64 a1, .slice A0 l0.length c0, .int .i64 a2] rfl (by (try simp only [zR, zS, zT]); first | done | rfl | (simp only [zP, zQ]; rfl)) ?_; (with_reducible refine (fee_Grade.calls k a1 _ _ l0 a2 t101 t102 _ ?side1 ?side2 A4.out).mono ?_); (case side1 => repeat (first | exact HR0.out | (with_reducible refine Kd.C_alloc ?_ _) | (with_reducible refine Kd.C_drewN ?_ _) | (with_reducible refine Kd.C_drew ?_))); (case side2 => exact HC0.out); rintro e w5 ⟨rfl, hb⟩; refine ⟨_, rfl, ?_⟩; have n0_ := zA (zV qB hb); clear HB; have HB := n0_; clear n0_; (try clear hb); (try clear hb2); (try clear hk); (try clear hi)))
  go_ret2
  exact ⟨qE, qB⟩
def value_Of.f (k : Nat) (a0_0 : Int) (a0_1 : Int) (a0_2 : Int) (a0_3 : Int) (l0_4 : List ByteArray) (a1 : Int) (l2 : List Int) (a3 : Int) : Option (Int × Int) := (value_Full.f k a0_0 a0_1 a0_2 a0_3 l0_4 a1).bind fun bt102 => (if bt102.2 = 0 then ((value_terms_left.f k l2 bt102.1 a3).bind fun bt104 => (some (bt104.1, bt104.2))) else (some (0, bt102.2)))
theorem value_Of.mono : ∀ a0 a1 a2 a3 a4 a5 a6 a7 k, LeO (value_Of.f k a0 a1 a2 a3 a4 a5 a6 a7) (value_Of.f (k + 1) a0 a1 a2 a3 a4 a5 a6 a7) := by
  intro a0 a1 a2 a3 a4 a5 a6 a7 k
  unfold value_Of.f
  repeat' first
      | (with_reducible exact value_Full.mono _ _ _ _ _ _ _)
      | (with_reducible exact value_terms_left.mono _ _ _ _)
      | (with_reducible exact LeO.refl _)
      | (with_reducible exact LeO.none _)
      | (with_reducible refine LeO.ite ?_ ?_)
      | (with_reducible refine LeO.bind ?_ (fun _ => ?_))
      | exact value_Full.mono _ _ _ _ _ _ _
      | exact value_terms_left.mono _ _ _ _
      | exact LeO.none _
      | refine LeO.ite ?_ ?_
      | refine LeO.bind ?_ (fun _ => ?_)
set_option maxHeartbeats 8000000 in
set_option maxRecDepth 100000 in
theorem value_Of.calls (k : Nat) (a0_0 : Int) (a0_1 : Int) (a0_2 : Int) (a0_3 : Int) (A0_4 : Option Addr) (c0_4 : Nat) (l0_4 : List ByteArray) (a1 : Int) (A2 : Option Addr) (c2 : Nat) (l2 : List Int) (a3 : Int) (r1 : Int) (r2 : Int) (w : World) (hr0_4 : Kd.C Kd.string w A0_4 l0_4.length l0_4) (hc0_4 : l0_4.length ≤ c0_4) (hr2 : Kd.C (Kd.int .i64) w A2 l2.length l2) (hc2 : l2.length ≤ c2) (h : value_Of.f k a0_0 a0_1 a0_2 a0_3 l0_4 a1 l2 a3 = some (r1, r2)) :
    Calls Try.prog 76 #[.agg #[.int .i64 a0_0, .int .i64 a0_1, .int .i64 a0_2, .int .i64 a0_3, .slice A0_4 l0_4.length c0_4], .int .i64 a1, .slice A2 l2.length c2, .int .i64 a3] w fun e w' => e = .returned (.tuple #[.int .i64 r1, .int .i64 r2]) ∧ Below w.heap.size w w' := by
  have hu71 := Try.underlying71
  have hmf : ∀ (fn : Fn) (first cap : Array Value) (w : World), (Instr.makeFunc fn first cap).run Try.prog w = .ok (.func fn first cap) w := fun _ _ _ _ => rfl
  have HR0_4 := zA hr0_4
  have HC0_4 := zA hc0_4
  clear hr0_4 hc0_4
  have HR2 := zA hr2
  have HC2 := zA hc2
  clear hr2 hc2
  have HB := zA (Below.refl w.heap.size w)
  have H : ((value_Full.f k a0_0 a0_1 a0_2 a0_3 l0_4 a1).bind fun bt102 => (if bt102.2 = 0 then ((value_terms_left.f k l2 bt102.1 a3).bind fun bt104 => (some (bt104.1, bt104.2))) else (some (0, bt102.2)))) = some (r1, r2) := h
  clear h
  replace H := Option.bind_eq_some_iff.mp H
  obtain ⟨⟨t102, t103⟩, A50, H⟩ := H
  replace H : (if t103 = 0 then ((value_terms_left.f k l2 t102 a3).bind fun bt104 => (some (bt104.1, bt104.2))) else (some (0, t103))) = some (r1, r2) := H
  have A5 := zA A50
  clear A50
  by_cases c6 : t103 = 0
  · rw [if_pos c6] at H
    have c6b0 : (t103 == 0) = true := beq_iff_eq.mpr c6; have c6b1 : (t103 != 0) = false := bne_eq_false_iff_eq.mpr c6; clear c6; replace H := Option.bind_eq_some_iff.mp H; obtain ⟨⟨t104, t105⟩, A70, H⟩ := H; replace H : (some (t104, t105)) = some (r1, r2) := H; have A7 := zA A70; clear A70; simp only [zNq, zOq] at H; obtain ⟨rfl, rfl⟩ := H; go_enter Try.func76, Try.ntmps76; go_wp2_with (first | ((with_reducible refine gate_dst (N := 4) rfl ?_); refine box_event qr (N := 4) qr (cs := #[.int .i64 a0_0, .int .i64 a0_1, .int .i64 a0_2, .int .i64 a0_3, .slice A0_4 l0_4.length c0_4]) (t := 71) qg ?_; intro gb101 hg w8 hbox hb; have n0_ := zA (zV qB hb); have n1_ := zA (hbox); have n2_ := zA ((qS : w.heap.size ≤ gb101)); have n3_ := zA ((qS : w.heap.size ≤ gb101)); clear HB; have HB := n0_; have BK101 := n1_; have GW101 := n2_; have GE101 := n3_; clear n0_ n1_ n2_ n3_ hb hbox hg; obtain ⟨_, _, _, _, _, _, _, _, _, _⟩ := qc5f BK101.out) | ((with_reducible refine zJq (f := 74) rfl ?_); refine goesL_ (some 16) rfl rfl Try.func74 (by kernel_rfl) rfl #[.agg #[.int .i64 a0_0, .int .i64 a0_1, .int .i64 a0_2, .int .i64 a0_3, .slice A0_4 l0_4.length c0_4], .int .i64 a1] rfl (by (try simp only [zR, zS, zT]); first | done | rfl | (simp only [zP, zQ]; rfl)) ?_; (with_reducible refine (value_Full.calls k a0_0 a0_1 a0_2 a0_3 _ _ l0_4 a1 t102 t103 _ ?side1 ?side2 A5.out).mono ?_); (case side1 => exact qC (Kd.C_below HR0_4.out HB.out)); (case side2 => exact HC0_4.out); rintro e w10 ⟨rfl, hb⟩; refine ⟨_, rfl, ?_⟩; have n0_ := zA (qX BK101.out hb); have n1_ := zA (zV qB hb); clear BK101 HB; have BK101 := n0_; have HB := n1_; clear n0_ n1_; (try clear hb); (try clear hb2); (try clear hk); (try clear hi)) | (go_at_call 123; (with_reducible refine (value_terms_left.calls k _ _ l2 t102 a3 t104 t105 _ ?side1 ?side2 A7.out).mono ?_); (case side1 => exact qC (Kd.C_below HR2.out HB.out)); (case side2 => exact HC2.out); rintro e w11 ⟨rfl, hb⟩; have n0_ := zA (qX BK101.out hb); have n1_ := zA (zV qB hb); clear BK101 HB; have BK101 := n0_; have HB := n1_; clear n0_ n1_; (try clear hb); (try clear hb2); (try clear hk); (try clear hi))); go_ret2; exact ⟨qE, qB⟩
  rw [if_neg c6] at H
  have c6b0 : (t103 == 0) = false := beq_eq_false_iff_ne.mpr c6
  have c6b1 : (t103 != 0) = true := bne_iff_ne.mpr c6
  simp only [zNq, zOq] at H
  obtain ⟨rfl, rfl⟩ := H
  go_enter Try.func76, Try.ntmps76
  go_wp2_with (first | ((with_reducible refine gate_dst (N := 4) rfl ?_); refine box_event qr (N := 4) qr (cs := #[.int .i64 a0_0, .int .i64 a0_1, .int .i64 a0_2, .int .i64 a0_3, .slice A0_4 l0_4.length c0_4]) (t := 71) qg ?_; intro gb101 hg w12 hbox hb; have n0_ := zA (zV qB hb); have n1_ := zA (hbox); have n2_ := zA ((qS : w.heap.size ≤ gb101)); have n3_ := zA ((qS : w.heap.size ≤ gb101)); clear HB; have HB := n0_; have BK101 := n1_; have GW101 := n2_; have GE101 := n3_; clear n0_ n1_ n2_ n3_ hb hbox hg; obtain ⟨_, _, _, _, _, _, _, _, _, _⟩ := qc5f BK101.out) | ((with_reducible refine zJq (f := 74) rfl ?_); refine goesL_ (some 16) rfl rfl Try.func74 (by kernel_rfl) rfl #[.agg #[.int .i64 a0_0, .int .i64 a0_1, .int .i64 a0_2, .int .i64 a0_3, .slice A0_4 l0_4.length c0_4], .int .i64 a1] rfl (by (try simp only [zR, zS, zT]); first | done | rfl | (simp only [zP, zQ]; rfl)) ?_; (with_reducible refine (value_Full.calls k a0_0 a0_1 a0_2 a0_3 _ _ l0_4 a1 t102 t103 _ ?side1 ?side2 A5.out).mono ?_); (case side1 => exact qC (Kd.C_below HR0_4.out HB.out)); (case side2 => exact HC0_4.out); rintro e w14 ⟨rfl, hb⟩; refine ⟨_, rfl, ?_⟩; have n0_ := zA (qX BK101.out hb); have n1_ := zA (zV qB hb); clear BK101 HB; have BK101 := n0_; have HB := n1_; clear n0_ n1_; (try clear hb); (try clear hb2); (try clear hk); (try clear hi)))
  go_ret2
  exact ⟨qE, qB⟩
def value_All.l0 : Nat → List Int → List Int → List Int → Int → Int → Int → Int → Int → Int → List ByteArray → Option (List Int × Int × Int)
  | 0, _, _, _, _, _, _, _, _, _, _ => none
  | k + 1, x1, x10, x28, x29, x30, x102000, x102001, x102002, x102003, x102004 => if x30 < x29 then (if 0 ≤ x30 then (if x30 < (x28.length : Int) then ((value_Of.f k x102000 x102001 x102002 x102003 x102004 x30 x1 (rd x28 x30)).bind fun bt104 => (if bt104.2 = 0 then (if x10.length < 17592186044416 then (value_All.l0 k x1 (x10 ++ [bt104.1]) x28 x29 (wrap64 (x30 + 1)) x102000 x102001 x102002 x102003 x102004) else (none)) else (some (([] : List Int), 0, bt104.2)))) else (none)) else (none)) else ((cents_Add.f k x10).bind fun bt109 => (if bt109.2 = 0 then (some (x10, bt109.1, 0)) else (some (([] : List Int), 0, bt109.2))))
def value_All.f (k : Nat) (a0_0 : Int) (a0_1 : Int) (a0_2 : Int) (a0_3 : Int) (l0_4 : List ByteArray) (l1 : List Int) (l2 : List Int) : Option (List Int × Int × Int) := (line_Check.f k a0_0 a0_1 a0_2 a0_3 l0_4).bind fun t102 => (if t102 = 0 then (if (l2.length : Int) = (l0_4.length : Int) then (value_All.l0 k l1 ([] : List Int) l2 (l2.length : Int) 0 a0_0 a0_1 a0_2 a0_3 l0_4) else (some (([] : List Int), 0, 2))) else (some (([] : List Int), 0, t102)))
theorem value_All.mono_l : ∀ k, (∀ y0 y1 y2 y3 y4 y5 y6 y7 y8 y9, LeO (value_All.l0 k y0 y1 y2 y3 y4 y5 y6 y7 y8 y9) (value_All.l0 (k + 1) y0 y1 y2 y3 y4 y5 y6 y7 y8 y9))
  | 0 => fun _ _ _ _ _ _ _ _ _ _ r h => by simp [value_All.l0] at h
  | k + 1 => by
    have ih0 := value_All.mono_l k
    intro y0 y1 y2 y3 y4 y5 y6 y7 y8 y9
    unfold value_All.l0
    repeat' first
    | (with_reducible exact ih0 _ _ _ _ _ _ _ _ _ _)
    | (with_reducible exact cents_Add.mono _ _)
    | (with_reducible exact line_Check.mono _ _ _ _ _ _)
    | (with_reducible exact value_Of.mono _ _ _ _ _ _ _ _ _)
    | (with_reducible exact LeO.refl _)
    | (with_reducible exact LeO.none _)
    | (with_reducible refine LeO.ite ?_ ?_)
    | (with_reducible refine LeO.bind ?_ (fun _ => ?_))
    | exact ih0 _ _ _ _ _ _ _ _ _ _
    | exact cents_Add.mono _ _
    | exact line_Check.mono _ _ _ _ _ _
    | exact value_Of.mono _ _ _ _ _ _ _ _ _
    | exact LeO.none _
    | refine LeO.ite ?_ ?_
    | refine LeO.bind ?_ (fun _ => ?_)
theorem value_All.mono : ∀ a0 a1 a2 a3 a4 a5 a6 k, LeO (value_All.f k a0 a1 a2 a3 a4 a5 a6) (value_All.f (k + 1) a0 a1 a2 a3 a4 a5 a6) := by
  intro a0 a1 a2 a3 a4 a5 a6 k
  have ih0 := value_All.mono_l k
  unfold value_All.f
  repeat' first
      | (with_reducible exact ih0 _ _ _ _ _ _ _ _ _ _)
      | (with_reducible exact cents_Add.mono _ _)
      | (with_reducible exact line_Check.mono _ _ _ _ _ _)
      | (with_reducible exact value_Of.mono _ _ _ _ _ _ _ _ _)
      | (with_reducible exact LeO.refl _)
      | (with_reducible exact LeO.none _)
      | (with_reducible refine LeO.ite ?_ ?_)
      | (with_reducible refine LeO.bind ?_ (fun _ => ?_))
      | exact ih0 _ _ _ _ _ _ _ _ _ _
      | exact cents_Add.mono _ _
      | exact line_Check.mono _ _ _ _ _ _
      | exact value_Of.mono _ _ _ _ _ _ _ _ _
      | exact LeO.none _
      | refine LeO.ite ?_ ?_
      | refine LeO.bind ?_ (fun _ => ?_)
set_option maxHeartbeats 8000000 in
set_option maxRecDepth 100000 in
theorem value_All.calls (k : Nat) (a0_0 : Int) (a0_1 : Int) (a0_2 : Int) (a0_3 : Int) (A0_4 : Option Addr) (c0_4 : Nat) (l0_4 : List ByteArray) (A1 : Option Addr) (c1 : Nat) (l1 : List Int) (A2 : Option Addr) (c2 : Nat) (l2 : List Int) (r1 : List Int) (r2 : Int) (r3 : Int) (w : World) (hr0_4 : Kd.C Kd.string w A0_4 l0_4.length l0_4) (hc0_4 : l0_4.length ≤ c0_4) (hr1 : Kd.C (Kd.int .i64) w A1 l1.length l1) (hc1 : l1.length ≤ c1) (hr2 : Kd.C (Kd.int .i64) w A2 l2.length l2) (hc2 : l2.length ≤ c2) (h : value_All.f k a0_0 a0_1 a0_2 a0_3 l0_4 l1 l2 = some (r1, r2, r3)) :
    Calls Try.prog 78 #[.agg #[.int .i64 a0_0, .int .i64 a0_1, .int .i64 a0_2, .int .i64 a0_3, .slice A0_4 l0_4.length c0_4], .slice A1 l1.length c1, .slice A2 l2.length c2] w fun e w' => ∃ v0_ : Value, e = .returned (.tuple #[v0_, .int .i64 r2, .int .i64 r3]) ∧ Kd.R (Kd.int .i64) 3 w' w.heap.size (fun _ => True) v0_ r1 ∧ Below w.heap.size w w' := by
  have hu71 := Try.underlying71
  have HR0_4 := zA hr0_4
  have HC0_4 := zA hc0_4
  clear hr0_4 hc0_4
  have HR1 := zA hr1
  have HC1 := zA hc1
  clear hr1 hc1
  have HR2 := zA hr2
  have HC2 := zA hc2
  clear hr2 hc2
  have HB := zA (Below.refl w.heap.size w)
  have H : ((line_Check.f k a0_0 a0_1 a0_2 a0_3 l0_4).bind fun t102 => (if t102 = 0 then (if (l2.length : Int) = (l0_4.length : Int) then (value_All.l0 k l1 ([] : List Int) l2 (l2.length : Int) 0 a0_0 a0_1 a0_2 a0_3 l0_4) else (some (([] : List Int), 0, 2))) else (some (([] : List Int), 0, t102)))) = some (r1, r2, r3) := h
  clear h
  replace H := Option.bind_eq_some_iff.mp H
  obtain ⟨t102, A40, H⟩ := H
  replace H : (if t102 = 0 then (if (l2.length : Int) = (l0_4.length : Int) then (value_All.l0 k l1 ([] : List Int) l2 (l2.length : Int) 0 a0_0 a0_1 a0_2 a0_3 l0_4) else (some (([] : List Int), 0, 2))) else (some (([] : List Int), 0, t102))) = some (r1, r2, r3) := H
  have A4 := zA A40
  clear A40
  by_cases c5 : t102 = 0
  · rw [if_pos c5] at H
    have c5b0 : (t102 == 0) = true := beq_iff_eq.mpr c5; have c5b1 : (t102 != 0) = false := bne_eq_false_iff_eq.mpr c5; clear c5; by_cases c6 : (l2.length : Int) = (l0_4.length : Int)
    · rw [if_pos c6] at H
      have c6b0 : ((l2.length : Int) == (l0_4.length : Int)) = true := beq_iff_eq.mpr c6; have c6b1 : ((l2.length : Int) != (l0_4.length : Int)) = false := bne_eq_false_iff_eq.mpr c6; have c6b2 : (l2.length == l0_4.length) = true := by first | simpa using c6 | (simp at c6 ⊢; omega)
      clear c6; have H' := zA H; clear H; go_enter Try.func78, Try.ntmps78; go_wp2_with (first | ((with_reducible refine gate_dst (N := 3) rfl ?_); refine box_event qr (N := 3) qr (cs := #[.int .i64 a0_0, .int .i64 a0_1, .int .i64 a0_2, .int .i64 a0_3, .slice A0_4 l0_4.length c0_4]) (t := 71) qg ?_; intro gb101 hg w7 hbox hb; have n0_ := zA (zV qB hb); have n1_ := zA (hbox); have n2_ := zA ((qS : w.heap.size ≤ gb101)); have n3_ := zA ((qS : w.heap.size ≤ gb101)); clear HB; have HB := n0_; have BK101 := n1_; have GW101 := n2_; have GE101 := n3_; clear n0_ n1_ n2_ n3_ hb hbox hg; obtain ⟨_, _, _, _, _, _, _, _, _, _⟩ := qc5f BK101.out) | ((with_reducible refine zJq (f := 69) rfl ?_); refine goesL_ (some 18) rfl rfl Try.func69 (by kernel_rfl) rfl #[.agg #[.int .i64 a0_0, .int .i64 a0_1, .int .i64 a0_2, .int .i64 a0_3, .slice A0_4 l0_4.length c0_4]] rfl (by (try simp only [zR, zS, zT]); first | done | rfl | (simp only [zP, zQ]; rfl)) ?_; (with_reducible refine (line_Check.calls k a0_0 a0_1 a0_2 a0_3 _ _ l0_4 t102 _ ?side1 ?side2 A4.out).mono ?_); (case side1 => exact qC (Kd.C_below HR0_4.out HB.out)); (case side2 => exact HC0_4.out); rintro e w9 ⟨rfl, hb⟩; refine ⟨_, rfl, ?_⟩; have n0_ := zA (qX BK101.out hb); have n1_ := zA (zV qB hb); clear BK101 HB; have BK101 := n0_; have HB := n1_; clear n0_ n1_; (try clear hb); (try clear hb2); (try clear hk); (try clear hi); obtain ⟨_, _, _, _, _, _, _, _, _, _⟩ := qc5f BK101.out)); go_loopg [10, 30] k (fun kq v10 v30 w' => ∃ (x10_1 : List Int) (x30_1 : Int), v30 = .int .i64 x30_1 ∧ Aside0 (value_All.l0 kq l1 x10_1 l2 (l2.length : Int) x30_1 a0_0 a0_1 a0_2 a0_3 l0_4 = some (r1, r2, r3)) ∧ Aside0 (kq ≤ k) ∧ Aside0 (Kd.R (Kd.int .i64) 3 w' w.heap.size (fun _ => True) v10 x10_1) ∧ Aside0 (w'.heap[gb101]? = some (.cells #[.int .i64 a0_0, .int .i64 a0_1, .int .i64 a0_2, .int .i64 a0_3, (.slice A0_4 l0_4.length c0_4)] 71 (0, 0))) ∧ Aside0 (Below w.heap.size w w'))
      case atStart => exact ⟨(([] : List Int)), (0), (by first | rfl | (simp; done) | (simp [*]; done)), H', ⟨Nat.le_refl _⟩, ⟨qN⟩, ⟨by exact BK101.out⟩, ⟨qB⟩⟩
      case round =>
        clear H'; try clear c1
        try clear c2
        try clear p2
        try clear c5
        try clear c5b0
        try clear c5b1
        try clear c6
        try clear c6b0
        try clear c6b1
        try clear c6b2
        try clear c7
        obtain ⟨x10_1, x30_1, rfl, HA, HK1, HO_10, BK101, HB⟩ := hrel; cases gk with
        | zero => exact absurd HA.out (by simp [value_All.l0])
        | succ k1 =>
          have H := HA.out; clear HA; simp only [value_All.l0] at H; by_cases c11 : x30_1 < (l2.length : Int)
          · rw [if_pos c11] at H
            have c11b0 : decide (x30_1 < (l2.length : Int)) = true := zFq c11; clear c11; by_cases c12 : 0 ≤ x30_1
            · rw [if_pos c12] at H
              have c12b0 : decide (0 ≤ x30_1) = true := zFq c12; clear c12; by_cases c13 : x30_1 < (l2.length : Int)
              · rw [if_pos c13] at H
                have c13b0 : decide (x30_1 < (l2.length : Int)) = true := zFq c13; clear c13; replace H := Option.bind_eq_some_iff.mp H; obtain ⟨⟨t104, t105⟩, A140, H⟩ := H; replace H : (if t105 = 0 then (if x10_1.length < 17592186044416 then (value_All.l0 k1 l1 (x10_1 ++ [t104]) l2 (l2.length : Int) (wrap64 (x30_1 + 1)) a0_0 a0_1 a0_2 a0_3 l0_4) else (none)) else (some (([] : List Int), 0, t105))) = some (r1, r2, r3) := H; have A14 := zA A140; clear A140; by_cases c15 : t105 = 0
                · rw [if_pos c15] at H
                  have c15b0 : (t105 == 0) = true := beq_iff_eq.mpr c15; have c15b1 : (t105 != 0) = false := bne_eq_false_iff_eq.mpr c15; clear c15; by_cases c16 : x10_1.length < 17592186044416
                  · rw [if_pos c16] at H
                    have LMc16 := zA c16; clear c16; obtain ⟨y106, hy106⟩ : ∃ y_ : List Int, y_ = (x10_1 ++ [t104]) := ⟨_, rfl⟩
                    replace H : (value_All.l0 k1 l1 y106 l2 (l2.length : Int) (wrap64 (x30_1 + 1)) a0_0 a0_1 a0_2 a0_3 l0_4) = some (r1, r2, r3) := by first | (rw [hy106]; with_reducible exact H) | (have H2_ := (Option.bind_some _ _).symm.trans H; rw [hy106]; with_reducible exact H2_) | (have H2_ := (Option.bind_some _ _).symm.trans H; with_reducible exact H2_) | with_reducible exact H | (rw [hy106]; exact H) | exact H
                    have Ny106 := zA hy106; clear hy106; have H' := zA H; clear H; have p103 : 0 ≤ (x30_1 : Int) := of_decide_eq_true qA; have q103 : x30_1 < (l2.length : Int) := of_decide_eq_true qA; obtain ⟨ad103, e103, hx103_0⟩ := Kd.at_int HR2.out x30_1 p103 q103; cases e103
                    replace hx103_0 := (HB.out.cell (zCq w _ hx103_0)).trans hx103_0; replace p103 := eq_true p103; replace q103 := eq_true q103; obtain ⟨_, _, _, _, _, _, _, _, _, _⟩ := qc5f BK101.out; go_wp2_with (first | ((with_reducible refine zJq (f := 76) rfl ?_); refine goesL_ (some 40) rfl rfl Try.func76 (by kernel_rfl) rfl #[.agg #[.int .i64 a0_0, .int .i64 a0_1, .int .i64 a0_2, .int .i64 a0_3, .slice A0_4 l0_4.length c0_4], .int .i64 x30_1, .slice A1 l1.length c1, .int .i64 (rd l2 x30_1)] rfl (by (try simp only [zR, zS, zT]); first | done | rfl | (simp only [zP, zQ]; rfl)) ?_; (with_reducible refine (value_Of.calls k1 a0_0 a0_1 a0_2 a0_3 _ _ l0_4 x30_1 _ _ l1 (rd l2 x30_1) t104 t105 _ ?side1 ?side2 ?side3 ?side4 A14.out).mono ?_); (case side1 => exact qC (Kd.C_below HR0_4.out HB.out)); (case side2 => exact HC0_4.out); (case side3 => exact qC (Kd.C_below HR1.out HB.out)); (case side4 => exact HC1.out); rintro e w18 ⟨rfl, hb⟩; refine ⟨_, rfl, ?_⟩; have n0_ := zA (Kd.R_below (by (with_reducible repeat (first | apply Kd.R_alloc | apply Kd.R_drewN | apply Kd.R_drew)); exact HO_10.out) hb); have n1_ := zA (qX BK101.out hb); have n2_ := zA (zV qB hb); clear HO_10 BK101 HB; have HO_10 := n0_; have BK101 := n1_; have HB := n2_; clear n0_ n1_ n2_; (try clear hb); (try clear hb2); (try clear hk); (try clear hi)) | ((with_reducible refine gate_builtin (b := .append) (xs := #[.tmp 46, .tmp 48]) rfl ?_); at_builtin; refine Kd.R_append (Kd.int .i64) (w0 := w) w.heap.size rfl (.tmp 46) (.tmp 48) 22 3 (.int .i64 0) 8 rfl Try.underlying22 info3 rfl (by decide) (by omega) u10 x10_1 t104 [.int .i64 t104] (fun _ => True) (fun _ => False) rfl rfl ?aP (fun _ hk => hk.elim) ?aF ?aO ?aB ?aS ?aL ?_; (case aP => exact rfl); (case aB => exact qB); (case aF => exact (fun _ _ => trivial)); (case aO => exact (by (with_reducible repeat (first | apply Kd.R_alloc | apply Kd.R_drewN | apply Kd.R_drew)); exact HO_10.out)); (case aS => exact (zW qB)); (case aL => have := LMc16.out; omega); intro v107 w19 ho hb hg hat; rw [← Ny106.out] at ho; have n0_ := zA (blk_grown (g := gb101) (o := .cells #[.int .i64 a0_0, .int .i64 a0_1, .int .i64 a0_2, .int .i64 a0_3, .slice A0_4 l0_4.length c0_4] 71 (0, 0)) (qW BK101.out) hg (Kd.R_ne HO_10.out BK101.out (by decide))); have n1_ := zA (hb); have n2_ := zA (ho); clear BK101 HB HO_10; have BK101 := n0_; have HB := n1_; have HO108 := n2_; clear n0_ n1_ n2_ ho hb hg hat)); go_roundg k1
                    case measure => have := HK1.out; omega
                    case rel => exact ⟨(y106), (wrap64 (x30_1 + 1)), (by first | rfl | (simp; done) | (simp [*]; done)), H', ⟨by have := HK1.out; omega⟩, ⟨by (with_reducible repeat (first | apply Kd.R_alloc | apply Kd.R_drewN | apply Kd.R_drew)); exact HO108.out⟩, ⟨by exact BK101.out⟩, ⟨qB⟩⟩
                  rw [if_neg c16] at H; exact absurd H (by simp)
                rw [if_neg c15] at H; have c15b0 : (t105 == 0) = false := beq_eq_false_iff_ne.mpr c15; have c15b1 : (t105 != 0) = true := bne_iff_ne.mpr c15; simp only [zNq, zOq] at H; obtain ⟨rfl, rfl, rfl⟩ := H; have p103 : 0 ≤ (x30_1 : Int) := of_decide_eq_true qA; have q103 : x30_1 < (l2.length : Int) := of_decide_eq_true qA; obtain ⟨ad103, e103, hx103_0⟩ := Kd.at_int HR2.out x30_1 p103 q103; cases e103
                replace hx103_0 := (HB.out.cell (zCq w _ hx103_0)).trans hx103_0; replace p103 := eq_true p103; replace q103 := eq_true q103; obtain ⟨_, _, _, _, _, _, _, _, _, _⟩ := qc5f BK101.out; go_wp2_with (first | ((with_reducible refine zJq (f := 76) rfl ?_); refine goesL_ (some 40) rfl rfl Try.func76 (by kernel_rfl) rfl #[.agg #[.int .i64 a0_0, .int .i64 a0_1, .int .i64 a0_2, .int .i64 a0_3, .slice A0_4 l0_4.length c0_4], .int .i64 x30_1, .slice A1 l1.length c1, .int .i64 (rd l2 x30_1)] rfl (by (try simp only [zR, zS, zT]); first | done | rfl | (simp only [zP, zQ]; rfl)) ?_; (with_reducible refine (value_Of.calls k1 a0_0 a0_1 a0_2 a0_3 _ _ l0_4 x30_1 _ _ l1 (rd l2 x30_1) t104 t105 _ ?side1 ?side2 ?side3 ?side4 A14.out).mono ?_); (case side1 => exact qC (Kd.C_below HR0_4.out HB.out)); (case side2 => exact HC0_4.out); (case side3 => exact qC (Kd.C_below HR1.out HB.out)); (case side4 => exact HC1.out); rintro e w21 ⟨rfl, hb⟩; refine ⟨_, rfl, ?_⟩; have n0_ := zA (Kd.R_below (by (with_reducible repeat (first | apply Kd.R_alloc | apply Kd.R_drewN | apply Kd.R_drew)); exact HO_10.out) hb); have n1_ := zA (qX BK101.out hb); have n2_ := zA (zV qB hb); clear HO_10 BK101 HB; have HO_10 := n0_; have BK101 := n1_; have HB := n2_; clear n0_ n1_ n2_; (try clear hb); (try clear hb2); (try clear hk); (try clear hi))); go_ret3; exact ⟨_, qE, qN, qB⟩
              rw [if_neg c13] at H; exact absurd H (by simp)
            rw [if_neg c12] at H; exact absurd H (by simp)
          rw [if_neg c11] at H; have c11b0 : decide (x30_1 < (l2.length : Int)) = false := zGq c11; clear c11; replace H := Option.bind_eq_some_iff.mp H; obtain ⟨⟨t109, t110⟩, A220, H⟩ := H; replace H : (if t110 = 0 then (some (x10_1, t109, 0)) else (some (([] : List Int), 0, t110))) = some (r1, r2, r3) := H; have A22 := zA A220; clear A220; by_cases c23 : t110 = 0
          · rw [if_pos c23] at H
            have c23b0 : (t110 == 0) = true := beq_iff_eq.mpr c23; have c23b1 : (t110 != 0) = false := bne_eq_false_iff_eq.mpr c23; clear c23; simp only [zNq, zOq] at H; obtain ⟨rfl, rfl, rfl⟩ := H; obtain ⟨Ao24, co24, eo24⟩ := Kd.R_slice HO_10.out; subst eo24; go_wp2_with (first | ((with_reducible refine zJq (f := 25) rfl ?_); refine goesL_ (some 53) rfl rfl Try.func25 (by kernel_rfl) rfl #[.slice Ao24 x10_1.length co24] rfl (by (try simp only [zR, zS, zT]); first | done | rfl | (simp only [zP, zQ]; rfl)) ?_; (with_reducible refine (cents_Add.calls k1 _ _ x10_1 t109 t110 _ ?side1 ?side2 A22.out).mono ?_); (case side1 => repeat (first | exact (Kd.R_reads' HO_10.out).2.2 | (with_reducible refine Kd.C_alloc ?_ _) | (with_reducible refine Kd.C_drewN ?_ _) | (with_reducible refine Kd.C_drew ?_))); (case side2 => exact (Kd.R_reads' HO_10.out).2.1); rintro e w' ⟨rfl, ⟨nd, rfl⟩⟩; refine ⟨_, rfl, ?_⟩)); go_ret3; exact ⟨_, qE, by (with_reducible repeat (first | apply Kd.R_alloc | apply Kd.R_drewN | apply Kd.R_drew)); exact HO_10.out, qB⟩
          rw [if_neg c23] at H; have c23b0 : (t110 == 0) = false := beq_eq_false_iff_ne.mpr c23; have c23b1 : (t110 != 0) = true := bne_iff_ne.mpr c23; simp only [zNq, zOq] at H; obtain ⟨rfl, rfl, rfl⟩ := H; obtain ⟨Ao25, co25, eo25⟩ := Kd.R_slice HO_10.out; subst eo25; go_wp2_with (first | ((with_reducible refine zJq (f := 25) rfl ?_); refine goesL_ (some 53) rfl rfl Try.func25 (by kernel_rfl) rfl #[.slice Ao25 x10_1.length co25] rfl (by (try simp only [zR, zS, zT]); first | done | rfl | (simp only [zP, zQ]; rfl)) ?_; (with_reducible refine (cents_Add.calls k1 _ _ x10_1 t109 t110 _ ?side1 ?side2 A22.out).mono ?_); (case side1 => repeat (first | exact (Kd.R_reads' HO_10.out).2.2 | (with_reducible refine Kd.C_alloc ?_ _) | (with_reducible refine Kd.C_drewN ?_ _) | (with_reducible refine Kd.C_drew ?_))); (case side2 => exact (Kd.R_reads' HO_10.out).2.1); rintro e w' ⟨rfl, ⟨nd, rfl⟩⟩; refine ⟨_, rfl, ?_⟩)); go_ret3; exact ⟨_, qE, qN, qB⟩
    rw [if_neg c6] at H; have c6b0 : ((l2.length : Int) == (l0_4.length : Int)) = false := beq_eq_false_iff_ne.mpr c6; have c6b1 : ((l2.length : Int) != (l0_4.length : Int)) = true := bne_iff_ne.mpr c6; have c6b2 : (l2.length == l0_4.length) = false := by first | simpa using c6 | (simp at c6 ⊢; omega)
    simp only [zNq, zOq] at H; obtain ⟨rfl, rfl, rfl⟩ := H; go_enter Try.func78, Try.ntmps78; go_wp2_with (first | ((with_reducible refine gate_dst (N := 3) rfl ?_); refine box_event qr (N := 3) qr (cs := #[.int .i64 a0_0, .int .i64 a0_1, .int .i64 a0_2, .int .i64 a0_3, .slice A0_4 l0_4.length c0_4]) (t := 71) qg ?_; intro gb101 hg w26 hbox hb; have n0_ := zA (zV qB hb); have n1_ := zA (hbox); have n2_ := zA ((qS : w.heap.size ≤ gb101)); have n3_ := zA ((qS : w.heap.size ≤ gb101)); clear HB; have HB := n0_; have BK101 := n1_; have GW101 := n2_; have GE101 := n3_; clear n0_ n1_ n2_ n3_ hb hbox hg; obtain ⟨_, _, _, _, _, _, _, _, _, _⟩ := qc5f BK101.out) | ((with_reducible refine zJq (f := 69) rfl ?_); refine goesL_ (some 18) rfl rfl Try.func69 (by kernel_rfl) rfl #[.agg #[.int .i64 a0_0, .int .i64 a0_1, .int .i64 a0_2, .int .i64 a0_3, .slice A0_4 l0_4.length c0_4]] rfl (by (try simp only [zR, zS, zT]); first | done | rfl | (simp only [zP, zQ]; rfl)) ?_; (with_reducible refine (line_Check.calls k a0_0 a0_1 a0_2 a0_3 _ _ l0_4 t102 _ ?side1 ?side2 A4.out).mono ?_); (case side1 => exact qC (Kd.C_below HR0_4.out HB.out)); (case side2 => exact HC0_4.out); rintro e w28 ⟨rfl, hb⟩; refine ⟨_, rfl, ?_⟩; have n0_ := zA (qX BK101.out hb); have n1_ := zA (zV qB hb); clear BK101 HB; have BK101 := n0_; have HB := n1_; clear n0_ n1_; (try clear hb); (try clear hb2); (try clear hk); (try clear hi); obtain ⟨_, _, _, _, _, _, _, _, _, _⟩ := qc5f BK101.out)); go_ret3; exact ⟨_, qE, qN, qB⟩
  rw [if_neg c5] at H
  have c5b0 : (t102 == 0) = false := beq_eq_false_iff_ne.mpr c5
  have c5b1 : (t102 != 0) = true := bne_iff_ne.mpr c5
  simp only [zNq, zOq] at H
  obtain ⟨rfl, rfl, rfl⟩ := H
  go_enter Try.func78, Try.ntmps78
  go_wp2_with (first | ((with_reducible refine gate_dst (N := 3) rfl ?_); refine box_event qr (N := 3) qr (cs := #[.int .i64 a0_0, .int .i64 a0_1, .int .i64 a0_2, .int .i64 a0_3, .slice A0_4 l0_4.length c0_4]) (t := 71) qg ?_; intro gb101 hg w30 hbox hb; have n0_ := zA (zV qB hb); have n1_ := zA (hbox); have n2_ := zA ((qS : w.heap.size ≤ gb101)); have n3_ := zA ((qS : w.heap.size ≤ gb101)); clear HB; have HB := n0_; have BK101 := n1_; have GW101 := n2_; have GE101 := n3_; clear n0_ n1_ n2_ n3_ hb hbox hg; obtain ⟨_, _, _, _, _, _, _, _, _, _⟩ := qc5f BK101.out) | ((with_reducible refine zJq (f := 69) rfl ?_); refine goesL_ (some 18) rfl rfl Try.func69 (by kernel_rfl) rfl #[.agg #[.int .i64 a0_0, .int .i64 a0_1, .int .i64 a0_2, .int .i64 a0_3, .slice A0_4 l0_4.length c0_4]] rfl (by (try simp only [zR, zS, zT]); first | done | rfl | (simp only [zP, zQ]; rfl)) ?_; (with_reducible refine (line_Check.calls k a0_0 a0_1 a0_2 a0_3 _ _ l0_4 t102 _ ?side1 ?side2 A4.out).mono ?_); (case side1 => exact qC (Kd.C_below HR0_4.out HB.out)); (case side2 => exact HC0_4.out); rintro e w32 ⟨rfl, hb⟩; refine ⟨_, rfl, ?_⟩; have n0_ := zA (qX BK101.out hb); have n1_ := zA (zV qB hb); clear BK101 HB; have BK101 := n0_; have HB := n1_; clear n0_ n1_; (try clear hb); (try clear hb2); (try clear hk); (try clear hi)))
  go_ret3
  exact ⟨_, qE, qN, qB⟩
def value_Most.f (k : Nat) (a0_0 : Int) (a0_1 : Int) (a0_2 : Int) (a0_3 : Int) (l0_4 : List ByteArray) (l1 : List Int) : Option (Int × Int) := (line_Check.f k a0_0 a0_1 a0_2 a0_3 l0_4).bind fun t102 => (if t102 = 0 then ((fee_Check.f k l1).bind fun t103 => (if t103 = 0 then (if 0 ≤ (l0_4.length : Int) then (if ((l0_4.length : Int) : Int).toNat ≤ 35184372088832 then ((value_All.f k a0_0 a0_1 a0_2 a0_3 l0_4 l1 (List.replicate ((l0_4.length : Int) : Int).toNat 0)).bind fun bt107 => (some (bt107.2.1, bt107.2.2))) else (none)) else (none)) else (some (0, t103)))) else (some (0, t102)))
theorem value_Most.mono : ∀ a0 a1 a2 a3 a4 a5 k, LeO (value_Most.f k a0 a1 a2 a3 a4 a5) (value_Most.f (k + 1) a0 a1 a2 a3 a4 a5) := by
  intro a0 a1 a2 a3 a4 a5 k
  unfold value_Most.f
  repeat' first
      | (with_reducible exact fee_Check.mono _ _)
      | (with_reducible exact line_Check.mono _ _ _ _ _ _)
      | (with_reducible exact value_All.mono _ _ _ _ _ _ _ _)
      | (with_reducible exact LeO.refl _)
      | (with_reducible exact LeO.none _)
      | (with_reducible refine LeO.ite ?_ ?_)
      | (with_reducible refine LeO.bind ?_ (fun _ => ?_))
      | exact fee_Check.mono _ _
      | exact line_Check.mono _ _ _ _ _ _
      | exact value_All.mono _ _ _ _ _ _ _ _
      | exact LeO.none _
      | refine LeO.ite ?_ ?_
      | refine LeO.bind ?_ (fun _ => ?_)
def value_Most.T7 : Bool × List (List Nat × List Nat) := (true, [([], []), ([], []), ([], []), ([2], [2]), ([3], [3]), ([4, 4], [4]), ([0, 1, 5], [0, 1, 5]), ([6], [6]), ([7], [7]), ([7], [7]), ([7], [7]), ([8, 6, 0, 1, 2, 3, 4, 5, 6, 7, 8], [8]), ([9, 11, 0, 1, 2, 3, 4, 5, 6, 7, 8, 9, 11], [9]), ([10, 12, 0, 1, 2, 3, 4, 5, 6, 7, 8, 9, 10, 11, 12], [10])])
def value_Most.B7 : List Nat := [0, 0, 0, 4, 12, 28, 63, 127, 255, 255, 255, 511, 3071, 8191]
theorem value_Most.tab7 : rtab .any (opsOf Try.f80 7) = value_Most.T7 := by kernel_rfl
theorem value_Most.bits7 : waitsOk value_Most.T7.2 value_Most.B7 = true := by kernel_rfl
set_option maxHeartbeats 8000000 in
set_option maxRecDepth 100000 in
theorem value_Most.calls (k : Nat) (a0_0 : Int) (a0_1 : Int) (a0_2 : Int) (a0_3 : Int) (A0_4 : Option Addr) (c0_4 : Nat) (l0_4 : List ByteArray) (A1 : Option Addr) (c1 : Nat) (l1 : List Int) (r1 : Int) (r2 : Int) (w : World) (hr0_4 : Kd.C Kd.string w A0_4 l0_4.length l0_4) (hc0_4 : l0_4.length ≤ c0_4) (hr1 : Kd.C (Kd.int .i64) w A1 l1.length l1) (hc1 : l1.length ≤ c1) (h : value_Most.f k a0_0 a0_1 a0_2 a0_3 l0_4 l1 = some (r1, r2)) :
    Calls Try.prog 80 #[.agg #[.int .i64 a0_0, .int .i64 a0_1, .int .i64 a0_2, .int .i64 a0_3, .slice A0_4 l0_4.length c0_4], .slice A1 l1.length c1] w fun e w' => e = .returned (.tuple #[.int .i64 r1, .int .i64 r2]) ∧ Below w.heap.size w w' := by
  have hu71 := Try.underlying71
  have HR0_4 := zA hr0_4
  have HC0_4 := zA hc0_4
  clear hr0_4 hc0_4
  have HR1 := zA hr1
  have HC1 := zA hc1
  clear hr1 hc1
  have HB := zA (Below.refl w.heap.size w)
  have H : ((line_Check.f k a0_0 a0_1 a0_2 a0_3 l0_4).bind fun t102 => (if t102 = 0 then ((fee_Check.f k l1).bind fun t103 => (if t103 = 0 then (if 0 ≤ (l0_4.length : Int) then (if ((l0_4.length : Int) : Int).toNat ≤ 35184372088832 then ((value_All.f k a0_0 a0_1 a0_2 a0_3 l0_4 l1 (List.replicate ((l0_4.length : Int) : Int).toNat 0)).bind fun bt107 => (some (bt107.2.1, bt107.2.2))) else (none)) else (none)) else (some (0, t103)))) else (some (0, t102)))) = some (r1, r2) := h
  clear h
  replace H := Option.bind_eq_some_iff.mp H
  obtain ⟨t102, A30, H⟩ := H
  replace H : (if t102 = 0 then ((fee_Check.f k l1).bind fun t103 => (if t103 = 0 then (if 0 ≤ (l0_4.length : Int) then (if ((l0_4.length : Int) : Int).toNat ≤ 35184372088832 then ((value_All.f k a0_0 a0_1 a0_2 a0_3 l0_4 l1 (List.replicate ((l0_4.length : Int) : Int).toNat 0)).bind fun bt107 => (some (bt107.2.1, bt107.2.2))) else (none)) else (none)) else (some (0, t103)))) else (some (0, t102))) = some (r1, r2) := H
  have A3 := zA A30
  clear A30
  by_cases c4 : t102 = 0
  · rw [if_pos c4] at H
    have c4b0 : (t102 == 0) = true := beq_iff_eq.mpr c4; have c4b1 : (t102 != 0) = false := bne_eq_false_iff_eq.mpr c4; clear c4; replace H := Option.bind_eq_some_iff.mp H; obtain ⟨t103, A50, H⟩ := H; replace H : (if t103 = 0 then (if 0 ≤ (l0_4.length : Int) then (if ((l0_4.length : Int) : Int).toNat ≤ 35184372088832 then ((value_All.f k a0_0 a0_1 a0_2 a0_3 l0_4 l1 (List.replicate ((l0_4.length : Int) : Int).toNat 0)).bind fun bt107 => (some (bt107.2.1, bt107.2.2))) else (none)) else (none)) else (some (0, t103))) = some (r1, r2) := H; have A5 := zA A50; clear A50; by_cases c6 : t103 = 0
    · rw [if_pos c6] at H
      have c6b0 : (t103 == 0) = true := beq_iff_eq.mpr c6; have c6b1 : (t103 != 0) = false := bne_eq_false_iff_eq.mpr c6; clear c6; by_cases c7 : 0 ≤ (l0_4.length : Int)
      · rw [if_pos c7] at H
        have c7b0 := eq_true c7; have c7b1 : decide (0 ≤ (l0_4.length : Int)) = true := zFq c7; clear c7; by_cases c8 : ((l0_4.length : Int) : Int).toNat ≤ 35184372088832
        · rw [if_pos c8] at H
          have c8b0 := eq_true c8; have c8b1 : decide (((l0_4.length : Int) : Int).toNat ≤ 35184372088832) = true := zFq c8; clear c8; obtain ⟨y104, hy104⟩ : ∃ y_ : List Int, y_ = (List.replicate ((l0_4.length : Int) : Int).toNat 0) := ⟨_, rfl⟩
          replace H : ((value_All.f k a0_0 a0_1 a0_2 a0_3 l0_4 l1 y104).bind fun bt107 => (some (bt107.2.1, bt107.2.2))) = some (r1, r2) := by first | (rw [hy104]; with_reducible exact H) | (have H2_ := (Option.bind_some _ _).symm.trans H; rw [hy104]; with_reducible exact H2_) | (have H2_ := (Option.bind_some _ _).symm.trans H; with_reducible exact H2_) | with_reducible exact H | (rw [hy104]; exact H) | exact H
          have Ny104 := zA hy104; clear hy104; replace H := Option.bind_eq_some_iff.mp H; obtain ⟨⟨t107, t110, t111⟩, A90, H⟩ := H; replace H : (some (t110, t111)) = some (r1, r2) := H; have A9 := zA A90; clear A90; simp only [zNq, zOq] at H; obtain ⟨rfl, rfl⟩ := H; go_enter Try.func80, Try.ntmps80; try go_wp2_with (first | ((with_reducible refine gate_dst (N := 2) rfl ?_); refine box_event qr (N := 2) qr (cs := #[.int .i64 a0_0, .int .i64 a0_1, .int .i64 a0_2, .int .i64 a0_3, .slice A0_4 l0_4.length c0_4]) (t := 71) qg ?_; intro gb101 hg w10 hbox hb; have n0_ := zA (zV qB hb); have n1_ := zA (hbox); have n2_ := zA ((qS : w.heap.size ≤ gb101)); have n3_ := zA ((qS : w.heap.size ≤ gb101)); clear HB; have HB := n0_; have BK101 := n1_; have GW101 := n2_; have GE101 := n3_; clear n0_ n1_ n2_ n3_ hb hbox hg; obtain ⟨_, _, _, _, _, _, _, _, _, _⟩ := qc5f BK101.out) | ((with_reducible refine zJq (f := 69) rfl ?_); refine goesL_ (some 12) rfl rfl Try.func69 (by kernel_rfl) rfl #[.agg #[.int .i64 a0_0, .int .i64 a0_1, .int .i64 a0_2, .int .i64 a0_3, .slice A0_4 l0_4.length c0_4]] rfl (by (try simp only [zR, zS, zT]); first | done | rfl | (simp only [zP, zQ]; rfl)) ?_; (with_reducible refine (line_Check.calls k a0_0 a0_1 a0_2 a0_3 _ _ l0_4 t102 _ ?side1 ?side2 A3.out).mono ?_); (case side1 => exact qC (Kd.C_below HR0_4.out HB.out)); (case side2 => exact HC0_4.out); rintro e w12 ⟨rfl, hb⟩; refine ⟨_, rfl, ?_⟩; have n0_ := zA (qX BK101.out hb); have n1_ := zA (zV qB hb); clear BK101 HB; have BK101 := n0_; have HB := n1_; clear n0_ n1_; (try clear hb); (try clear hb2); (try clear hk); (try clear hi)) | ((with_reducible refine zJq (f := 48) rfl ?_); refine goesL_ (some 17) rfl rfl Try.func48 (by kernel_rfl) rfl #[.slice A1 l1.length c1] rfl (by (try simp only [zR, zS, zT]); first | done | rfl | (simp only [zP, zQ]; rfl)) ?_; (with_reducible refine (fee_Check.calls k _ _ l1 t103 _ ?side1 ?side2 A5.out).mono ?_); (case side1 => exact qC (Kd.C_below HR1.out HB.out)); (case side2 => exact HC1.out); rintro e w' ⟨rfl, ⟨nd, rfl⟩⟩; refine ⟨_, rfl, ?_⟩))
          (try (rw [drewN_self w12]; generalize hq_ : World.drewN w12 _ = w12; have n0_ : Aside0 (w12.heap[gb101]? = some (.cells #[.int .i64 a0_0, .int .i64 a0_1, .int .i64 a0_2, .int .i64 a0_3, .slice A0_4 l0_4.length c0_4] 71 (0, 0))) := ⟨by rw [← hq_]; exact (qW BK101.out)⟩; have n1_ : Aside0 (Below w.heap.size w w12) := ⟨by rw [← hq_]; exact qB⟩; clear BK101 HB hq_; have BK101 := n0_; have HB := n1_; clear n0_ n1_))
          have n0_ := zA (zAq BK101.out); have n1_ := zA (zC HB.out); clear BK101; clear HB; have BK101 := n0_; have HB := n1_; clear n0_ n1_; refine start_ (n := 14) (S := fun w' => w'.cell? ⟨gb101, 0, none⟩ = some (.int .i64 a0_0) ∧ w'.cell? ⟨gb101, 1, none⟩ = some (.int .i64 a0_1) ∧ w'.cell? ⟨gb101, 2, none⟩ = some (.int .i64 a0_2) ∧ w'.cell? ⟨gb101, 3, none⟩ = some (.int .i64 a0_3) ∧ w'.cell? ⟨gb101, 4, none⟩ = some (.slice A0_4 l0_4.length c0_4)) (ds := []) #[o0, o0, o0, o0, o0, o0, o0, o0, o0, o0, o0, o0, o0, o0] (by kernel_rfl) rfl rfl ⟨(zF BK101.out 0).trans rfl, (zF BK101.out 1).trans rfl, (zF BK101.out 2).trans rfl, (zF BK101.out 3).trans rfl, (zF BK101.out 4).trans rfl⟩ (fun hHeld => ?_); refine with_tabW value_Most.tab7 value_Most.bits7 (fun HT_ HW_ => ?_); generalize w12.drew = w13 at BK101 HB hHeld ⊢; refine pure_ (i := 1) (N := some 23) #[o0, o1, o0, o0, o0, o0, o0, o0, o0, o0, o0, o0, o0, o0] rfl rfl (any_of HT_.out (by kernel_rfl)) (fun _ _ _ h => h) (Or.inl ⟨by rfl, qy⟩) qz ?_; refine pure_ (i := 2) (N := some 24) #[o0, o1, o1, o0, o0, o0, o0, o0, o0, o0, o0, o0, o0, o0] rfl rfl (any_of HT_.out (by kernel_rfl)) (fun _ _ _ h => h) (Or.inl ⟨by rfl, qy⟩) qz ?_; refine take_ (i := 0) (N := some 22) (v := ?_) (a' := ?_) #[o1, o1, o1, o0, o0, o0, o0, o0, o0, o0, o0, o0, o0, o0] rfl rfl (take_ofW HT_.out HW_.out (by kernel_rfl)) (fun _ _ _ h => h) (Or.inl ⟨by rfl, ?_⟩) hHeld ?_ ?_; rotate_left
          · rintro w' ⟨s0, s1, s2, s3, s4⟩
            go_simp; with_reducible rfl
          rotate_left
          · simp only [Act.put, zH, zI, zJ, i64_w, i32_w]
            rfl
          refine take_ (i := 3) (N := some 25) (v := ?_) (a' := ?_) #[o1, o1, o1, o1, o0, o0, o0, o0, o0, o0, o0, o0, o0, o0] rfl rfl (take_ofW HT_.out HW_.out (by kernel_rfl)) (fun _ _ _ h => h) (Or.inl ⟨by rfl, ?_⟩) hHeld ?_ ?_; rotate_left
          · rintro w' ⟨s0, s1, s2, s3, s4⟩
            go_simp; with_reducible rfl
          rotate_left
          · simp only [Act.put, zH, zI, zJ, i64_w, i32_w]
            rfl
          refine pure_ (i := 4) (N := some 26) #[o1, o1, o1, o1, o1, o0, o0, o0, o0, o0, o0, o0, o0, o0] rfl rfl (any_of HT_.out (by kernel_rfl)) (fun _ _ _ h => h) (Or.inl ⟨by rfl, qy⟩) qz ?_; refine one_ (i := 5) (N := some 27) #[o1, o1, o1, o1, o1, o1, o0, o0, o0, o0, o0, o0, o0, o0] rfl rfl (one_of HT_.out (by kernel_rfl)) (by decide) (fun K hK => ?_); refine Kd.R_make_step (Kd.int .i64) _ 3 (by rfl) (N := 27) rfl 22 _ _ rfl (l0_4.length : Int) rfl rfl Try.underlying22 (.int .i64 0) 8 info3 rfl (by decide) (by omega) 0 (ok := fun _ => True) (okp := fun _ => True) rfl (fun _ hk => hk) trivial (of_decide_eq_true qA) (Nat.le_trans (Nat.mul_le_mul_right _ (of_decide_eq_true qA : (l0_4.length : Int).toNat ≤ 35184372088832)) (by omega)) (Below.refl _ _) (Nat.le_refl _) ?_; intro v105 w14 ho15 hb hg_ hnew_; clear hg_ hnew_; (first | rw [← Ny104.out] at ho15 | (simp only [Int.reduceToNat] at ho15; rw [← Ny104.out] at ho15))
          have n0_ := zA (Kd.R_lower ho15 (zW qB)); have n1_ := zA (qX BK101.out hb); have n2_ := zA (zV qB hb); clear BK101; clear HB; have HO106 := n0_; have BK101 := n1_; have HB := n2_; clear n0_ n1_ n2_; clear hb ho15; obtain ⟨Ao16, co16, eo16⟩ := Kd.R_slice HO106.out; (first | subst eo16 | (injection eo16 with f1_ f2_ f3_; have f4_ := f1_.symm; have f5_ := f3_.symm; clear f1_ f2_ f3_; subst f4_; subst f5_))
          refine hK.out _ _ ⟨(zF BK101.out 0).trans rfl, (zF BK101.out 1).trans rfl, (zF BK101.out 2).trans rfl, (zF BK101.out 3).trans rfl, (zF BK101.out 4).trans rfl⟩ (fun hHeld => ?_); clear hK K; refine norm_ (a' := ?_) ?_ ?_; rotate_left
          · show Act.put _ (some 27) _ = _
            simp only [Act.put, zH, zI, zJ, i64_w, i32_w]; rfl
          refine one_ (i := 6) (N := some 28) #[o1, o1, o1, o1, o1, o1, o1, o0, o0, o0, o0, o0, o0, o0] rfl rfl (one_of HT_.out (by kernel_rfl)) (by decide) (fun K hK => ?_); refine goes_ Try.func78 (by kernel_rfl) rfl #[.agg #[.int .i64 a0_0, .int .i64 a0_1, .int .i64 a0_2, .int .i64 a0_3, .slice A0_4 l0_4.length c0_4], .slice A1 l1.length c1, .slice Ao16 y104.length co16] (by rfl) rfl rfl (by (try simp only [zR, zS, zT]); first | done | rfl | (simp only [zP, zQ]; rfl)) ?_; with_reducible refine (value_All.calls k a0_0 a0_1 a0_2 a0_3 _ _ l0_4 _ _ l1 _ _ y104 t107 t110 t111 _ ?side1 ?side2 ?side3 ?side4 ?side5 ?side6 A9.out).mono ?_
          (case side1 => exact qC (Kd.C_below HR0_4.out HB.out))
          (case side2 => exact HC0_4.out)
          (case side3 => exact qC (Kd.C_below HR1.out HB.out))
          (case side4 => exact HC1.out)
          (case side5 => repeat (first | exact (Kd.R_reads' HO106.out).2.2 | (with_reducible refine Kd.C_alloc ?_ _) | (with_reducible refine Kd.C_drewN ?_ _) | (with_reducible refine Kd.C_drew ?_)))
          (case side6 => exact (Kd.R_reads' HO106.out).2.1)
          rintro e w17 ⟨v108, rfl, ho0, hb⟩; refine ⟨_, rfl, ?_⟩; have n0_ := zA (Kd.R_elder' (by (with_reducible repeat (first | apply Kd.R_alloc | apply Kd.R_drewN | apply Kd.R_drew)); exact HO106.out) (Kd.R_base ho0) hb); have n1_ := zA (Kd.R_lower (Kd.R_new' ho0 (Kd.R_lt (by (with_reducible repeat (first | apply Kd.R_alloc | apply Kd.R_drewN | apply Kd.R_drew)); exact HO106.out))) (zW qB)); have n2_ := zA (qX BK101.out hb); have n3_ := zA (zV qB hb); clear HO106; clear BK101; clear HB; have HO106 := n0_; have HO109 := n1_; have BK101 := n2_; have HB := n3_; clear n0_ n1_ n2_ n3_; (try clear hb); (try clear hb2); (try clear hk); (try clear hi); (try clear ho0); refine hK.out _ _ ⟨(zF BK101.out 0).trans rfl, (zF BK101.out 1).trans rfl, (zF BK101.out 2).trans rfl, (zF BK101.out 3).trans rfl, (zF BK101.out 4).trans rfl⟩ (fun hHeld => ?_); clear hK K; refine norm_ (a' := ?_) ?_ ?_; rotate_left
          · show Act.put _ (some 28) _ = _
            simp only [Act.put, zH, zI, zJ, i64_w, i32_w]; rfl
          refine pure_ (i := 7) (N := some 21) #[o1, o1, o1, o1, o1, o1, o1, o1, o0, o0, o0, o0, o0, o0] rfl rfl (any_of HT_.out (by kernel_rfl)) (fun _ _ _ h => h) (Or.inl ⟨by rfl, qy⟩) qz ?_; refine pure_ (i := 8) (N := some 29) #[o1, o1, o1, o1, o1, o1, o1, o1, o1, o0, o0, o0, o0, o0] rfl rfl (any_of HT_.out (by kernel_rfl)) (fun _ _ _ h => h) (Or.inl ⟨by rfl, qy⟩) qz ?_; refine pure_ (i := 9) (N := some 30) #[o1, o1, o1, o1, o1, o1, o1, o1, o1, o1, o0, o0, o0, o0] rfl rfl (any_of HT_.out (by kernel_rfl)) (fun _ _ _ h => h) (Or.inl ⟨by rfl, qy⟩) qz ?_; refine pure_ (i := 10) (N := some 31) #[o1, o1, o1, o1, o1, o1, o1, o1, o1, o1, o1, o0, o0, o0] rfl rfl (any_of HT_.out (by kernel_rfl)) (fun _ _ _ h => h) (Or.inl ⟨by rfl, qy⟩) qz ?_; refine pure_ (i := 11) (N := some 8) #[o1, o1, o1, o1, o1, o1, o1, o1, o1, o1, o1, o1, o0, o0] rfl rfl (any_of HT_.out (by kernel_rfl)) (fun _ _ _ h => h) (Or.inl ⟨by rfl, qy⟩) qz ?_; refine pure_ (i := 12) (N := some 9) #[o1, o1, o1, o1, o1, o1, o1, o1, o1, o1, o1, o1, o1, o0] rfl rfl (any_of HT_.out (by kernel_rfl)) (fun _ _ _ h => h) (Or.inl ⟨by rfl, qy⟩) qz ?_; refine pure_ (i := 13) (N := some 10) #[o1, o1, o1, o1, o1, o1, o1, o1, o1, o1, o1, o1, o1, o1] rfl rfl (any_of HT_.out (by kernel_rfl)) (fun _ _ _ h => h) (Or.inl ⟨by rfl, qy⟩) qz ?_; refine done_ (done_of HT_.out (by kernel_rfl)) ?_; try go_wp2
          go_ret2; exact ⟨qE, qB⟩
        rw [if_neg c8] at H; exact absurd H (by simp)
      rw [if_neg c7] at H; exact absurd H (by simp)
    rw [if_neg c6] at H; have c6b0 : (t103 == 0) = false := beq_eq_false_iff_ne.mpr c6; have c6b1 : (t103 != 0) = true := bne_iff_ne.mpr c6; simp only [zNq, zOq] at H; obtain ⟨rfl, rfl⟩ := H; go_enter Try.func80, Try.ntmps80; go_wp2_with (first | ((with_reducible refine gate_dst (N := 2) rfl ?_); refine box_event qr (N := 2) qr (cs := #[.int .i64 a0_0, .int .i64 a0_1, .int .i64 a0_2, .int .i64 a0_3, .slice A0_4 l0_4.length c0_4]) (t := 71) qg ?_; intro gb101 hg w18 hbox hb; have n0_ := zA (zV qB hb); have n1_ := zA (hbox); have n2_ := zA ((qS : w.heap.size ≤ gb101)); have n3_ := zA ((qS : w.heap.size ≤ gb101)); clear HB; have HB := n0_; have BK101 := n1_; have GW101 := n2_; have GE101 := n3_; clear n0_ n1_ n2_ n3_ hb hbox hg; obtain ⟨_, _, _, _, _, _, _, _, _, _⟩ := qc5f BK101.out) | ((with_reducible refine zJq (f := 69) rfl ?_); refine goesL_ (some 12) rfl rfl Try.func69 (by kernel_rfl) rfl #[.agg #[.int .i64 a0_0, .int .i64 a0_1, .int .i64 a0_2, .int .i64 a0_3, .slice A0_4 l0_4.length c0_4]] rfl (by (try simp only [zR, zS, zT]); first | done | rfl | (simp only [zP, zQ]; rfl)) ?_; (with_reducible refine (line_Check.calls k a0_0 a0_1 a0_2 a0_3 _ _ l0_4 t102 _ ?side1 ?side2 A3.out).mono ?_); (case side1 => exact qC (Kd.C_below HR0_4.out HB.out)); (case side2 => exact HC0_4.out); rintro e w20 ⟨rfl, hb⟩; refine ⟨_, rfl, ?_⟩; have n0_ := zA (qX BK101.out hb); have n1_ := zA (zV qB hb); clear BK101 HB; have BK101 := n0_; have HB := n1_; clear n0_ n1_; (try clear hb); (try clear hb2); (try clear hk); (try clear hi)) | ((with_reducible refine zJq (f := 48) rfl ?_); refine goesL_ (some 17) rfl rfl Try.func48 (by kernel_rfl) rfl #[.slice A1 l1.length c1] rfl (by (try simp only [zR, zS, zT]); first | done | rfl | (simp only [zP, zQ]; rfl)) ?_; (with_reducible refine (fee_Check.calls k _ _ l1 t103 _ ?side1 ?side2 A5.out).mono ?_); (case side1 => exact qC (Kd.C_below HR1.out HB.out)); (case side2 => exact HC1.out); rintro e w' ⟨rfl, ⟨nd, rfl⟩⟩; refine ⟨_, rfl, ?_⟩)); go_ret2; exact ⟨qE, qB⟩
  rw [if_neg c4] at H
  have c4b0 : (t102 == 0) = false := beq_eq_false_iff_ne.mpr c4
  have c4b1 : (t102 != 0) = true := bne_iff_ne.mpr c4
  simp only [zNq, zOq] at H
  obtain ⟨rfl, rfl⟩ := H
  go_enter Try.func80, Try.ntmps80
  go_wp2_with (first | ((with_reducible refine gate_dst (N := 2) rfl ?_); refine box_event qr (N := 2) qr (cs := #[.int .i64 a0_0, .int .i64 a0_1, .int .i64 a0_2, .int .i64 a0_3, .slice A0_4 l0_4.length c0_4]) (t := 71) qg ?_; intro gb101 hg w21 hbox hb; have n0_ := zA (zV qB hb); have n1_ := zA (hbox); have n2_ := zA ((qS : w.heap.size ≤ gb101)); have n3_ := zA ((qS : w.heap.size ≤ gb101)); clear HB; have HB := n0_; have BK101 := n1_; have GW101 := n2_; have GE101 := n3_; clear n0_ n1_ n2_ n3_ hb hbox hg; obtain ⟨_, _, _, _, _, _, _, _, _, _⟩ := qc5f BK101.out) | ((with_reducible refine zJq (f := 69) rfl ?_); refine goesL_ (some 12) rfl rfl Try.func69 (by kernel_rfl) rfl #[.agg #[.int .i64 a0_0, .int .i64 a0_1, .int .i64 a0_2, .int .i64 a0_3, .slice A0_4 l0_4.length c0_4]] rfl (by (try simp only [zR, zS, zT]); first | done | rfl | (simp only [zP, zQ]; rfl)) ?_; (with_reducible refine (line_Check.calls k a0_0 a0_1 a0_2 a0_3 _ _ l0_4 t102 _ ?side1 ?side2 A3.out).mono ?_); (case side1 => exact qC (Kd.C_below HR0_4.out HB.out)); (case side2 => exact HC0_4.out); rintro e w23 ⟨rfl, hb⟩; refine ⟨_, rfl, ?_⟩; have n0_ := zA (qX BK101.out hb); have n1_ := zA (zV qB hb); clear BK101 HB; have BK101 := n0_; have HB := n1_; clear n0_ n1_; (try clear hb); (try clear hb2); (try clear hk); (try clear hi)))
  go_ret2
  exact ⟨qE, qB⟩
end Go.Proofs.Ytefhljhpcpajgaa.F
